/- Laws, part 3. No condition. -/
import Derived.RangeFuncRecord
import Derived.KernelRfl
import Derived.Test.YtdfcjloangkbhaaGreatDoorProg
import Derived.Shelf.SlIterI.Sorted
import Derived.Shelf.SortM.Plain
import Derived.Shelf.SortM.SortNone
import Derived.Test.YtdfcjloangkbhaaGreatDoorL02
set_option linter.all false
set_option maxRecDepth 100000
set_option maxHeartbeats 4000000
noncomputable section
namespace Go.Va
section
variable {P:Program} {GL:Globals} {N:Nat} {r:Option Nat}
theorem find_cpE:∀(e:Env) (n:Nat),find (cpE e) n=(find e n).copy
 |[],n=>rfl
 |(k,d)::e,n=>by
  simp only[cpE,List.map_cons,find];by_cases h:k=n
  ·simp[h]
  ·rw[if_neg h,if_neg h];exact find_cpE e n
theorem repE_any {g:Gh} {w w':World} {μ:List Nat} {d:D} {u:Value} (h:RepE g w μ d u) (h0:∀v,own1 d v=none):RepE g w' μ d u:=by
 cases d<;>first
  |exact h
  |(have:=h0 (.slice (some ⟨0,0,none⟩) 0 1);simp[own1]at this;done)
theorem copy_anyW {g:Gh} {w w':World} {μ:List Nat} {d:D} {u:Value} (h:RepD g w μ d.copy u):RepD g w' μ d.copy u:=by
 cases d<;>simp only[D.copy]at h ⊢ <;>first
  |exact h
  |exact repE_any h λv=>rfl
  |trivial
  |(obtain⟨vs,rfl,ha,h1,h2⟩:=h
    exact⟨vs,rfl,⟨ha.1,λi x v hx hv=>repE_any (ha.2 i x v hx hv) (h2 x (List.mem_of_getElem? hx))⟩,h1,h2⟩)
def mark (b:Nat):Deferred:={target:= .collected b,args:= #[]}
def Marks (O':Nat→Prop) (w w':World) (ds ds':List Deferred):Prop:=
 ∃ms:List Nat,ds'=ms.map mark++ds∧ms.Nodup∧∀b∈ms,O' b∧w.heap.size≤b∧w'.heap[b]?=some (.deferred (some []))
def AfterM (GL:Globals) (N:Nat) (Q:St→Prop) (g:Gh) (w:World) (μ:List Nat) (a:Act) (O:Nat→Prop) (a':Act) (w':World):Prop:=
 ∃s' g' μ' O',Q s'∧Gs GL N g' w' μ' s' a' O'∧(∀b,O b→O' b)∧Chg (λb=>¬O b) g w g' w'∧μ <+: μ'∧Marks O' w w' a.defers a'.defers
theorem Marks.nil {O':Nat→Prop} {w w':World} {ds ds':List Deferred} (h:ds'=ds):Marks O' w w' ds ds':=⟨[],by simp[h],List.nodup_nil,by simp⟩
theorem Marks.trans {O1 O2:Nat→Prop} {g1 g2:Gh} {w w1 w2:World} {d0 d1 d2:List Deferred} (h1:Marks O1 w w1 d0 d1) (hs:w.heap.size≤w1.heap.size) (hO:∀b,O1 b→O2 b) (hc:Chg (λb=>¬O1 b) g1 w1 g2 w2)
  (h2:Marks O2 w1 w2 d1 d2):Marks O2 w w2 d0 d2:=by
 obtain⟨m1,rfl,n1,p1⟩:=h1;obtain⟨m2,rfl,n2,p2⟩:=h2;refine⟨m2++m1,by simp,?_,λb hb=>?_⟩
 ·rw[List.nodup_append];refine⟨n2,n1,λa ha b hb hab=>?_⟩;subst hab;have:=lt_of_heap (p1 a hb).2.2;have:=(p2 a ha).2.1;omega
 ·rcases List.mem_append.1 hb with hb|hb
  ·obtain⟨q1,q2,q3⟩:=p2 b hb;exact⟨q1,by omega,q3⟩
  ·obtain⟨q1,q2,q3⟩:=p1 b hb;exact⟨hO b q1,q2,(hc.heap b (lt_of_heap q3) (λh=>h q1)).trans q3⟩
theorem AfterM.trans {Q:St→Prop} {g:Gh} {w:World} {μ:List Nat} {a:Act} {O O1:Nat→Prop} {g1:Gh} {w1:World} {μ1:List Nat} {a1:Act} {a2:Act} {w2:World}
  (hO:∀b,O b→O1 b) (hc:Chg (λb=>¬O b) g w g1 w1) (hμ:μ <+: μ1) (hd:Marks O1 w w1 a.defers a1.defers) (h:AfterM GL N Q g1 w1 μ1 a1 O1 a2 w2):AfterM GL N Q g w μ a O a2 w2:=by
 obtain⟨s',g',μ',O2,hq,hg,hO',hc',hμ',hd'⟩:=h;exact⟨s',g',μ',O2,hq,hg,λb hb=>hO' b (hO b hb),hc.trans (hc'.mono λb h hb=>h (hO b hb)),hμ.trans hμ',hd.trans hc.size hO' hc' hd'⟩
def PostM (GL:Globals) (N:Nat) (Q:AExit→St→Prop) (g:Gh) (w:World) (μ:List Nat) (a:Act) (O:Nat→Prop) (e':Exit) (a':Act) (w':World):Prop:=
 ∃e,ExOK e e'∧AfterM GL N (Q e) g w μ a O a' w'
theorem PostM.trans {Q:AExit→St→Prop} {g:Gh} {w:World} {μ:List Nat} {a:Act} {O O1:Nat→Prop} {g1:Gh} {w1:World} {μ1:List Nat} {a1:Act}
  (hO:∀b,O b→O1 b) (hc:Chg (λb=>¬O b) g w g1 w1) (hμ:μ <+: μ1) (hd:Marks O1 w w1 a.defers a1.defers) {e':Exit} {a2:Act} {w2:World} (h:PostM GL N Q g1 w1 μ1 a1 O1 e' a2 w2):PostM GL N Q g w μ a O e' a2 w2:=by
 obtain⟨e,he,h2⟩:=h;exact⟨e,he,h2.trans hO hc hμ hd⟩
theorem Inv.addO {g:Gh} {w:World} {μ:List Nat} {t:Nat→D} {u:Nat→Value} {h:List Row} {O:Nat→Prop} (hi:Inv g w μ t u h O) {b0:Nat} (hb0:b0 <w.heap.size) (hm:b0∉μ) (hp:∀p,blk t u h w μ p≠some b0):
  Inv g w μ t u h (λb=>O b∨b=b0) where
 agree:=hi.agree
 olt:=λb h=>by rcases h with h|rfl;exact hi.olt b h;exact hb0
 rep:=hi.rep
 len:=hi.len
 rows:=hi.rows
 nod:=hi.nod
 mo:=λb hb ho=>by rcases ho with ho|ho;exact hi.mo b hb ho;exact hm (ho▸hb)
 uniq:=hi.uniq
 sep:=λp b h=>⟨(hi.sep p b h).1,λho=>by rcases ho with ho|ho;exact(hi.sep p b h).2 ho;exact hp p (ho▸h)⟩
theorem Inv.subO {g:Gh} {w:World} {μ:List Nat} {t:Nat→D} {u:Nat→Value} {h:List Row} {O O':Nat→Prop} (hi:Inv g w μ t u h O) (hs:∀b,O' b→O b):Inv g w μ t u h O' where
 agree:=hi.agree
 olt:=λb h=>hi.olt b (hs b h)
 rep:=hi.rep
 len:=hi.len
 rows:=hi.rows
 nod:=hi.nod
 mo:=λb hb ho=>hi.mo b hb (hs b ho)
 uniq:=hi.uniq
 sep:=λp b h=>⟨(hi.sep p b h).1,λho=>(hi.sep p b h).2 (hs b ho)⟩
theorem putObj_chg {w:World} {b:Nat} {o:Obj} (g:Gh):Chg (λx=>x=b) g w g (w.putObj b o):=
 ⟨Gh.le.refl g,by simp,λb' _ hne=>World.putObj_heap_other hne,λ_ _ _ _=>rfl,rfl,rfl⟩
theorem putObj_agree {w:World} {b:Nat} {o:Obj} {g:Gh} (hg:∀o,g.m b o=none) (hag:∀b o v,g.m b o=some v→w.cell? ⟨b,o,none⟩=some v):
  ∀b' o' v,g.m b' o'=some v→(w.putObj b o).cell? ⟨b',o',none⟩=some v:=by
 intro b' o' v hv;by_cases hbb:b'=b
 ·subst hbb;rw[hg]at hv;cases hv
 ·rw[World.cell?_of_block (a:=⟨b',o',none⟩) (World.putObj_heap_other hbb)];exact hag b' o' v hv
theorem range_sound {g0:Operand} {ps0:Array Tmp} {asg0 body0:Code} {q:Opd} {ps:List Nat} {asg body:AC} (hk:chkC P GL N (.rangeFunc g0 ps0 asg0 body0) (.rangeF q ps asg body)=true)
  {Q:AExit→St→Prop} {g:Gh} {w:World} {μ:List Nat} {s:St} {a:Act} {O:Nat→Prop} (hg:Gs GL N g w μ s a O) (h:awp P GL (.rangeF q ps asg body) Q s):
  (Code.rangeFunc g0 ps0 asg0 body0).wpIn (WF none) 0 P (PostM GL N Q g w μ a O) a w:=by
 simp only[chkC,Bool.and_eq_true,beq_iff_eq]at hk;obtain⟨⟨⟨⟨⟨⟨k1,k2⟩,k3⟩,k4⟩,k5⟩,k6⟩,k7⟩:=hk;obtain⟨fid,caps,rets,h',tag,hf,⟨hok,hsp⟩,hrow,hend⟩:=h;refine wpIn_rangeFunc λfn _=>?_;obtain⟨cvs,hcv,hcr,hct⟩:=fnOf_rep ((hg.gd P).ev k1) hf;have hsz1:(w.alloc (.deferred (some []))).heap.size=w.heap.size+1:=by simp
 have hsz2:∀lp,((w.alloc (.deferred (some []))).alloc (.loop lp)).heap.size=w.heap.size+2:=λlp=>by simp
 have i1:Inv g (w.alloc (.deferred (some []))) μ (find s.e) (λn=>a.tmps.getD n undef) s.h O:=hg.inv.chg (chg_alloc _ g w _) (agree_alloc hg.inv.agree _);have hμlt:∀b,b∈μ→b <w.heap.size:=λb hb=>hg.inv.mem_lt hb;have i2:Inv g (w.alloc (.deferred (some []))) μ (find s.e) (λn=>a.tmps.getD n undef) s.h (λb=>O b∨b=w.heap.size):=by
  refine i1.addO (by omega) (λhm=>by have:=hμlt _ hm;omega) λp hp=>?_;have hp':blk (find s.e) (λn=>a.tmps.getD n undef) s.h w μ p=some w.heap.size:=by
   cases p with
   |tmp n k=>exact hp
   |cell r k=>
    simp only[blk]at hp ⊢;have e2:cellU (w.alloc (.deferred (some []))) μ r k=cellU w μ r k:=by
     simp only[cellU];cases hm:μ[r]? with
     |none=>rfl
     |some b'=>
      simp only[Option.bind_some];rw[World.cell?_alloc_lt w _ ⟨b',k,none⟩ (hμlt b' (List.mem_of_getElem? hm))]
    rw[e2]at hp;exact hp
  have:=hg.inv.blk_lt hp';omega
 let lp:Loop:={state:= .ready,pending:=none,fn,tmps:=a.tmps,params:=ps0,assign:=asg0,body:=body0,defers:=w.heap.size}
 have hpre:μ <+: μ++[(w.alloc (.deferred (some []))).heap.size]:=List.prefix_append _ _;have hloop:LoopP P GL .ready (cpE s.e) ps asg body g (μ++[(w.alloc (.deferred (some []))).heap.size]) (.loop lp):=by
  refine⟨lp,N,rfl,by rw[←k2],hg.sz,λn w'=>⟨?_,λk=>?_⟩,k6,k7,k4,k5,λp hp=>by simpa using List.all_eq_true.1 k3 p hp,rfl,rfl⟩
  ·rw[find_cpE];refine copy_anyW (w:=w) ?_;exact(hg.inv.rep n).copy.chg (M:=λ_=>True) (Chg.refl _ _ _) hpre λk b hb=>by rw[copy_tame]at hb;cases hb
  ·rw[find_cpE];exact copy_tame _ _ _
 have i3:=i2.newAny (recRow P GL .ready (cpE s.e) ps asg body) (.loop lp) ⟨.loop lp,heap_alloc_new _ _,hloop,λo=>Gh.lt_of i2.agree (Nat.le_refl _) o⟩ (λk ds d h=>by cases h);have i4:=i3.call;have hμr:(μ++[(w.alloc (.deferred (some []))).heap.size])[s.h.length]?=some (w.heap.size+1):=by rw[←hg.inv.len,hsz1];simp
 have hcr':All2 (RepG g ((w.alloc (.deferred (some []))).alloc (.loop lp)) (μ++[(w.alloc (.deferred (some []))).heap.size])) caps cvs:=by
  refine⟨hcr.1,λi x v hx hv=>?_⟩;have hch:Chg (λ_=>False) g w g ((w.alloc (.deferred (some []))).alloc (.loop lp)):=(chg_alloc _ g w _).trans (chg_alloc _ g _ _);exact(hcr.2 i x v hx hv).chg hch hpre λb hb=>by rw[hct i x v hx hv]at hb;cases hb
 have hcall:=hsp g _ _ (.func (.yield (w.heap.size+1)) #[] #[]::cvs) _ i4 hg.glob (.cons ⟨w.heap.size+1,hμr,rfl⟩ hcr') (λi d v hd hv=>by
  cases i with
  |zero=>simp at hd hv;subst hd;rfl
  |succ i=>exact hct i d v (by simpa using hd) (by simpa using hv))
 have hinvoke:(invoke (.fn (.func fid) cvs.toArray) #[.func (.yield (w.heap.size+1)) #[] #[]]).run P ((w.alloc (.deferred (some []))).alloc (.loop lp))=
   .ok (.enter fid (Value.func (.yield (w.heap.size+1)) #[] #[]::cvs).toArray) ((w.alloc (.deferred (some []))).alloc (.loop lp)):=by
  unfold okF at hok;split at hok
  ·rename_i fn hfn;simp only[Bool.and_eq_true,Bool.not_eq_true']at hok;have h1:¬fn.body=none:=by cases hb:fn.body<;>simp_all
   have h3:¬fn.name= "runtime.NumGoroutine" :=by simpa using hok.2
   have h2:(#[Value.func (.yield (w.heap.size+1)) #[] #[]]++cvs.toArray)=(Value.func (.yield (w.heap.size+1)) #[] #[]::cvs).toArray:=by
    rw[←Array.toList_inj];simp
   simp[invoke,callFunc,hfn,h3,h1,h2]
  ·cases hok
 have hres:(resolve a.eval (rangeCall g0 (w.heap.size+1)) 0).run P ((w.alloc (.deferred (some []))).alloc (.loop lp))=
   .ok {target:= .fn (.func fid) cvs.toArray,args:= #[.func (.yield (w.heap.size+1)) #[] #[]]} ((w.alloc (.deferred (some []))).alloc (.loop lp)):=by
  have hcv':a.eval g0= .func (.func fid) #[] cvs.toArray:=hcv;have he:∀v,a.eval (.const v)=v:=λ_=>rfl;simp[resolve,rangeCall,hcv',Deferred.ofValue,he]
 refine⟨w.heap.size+1,[mark w.heap.size],(w.alloc (.deferred (some []))).alloc (.loop lp),_,_,fid,_,_,run_enterLoop_outer ..,hres,λ_ _=>trivial,hinvoke,(λh=>by simp[WF,Fence.wide]at h),callsIn_wf ?_⟩;refine hcall.mono ?_;rintro e w3 ⟨v,g',μ',rfl,hinvR,hch,hμ⟩;have hinv:=hinvR.leave;have hb3:μ'[s.h.length]?=some (w.heap.size+1):=pre_get hμ hμr;obtain⟨o,ho,⟨lp',N',rfl,l1,l2,l3,l4,l5,l6,l7,l8,htag⟩,hgn⟩:=hinv.rows s.h.length _ _ hrow hb3;have hbusy:tag≠ .busy:=by rintro rfl;exact hend
 have hstate:lp'.state≠ .busy:=by
  cases tag with
  |ready=>intro h;rw[htag.1]at h;cases h
  |busy=>exact absurd rfl hbusy
  |done e=>cases e<;>exact htag.1
 have i5:=i3.ret hinv hch hμ;have i6:=i5.setAny hrow hb3 .dead (putObj_chg g') (putObj_agree (o:= .loop {lp' with state:= .exhausted}) hgn i5.agree) (show _ <_ by rw[World.putObj_size];exact lt_of_heap ho) (λk ds d h=>by cases h);have hgs:Gs GL N g' (w3.putObj (w.heap.size+1) (.loop {lp' with state:= .exhausted})) μ' ⟨s.e,h'.set s.h.length .dead⟩ {a with defers:=[mark w.heap.size]++a.defers} (λb=>O b∨b=w.heap.size):=
  ⟨i6,hg.glob.mono hch.le,hg.sz⟩
 have hOlt:∀b,O b→b <w.heap.size:=hg.inv.olt;have hc1:Chg (λb=>¬O b) g w g ((w.alloc (.deferred (some []))).alloc (.loop lp)):=(chg_alloc _ g w _).trans (chg_alloc _ g _ _);have hc2:Chg (λb=>¬O b) g ((w.alloc (.deferred (some []))).alloc (.loop lp)) g' w3:=hch.mono λb h hb=>h (.inl (.inl hb));have hc3:Chg (λb=>¬O b) g' w3 g' (w3.putObj (w.heap.size+1) (.loop {lp' with state:= .exhausted})):=(putObj_chg g').mono λb h hb=>by subst h;have:=hOlt _ hb;omega
 have hmarks:Marks (λb=>O b∨b=w.heap.size) w (w3.putObj (w.heap.size+1) (.loop {lp' with state:= .exhausted})) a.defers ([mark w.heap.size]++a.defers):=by
  refine⟨[w.heap.size],rfl,by simp,λb hb=>?_⟩;simp only[List.mem_singleton]at hb;subst hb;refine⟨.inr rfl,Nat.le_refl _,?_⟩;rw[World.putObj_heap_other (by omega),hch.heap w.heap.size (by rw[hsz2];omega) (λh=>h (.inl (.inr rfl)))];have e1:((w.alloc (.deferred (some []))).alloc (.loop lp)).heap[w.heap.size]?=(w.alloc (.deferred (some []))).heap[w.heap.size]?:=
   (chg_alloc (λ_=>False) g (w.alloc (.deferred (some []))) (.loop lp)).heap w.heap.size (by omega) (λh=>h)
  rw[e1];exact heap_alloc_new _ _
 have fin:∀e,Q e ⟨s.e,h'.set s.h.length .dead⟩→AfterM GL N (Q e) g w μ a O {a with defers:=[mark w.heap.size]++a.defers} (w3.putObj (w.heap.size+1) (.loop {lp' with state:= .exhausted})):=λe he=>
  ⟨_,g',μ',_,he,hgs,λb h=> .inl h,hc1.trans (hc2.trans hc3),hpre.trans hμ,hmarks⟩
 refine⟨lp'.pending,_,run_endLoop ho hstate,?_⟩;generalize w3.putObj (w.heap.size+1) (.loop {lp' with state:= .exhausted})=w4 at fin ⊢;cases tag with
 |ready=>rw[htag.2];exact⟨.normal,trivial,fin _ hend⟩
 |busy=>exact absurd rfl hbusy
 |done e=>
  cases e with
  |none=>rw[htag.2];exact wpIn_ret ⟨.ret,trivial,fin _ hend⟩
  |some i=>rw[htag.2];exact wpIn_exit ⟨.exit i,rfl,fin _ hend⟩
end
section
variable {P:Program} {GL:Globals} {N:Nat} {r:Option Nat}
theorem awp_sound:∀(ac:AC) {c:Code},chkC P GL N c ac=true→(r=none∨ac.flat=true)→∀ {Q:AExit→St→Prop} {g:Gh} {w:World} {μ:List Nat} {s:St} {a:Act} {O:Nat→Prop},
  Gs GL N g w μ s a O→awp P GL ac Q s→c.wpIn (WF r) 0 P (PostM GL N Q g w μ a O) a w
 | .skip,c,hk,hr,Q,g,w,μ,s,a,O,hg,h=>by
  cases c<;>simp[chkC]at hk
  ·exact wpIn_skip ⟨.normal,trivial,s,g,μ,O,h,hg,λ_ h=>h,Chg.refl _ _ _,List.prefix_refl _,.nil rfl⟩
  ·exact wpIn_label ⟨.normal,trivial,s,g,μ,O,h,hg,λ_ h=>h,Chg.refl _ _ _,List.prefix_refl _,.nil rfl⟩
 | .scope x,c,hk,hr,Q,g,w,μ,s,a,O,hg,h=>by
  cases c<;>simp only[chkC,Bool.false_eq_true]at hk
  refine wpIn_scope (wpIn_mono (awp_sound x hk hr hg h) ?_);rintro e a' w' ⟨e1,he,s',g',μ',O',hq,hgs,hO,hch,hμ,hd⟩;refine⟨λl hl=>?_,⟨e1,he,s',g',μ',O',hq,hgs,hO,hch,hμ,hd⟩⟩;subst hl;cases e1<;>simp only[ExOK]at he
 | .reg is keep,c,hk,hr,Q,g,w,μ,s,a,O,hg,h=>by
  cases c<;>(try simp only[chkC,Bool.false_eq_true]at hk)
  rename_i id ops dr;cases dr with
  |true=>simp[chkC]at hk
  |false=>
  simp only[chkC]at hk;refine wpIn_region (awpOps_sound _ _ hk hg h λa' w' h2=>?_);obtain⟨s',g',μ',hq,hgs,hch,hμ,hd⟩:=h2;exact⟨.normal,trivial,_,g',μ',O,hq,hgs.norm keep,λ_ h=>h,hch,hμ,.nil hd⟩
 | .regD is keep clos,c,hk,hr,Q,g,w,μ,s,a,O,hg,h=>by
  cases c<;>(try simp only[chkC,Bool.false_eq_true]at hk)
  rename_i id ops dr;cases dr with
  |false=>simp[chkC]at hk
  |true=>
  simp only[chkC,Bool.and_eq_true]at hk;refine wpIn_region_any hk.2 (regD_sound hk.1.1 hk.1.2 (K:=λs'=>Q .normal ⟨normE s'.e keep,s'.h⟩) ?_ hg.drawn h λa' w' h2=>?_)
  ·intro s1 s2 he h;rw[←normE_congr he.1,←he.2];exact h
  ·obtain⟨s',g',μ',hq,hgs,hch,hμ,hd⟩:=h2;exact⟨.normal,trivial,_,g',μ',O,hq,hgs.norm keep,λ_ h=>h,(chg_drawn g w _ _).trans hch,hμ,.nil hd⟩
 | .regA is keep clos t,c,hk,hr,Q,g,w,μ,s,a,O,hg,h=>by
  cases c<;>(try simp only[chkC,Bool.false_eq_true]at hk)
  rename_i id ops dr;cases dr with
  |false=>simp[chkC]at hk
  |true=>
  simp only[chkC,Bool.and_eq_true]at hk;refine wpIn_region_any hk.2 (regA_sound hk.1.1.1.1 hk.1.1.1.2 hk.1.1.2 hk.1.2 (K:=λs'=>∃s2,RenS s.h.length s' s2∧Q .normal ⟨normE s2.e keep,s2.h⟩) ?_ hg.drawn h λa' w' h2=>?_)
  ·rintro s1 s2 he ⟨s3,hr,hq⟩;rcases hr with rfl|⟨π,hp,ho,hf,hh⟩
   ·exact⟨s2,.inl rfl,by rw[←normE_congr he.1,←he.2];exact hq⟩
   ·exact⟨s3,.inr ⟨π,by rw[←he.2];exact hp,by rw[←he.2];exact ho,λn=>by rw[←he.1];exact hf n,by rw[←he.2];exact hh⟩,hq⟩
  ·obtain⟨s',g',μ',⟨s2,hr,hq⟩,hgs,hch,hμ,hd⟩:=h2;obtain⟨μ2,hgs2,hpre⟩:=hgs.ren hr;exact⟨.normal,trivial,_,g',μ2,O,hq,hgs2.norm keep,λ_ h=>h,(chg_drawn g w _ _).trans hch,hpre μ (by rw[hg.inv.len];exact Nat.le_refl _) hμ,.nil hd⟩
 | .regV is keep clos,c,hk,hr,Q,g,w,μ,s,a,O,hg,h=>by
  cases c<;>(try simp only[chkC,Bool.false_eq_true]at hk)
  rename_i id ops dr;cases dr with
  |false=>simp[chkC]at hk
  |true=>
  simp only[chkC,Bool.and_eq_true]at hk;refine wpIn_region_any hk.2 (regV_sound hk.1.1 hk.1.2 (K:=λs'=>Q .normal ⟨normE s'.e keep,s'.h⟩) hg.drawn h λa' w' h2=>?_);obtain⟨s',g',μ',hq,hgs,hch,hμ,hd⟩:=h2;exact⟨.normal,trivial,_,g',μ',O,hq,hgs.norm keep,λ_ h=>h,(chg_drawn g w _ _).trans hch,hμ,.nil hd⟩
 | .seq x y,c,hk,hr,Q,g,w,μ,s,a,O,hg,h=>by
  cases c<;>simp only[chkC,Bool.false_eq_true,Bool.and_eq_true]at hk
  have hr1:r=none∨x.flat=true:=hr.imp_right λh=>by simp only[AC.flat,Bool.and_eq_true]at h;exact h.1
  have hr2:r=none∨y.flat=true:=hr.imp_right λh=>by simp only[AC.flat,Bool.and_eq_true]at h;exact h.2
  refine wpIn_seq (wpIn_mono (awp_sound x hk.1 hr1 hg h) ?_);rintro e a' w' ⟨e1,he,s',g',μ',O',hq,hgs,hO,hch,hμ,hd⟩;cases e1 with
  |normal=>
   cases e<;>simp only[ExOK]at he
   exact wpIn_mono (awp_sound y hk.2 hr2 hgs hq) λe2 a2 w2 h2=>h2.trans hO hch hμ hd
  |exit i=>
   cases e<;>simp only[ExOK]at he
   subst he;exact⟨.exit i,rfl,s',g',μ',O',hq,hgs,hO,hch,hμ,hd⟩
  |ret=>
   cases e<;>simp only[ExOK]at he
   exact⟨.ret,trivial,s',g',μ',O',hq,hgs,hO,hch,hμ,hd⟩
 | .cond x y z,c,hk,hr,Q,g,w,μ,s,a,O,hg,h=>by
  cases c<;>simp only[chkC,Bool.false_eq_true,Bool.and_eq_true]at hk
  simp only[awp]at h;have hr1:r=none∨y.flat=true:=hr.imp_right λh=>by simp only[AC.flat,Bool.and_eq_true]at h;exact h.1
  have hr2:r=none∨z.flat=true:=hr.imp_right λh=>by simp only[AC.flat,Bool.and_eq_true]at h;exact h.2
  have hrx:=(hg.gd P).ev hk.1.1;split at h
  ·rename_i t ht;rw[ht]at hrx;refine wpIn_cond (rep_bool hrx) ?_;cases t with
   |true=>exact awp_sound y hk.1.2 hr1 hg h
   |false=>exact awp_sound z hk.2 hr2 hg h
  ·exact h.elim
 | .block id x,c,hk,hr,Q,g,w,μ,s,a,O,hg,h=>by
  cases c<;>simp only[chkC,Bool.false_eq_true,Bool.and_eq_true,beq_iff_eq]at hk
  obtain⟨rfl,hk⟩:=hk;refine wpIn_block (wpIn_mono (awp_sound x hk hr hg h) ?_);rintro e a' w' ⟨e1,he,s',g',μ',O',hq,hgs,hO,hch,hμ,hd⟩;cases e1 with
  |normal=>
   cases e<;>simp only[ExOK]at he
   exact⟨.normal,trivial,s',g',μ',O',hq,hgs,hO,hch,hμ,hd⟩
  |exit i=>
   cases e<;>simp only[ExOK]at he
   subst he;simp only[Exit.inBlock];split
   ·rename_i hi;simp only[hi,if_true]at hq;exact⟨.normal,trivial,s',g',μ',O',hq,hgs,hO,hch,hμ,hd⟩
   ·rename_i hi;simp only[hi,if_false]at hq;exact⟨.exit i,rfl,s',g',μ',O',hq,hgs,hO,hch,hμ,hd⟩
  |ret=>
   cases e<;>simp only[ExOK]at he
   exact⟨.ret,trivial,s',g',μ',O',hq,hgs,hO,hch,hμ,hd⟩
 | .loop x,c,hk,hr,Q,g,w,μ,s,a,O,hg,h=>by
  cases c<;>simp only[chkC,Bool.false_eq_true]at hk
  obtain⟨I,⟨m,hm⟩,hround⟩:=h;refine wpIn_loop_rel (λm a' w'=>∃s' g' μ' O',I m s'∧Gs GL N g' w' μ' s' a' O'∧(∀b,O b→O' b)∧Chg (λb=>¬O b) g w g' w'∧μ <+: μ'∧Marks O' w w' a.defers a'.defers) ?_ m a w ⟨s,g,μ,O,hm,hg,λ_ h=>h,Chg.refl _ _ _,List.prefix_refl _,.nil rfl⟩;rintro m a1 w1 ⟨s1,g1,μ1,O1,hI,hgs1,hO1,hch1,hμ1,hd1⟩;refine wpIn_mono (awp_sound x hk hr hgs1 (hround m s1 hI)) ?_;rintro e a' w' ⟨e1,he,s',g',μ',O',hq,hgs,hO,hch,hμ,hd⟩;cases e1 with
  |normal=>
   cases e<;>simp only[ExOK]at he
   obtain⟨m',hlt,hI'⟩:=hq;exact⟨m',hlt,s',g',μ',O',hI',hgs,λb hb=>hO b (hO1 b hb),hch1.trans (hch.mono λb h hb=>h (hO1 b hb)),hμ1.trans hμ,hd1.trans hch1.size hO hch hd⟩
  |exit i=>
   cases e<;>simp only[ExOK]at he
   subst he;exact⟨.exit i,rfl,s',g',μ',O',hq,hgs,λb hb=>hO b (hO1 b hb),hch1.trans (hch.mono λb h hb=>h (hO1 b hb)),hμ1.trans hμ,hd1.trans hch1.size hO hch hd⟩
  |ret=>
   cases e<;>simp only[ExOK]at he
   exact⟨.ret,trivial,s',g',μ',O',hq,hgs,λb hb=>hO b (hO1 b hb),hch1.trans (hch.mono λb h hb=>h (hO1 b hb)),hμ1.trans hμ,hd1.trans hch1.size hO hch hd⟩
 | .exit id,c,hk,hr,Q,g,w,μ,s,a,O,hg,h=>by
  cases c<;>simp[chkC]at hk
  subst hk;exact wpIn_exit ⟨.exit _,rfl,s,g,μ,O,h,hg,λ_ h=>h,Chg.refl _ _ _,List.prefix_refl _,.nil rfl⟩
 | .ret,c,hk,hr,Q,g,w,μ,s,a,O,hg,h=>by
  cases c<;>simp[chkC]at hk
  exact wpIn_ret ⟨.ret,trivial,s,g,μ,O,h,hg,λ_ h=>h,Chg.refl _ _ _,List.prefix_refl _,.nil rfl⟩
 | .never,c,hk,hr,Q,g,w,μ,s,a,O,hg,h=>h.elim
 | .rangeF q ps asg body,c,hk,hr,Q,g,w,μ,s,a,O,hg,h=>by
  have hrn:r=none:=by
   rcases hr with h|h
   ·exact h
   ·simp[AC.flat]at h
  subst hrn;cases c<;>(try (simp only[chkC,Bool.false_eq_true]at hk;done))
  exact range_sound hk hg h
def setPs (e:Env) (ps:List Nat) (args:List D):Env:=(ps.zip args).foldl (λe p=>p::e) e
def roundEnd (P:Program) (GL:Globals) (e0:Env) (ps:List Nat) (asg body:AC) (rr:Nat):AExit→List Row→Bool→List Row→Prop
 | .normal,h,b,h'=>b=true∧h'=h.set rr (recRow P GL .ready e0 ps asg body)
 | .ret,h,b,h'=>b=false∧h'=h.set rr (recRow P GL (.done none) e0 ps asg body)
 | .exit i,h,b,h'=>b=false∧h'=h.set rr (recRow P GL (.done (some i)) e0 ps asg body)
abbrev GoodE (g:Gh) (w:World) (μ:List Nat) (e:Env) (ts:Array Value):Prop:=∀n,RepD g w μ (find e n) (ts.getD n undef)∧∀k,ownAt (find e n) (ts.getD n undef) k=none
theorem setPs_good {g:Gh} {w:World} {μ:List Nat} {N:Nat}:∀ {ps:List Nat} {args:List D} {us:List Value} {e:Env} {ts:Array Value},args.length=ps.length→(∀p∈ps,p <N)→All2 (RepG g w μ) args us→Tame args us→ts.size=N→
  GoodE g w μ e ts→GoodE g w μ (setPs e ps args) ((ps.zip us).foldl (λt p=>t.setIfInBounds p.1 p.2) ts)∧((ps.zip us).foldl (λt p=>t.setIfInBounds p.1 p.2) ts).size=N
 |[],args,us,e,ts,_,_,_,_,hs,hg=>by simpa[setPs]using ⟨hg,hs⟩
 |p::ps,[],us,e,ts,hl,_,_,_,_,_=>by simp at hl
 |p::ps,a::args,[],e,ts,_,_,ha,_,_,_=>by have:=ha.1;simp at this
 |p::ps,a::args,u::us,e,ts,hl,hp,ha,ht,hs,hg=>by
  rw[All2.cons_iff]at ha;have:=setPs_good (ps:=ps) (args:=args) (us:=us) (e:=(p,a)::e) (ts:=ts.setIfInBounds p u) (by simpa using hl) (λq hq=>hp q (by simp[hq])) ha.2
   (λi d v hd hv=>ht (i+1) d v (by simpa using hd) (by simpa using hv)) (by simpa using hs) (λn=>by
    simp only[find];by_cases h:p=n
    ·subst h;have hlt:p <ts.size:=hs▸hp p (by simp);have e1:(ts.setIfInBounds p u).getD p undef=u:=by simp[Array.getD_eq_getD_getElem?,hlt]
     rw[if_pos rfl,e1];exact⟨ha.1.toD,ownAt_of1 ha.1 (ht 0 a u rfl rfl)⟩
    ·have e1:(ts.setIfInBounds p u).getD n undef=ts.getD n undef:=by simp[Array.getD_eq_getD_getElem?,Array.getElem?_setIfInBounds,h]
     rw[if_neg h,e1];exact hg n)
  exact this
theorem ysp_of_awp {rr:Nat} {e0:Env} {ps:List Nat} {asg body:AC} {args:List D} {h h':List Row} {b:Bool} (hrow:h[rr]?=some (recRow P GL .ready e0 ps asg body)) (hl:args.length=ps.length)
  (hw:awp P GL asg (λe s=>e= .normal∧s.h[rr]?=some (recRow P GL .ready e0 ps asg body)∧
   awp P GL body (λe s'=>s'.h[rr]?=some (recRow P GL .busy e0 ps asg body)∧roundEnd P GL e0 ps asg body rr e s'.h b h') ⟨s.e,s.h.set rr (recRow P GL .busy e0 ps asg body)⟩) ⟨setPs e0 ps args,h⟩):
  YSp P GL rr args h b h':=by
 intro g w μ us O hinv hgl hall htame bl hbl;obtain⟨o,ho,⟨lp,N,rfl,l1,l2,l3,l4,l5,l6,l7,l8,htag⟩,hgn⟩:=hinv.rows rr _ bl hrow hbl;have hlen:us.length=args.length:=hall.1;have hsz:us.toArray.size=lp.params.size:=by rw[l1];simp[hlen,hl]
 refine⟨_,_,_,_,run_yield ho hsz,?_⟩;obtain⟨hgood,hsz2⟩:=setPs_good hl l8 hall htame l2 λn=>l3 n w;have e1:(lp.params.zip us.toArray).foldl (λtmps x=>match x with|(t,a)=>tmps.setIfInBounds t a) lp.tmps=(ps.zip us).foldl (λt p=>t.setIfInBounds p.1 p.2) lp.tmps:=by
  rw[l1,←Array.foldl_toList];simp
 refine roundIn_of_wpIn trivial ?_;rw[e1];generalize (ps.zip us).foldl (λt p=>t.setIfInBounds p.1 p.2) lp.tmps=ts at hgood hsz2;have hgs:Gs GL N g w μ ⟨setPs e0 ps args,h⟩ {tmps:=ts,defers:=[]} O:=⟨hinv.enter (λn=>(hgood n).1) (λn=>(hgood n).2),hgl,hsz2⟩;refine wpIn_mono (awp_sound (r:=some bl) asg l4 (.inr l6) hgs hw) ?_;rintro e a1 w1 ⟨ee,he,s1,g1,μ1,O1,⟨rfl,hrow1,hw1⟩,hgs1,hO1,hch1,hμ1,_⟩;cases e<;>simp only[ExOK]at he
 have hbl1:μ1[rr]?=some bl:=pre_get hμ1 hbl;obtain⟨o1,ho1,⟨lp1,N1,rfl,j1,j2,j3,j4,j5,j6,j7,j8,htag1⟩,hgn1⟩:=hgs1.inv.rows rr _ bl hrow1 hbl1;refine⟨_,run_beginRound ho1 htag1.1,?_⟩;have i2:=hgs1.inv.setAny hrow1 hbl1 (recRow P GL .busy e0 ps asg body) (putObj_chg g1) (putObj_agree (o:= .loop {lp1 with state:= .busy}) hgn1 hgs1.inv.agree)
  ⟨_,World.putObj_heap_same (lt_of_heap ho1),⟨_,N1,rfl,j1,j2,j3,j4,j5,j6,j7,j8,rfl⟩,hgn1⟩ (λk ds d h=>by cases h)
 have hgs2:Gs GL N g1 (w1.putObj bl (.loop {lp1 with state:= .busy})) μ1 ⟨s1.e,s1.h.set rr (recRow P GL .busy e0 ps asg body)⟩ a1 O1:=⟨i2,hgs1.glob,hgs1.sz⟩;refine wpIn_mono (awp_sound (r:=some bl) body l5 (.inr l7) hgs2 hw1) ?_;rintro e a3 w3 ⟨ee,he,s3,g3,μ3,O3,⟨hrow3,hend⟩,hgs3,hO3,hch3,hμ3,_⟩;have hbl3:μ3[rr]?=some bl:=pre_get hμ3 hbl1;obtain⟨o3,ho3,⟨lp3,N3,rfl,m1,m2,m3,m4,m5,m6,m7,m8,htag3⟩,hgn3⟩:=hgs3.inv.rows rr _ bl hrow3 hbl3;have hnO:¬O bl:=hinv.mo bl (List.mem_of_getElem? hbl);have fin:∀(jump:Option Code) (tag:Tag),TagOK tag {lp3 with state:=if jump.isNone then .ready else .done,pending:=jump}→b=jump.isNone→h'=s3.h.set rr (recRow P GL tag e0 ps asg body)→
   ∃v w',(Instr.endRound bl jump).run P w3= .ok v w'∧∃g' μ',Ending.returned v= .returned (.bool b)∧Inv g' w' μ' anyT anyU h' O∧Chg (λb=>¬O b) g w g' w'∧μ <+: μ':=by
  intro jump tag htg hb hh;have i4:=hgs3.inv.setAny hrow3 hbl3 (recRow P GL tag e0 ps asg body) (putObj_chg g3) (putObj_agree (o:= .loop {lp3 with state:=if jump.isNone then .ready else .done,pending:=jump}) hgn3 hgs3.inv.agree)
   ⟨_,World.putObj_heap_same (lt_of_heap ho3),⟨_,N3,rfl,m1,m2,m3,m4,m5,m6,m7,m8,htg⟩,hgn3⟩ (λk ds d h=>by cases h)
  refine⟨_,_,run_endRound jump ho3,g3,μ3,by rw[hb],?_,?_,hμ1.trans (hμ3)⟩
  ·rw[hh];exact(i4.leave).subO λb hb=>hO3 b (hO1 b hb)
  ·have hm:∀x,x=bl→¬O x:=λx h hb=>hnO (h▸hb);exact hch1.trans (Chg.trans ((putObj_chg g1).mono hm) (Chg.trans (hch3.mono λb h hb=>h (hO1 b hb)) ((putObj_chg g3).mono hm)))
 cases ee with
 |normal=>
  cases e<;>simp only[ExOK]at he
  exact fin none .ready ⟨rfl,rfl⟩ hend.1 hend.2
 |exit i=>
  cases e<;>simp only[ExOK]at he
  subst he;exact fin (some (.exit i)) (.done (some i)) ⟨by simp,rfl⟩ hend.1 hend.2
 |ret=>
  cases e<;>simp only[ExOK]at he
  exact fin (some .ret) (.done none) ⟨by simp,rfl⟩ hend.1 hend.2
end
inductive AR where
 |t (n:Nat)
 |c (n sz:Nat) (ag:Bool)
def AR.val (s:St):AR→Option V
 | .t n=>(find s.e n).toV
 | .c n sz ag=>((PI.load (.t n false) sz ag).val s.e s.h).bind D.toV
def resVs (s:St):List AR→Option (List V)
 |[]=>some []
 |r::rs=>match r.val s,resVs s rs with
  |some x,some xs=>some (x::xs)
  |_,_=>none
def entry (args:List V):Env:=args.zipIdx.map λp=>(p.2,.v p.1)
def D.one?:D→Option D
 | .tup _=>none
 |d=>some d
def D.keep:D→D
 | .own e s xs=> .own e s xs
 |d=>d.arg
def AR.d (s:St):AR→Option D
 | .t n=>some (find s.e n).keep
 | .c n sz ag=>((PI.load (.t n false) sz ag).val s.e s.h).bind λd=>d.arg.one?
def resDs (s:St):List AR→Option (List D)
 |[]=>some []
 |r::rs=>match r.d s,resDs s rs with
  |some x,some xs=>some (x::xs)
  |_,_=>none
def entryD (args:List D):Env:=args.zipIdx.map λp=>(p.2,p.1)
def chkR (P:Program):ResultVar→AR→Bool
 | .tmp t,.t n=>t==n
 | .cell a T,.c n sz ag=>a==n&&sizeIs P T sz&&aggIs P T ag&&(ag||sz==1)
 |_,_=>false
def arTmps:List AR→List Nat
 |[]=>[]
 | .t n::rs=>n::arTmps rs
 | .c _ _ _::rs=>arTmps rs
def chkF (P:Program) (GL:Globals) (f n:Nat) (ac:AC) (rs:List AR):Bool:=
 match P.funcs[f]? with
 |some fn=> !(fn.name== "runtime.NumGoroutine")&&(match fn.body with|some c=>chkC P GL fn.ntmps c ac|none=>false)&&zipOK (chkR P) fn.results.toList rs&&decide (n≤fn.ntmps)&&decide (arTmps rs).Nodup
 |none=>false
def arRun (tmps:Array Value):ResultVar→Sem Value
 | .tmp t=>pure (tmps.getD t undef)
 | .cell a t=>do loadVar t (←asAddr (tmps.getD a undef))
theorem results_eq (fn:Func) (tmps:Array Value):results fn tmps=(do
  let vs ←fn.results.mapM (arRun tmps)
  pure (if h:vs.size=1 then vs[0] else .tuple vs)):=by
 unfold results
 congr 1
section
variable {P:Program} {GL:Globals}
theorem find_entry_from:∀(args:List V) (k n:Nat),find ((args.zipIdx k).map λp=>(p.2,D.v p.1)) n=if k≤n then ((args[n-k]?).map D.v).getD .any else .any
 |[],k,n=>by simp[find]
 |x::xs,k,n=>by
  simp only[List.zipIdx_cons,List.map_cons,find];by_cases h:k=n
  ·subst h;simp
  ·rw[if_neg h,find_entry_from xs (k+1) n];by_cases h2:k+1≤n
   ·rw[if_pos h2,if_pos (by omega),show n-k=(n-(k+1))+1 by omega,List.getElem?_cons_succ]
   ·rw[if_neg h2,if_neg (by omega)]
theorem find_entry (args:List V) (n:Nat):find (entry args) n=((args[n]?).map D.v).getD .any:=by
 have:=find_entry_from args 0 n;simpa[entry]using this
theorem ar_run {g:Gh} {w:World} {μ:List Nat} {s:St} {a:Act} {O:Nat→Prop} {N:Nat} (hg:Gs GL N g w μ s a O) {rv:ResultVar} {r:AR} (hk:chkR P rv r=true) {x:V} (hx:r.val s=some x):
  ∃v,(arRun a.tmps rv).run P w= .ok v w∧RepV g x v:=by
 cases rv with
 |tmp t=>
  cases r with
  |t n=>
   have:t=n:=by simpa[chkR]using hk
   subst this;exact⟨_,rfl,toV_rep (hg.inv.rep t) hx⟩
  |c n sz ag=>simp[chkR]at hk
 |cell b t=>
  cases r with
  |t n=>simp[chkR]at hk
  |c n sz ag=>
   simp only[chkR,Bool.and_eq_true,beq_iff_eq]at hk;obtain⟨⟨⟨rfl,hs⟩,hag⟩,h1⟩:=hk;simp only[AR.val,Option.bind_eq_some_iff]at hx;obtain⟨d,hd,hdx⟩:=hx;have:=load_ok (P:=P) (GL:=GL) (a:= .tmp b) (a':= .t b false) (t:=t) (by simp[oe]) hs hag h1 (hg.gd P) hd
    {(default:Oper)with op:= .load t (.tmp b)} rfl
   obtain⟨v,hrun,hrep,_⟩:=this;refine⟨v,?_,toV_rep hrep hdx⟩;have hev:a.eval (.tmp b)=a.tmps.getD b undef:=rfl;simp only[execOp,Instr.loadAt,hev,Sem.run_bind,Sem.run_map]at hrun;simp only[arRun,Sem.run_bind];cases hp:a.tmps.getD b undef with
   |pointer p=>
    cases p with
    |none=>simp[hp,Instr.sureAddr]at hrun
    |some p=>
     simp only[hp,Instr.sureAddr,Sem.run_pure,Result.andThen_ok,asAddr]at hrun ⊢;cases hl:(loadVar t p).run P w with
     |ok v' w'=>simp[hl]at hrun;obtain⟨rfl,rfl⟩:=hrun;rfl
     |halt h w'=>simp[hl]at hrun
   |_=>simp[hp,Instr.sureAddr]at hrun
theorem results_run {g:Gh} {w:World} {μ:List Nat} {s:St} {a:Act} {O:Nat→Prop} {N:Nat} (hg:Gs GL N g w μ s a O):∀ {rvs:List ResultVar} {rs:List AR} {xs:List V},zipOK (chkR P) rvs rs=true→resVs s rs=some xs→
  ∃vs:List Value,(rvs.mapM (arRun a.tmps)).run P w= .ok vs w∧All2 (RepV g) xs vs
 |[],[],xs,_,h=>by
  simp only[resVs,Option.some.injEq]at h;subst h;exact⟨[],rfl,.nil⟩
 |rv::rvs,r::rs,xs,hk,h=>by
  simp only[zipOK,Bool.and_eq_true]at hk;simp only[resVs]at h;split at h
  ·rename_i y ys hy hys;simp only[Option.some.injEq]at h;subst h;obtain⟨v,h1,h2⟩:=ar_run hg hk.1 hy;obtain⟨vs,h3,h4⟩:=results_run hg hk.2 hys;refine⟨v::vs,?_,.cons h2 h4⟩;rw[List.mapM_cons,Sem.run_bind,h1,Result.andThen_ok,Sem.run_bind,h3];rfl
  ·cases h
 |[],_::_,_,hk,_=>by simp[zipOK]at hk
 |_::_,[],_,hk,_=>by simp[zipOK]at hk
theorem retD_of {g:Gh} {w:World} {xs:List V} {vs:List Value} (h:All2 (RepV g) xs vs):RepD g w [] (retD xs) (if h:vs.toArray.size=1 then vs.toArray[0] else .tuple vs.toArray):=by
 unfold retD;split
 ·rename_i x;have hl:=h.1
  match vs,hl with
  |[v],_=>
   simp only[List.size_toArray,List.length_cons,List.length_nil,dite_true];exact(All2.cons_iff.1 h).1
 ·rename_i hne;have hl:¬vs.toArray.size=1:=by
   intro h1;have:xs.length=1:=by rw[←h.1];simpa using h1
   match xs,this with
   |[x],_=>exact hne x rfl
  rw[dif_neg hl];exact⟨vs,rfl,by simp[h.1],λi x v hx hv=>by
   simp only[List.getElem?_map,Option.map_eq_some_iff]at hx;obtain⟨y,hy,rfl⟩:=hx;exact h.2 i y v hy hv⟩
theorem Inv.chgO {g:Gh} {w:World} {μ:List Nat} {t:Nat→D} {u:Nat→Value} {h:List Row} {O:Nat→Prop} (hi:Inv g w μ t u h O) {M:Nat→Prop} {g':Gh} {w':World} (hc:Chg M g w g' w') (hM:∀b,M b→O b)
  (hag:∀b o v,g'.m b o=some v→w'.cell? ⟨b,o,none⟩=some v):Inv g' w' μ t u h O:=by
 have hcellU:∀r k,cellU w' μ r k=cellU w μ r k:=by
  intro r k;simp only[cellU];cases hm:μ[r]? with
  |none=>rfl
  |some b=>
   have hbm:=List.mem_of_getElem? hm;simp only[Option.bind_some];rw[World.cell?_of_block (a:=⟨b,k,none⟩) (hc.heap b (hi.mem_lt hbm) (λh=>hi.mo b hbm (hM b h)))]
 refine hi.upd hc hag (λn=>chg_tmp hi hc (List.prefix_refl μ) n λk b' hb' h=>(hi.sep _ b' hb').2 (hM b' h)) hi.len
  (λr row b hr hb=>hi.rowChg hc (List.prefix_refl μ) hr hb (λh=>hi.mo b (List.mem_of_getElem? hb) (hM b h)) (λp b' hp h=>absurd (hM b' h) (hi.sep p b' hp).2)) hi.nod (λb hb=> .inl hb)
  (λp=>some p) (λp q r hp hq=>by simp at hp hq;rw[hp,hq]) (.tmp 0 0) ?_
 intro p b hp;cases p with
 |tmp m j=>exact .inl ⟨.tmp m j,rfl,hp⟩
 |cell r k=>simp only[blk,hcellU]at hp;exact .inl ⟨.cell r k,rfl,hp⟩
theorem leaves_marks {F:Fence} {n:Nat} {fn:Func} {tmps:Array Value} {R:Ending→World→Prop}:∀(ms:List Nat) {w:World},ms.Nodup→(∀b∈ms,w.heap[b]?=some (.deferred (some [])))→
  (∀w':World,w'.heap.size=w.heap.size→w'.os=w.os→w'.output=w.output→(∀b,b∉ms→w'.heap[b]?=w.heap[b]?)→∃v,(results fn tmps).run P w'= .ok v w'∧R (.returned v) w')→LeavesInM F n P fn tmps R (ms.map mark) .returning w
 |[],w,_,_,h=>h w rfl rfl rfl λ_ _=>rfl
 |b::ms,w,hn,hd,h=>by
  rw[List.nodup_cons]at hn;refine⟨by simp,.inl ⟨b,_,rfl,run_takeDeferred (hd b (by simp)),?_⟩⟩;refine leaves_marks ms hn.2 (λb' hb'=>?_) λw' hs ho hu hw=>h w' (hs.trans World.putObj_size) ho hu λb' hb'=>?_
  ·rw[World.putObj_heap_other (λ(h:b'=b)=>hn.1 (h▸hb'))];exact hd b' (by simp[hb'])
  ·simp only[List.mem_cons,not_or]at hb';rw[hw b' hb'.2,World.putObj_heap_other hb'.1]
theorem body_end {F:Fence} {n:Nat} {fn:Func} {N:Nat} {g:Gh} {w:World} {μ:List Nat} {a:Act} {O:Nat→Prop} {Q:St→Prop} {R:Ending→World→Prop} {a':Act} {w1:World} (hd:a.defers=[]) (hOlt:∀b,O b→b <w.heap.size)
  (h:AfterM GL N Q g w μ a O a' w1) (hR:∀s' g' μ' w',Q s'→Gs GL N g' w' μ' s' a' O→Chg (λb=>¬O b) g w g' w'→μ <+: μ'→∃v,(results fn a'.tmps).run P w'= .ok v w'∧R (.returned v) w'):
  LeavesInM F n P fn a'.tmps R a'.defers .returning w1:=by
 obtain⟨s',g',μ',O',hq,hg,hO,hc,hμ,ms,hms,hnd,hp⟩:=h;rw[hms,hd,List.append_nil];have hnone:∀b∈ms,∀o,g'.m b o=none:=by
  intro b hb o;cases hx:g'.m b o with
  |none=>rfl
  |some v=>
   have:=hg.inv.agree b o v hx;simp[World.cell?,(hp b hb).2.2]at this
 have hnO:∀b∈ms,¬O b∨False:=λb hb=> .inl λho=>by
  have h1:=(hp b hb).2.1;have h3:=hOlt b ho;omega
 refine leaves_marks ms hnd (λb hb=>(hp b hb).2.2) λw' hs ho hu hw=>?_;have hc2:Chg (λb=>b∈ms) g' w1 g' w':=⟨Gh.le.refl _,by omega,λb _ hb=>hw b hb,λ_ _ _ _=>rfl,ho,hu⟩;have hag:∀b o v,g'.m b o=some v→w'.cell? ⟨b,o,none⟩=some v:=by
  intro b o v hv;by_cases hb:b∈ms
  ·rw[hnone b hb]at hv;cases hv
  ·rw[World.cell?_of_block (a:=⟨b,o,none⟩) (hw b hb)];exact hg.inv.agree b o v hv
 have hinv:=(hg.inv.chgO hc2 (λb hb=>(hp b hb).1) hag).subO hO;exact hR s' g' μ' w' hq ⟨hinv,hg.glob,hg.sz⟩ (hc.trans (hc2.mono λb hb ho=>(hnO b hb).elim (λh=>h ho) id)) hμ
theorem psp_of_awp {f n:Nat} {ac:AC} {rs:List AR} {args rets:List V} (hk:chkF P GL f n ac rs=true) (hn:args.length=n)
  (h:awp P GL ac (λe s=>(match e with| .exit _=>False|_=>True)∧resVs s rs=some rets) ⟨entry args,[]⟩):PSp P GL f args rets:=by
 unfold chkF at hk;split at hk
 ·rename_i fn hfn;simp only[Bool.and_eq_true]at hk;obtain⟨⟨⟨⟨hnm,hbody⟩,hres⟩,hnn⟩,_⟩:=hk;have hnt:args.length≤fn.ntmps:=by rw[hn];simpa using hnn
  split at hbody
  ·rename_i c hc;refine⟨by simp[okF,hfn,hc,hnm],λg w us hag hgl hall=>(callsIn_wide (n:=0)).1 ?_⟩;have hlen:us.length=args.length:=hall.1;refine callsIn_of_wp_marks hfn hc trivial ?_ rfl;have hinv:Gs GL fn.ntmps g w [] ⟨entry args,[]⟩ {tmps:=us.toArray++Array.replicate (fn.ntmps-us.toArray.size) undef,defers:=[]} (λb=>b <w.heap.size):=by
    refine⟨⟨hag,λb hb=>hb,λn=>?_,rfl,λr row b hr=>by simp at hr,λr r' b hr=>by simp at hr,λb hb=>by simp at hb,λp q b hp=>?_,λp b hp=>?_⟩,hgl,by simp;omega⟩
    ·simp only[find_entry];cases hx:args[n]? with
     |none=>simp[RepD,RepG,RepE]
     |some x=>
      obtain⟨v,hv,hr⟩:=hall.get hx;have hlt:=(List.getElem?_eq_some_iff.1 hv).1;have:(us.toArray++Array.replicate (fn.ntmps-us.toArray.size) undef).getD n undef=v:=by
       simp[Array.getElem?_append,hlt];exact(List.getElem?_eq_some_iff.1 hv).2
      simp only[Option.map_some,Option.getD_some,this];exact hr
    ·exfalso;cases p with
     |tmp n k=>
      simp only[blk,find_entry]at hp;cases hx:args[n]?<;>simp only[hx,Option.map_none,Option.map_some,Option.getD_none,Option.getD_some]at hp<;>cases k<;>simp[ownAt,own1]at hp
     |cell r k=>simp[blk,cellD,own1]at hp
    ·exfalso;cases p with
     |tmp n k=>
      simp only[blk,find_entry]at hp;cases hx:args[n]?<;>simp only[hx,Option.map_none,Option.map_some,Option.getD_none,Option.getD_some]at hp<;>cases k<;>simp[ownAt,own1]at hp
     |cell r k=>simp[blk,cellD,own1]at hp
   refine wpIn_mono (awp_sound (r:=none) ac hbody (.inl rfl) hinv h) ?_;rintro e a' w1 ⟨e1,he,haft⟩;have fin:(match e1 with| .exit _=>False|_=>True)→LeavesInM (WF none) 0 P fn a'.tmps (λe w'=>∃v g',e= .returned v∧RepD g' w' [] (retD rets) v∧Chg (λ_=>False) g w g' w'∧Agree g' w') a'.defers .returning w1:=by
    intro _;refine body_end rfl (λb hb=>hb) haft ?_;rintro s' g' μ' w' ⟨_,hrv⟩ hgs hch _;obtain⟨vs,hrun,hrep⟩:=results_run hgs hres hrv;have hresult:(results fn a'.tmps).run P w'= .ok (if h:vs.toArray.size=1 then vs.toArray[0] else .tuple vs.toArray) w':=by
     rw[results_eq,Array.mapM_eq_mapM_toList];simp only[Sem.run_bind,Sem.run_map];rw[hrun];rfl
    have hch':Chg (λ_=>False) g w g' w':=⟨hch.le,hch.size,λb hb _=>hch.heap b hb (λh=>h hb),λb hb _=>hch.gh b hb (λh=>h hb),hch.os,hch.out⟩;exact⟨_,hresult,_,g',rfl,retD_of hrep,hch',hgs.inv.agree⟩
   cases e1 with
   |normal=>cases e<;>simp only[ExOK]at he;exact fin trivial
   |exit i=>obtain⟨_,_,_,_,⟨hnx,_⟩,_⟩:=haft;exact hnx.elim
   |ret=>cases e<;>simp only[ExOK]at he;exact fin trivial
  ·cases hbody
 ·cases hk
theorem find_entryD_from:∀(args:List D) (k n:Nat),find ((args.zipIdx k).map λp=>(p.2,p.1)) n=if k≤n then (args[n-k]?).getD .any else .any
 |[],k,n=>by simp[find]
 |x::xs,k,n=>by
  simp only[List.zipIdx_cons,List.map_cons,find];by_cases h:k=n
  ·subst h;simp
  ·rw[if_neg h,find_entryD_from xs (k+1) n];by_cases h2:k+1≤n
   ·rw[if_pos h2,if_pos (by omega),show n-k=(n-(k+1))+1 by omega,List.getElem?_cons_succ]
   ·rw[if_neg h2,if_neg (by omega)]
theorem find_entryD (args:List D) (n:Nat):find (entryD args) n=(args[n]?).getD .any:=by
 have:=find_entryD_from args 0 n;simpa[entryD]using this
theorem keep_rep {g:Gh} {w:World} {μ:List Nat} {d:D} {u:Value} (h:RepD g w μ d u):RepG g w μ d.keep u:=by
 have:=h.arg;cases d<;>first
  |exact h
  |exact this
theorem keep_own (d:D) (u:Value) (b:Nat) (h:own1 d.keep u=some b):ownAt d u 0=some b:=by
 cases d<;>first
  |(simp only[D.keep]at h;rw[own1_arg]at h;cases h;done)
  |exact h
theorem arD_run {g:Gh} {w:World} {μ:List Nat} {s:St} {a:Act} {O:Nat→Prop} {N:Nat} (hg:Gs GL N g w μ s a O) {rv:ResultVar} {r:AR} (hk:chkR P rv r=true) {x:D} (hx:r.d s=some x):
  ∃v,(arRun a.tmps rv).run P w= .ok v w∧RepG g w μ x v∧∀b,own1 x v=some b→∃n,r= .t n∧ownAt (find s.e n) (a.tmps.getD n undef) 0=some b:=by
 cases rv with
 |tmp t=>
  cases r with
  |t n=>
   have:t=n:=by simpa[chkR]using hk
   subst this;simp only[AR.d,Option.some.injEq]at hx;subst hx;exact⟨_,rfl,keep_rep (hg.inv.rep t),λb hb=>⟨t,rfl,keep_own _ _ _ hb⟩⟩
  |c n sz ag=>simp[chkR]at hk
 |cell b t=>
  cases r with
  |t n=>simp[chkR]at hk
  |c n sz ag=>
   simp only[chkR,Bool.and_eq_true,beq_iff_eq]at hk;obtain⟨⟨⟨rfl,hs⟩,hag⟩,h1⟩:=hk;simp only[AR.d,Option.bind_eq_some_iff]at hx;obtain⟨d,hd,hdx⟩:=hx;have hxe:d.arg=x:=by
    cases hq:d.arg<;>rw[hq]at hdx<;>simp[D.one?]at hdx<;>exact hdx
   subst hxe;have:=load_ok (P:=P) (GL:=GL) (a:= .tmp b) (a':= .t b false) (t:=t) (by simp[oe]) hs hag h1 (hg.gd P) hd
    {(default:Oper)with op:= .load t (.tmp b)} rfl
   obtain⟨v,hrun,hrep,_⟩:=this;refine⟨v,?_,hrep.arg,λb' hb'=>by rw[own1_arg]at hb';cases hb'⟩;have hev:a.eval (.tmp b)=a.tmps.getD b undef:=rfl;simp only[execOp,Instr.loadAt,hev,Sem.run_bind,Sem.run_map]at hrun;simp only[arRun,Sem.run_bind];cases hp:a.tmps.getD b undef with
   |pointer p=>
    cases p with
    |none=>simp[hp,Instr.sureAddr]at hrun
    |some p=>
     simp only[hp,Instr.sureAddr,Sem.run_pure,Result.andThen_ok,asAddr]at hrun ⊢;cases hl:(loadVar t p).run P w with
     |ok v' w'=>simp[hl]at hrun;obtain⟨rfl,rfl⟩:=hrun;rfl
     |halt h w'=>simp[hl]at hrun
   |_=>simp[hp,Instr.sureAddr]at hrun
theorem resultsD_run {g:Gh} {w:World} {μ:List Nat} {s:St} {a:Act} {O:Nat→Prop} {N:Nat} (hg:Gs GL N g w μ s a O):∀ {rvs:List ResultVar} {rs:List AR} {xs:List D},zipOK (chkR P) rvs rs=true→resDs s rs=some xs→
  ∃vs:List Value,(rvs.mapM (arRun a.tmps)).run P w= .ok vs w∧All2 (RepG g w μ) xs vs∧∀(k:Nat) d v b,xs[k]?=some d→vs[k]?=some v→own1 d v=some b→∃n,rs[k]?=some (.t n)∧ownAt (find s.e n) (a.tmps.getD n undef) 0=some b
 |[],[],xs,_,h=>by
  simp only[resDs,Option.some.injEq]at h;subst h;exact⟨[],rfl,.nil,λi d v b h=>by simp at h⟩
 |rv::rvs,r::rs,xs,hk,h=>by
  simp only[zipOK,Bool.and_eq_true]at hk;simp only[resDs]at h;split at h
  ·rename_i y ys hy hys;simp only[Option.some.injEq]at h;subst h;obtain⟨v,h1,h2,h2'⟩:=arD_run hg hk.1 hy;obtain⟨vs,h3,h4,h4'⟩:=resultsD_run hg hk.2 hys;refine⟨v::vs,?_,.cons h2 h4,λi d u b hd hu hb=>?_⟩
   ·rw[List.mapM_cons,Sem.run_bind,h1,Result.andThen_ok,Sem.run_bind,h3];rfl
   ·cases i with
    |zero=>
     simp at hd hu;subst hd;subst hu;obtain⟨n,rfl,h⟩:=h2' b hb;exact⟨n,rfl,h⟩
    |succ i=>exact h4' i d u b (by simpa using hd) (by simpa using hu) hb
  ·cases h
 |[],_::_,_,hk,_=>by simp[zipOK]at hk
 |_::_,[],_,hk,_=>by simp[zipOK]at hk
theorem retDs_of {g:Gh} {w:World} {μ:List Nat} {xs:List D} {vs:List Value} (h:All2 (RepG g w μ) xs vs):
  RepD g w μ (retDs xs) (if h:vs.toArray.size=1 then vs.toArray[0] else .tuple vs.toArray)∧
   ∀k b,ownAt (retDs xs) (if h:vs.toArray.size=1 then vs.toArray[0] else .tuple vs.toArray) k=some b→∃d v,xs[k]?=some d∧vs[k]?=some v∧own1 d v=some b:=by
 unfold retDs;split
 ·rename_i x;have hl:=h.1
  match vs,hl with
  |[v],_=>
   simp only[List.size_toArray,List.length_cons,List.length_nil,dite_true];have hx:=(All2.cons_iff.1 h).1;refine⟨hx.toD,λk b hb=>?_⟩;have hnt:∀ds,x≠ .tup ds:=λds he=>by subst he;exact hx.elim
   cases k with
   |zero=>
    refine⟨x,v,rfl,rfl,?_⟩;cases x<;>first
     |exact hb
     |exact absurd rfl (hnt _)
   |succ k=>
    exfalso;cases x<;>first
     |(simp[ownAt]at hb;done)
     |exact absurd rfl (hnt _)
 ·rename_i hne;have hl:¬vs.toArray.size=1:=by
   intro h1;have:xs.length=1:=by rw[←h.1];simpa using h1
   match xs,this with
   |[x],_=>exact hne x rfl
  rw[dif_neg hl];refine⟨⟨vs,rfl,h⟩,λk b hb=>?_⟩;simp only[ownAt,List.toList_toArray]at hb;cases hx:xs[k]? with
  |none=>simp[hx,own1]at hb
  |some x=>
   obtain⟨v,hv,_⟩:=h.get hx;simp only[hx,hv,Option.getD_some]at hb;exact⟨x,v,rfl,hv,hb⟩
theorem arTmps_mem:∀ {rs:List AR} {k n:Nat},rs[k]?=some (.t n)→n∈arTmps rs
 |[],k,n,h=>by simp at h
 | .t m::rs,0,n,h=>by simp at h;simp[arTmps,h]
 | .t m::rs,k+1,n,h=>by simp only[arTmps,List.mem_cons];exact .inr (arTmps_mem (rs:=rs) (k:=k) (by simpa using h))
 | .c _ _ _::rs,0,n,h=>by simp at h
 | .c _ _ _::rs,k+1,n,h=>by simp only[arTmps];exact arTmps_mem (rs:=rs) (k:=k) (by simpa using h)
theorem arTmps_inj:∀ {rs:List AR},(arTmps rs).Nodup→∀ {k k' n:Nat},rs[k]?=some (.t n)→rs[k']?=some (.t n)→k=k'
 |[],_,k,k',n,h,_=>by simp at h
 | .t m::rs,hd,k,k',n,h,h'=>by
  simp only[arTmps,List.nodup_cons]at hd;cases k with
  |zero=>cases k' with
   |zero=>rfl
   |succ k'=>
    simp at h;subst h;exact absurd (arTmps_mem (rs:=rs) (k:=k') (by simpa using h')) hd.1
  |succ k=>cases k' with
   |zero=>
    simp at h';subst h';exact absurd (arTmps_mem (rs:=rs) (k:=k) (by simpa using h)) hd.1
   |succ k'=>rw[arTmps_inj hd.2 (k:=k) (k':=k') (by simpa using h) (by simpa using h')]
 | .c _ _ _::rs,hd,k,k',n,h,h'=>by
  simp only[arTmps]at hd;cases k with
  |zero=>simp at h
  |succ k=>cases k' with
   |zero=>simp at h'
   |succ k'=>rw[arTmps_inj hd (k:=k) (k':=k') (by simpa using h) (by simpa using h')]
theorem ret_inv {g:Gh} {w:World} {μ:List Nat} {t:Nat→D} {u:Nat→Value} {h:List Row} {O:Nat→Prop} (hi:Inv g w μ t u h O) {rs:List AR} (hnd:(arTmps rs).Nodup) {x:D} {v:Value} (hx:RepD g w μ x v)
  (ho:∀k b,ownAt x v k=some b→∃n,rs[k]?=some (.t n)∧ownAt (t n) (u n) 0=some b):Inv g w μ (at0 .any x) (at0 (.bool false) v) h O:=by
 refine hi.upd (Chg.refl (λ_=>False) g w) hi.agree (λn=>?_) hi.len hi.rows hi.nod (λb hb=> .inl hb)
  (λp=>match p with| .tmp 0 k=>(match rs[k]? with|some (.t n)=>some (.tmp n 0)|_=>none)| .tmp (_+1) _=>none| .cell r k=>some (.cell r k)) ?_ (.tmp 0 0) ?_
 ·simp only[at0];split
  ·exact hx
  ·trivial
 ·intro p q z hp hq;cases p with
  |tmp n k=>
   cases n with
   |succ n=>cases hp
   |zero=>
    simp only at hp;split at hp
    ·rename_i n hn;simp only[Option.some.injEq]at hp;subst hp;cases q with
     |tmp n' k'=>
      cases n' with
      |succ n'=>cases hq
      |zero=>
       simp only at hq;split at hq
       ·rename_i n' hn';simp only[Option.some.injEq,Pl.tmp.injEq,and_true]at hq;subst hq;rw[arTmps_inj hnd hn hn']
       ·cases hq
     |cell r k'=>simp at hq
    ·cases hp
  |cell r k=>
   simp only[Option.some.injEq]at hp;subst hp;cases q with
   |tmp n' k'=>
    cases n' with
    |succ n'=>cases hq
    |zero=>
     simp only at hq;split at hq
     ·simp at hq
     ·cases hq
   |cell r' k'=>simpa[eq_comm]using hq
 ·intro p b hb;refine .inl ?_;cases p with
  |tmp n k=>
   cases n with
   |succ n=>simp only[blk,at0]at hb;cases k<;>simp[ownAt,own1]at hb
   |zero=>
    have hb':ownAt x v k=some b:=by simpa[blk,at0]using hb
    obtain⟨n,hn,hbn⟩:=ho k b hb';exact⟨.tmp n 0,by simp only[hn],hbn⟩
  |cell r k=>exact⟨.cell r k,rfl,hb⟩
theorem calls_core {f n:Nat} {ac:AC} {rs:List AR} {args rets:List D} {h h':List Row} (hk:chkF P GL f n ac rs=true) (hn:args.length=n)
  (hw:awp P GL ac (λe s=>(match e with| .exit _=>False|_=>True)∧∃y,resDs s rs=some y∧∀g w μ v O,Inv g w μ (at0 .any (retDs y)) (at0 (.bool false) v) s.h O→
   ∃g2 μ2,(∀μ0:List Nat,μ0.length=h.length→μ0 <+: μ→μ0 <+: μ2)∧Inv g2 w μ2 (at0 .any (retDs rets)) (at0 (.bool false) v) h' O∧Chg (λb=>¬O b) g w g2 w) ⟨entryD args,h⟩):
  okF P f=true∧∀(g:Gh) (w:World) (μ:List Nat) (us:List Value) (O:Nat→Prop),us.length=args.length→Inv g w μ (atL .any args) (atL undef us) h O→GlobOK GL g→
  Calls P f us.toArray w λe w'=>∃v g' μ',e= .returned v∧Inv g' w' μ' (at0 .any (retDs rets)) (at0 (.bool false) v) h' O∧Chg (λb=>¬O b) g w g' w'∧μ <+: μ':=by
 unfold chkF at hk;split at hk
 ·rename_i fn hfn;simp only[Bool.and_eq_true]at hk;obtain⟨⟨⟨⟨hnm,hbody⟩,hres⟩,hnn⟩,hndp⟩:=hk;have hndp:(arTmps rs).Nodup:=by simpa using hndp
  have hnt:args.length≤fn.ntmps:=by rw[hn];simpa using hnn
  split at hbody
  ·rename_i c hc;refine⟨by simp[okF,hfn,hc,hnm],λg w μ us O hlen hinv0 hgl=>(callsIn_wide (n:=0)).1 ?_⟩;refine callsIn_of_wp_marks hfn hc trivial ?_ rfl;have hu:(λn=>(us.toArray++Array.replicate (fn.ntmps-us.toArray.size) undef).getD n undef)=atL undef us:=by
    funext n
    by_cases hlt:n <us.length
    ·simp[atL,Array.getElem?_append,hlt]
    ·have e2:(us.toArray++Array.replicate (fn.ntmps-us.toArray.size) undef)[n]?.getD undef=undef:=by
      rw[Array.getElem?_append_right (by simpa using hlt),Array.getElem?_replicate];split<;>rfl
     have e3:atL undef us n=undef:=by simp[atL,List.getElem?_eq_none (Nat.le_of_not_lt hlt)]
     rw[e3,Array.getD_eq_getD_getElem?];exact e2
   have hinv:Gs GL fn.ntmps g w μ ⟨entryD args,h⟩ {tmps:=us.toArray++Array.replicate (fn.ntmps-us.toArray.size) undef,defers:=[]} O:=by
    refine⟨?_,hgl,by simp;omega⟩;show Inv g w μ (find (entryD args)) (λn=>(us.toArray++Array.replicate (fn.ntmps-us.toArray.size) undef).getD n undef) h O;rw[hu,show find (entryD args)=atL .any args from funext (find_entryD args)];exact hinv0
   refine wpIn_mono (awp_sound (r:=none) ac hbody (.inl rfl) hinv hw) ?_;rintro e a' w1 ⟨e1,he,haft⟩;have fin:(match e1 with| .exit _=>False|_=>True)→LeavesInM (WF none) 0 P fn a'.tmps (λe w'=>∃v g' μ',e= .returned v∧Inv g' w' μ' (at0 .any (retDs rets)) (at0 (.bool false) v) h' O∧Chg (λb=>¬O b) g w g' w'∧μ <+: μ') a'.defers .returning w1:=by
    intro _;refine body_end rfl hinv.inv.olt haft ?_;rintro s' g' μ' w' ⟨_,y,hrv,hweak⟩ hgs hch hμ;obtain⟨vs,hrun,hrep,hown⟩:=resultsD_run hgs hres hrv;have hresult:(results fn a'.tmps).run P w'= .ok (if h:vs.toArray.size=1 then vs.toArray[0] else .tuple vs.toArray) w':=by
     rw[results_eq,Array.mapM_eq_mapM_toList];simp only[Sem.run_bind,Sem.run_map];rw[hrun];rfl
    obtain⟨r1,r2⟩:=retDs_of hrep;have hret:=ret_inv hgs.inv hndp r1 (λk b hb=>by
     obtain⟨d,v,hd,hv,ho⟩:=r2 k b hb;exact hown k d v b hd hv ho)
    obtain⟨g2,μ2,hμ2,hinv2,hch2⟩:=hweak _ _ _ _ _ hret;exact⟨_,hresult,_,g2,μ2,rfl,hinv2,hch.trans hch2,hμ2 μ hinv0.len hμ⟩
   cases e1 with
   |normal=>cases e<;>simp only[ExOK]at he;exact fin trivial
   |exit i=>obtain⟨_,_,_,_,⟨hnx,_⟩,_⟩:=haft;exact hnx.elim
   |ret=>cases e<;>simp only[ExOK]at he;exact fin trivial
  ·cases hbody
 ·cases hk
end
attribute [simp] Opd.moved awpI awpCall AI.step AI.dst setO Opd.ev Opd.clear find D.copy PI.val V.bin D.isNil D.isNilP bndI D.cells? fillD capsOf D.isCap D.toRow D.toRowX toVs toCells ownOf normE D.toV D.v? D.vs? resVs AR.val V.part D.part V.getI retD
section
variable {P:Program} {GL:Globals}
@[simp] theorem awpOps_nil (K:St→Prop) (s:St):awpOps P GL [] K s=K s:=rfl
@[simp] theorem awpOps_plain (i:AI) (rest:List GI) (K:St→Prop) (s:St):awpOps P GL (⟨none,i⟩::rest) K s=awpI P GL i (awpOps P GL rest K) s:=rfl
@[simp] theorem awpOps_guard (t:Nat) (want:Bool) (i:AI) (rest:List GI) (K:St→Prop) (s:St):awpOps P GL (⟨some (t,want),i⟩::rest) K s=
  match find s.e t with
  | .v (.bool b)=>if b=want then awpI P GL i (awpOps P GL rest K) s else awpOps P GL rest K ⟨setO s.e i.dst (.tup []),s.h⟩
  | .tup []=>awpOps P GL rest K ⟨setO s.e i.dst (.tup []),s.h⟩
  |_=>False:=rfl
def awpJI (P:Program) (GL:Globals) (i:AI) (K:St→Prop) (s:St):Prop:=
 match i with
 | .call d f args=>∃fid caps vs rets,(f.ev s.e).toV=some (.func fid caps)∧toVs s.e args=some vs∧PSp P GL fid (vs++caps) rets∧K ⟨setO s.e d (retD rets),s.h⟩
 | .callF d f args=>awpCall P GL d f args K s
 | .callC d f args=>awpCall P GL d f args (λs'=>(∃t,s'.h=s.h++t)∧K s') s
 | .callO d f q args=>∃fid rets,fnOf (f.ev s.e)=some (fid,[])∧OSp P GL fid (q.ev s.e::argsOf s.e args) rets∧K ⟨setO (q.clear s.e) d (retDs rets),s.h⟩
 |i=>match i.step s with
  |some s'=>K s'
  |none=>False
def awpJ (P:Program) (GL:Globals) (ops:List GI) (K:St→Prop) (s:St):Prop:=∃s',runJ P GL ops s s'∧K s'
theorem callS_of {d:Option Nat} {f:Opd} {args:List Opd} {K:St→Prop} {s:St} (h:awpCall P GL d f args K s):∃rets h',CallS P GL (f.ev s.e) (argsOf s.e args) s.h rets h'∧K ⟨setO s.e d (retDs rets),h'⟩:=by
 unfold awpCall at h;split at h
 ·rename_i r hf;obtain⟨b,h',hy,hK⟩:=h;exact⟨[.v (.bool b)],h',by simp only[CallS,hf];exact⟨b,hy,rfl⟩,hK⟩
 ·rename_i fid fs hf;obtain⟨rets,h',hs,hK⟩:=h;exact⟨rets,h',by simp only[CallS,hf];exact hs,hK⟩
 ·rename_i h1 h2;split at h
  ·rename_i fid caps hf;obtain⟨rets,h',hs,hK⟩:=h;refine⟨rets,h',?_,hK⟩;unfold CallS;split
   ·rename_i r hr;exact absurd hr (h1 r)
   ·rename_i a b hr;exact absurd hr (h2 a b)
   ·exact⟨fid,caps,hf,hs⟩
  ·exact h.elim
theorem stepJ_iff {i:AI} {K:St→Prop} {s:St}:(∃s1,stepJ P GL i s s1∧K s1)↔awpJI P GL i K s:=by
 constructor
 ·rintro⟨s1,h|⟨d,f,args,fid,caps,vs,rets,rfl,hf,hv,hp,rfl⟩|⟨d,f,args,rets,h',hi,hc,rfl⟩|⟨d,f,q,args,fid,rets,rfl,hf,hp,rfl⟩,hK⟩
  ·unfold awpJI;split
   ·cases h
   ·cases h
   ·cases h
   ·cases h
   ·rw[h];exact hK
  ·exact⟨fid,caps,vs,rets,hf,hv,hp,hK⟩
  ·have key:∀K:St→Prop,K ⟨setO s.e d (retDs rets),h'⟩→awpCall P GL d f args K s:=by
    intro K hK;simp only[awpCall];unfold CallS at hc;split at hc
    ·rename_i r hf;obtain⟨b,hy,rfl⟩:=hc
     first|(rw[hf];exact⟨b,h',hy,hK⟩)|exact⟨b,h',hy,hK⟩
    ·rename_i fid fs hf
     first|(rw[hf];exact⟨rets,h',hc,hK⟩)|exact⟨rets,h',hc,hK⟩
    ·rename_i h1 h2;obtain⟨fid,caps,hf,hs⟩:=hc
     first
      |(simp only[hf];exact⟨rets,h',hs,hK⟩)
      |(split
        ·rename_i r hr;exact absurd hr (h1 r)
        ·rename_i a b hr;exact absurd hr (h2 a b)
        ·simp only[hf];exact⟨rets,h',hs,hK⟩)
   rcases hi with rfl|⟨rfl,ht⟩
   ·exact key K hK
   ·exact key (λs'=>(∃t,s'.h=s.h++t)∧K s') ⟨ht,hK⟩
  ·exact⟨fid,rets,hf,hp,hK⟩
 ·intro h;unfold awpJI at h;split at h
  ·rename_i d f args;obtain⟨fid,caps,vs,rets,hf,hv,hp,hK⟩:=h;exact⟨_,.inr (.inl ⟨d,f,args,fid,caps,vs,rets,rfl,hf,hv,hp,rfl⟩),hK⟩
  ·rename_i d f args;obtain⟨rets,h',hc,hK⟩:=callS_of h;exact⟨_,.inr (.inr (.inl ⟨d,f,args,rets,h',.inl rfl,hc,rfl⟩)),hK⟩
  ·rename_i d f args;obtain⟨rets,h',hc,hq⟩:=callS_of (K:=λs'=>(∃t,s'.h=s.h++t)∧K s') h;obtain⟨ht,hK⟩:=hq;exact⟨_,.inr (.inr (.inl ⟨d,f,args,rets,h',.inr ⟨rfl,ht⟩,hc,rfl⟩)),hK⟩
  ·rename_i d f q args;obtain⟨fid,rets,hf,hp,hK⟩:=h;exact⟨_,.inr (.inr (.inr ⟨d,f,q,args,fid,rets,rfl,hf,hp,rfl⟩)),hK⟩
  ·split at h
   ·rename_i s' hs;exact⟨s',.inl hs,h⟩
   ·exact h.elim
@[simp] theorem awpJ_nil (K:St→Prop) (s:St):awpJ P GL [] K s↔K s:=⟨λ⟨_,h,hK⟩=>by cases h;exact hK,λh=>⟨s,rfl,h⟩⟩
@[simp] theorem awpJ_plain (i:AI) (rest:List GI) (K:St→Prop) (s:St):awpJ P GL (⟨none,i⟩::rest) K s↔awpJI P GL i (awpJ P GL rest K) s:=by
 rw[←stepJ_iff]
 constructor
 ·rintro⟨t,⟨s1,h1,h2⟩,hK⟩;exact⟨s1,h1,t,h2,hK⟩
 ·rintro⟨s1,h1,t,h2,hK⟩;exact⟨t,⟨s1,h1,h2⟩,hK⟩
@[simp] theorem awpJ_guard (t:Nat) (want:Bool) (i:AI) (rest:List GI) (K:St→Prop) (s:St):awpJ P GL (⟨some (t,want),i⟩::rest) K s↔
  match find s.e t with
  | .v (.bool b)=>if b=want then awpJI P GL i (awpJ P GL rest K) s else awpJ P GL rest K ⟨setO s.e i.dst (.tup []),s.h⟩
  | .tup []=>awpJ P GL rest K ⟨setO s.e i.dst (.tup []),s.h⟩
  |_=>False:=by
 have h0:awpJ P GL (⟨some (t,want),i⟩::rest) K s↔∃s1,gstepJ P GL ⟨some (t,want),i⟩ s s1∧awpJ P GL rest K s1:=by
  constructor
  ·rintro⟨t,⟨s1,h1,h2⟩,hK⟩;exact⟨s1,h1,t,h2,hK⟩
  ·rintro⟨s1,h1,t,h2,hK⟩;exact⟨t,⟨s1,h1,h2⟩,hK⟩
 rw[h0];simp only[gstepJ];cases hf:find s.e t with
 |v x=>
  cases x with
  |bool b=>
   simp only[];by_cases hw:b=want
   ·simp only[hw,if_true];exact stepJ_iff
   ·simp only[hw,if_false];exact⟨λ⟨_,h1,h2⟩=>h1▸h2,λh=>⟨_,rfl,h⟩⟩
  |_=>simp only[];exact⟨λ⟨_,h1,_⟩=>h1,λh=>h.elim⟩
 |tup ds=>
  cases ds with
  |nil=>simp only[];exact⟨λ⟨_,h1,h2⟩=>h1▸h2,λh=>⟨_,rfl,h⟩⟩
  |cons d ds=>simp only[];exact⟨λ⟨_,h1,_⟩=>h1,λh=>h.elim⟩
 |_=>simp only[];exact⟨λ⟨_,h1,_⟩=>h1,λh=>h.elim⟩
attribute [simp] awpJI
theorem awp_regD (ops:List GI) (keep:List Nat) (cl:List (List Nat)) (Q:AExit→St→Prop) (s:St):awp P GL (.regD ops keep cl) Q s=awpJ P GL ops (λs'=>Q .normal ⟨normE s'.e keep,s'.h⟩) s:=rfl
theorem awp_regA (ops:List GI) (keep:List Nat) (cl:List (List Nat)) (t:AT) (Q:AExit→St→Prop) (s:St):awp P GL (.regA ops keep cl t) Q s=t.ok P GL ops (λs'=>∃s2,RenS s.h.length s' s2∧Q .normal ⟨normE s2.e keep,s2.h⟩) s:=rfl
@[simp] theorem atok_done (is:List GI) (K:St→Prop) (s:St):AT.done.ok P GL is K s=K s:=rfl
@[simp] theorem atok_take (is:List GI) (i:Nat) (t:AT) (K:St→Prop) (s:St):(AT.take i t).ok P GL is K s↔awpJ P GL [is.getD i default] (t.ok P GL is K) s:=
 ⟨λ⟨s1,h1,h2⟩=>⟨s1,⟨s1,h1,rfl⟩,h2⟩,λ⟨s1,⟨s2,h1,h2⟩,h3⟩=>by cases h2;exact⟨_,h1,h3⟩⟩
@[simp] theorem atok_pick (is:List GI) (c:AT) (K:St→Prop) (s:St):(AT.pick c).ok P GL is K s=c.ok P GL is K s:=rfl
@[simp] theorem atok_alt (is:List GI) (i:Nat) (t r:AT) (K:St→Prop) (s:St):(AT.alt i t r).ok P GL is K s↔awpJ P GL [is.getD i default] (t.ok P GL is K) s∧r.ok P GL is K s:=
 ⟨λ⟨⟨s1,h1,h2⟩,h⟩=>⟨⟨s1,⟨s1,h1,rfl⟩,h2⟩,h⟩,λ⟨⟨s1,⟨s2,h1,h2⟩,h3⟩,h⟩=>by cases h2;exact⟨⟨_,h1,h3⟩,h⟩⟩
@[simp] theorem atok_none (is:List GI) (K:St→Prop) (s:St):AT.none.ok P GL is K s=True:=rfl
theorem atok_mono {is:List GI} (t:AT):∀ {K K':St→Prop} {s:St},(∀s,K s→K' s)→t.ok P GL is K s→t.ok P GL is K' s:=by
 induction t with
 |done=>intro K K' s hk h;exact hk _ h
 |take i t ih=>rintro K K' s hk ⟨s1,h1,h2⟩;exact⟨s1,h1,ih hk h2⟩
 |pick c ih=>intro K K' s hk h;exact ih (s:=s) hk h
 |alt i t r iht ihr=>rintro K K' s hk ⟨⟨s1,h1,h2⟩,h⟩;exact⟨⟨s1,h1,iht hk h2⟩,ihr hk h⟩
 |none=>intro K K' s hk h;trivial
theorem awp_reg (ops:List GI) (keep:List Nat) (Q:AExit→St→Prop) (s:St):awp P GL (.reg ops keep) Q s=awpOps P GL ops (λs'=>Q .normal ⟨normE s'.e keep,s'.h⟩) s:=rfl
theorem awp_seq (a b:AC) (Q:AExit→St→Prop) (s:St):awp P GL (.seq a b) Q s=awp P GL a (λe s'=>match e with| .normal=>awp P GL b Q s'|e=>Q e s') s:=rfl
theorem awp_cond (x:Opd) (a b:AC) (Q:AExit→St→Prop) (s:St):awp P GL (.cond x a b) Q s=match x.ev s.e with| .v (.bool t)=>if t then awp P GL a Q s else awp P GL b Q s|_=>False:=rfl
theorem awp_block (id:Nat) (c:AC) (Q:AExit→St→Prop) (s:St):awp P GL (.block id c) Q s=awp P GL c (λe s'=>match e with| .exit id'=>if id'=id then Q .normal s' else Q (.exit id') s'|e=>Q e s') s:=rfl
theorem awp_skip (Q:AExit→St→Prop) (s:St):awp P GL .skip Q s=Q .normal s:=rfl
theorem awp_exit (id:Nat) (Q:AExit→St→Prop) (s:St):awp P GL (.exit id) Q s=Q (.exit id) s:=rfl
theorem awp_ret (Q:AExit→St→Prop) (s:St):awp P GL .ret Q s=Q .ret s:=rfl
theorem awp_rangeF (q:Opd) (ps:List Nat) (asg body:AC) (Q:AExit→St→Prop) (s:St):awp P GL (.rangeF q ps asg body) Q s=
  ∃fid caps rets h' tag,fnOf (q.ev s.e)=some (fid,caps)∧FSp P GL fid (.yld s.h.length::caps) (s.h++[recRow P GL .ready (cpE s.e) ps asg body]) rets h'∧
   h'[s.h.length]?=some (recRow P GL tag (cpE s.e) ps asg body)∧rangeEnd Q ⟨s.e,h'.set s.h.length .dead⟩ tag:=rfl
theorem awp_regV (ops:List GI) (keep:List Nat) (cl:List (List Nat)) (Q:AExit→St→Prop) (s:St):awp P GL (.regV ops keep cl) Q s=AnyD P GL ops cl (λs'=>Q .normal ⟨normE s'.e keep,s'.h⟩) ops.length (List.range ops.length) s:=rfl
theorem awpI_mono {i:AI} {K K':St→Prop} {s:St} (hk:∀s,K s→K' s) (h:awpI P GL i K s):awpI P GL i K' s:=by
 have hcall:∀ {d f args},awpCall P GL d f args K s→awpCall P GL d f args K' s:=by
  intro d f args h;unfold awpCall at h ⊢;split at h
  ·obtain⟨a,b,h1,h3⟩:=h;exact⟨a,b,h1,hk _ h3⟩
  ·obtain⟨a,b,h1,h3⟩:=h;exact⟨a,b,h1,hk _ h3⟩
  ·split at h
   ·obtain⟨a,b,h1,h3⟩:=h;exact⟨a,b,h1,hk _ h3⟩
   ·exact h
 unfold awpI at h ⊢;split at h
 ·exact hcall h
 ·exact hcall h
 ·exact hcall h
 ·obtain⟨a,b,h1,h2,h3⟩:=h;exact⟨a,b,h1,h2,hk _ h3⟩
 ·split at h
  ·exact⟨h.1,h.2.1,λb=>hk _ (h.2.2 b)⟩
  ·exact h
 ·split at h
  ·split at h
   ·split at h
    ·exact hk _ h
    ·exact h
   ·exact hk _ h
   ·exact h
  ·rcases h with ⟨r,h1,h2,h3⟩|⟨r,q,c,seen,es,st,h1,h2,h3,h4,h5⟩
   ·exact .inl ⟨r,h1,h2,hk _ h3⟩
   exact .inr ⟨r,q,c,seen,es,st,h1,h2,h3,λh=>hk _ (h4 h),λi y kv a1 a2 a3=>hk _ (h5 i y kv a1 a2 a3)⟩
  ·obtain⟨r,q,c,seen,es,st,i,y,kv,h1,h2,h3,h4,h5,h6⟩:=h;exact⟨r,q,c,seen,es,st,i,y,kv,h1,h2,h3,h4,h5,hk _ h6⟩
  ·exact h
 ·obtain⟨a,b,c,h1,h2,h3⟩:=h;exact⟨a,b,c,h1,h2,hk _ h3⟩
 ·split at h
  ·refine⟨h.1,h.2.1,?_⟩;rcases h.2.2 with ⟨h1,h2⟩|h
   ·exact .inl ⟨h1,hk _ h2⟩
   ·refine .inr ?_;split at h
    ·rename_i hy;rw[if_pos hy];exact hk _ h
    ·rename_i hy;rw[if_neg hy];exact hk _ h
  ·refine⟨h.1,h.2.1,?_⟩;rcases h.2.2 with ⟨h1,h2,h3⟩|h
   ·exact .inl ⟨h1,h2,hk _ h3⟩
   ·refine .inr ⟨h.1,?_⟩;have h:=h.2;split at h
    ·rename_i hy;rw[if_pos hy];exact hk _ h
    ·rename_i hy;rw[if_neg hy];exact hk _ h
  ·exact hk _ h
  ·exact h
 ·split at h
  ·exact hk _ h
  ·exact hk _ h
  ·split at h
   ·obtain⟨h0,xs,h1,h2,h3,h4⟩:=h;exact⟨h0,xs,h1,h2,h3,hk _ h4⟩
   ·exact h
  ·exact h
 ·split at h
  ·exact⟨hk _ h.1,hk _ h.2⟩
  ·exact⟨hk _ h.1,hk _ h.2⟩
  ·exact hk _ h
  ·exact h
 ·split at h
  ·exact hk _ h
  ·exact h
theorem awpG_mono {x:GI} {K K':St→Prop} {s:St} (hk:∀s,K s→K' s) (h:awpG P GL x K s):awpG P GL x K' s:=by
 unfold awpG at h ⊢;split at h
 ·exact awpI_mono hk h
 ·split at h
  ·split at h
   ·rename_i hw;rw[if_pos hw];exact awpI_mono hk h
   ·rename_i hw;rw[if_neg hw];exact hk _ h
  ·exact hk _ h
  ·exact h
theorem awpOps_mono:∀ {ops:List GI} {K K':St→Prop} {s:St},(∀s,K s→K' s)→awpOps P GL ops K s→awpOps P GL ops K' s
 |[],_,_,_,hk,h=>hk _ h
 |x::rest,_,_,_,hk,h=>awpG_mono (λs h=>awpOps_mono hk h) h
theorem anyD_mono {is:List GI} {cl:List (List Nat)}:∀(n:Nat) {rem:List Nat} {K K':St→Prop} {s:St},(∀s,K s→K' s)→AnyD P GL is cl K n rem s→AnyD P GL is cl K' n rem s
 |0,_,_,_,s,hk,h=>hk s h
 |n+1,rem,_,_,s,hk,h=>λi hi hj=>awpG_mono (λs h=>anyD_mono n hk h) (h i hi hj)
theorem awp_mono:∀(c:AC) {Q Q':AExit→St→Prop} {s:St},(∀e s,Q e s→Q' e s)→awp P GL c Q s→awp P GL c Q' s:=by
 intro c;induction c with
 |skip=>intro Q Q' s hq h;exact hq _ _ h
 |reg ops keep=>intro Q Q' s hq h;exact awpOps_mono (λs h=>hq _ _ h) h
 |regA ops keep cl t=>intro Q Q' s hq h;exact atok_mono t (λs ⟨s2,h1,h2⟩=>⟨s2,h1,hq _ _ h2⟩) h
 |regV ops keep cl=>intro Q Q' s hq h;exact anyD_mono _ (λs h=>hq _ _ h) h
 |regD ops keep cl=>rintro Q Q' s hq ⟨t,h1,h2⟩;exact⟨t,h1,hq _ _ h2⟩
 |seq a b iha ihb=>
  intro Q Q' s hq h;refine iha ?_ h;intro e s h;cases e with
  |normal=>exact ihb hq h
  |exit i=>exact hq _ _ h
  |ret=>exact hq _ _ h
 |cond x a b iha ihb=>
  intro Q Q' s hq h;simp only[awp]at h ⊢;split at h
  ·rename_i t ht;cases t with
   |true=>exact iha hq h
   |false=>exact ihb hq h
  ·exact h
 |block id c ih=>
  intro Q Q' s hq h;refine ih ?_ h;intro e s h;cases e with
  |exit i=>simp only at h ⊢;split at h<;>rename_i hi<;>simp only[hi,if_true,if_false]<;>exact hq _ _ h
  |normal=>exact hq _ _ h
  |ret=>exact hq _ _ h
 |loop c ih=>
  intro Q Q' s hq h;obtain⟨I,h0,h⟩:=h;refine⟨I,h0,λm s hi=>ih ?_ (h m s hi)⟩;intro e s h;cases e with
  |normal=>exact h
  |exit i=>exact hq _ _ h
  |ret=>exact hq _ _ h
 |exit id=>intro Q Q' s hq h;exact hq _ _ h
 |ret=>intro Q Q' s hq h;exact hq _ _ h
 |scope c ih=>intro Q Q' s hq h;exact ih hq h
 |never=>intro Q Q' s hq h;exact h
 |rangeF q ps asg body _ _=>
  rintro Q Q' s hq ⟨fid,caps,rets,h',tag,h1,h2,h3,h4⟩;refine⟨fid,caps,rets,h',tag,h1,h2,h3,?_⟩;cases tag with
  |ready=>exact hq _ _ h4
  |busy=>exact h4
  |done e=>cases e<;>exact hq _ _ h4
theorem fsp_calls {f:Nat} {args rets:List D} {h h':List Row} (H:okF P f=true∧∀(g:Gh) (w:World) (μ:List Nat) (us:List Value) (O:Nat→Prop),us.length=args.length→Inv g w μ (atL .any args) (atL undef us) h O→GlobOK GL g→
  Calls P f us.toArray w λe w'=>∃v g' μ',e= .returned v∧Inv g' w' μ' (at0 .any (retDs rets)) (at0 (.bool false) v) h' O∧Chg (λb=>¬O b) g w g' w'∧μ <+: μ'):FSp P GL f args h rets h':=by
 obtain⟨h1,h2⟩:=H;refine⟨h1,λg w μ us O hinv hgl hall htame=>h2 g w μ us O hall.1 (hinv.enter (λn=>?_) (λn k=>?_)) hgl⟩
 ·simp only[atL];cases hx:args[n]? with
  |none=>simp[RepD,RepG,RepE]
  |some x=>
   obtain⟨v,hv,hr⟩:=hall.get hx;rw[hv];exact hr.toD
 ·simp only[atL];cases hx:args[n]? with
  |none=>cases k<;>simp[ownAt,own1]
  |some x=>
   obtain⟨v,hv,hr⟩:=hall.get hx;rw[hv];exact ownAt_of1 hr (htame n x v hx hv) k
theorem fsp_tidy {f n:Nat} {ac:AC} {rs:List AR} {args rets:List D} {h h':List Row} (hk:chkF P GL f n ac rs=true) (hn:args.length=n)
  (hw:awp P GL ac (λe s=>(match e with| .exit _=>False|_=>True)∧∃y,resDs s rs=some y∧∀g w μ t u O,Inv g w μ t u s.h O→y=rets∧Inv g w μ t u h' O) ⟨entryD args,h⟩):FSp P GL f args h rets h':=by
 refine fsp_calls (calls_core (rets:=rets) (h':=h') hk hn (awp_mono ac (λe s=>by
  rintro⟨h1,y,h2,h3⟩;exact⟨h1,y,h2,λg w μ v O hi=>⟨g,μ,λ_ _ h=>h,by obtain⟨rfl,h4⟩:=h3 _ _ _ _ _ _ hi;exact h4,Chg.refl _ _ _⟩⟩) hw))
theorem fsp_of_awp {f n:Nat} {ac:AC} {rs:List AR} {args rets:List D} {h h':List Row} (hk:chkF P GL f n ac rs=true) (hn:args.length=n)
  (hw:awp P GL ac (λe s=>(match e with| .exit _=>False|_=>True)∧resDs s rs=some rets∧s.h=h') ⟨entryD args,h⟩):FSp P GL f args h rets h':=by
 refine fsp_tidy hk hn ?_;have hm:∀e s,((match e with|AExit.exit _=>False|_=>True)∧resDs s rs=some rets∧s.h=h')→((match e with|AExit.exit _=>False|_=>True)∧∃y,resDs s rs=some y∧∀g w μ t u O,Inv g w μ t u s.h O→y=rets∧Inv g w μ t u h' O):=by
  rintro e s ⟨h1,h2,rfl⟩;exact⟨h1,rets,h2,λ_ _ _ _ _ _ hi=>⟨rfl,hi⟩⟩
 exact awp_mono ac hm hw
theorem awp_loop_nat {c:AC} {Q:AExit→St→Prop} (n:Nat) (S:Nat→St)
  (h:∀k,k≤n→awp P GL c (λe s'=>match e with| .normal=>k <n∧s'=S (k+1)|e=>Q e s') (S k)) (k:Nat) (hk:k≤n):awp P GL (.loop c) Q (S k):=by
 refine⟨λm s=>∃k,k≤n∧m=n-k∧s=S k,⟨n-k,k,hk,rfl,rfl⟩,?_⟩;rintro m s ⟨k,hk,rfl,rfl⟩;refine awp_mono c ?_ (h k hk);intro e s' h;cases e with
 |normal=>obtain⟨hlt,rfl⟩:=h;exact⟨n-(k+1),by omega,k+1,hlt,rfl,rfl⟩
 |exit i=>exact h
 |ret=>exact h
end
def mb (n:Nat):Nat:=Nat.shiftLeft 1 n
def mh (m n:Nat):Bool:=Nat.beq (Nat.land (Nat.shiftRight m n) 1) 1
def md (m n:Nat):Nat:=Nat.xor (Nat.lor m (mb n)) (mb n)
def mbs:Nat→Nat→Nat→List Nat
 |0,_,_=>[]
 |k+1,m,i=>bif Nat.beq m 0 then [] else bif Nat.beq (Nat.land m 1) 1 then i::mbs k (Nat.shiftRight m 1) (Nat.add i 1) else mbs k (Nat.shiftRight m 1) (Nat.add i 1)
def ml (m:Nat):List Nat:=mbs 500 m 0
def um:List Operand→Nat
 |[]=>0
 | .tmp t::l=>Nat.lor (mb t) (um l)
 |_::l=>um l
def usO (o:Oper):Nat:=um o.op.operands.toList
def nth {α:Type}:List α→Nat→Option α
 |[],_=>none
 |x::_,0=>some x
 |_::l,n+1=>nth l n
inductive Tr (α:Type) where
 |lf
 |nd (l:Tr α) (x:α) (r:Tr α)
def Tr.get {α:Type}:Tr α→Nat→Option α
 | .lf,_=>none
 | .nd l x r,n=>bif Nat.beq n 0 then some x else bif Nat.beq (Nat.land n 1) 1 then l.get (Nat.shiftRight n 1) else r.get (Nat.sub (Nat.shiftRight n 1) 1)
def odds {α:Type}:List α→List α
 |x::_::l=>x::odds l
 |l=>l
def Tr.mk {α:Type}:Nat→List α→Tr α
 |n+1,x::l=> .nd (Tr.mk n (odds l)) x (Tr.mk n (odds l.tail))
 |_,_=> .lf
inductive Bx (α:Type) where
 |mk {x:α}
inductive TD where
 |none
 |bool
 |int (k:IntKind)
 |string
 |pointer (e:Nat)
 |slice (e:Nat)
 |array (n e:Nat)
 |map (k e:Nat)
 |struct (fs:List (Nat×Nat))
 |ref
 |tuple (es:List Nat)
 |func
 |named (u:Nat)
structure TI where
 d:TD
 size:Nat
 bytes:Nat
def tiO (i:TypeInfo):TI:=⟨match i.desc with
 | .bool=> .bool
 | .int k=> .int k
 | .string=> .string
 | .pointer e=> .pointer e
 | .slice e=> .slice e
 | .array n e=> .array n e
 | .map k e=> .map k e
 | .struct fs=> .struct (fs.toList.map λf=>(f.offset,f.type))
 | .interface _=> .ref
 | .chan _ _=> .ref
 | .tuple es=> .tuple es.toList
 | .func _ _ _=> .func
 | .named _ u=> .named u
 |_=> .none,i.size,i.bytes⟩
structure Pg where
 T:Tr TI
 F:Tr (Bx Func)
def Pg.inf (P:Pg) (t:Nat):Option TI:=P.T.get t
def Pg.und (P:Pg) (t:Nat):Option TD:=match P.inf t with
 |some ⟨.named u,_,_⟩=>(match P.inf u with|some i=>some i.d|none=>none)
 |some i=>some i.d
 |none=>none
def boxes:List Func→List (Bx Func)
 |[]=>[]
 |x::l=> @Bx.mk Func x::boxes l
section
variable (P:Pg)
def szT (t:Nat):Nat:=match P.inf t with|some i=>i.size|none=>0
def byT (t:Nat):Nat:=match P.inf t with|some i=>i.bytes|none=>0
def elT (t:Nat):Nat:=match P.und t with|some (.slice e)=>e|some (.pointer e)=>e|some (.map _ e)=>e|some (.array _ e)=>e|_=>0
def agT (t:Nat):Bool:=match P.und t with|some (.struct _)=>true|some (.array _ _)=>true|_=>false
def slT (t:Nat):Bool:=match P.und t with|some (.slice _)=>true|_=>false
def stT (t:Nat):Bool:=match P.und t with|some .string=>true|_=>false
def mvT (t:Nat):Bool:=match P.und t with|some (.slice _)=>true|some (.tuple _)=>true|_=>false
def fds (t:Nat):List (Nat×Nat):=match P.und t with|some (.struct fs)=>fs|_=>[]
def reps {α:Type}:Nat→List α→List α
 |0,_=>[]
 |n+1,l=>l++reps n l
def ceT:Nat→Nat→List Nat
 |0,t=>[t]
 |n+1,t=>match P.und t with
  |some (.struct fs)=>fs.flatMap λf=>ceT n f.2
  |some (.array k e)=>reps k (ceT n e)
  |_=>[t]
def reT:Nat→Nat→Bool
 |0,_=>false
 |n+1,t=>match P.und t with
  |some (.pointer _)=>true
  |some (.map _ _)=>true
  |some .func=>true
  |some .ref=>true
  |some (.struct fs)=>fs.any λf=>reT n f.2
  |some (.tuple es)=>es.any (reT n)
  |_=>false
variable (I J:Nat→Int) (GL:Globals)
def z0 (row:Bool) (t:Nat):D:=match P.und t with
 |some (.int k)=> .v (.int k (I 0))
 |some .bool=> .v (.bool false)
 |some .string=> .v (.str .empty)
 |some (.slice e)=>bif row then .own e (szT P e) [] else .nil e (szT P e)
 |some (.pointer _)=> .v .nilp
 |some (.map _ _)=> .v .nilm
 |some .func=> .v .nilf
 |_=> .any
def zs (row:Bool) (t:Nat):List D:=(ceT P 5 t).map (z0 P I row)
def cV:Value→V
 | .int k (.ofNat n)=> .int k (I n)
 | .int k (.negSucc n)=> .int k (J (Nat.add n 1))
 | .bool b=> .bool b
 | .string s=> .str s
 | .pointer _=> .nilp
 | .map _=> .nilm
 | .slice _ _ _=> .list []
 | .agg cs=> .agg (cs.toList.map fun
  | .int k (.ofNat n)=> .int k (I n)
  | .int k (.negSucc n)=> .int k (J (Nat.add n 1))
  | .bool b=> .bool b
  | .string s=> .str s
  | .map _=> .nilm
  | .slice _ _ _=> .list []
  | .nilFunc=> .nilf
  |_=> .nilp)
 |_=> .nilf
def oq (mv own:Bool) (t:Nat):Operand→Opd
 | .tmp n=> .t n mv
 | .const (.slice _ _ _)=> .c (bif own then .own (elT P t) (szT P (elT P t)) [] else .nil (elT P t) (szT P (elT P t)))
 | .const v=> .c (.v (cV I J v))
 | .func f=> .c (.v (.func f []))
 | .global g=> .g g (match GL.find? λp=>Nat.beq p.1 g with|some p=>p.2.map (cV I J)|none=>[])
def oqs (ts:List Nat):List Operand→List Opd
 |[]=>[]
 |x::xs=>(match ts with|t::_=>oq P I J GL false false t x|[]=>oq P I J GL false false 0 x)::oqs ts.tail xs
def oo:Option Operand→Option Opd
 |none=>none
 |some x=>some (oq P I J GL false false 0 x)
def kq (t:Nat):Nat:=match P.und t with|some .bool=>1|some .string=>2|_=>0
def kS (t:Nat):Bool:=match P.und t with|some (.map k _)=>agT P k|_=>false
def kK (t:Nat):List Nat:=match P.und t with|some (.map k _)=>(ceT P 5 k).map (kq P)|_=>[]
def isZ:Option Operand→Bool
 |some (.const (.int _ (.ofNat 0)))=>true
 |_=>false
def fOf (o:Operand):Nat:=match o with| .func f=>f|_=>1000000
def isT (o:Operand):Bool:=match o with| .tmp _=>true|_=>false
def neB:BinOp→Bool
 | .neq=>true
 |_=>false
abbrev Hint:=Nat→Nat→Nat
variable (H:Hint) (dr:Bool) (fn:Nat) (ops:List Oper)
def gcall (d:Option Nat) (ty:Nat) (f:Operand) (args:List Operand) (ats:List Nat):AI:=
 let q:=oq P I J GL false false 0 f
 let asx:=oqs P I J GL ats args
 match (bif Nat.beq (match d with|some t=>H fn (Nat.add 2000000 t)|none=>0) 5 then 5 else H fn (fOf f))with
 |3=> .callN d q asx
 |4=>match args with
  |x::xs=> .callO d q (oq P I J GL (isT x) false (ats.headD 0) x) (oqs P I J GL ats.tail xs)
  |[]=> .call d q asx
 |5=>bif dr then .callC d q asx else .call d q asx
 |7=> .call d q asx
 |6=>bif dr&&(ats.any (reT P 5)||reT P 5 ty||isT f) then .callC d q asx else .call d q asx
 |_=>bif dr&&(ats.any (reT P 5)||reT P 5 ty||isT f) then .callF d q asx else .call d q asx
def isBase (d:Nat) (o:Oper):Bool:=match o.op with
 | .call c=>(match c.callee with| .builtin .append=>(match c.args.toList with| .tmp n::_=>Nat.beq n d|_=>false)|_=>false)
 |_=>false
def genI (dd:Nat→Bool) (o:Oper):Option AI:=
 let O:=oq P I J GL false false
 let mO (t:Nat) (x:Operand):=match x with| .tmp n=> .t n (mvT P t&&dd n)|x=>O t x
 let d:=o.dst.getD 0
 let p (i:PI):Option AI:=some (.p d i)
 let h:=H fn (Nat.add 2000000 d)
 let mI (x:Operand):AI:=match h with
  |0=> .mv d (match x with| .tmp n=> .t n (mvT P o.type&&dd n)|x=>oq P I J GL false true o.type x)
  |1=> .mv d (oq P I J GL true true o.type x)
  |2=> .mv d (oq P I J GL false true o.type x)
  |s=> .frz d (O o.type x) (Nat.sub s 10)
 match o.op with
 | .move x=>some (mI x)
 | .assign x=>some (mI x)
 | .pick c a b=>p (.pick (O 0 c) (O o.type a) (O o.type b))
 | .alloc t=>some (.alloc d (zs P I true t))
 | .box t x=>some (.box d (O t x))
 | .build t ps=>p (.build (zs P I false t) (ps.toList.map λq=>match P.und t with
  |some (.array _ e)=>(Nat.mul q.1 (szT P e),szT P e,O e q.2)
  |_=>match nth (fds P t) q.1 with|some f=>(f.1,szT P f.2,O f.2 q.2)|none=>(0,0,O 0 q.2)))
 | .buildSlice t _ ps=>some (bif Nat.beq h 0 then .bsl d (elT P t) (szT P (elT P t)) (ps.toList.map λq=>O (elT P t) q.2) else .bsr d (szT P (elT P t)) (ps.toList.map λq=>O (elT P t) q.2))
 | .load t a=>bif slT P t&&ops.any (isBase d) then some (.take d (O 0 a)) else p (.load (O 0 a) (szT P t) (agT P t))
 | .store t a x=>some (.store (O 0 a) (mO t x) (szT P t))
 | .nilCheck x=>p (.nilc (O 0 x))
 | .binOp b t x y _=>match P.und t with
  |some (.int _)=>p (.bin b (O t x) (O t y))
  |some .string=>p (.bin b (O t x) (O t y))
  |some .bool=>p (.eqB (neB b) (O t x) (O t y))
  |some (.pointer _)=>p (.eqP (neB b) (O t x) (O t y))
  |some (.slice _)=>some (.nilS d (neB b) (O 0 x))
  |some (.struct _)=>p (.eqA (neB b) ((ceT P 5 t).map (kq P)) (O t x) (O t y))
  |_=>none
 | .unOp u _ x=>match u with
  | .not=>p (.not (O 0 x))
  | .neg=>p (.neg (O 0 x))
  | .xor=>p (.inv (O 0 x))
  |_=>none
 | .convert a b x=>match P.und b with
  |some (.int k)=>p (.cint k (O 0 x))
  |some (.slice _)=>some (.s2b d (O 0 x))
  |some .string=>p (.b2s (O a x))
  |_=>none
 | .fieldAddr t x i=>match nth (fds P t) i with
  |some f=>p (.faddr (O 0 x) f.1 (szT P f.2))
  |none=>none
 | .field t x i=>match nth (fds P t) i with
  |some f=>p (.fld (O 0 x) f.1 (szT P f.2) (agT P f.2))
  |none=>none
 | .indexAddr t x i=>match P.und t with
  |some (.slice e)=>p (.iaddr (O t x) (O 0 i) (szT P e))
  |some (.array n e)=>p (.iaddrA (O 0 x) (O 0 i) n (szT P e))
  |_=>none
 | .index t x i=>match P.und t with
  |some .string=>p (.idxS (O 0 x) (O 0 i))
  |some (.array n e)=>p (.idxA (O 0 x) (O 0 i) n (szT P e) (agT P e))
  |_=>none
 | .slice t x lo hi mx=>match P.und t with
  |some (.slice e)=>match mx with
   |none=>p (.slc (O t x) (oo P I J GL lo) (oo P I J GL hi) (szT P e))
   |m=>bif isZ hi&&isZ m then p (.slc0 (O t x) e (szT P e)) else none
  |some .string=>p (.slcS (O 0 x) (oo P I J GL lo) (oo P I J GL hi))
  |_=>none
 | .makeSlice t x _=>bif Nat.beq (szT P (elT P t)) 1&&Nat.beq (H fn 1000001) 0 then some (.mksl d (O 0 x) (z0 P I true (elT P t))) else some (.mksz d (O 0 x) (zs P I true (elT P t)))
 | .makeMap _ _=>some (.mkm d)
 | .lookup t x i ok=>p (.look (O 0 x) (O 0 i) (kS P t) (kK P t) (zs P I false (elT P t)) (agT P (elT P t)) ok)
 | .mapUpdate t x i v=>some (.mput (O 0 x) (O 0 i) (O (elT P t) v) (kS P t) (kK P t))
 | .insert t x i v=>some (.mput (O 0 x) (O 0 i) (O (elT P t) v) (kS P t) (kK P t))
 | .mapEntry t x i=>some (.ment d (O 0 x) (O 0 i) (kS P t) (kK P t))
 | .entryStore t x i v=>some (.mest (O 0 x) (O 0 i) (O (elT P t) v))
 | .extract x i=>p (.ext (O 0 x) i)
 | .range _ x=>some (.itr 0 d (O 0 x))
 | .next x s=>bif s then none else some (.itr 1 d (O 0 x))
 | .entry x=>some (.itr 2 d (O 0 x))
 | .makeFunc (.func f) first caps=>match first.toList with
  |[]=>p (.mkf f (oqs P I J GL [] caps.toList))
  |l=>p (.mkme f (oqs P I J GL [] l))
 | .call c=>
  let ats:=c.argTypes.toList
  let t0:=ats.headD 0
  match c.callee with
  | .value f=>some (gcall P I J GL H dr fn o.dst o.type f c.args.toList ats)
  | .builtin .len=>match c.args.toList with
   |x::_=>match P.und t0 with
    |some (.slice _)=>p (.alen (O t0 x))
    |some .string=>p (.lenS (O 0 x))
    |some (.map _ _)=>p (.mlen (O 0 x))
    |_=>none
   |[]=>none
  | .builtin .delete=>match c.args.toList with
   |x::y::_=>some (.mdel o.dst (O 0 x) (O 0 y) (kS P t0) (kK P t0))
   |_=>none
  | .builtin .max=>match c.args.toList with
   |[x,y]=>p (.minmax true (O o.type x) (O o.type y))
   |_=>none
  | .builtin .min=>match c.args.toList with
   |[x,y]=>p (.minmax false (O o.type x) (O o.type y))
   |_=>none
  | .builtin .append=>match c.args.toList with
   |x::y::_=>
    let t1:=ats.tail.headD 0
    let e:=elT P t0
    let b:=oq P I J GL (isT x) false t0 x
    bif stT P t1 then some (.appS d b (O 0 y) e (byT P e)) else match h with
     |0=>some (.app d b (O t1 y) e (szT P e) (byT P e))
     |1=>some (.appR d b (O t1 y) e (szT P e) (byT P e))
     |_=>some (.appR d (O t0 x) (O t1 y) e (szT P e) (byT P e))
   |_=>none
  | .builtin .clear=>match c.args.toList with
   |x::_=>some (.clr o.dst (O t0 x) (zs P I true (elT P t0)))
   |[]=>none
  | .builtin .copy=>match c.args.toList with
   |x::y::_=>some (.cpy o.dst (O t0 x) (O (ats.tail.headD 0) y) (szT P (elT P t0)))
   |_=>none
  |_=>none
 |_=>none
def gtm (j:Nat):Nat:=match nth ops j with|some o=>(match o.dst with|some t=>mb t|none=>0)|none=>0
def lvO:List Oper→Nat→Nat
 |[],out=>out
 |o::r,out=>match o.guard,o.dst with
  |none,some d=>Nat.lor (md (lvO r out) d) (usO o)
  |none,none=>Nat.lor (lvO r out) (usO o)
  |some g,some d=>bif mh (usO o) d then Nat.lor (Nat.lor (lvO r out) (usO o)) (gtm ops g.1) else md (Nat.lor (Nat.lor (lvO r out) (usO o)) (gtm ops g.1)) d
  |some g,none=>Nat.lor (Nat.lor (lvO r out) (usO o)) (gtm ops g.1)
def usG (o:Oper):Nat:=match o.guard with|some g=>Nat.lor (usO o) (gtm ops g.1)|none=>(usO o)
def deadO:List Oper→Nat→Nat→Bool
 |[],out,n=> !mh out n
 |o::r,out,n=>bif mh (usG ops o) n then false else match o.guard,o.dst with
  |none,some d=>bif Nat.beq d n then true else deadO r out n
  |_,_=>deadO r out n
def genG:Nat→List Oper→Option (List GI)
 |_,[]=>some []
 |out,o::r=>match genI P I J GL H dr fn ops (deadO ops r out) o,genG out r with
  |some i,some l=>some (⟨match o.guard with|none=>none|some g=>(match nth ops g.1 with|some q=>(match q.dst with|some t=>some (t,g.2)|none=>none)|none=>none),i⟩::l)
  |_,_=>none
end
def lkE:List (Nat×Nat)→Nat→Nat
 |[],_=>0
 |(k,m)::l,n=>bif Nat.beq k n then m else lkE l n
def exM (ex:List (Nat×Nat)) (ret:Nat):Code→Nat
 | .seq a b=>Nat.lor (exM ex ret a) (exM ex ret b)
 | .cond _ a b=>Nat.lor (exM ex ret a) (exM ex ret b)
 | .block _ c=>exM ex ret c
 | .loop c=>exM ex ret c
 | .scope c=>exM ex ret c
 | .rangeFunc _ _ a b=>Nat.lor (exM ex ret a) (exM ex ret b)
 | .exit i=>lkE ex i
 | .ret=>ret
 |_=>0
def mds (m:Nat):List Nat→Nat
 |[]=>m
 |t::l=>mds (md m t) l
def ex0:List (Nat×Nat)→List (Nat×Nat)
 |[]=>[]
 |(k,_)::l=>(k,0)::ex0 l
def lvC:List (Nat×Nat)→Nat→Code→Nat→Nat
 |_,ret,.ret,_=>ret
 |ex,ret,.seq a b,out=>lvC ex ret a (lvC ex ret b out)
 |_,_,.region _ ops _,out=>lvO ops.toList ops.toList out
 |ex,ret,.cond x a b,out=>Nat.lor (Nat.lor (lvC ex ret a out) (lvC ex ret b out)) (um [x])
 |ex,ret,.block i c,out=>lvC ((i,out)::ex) ret c out
 |ex,ret,.loop c,_=>lvC ex ret c 0
 |ex,ret,.scope c,out=>lvC ex ret c out
 |ex,ret,.rangeFunc g ps a b,out=>Nat.lor (Nat.lor (um [g]) (mds (lvC (ex0 ex) 0 a (lvC (ex0 ex) 0 b 0)) ps.toList)) (Nat.lor out (exM ex ret b))
 |ex,_,.exit i,_=>lkE ex i
 |_,_,_,out=>out
def bfO (acc:List Nat):List Edge→Nat
 |[]=>0
 |e::l=>bif Region.binds .any e then Nat.lor (Nat.lor (mb e.on) ((nth acc e.on).getD 0)) (bfO acc l) else bfO acc l
def cls:List Nat→List Oper→List Nat
 |acc,[]=>acc
 |acc,o::l=>cls (acc++[bfO acc o.after.toList]) l
def clos (ops:List Oper):List (List Nat):=(cls [] ops).map ml
def free (is:List GI) (cl:List (List Nat)):Bool:=
 (is.zipIdx.all λp=>match nth cl p.2 with
  |some c=>is.zipIdx.all λq=>bif Nat.blt q.2 p.2 then c.any (Nat.beq q.2)||indep q.1 p.1 else true
  |none=>false)
def tree (is:List GI) (cl:List (List Nat)):Nat→List Nat→AT
 |0,_=> .none
 |n+1,rem=>match rem with
  |[]=> .done
  |_=>match rem.find? λi=>rdy cl rem i&&rem.all λj=>Nat.beq j i||((nth cl j).getD []).any (Nat.beq i)||indep (is.getD i default) (is.getD j default)with
   |some i=> .take i (tree is cl n (rem.filter λj=> !Nat.beq j i))
   |none=> .pick ((rem.filter (rdy cl rem)).foldr (λi r=> .alt i (tree is cl n (rem.filter λj=> !Nat.beq j i)) r) .none)
def iP (n:Nat):Int:= @OfNat.ofNat Int n _
def iN (n:Nat):Int:= -@OfNat.ofNat Int n _
def regC (P:Pg) (GL:Globals) (H:Hint) (f:Nat) (r:Nat→List GI) (id:Nat) (ops:List Oper) (dr:Bool) (out:Nat):AC:=
 match genG P iP iN GL H dr f ops out ops with
 |none=> .never
 |some is=>bif Nat.beq (H f (Nat.add 3000000 id)) 1 then .regV (r id) (ml out) (clos ops) else bif dr then (bif free is (clos ops) then .regD (r id) (ml out) (clos ops) else .regA (r id) (ml out) (clos ops) (tree is (clos ops) (Nat.add is.length 1) (List.range is.length))) else .reg (r id) (ml out)
def nL:Code→Nat
 | .seq a b=>Nat.add (nL a) (nL b)
 | .cond _ a b=>Nat.add (nL a) (nL b)
 | .block _ c=>nL c
 | .loop c=>Nat.add (nL c) 1
 | .scope c=>nL c
 | .rangeFunc _ _ a b=>Nat.add (Nat.add (nL a) (nL b)) 1
 |_=>0
section
variable (P:Pg) (GL:Globals) (H:Hint) (f:Nat) (r:Nat→List GI) (l:Nat→AC)
def genC:List (Nat×Nat)→Nat→Code→Nat→Nat→AC
 |_,_,.skip,_,_=> .skip
 |_,_,.ret,_,_=> .ret
 |_,_,.exit i,_,_=> .exit i
 |_,_,.region id ops dr,out,_=>regC P GL H f r id ops.toList dr out
 |ex,ret,.seq a b,out,n=> .seq (genC ex ret a (lvC ex ret b out) n) (genC ex ret b out (Nat.add n (nL a)))
 |ex,ret,.cond x a b,out,n=> .cond (oq P iP iN GL false false 0 x) (genC ex ret a out n) (genC ex ret b out (Nat.add n (nL a)))
 |ex,ret,.block i c,out,n=> .block i (genC ((i,out)::ex) ret c out n)
 |_,_,.loop _,_,n=> .loop (l n)
 |ex,ret,.scope c,out,n=> .scope (genC ex ret c out n)
 |_,_,.label _,_,_=> .skip
 |_,_,.rangeFunc g ps _ _,_,n=> .rangeF (oq P iP iN GL false false 0 g) ps.toList (l n) (l (Nat.add n 1000))
 |_,_,_,_,_=> .never
def genL (k:Nat):List (Nat×Nat)→Nat→Code→Nat→Nat→AC
 |ex,ret,.seq a b,out,n=>bif Nat.blt (Nat.mod k 1000) (Nat.add n (nL a)) then genL k ex ret a (lvC ex ret b out) n else genL k ex ret b out (Nat.add n (nL a))
 |ex,ret,.cond _ a b,out,n=>bif Nat.blt (Nat.mod k 1000) (Nat.add n (nL a)) then genL k ex ret a out n else genL k ex ret b out (Nat.add n (nL a))
 |ex,ret,.block i c,out,n=>genL k ((i,out)::ex) ret c out n
 |ex,ret,.scope c,out,n=>genL k ex ret c out n
 |ex,ret,.loop c,_,n=>bif Nat.beq n k then genC P GL H f r l ex ret c (lvC ex ret c 0) (Nat.add n 1) else genL k ex ret c (lvC ex ret c 0) (Nat.add n 1)
 |ex,_,.rangeFunc _ _ a b,_,n=>bif Nat.beq n k then genC P GL H f r l (ex0 ex) 0 a (lvC (ex0 ex) 0 b 0) (Nat.add n 1)
  else bif Nat.beq (Nat.add n 1000) k then genC P GL H f r l (ex0 ex) 0 b 0 (Nat.add (Nat.add n 1) (nL a))
  else bif Nat.blt (Nat.mod k 1000) (Nat.add (Nat.add n 1) (nL a)) then genL k (ex0 ex) 0 a (lvC (ex0 ex) 0 b 0) (Nat.add n 1) else genL k (ex0 ex) 0 b 0 (Nat.add (Nat.add n 1) (nL a))
 |_,_,_,_,_=> .never
def fO (id:Nat):List (Nat×Nat)→Nat→Code→Nat→Option (List Oper×Bool×Nat)
 |ex,ret,.seq a b,out=>match fO id ex ret a (lvC ex ret b out)with
  |some x=>some x
  |none=>fO id ex ret b out
 |ex,ret,.cond _ a b,out=>match fO id ex ret a out with
  |some x=>some x
  |none=>fO id ex ret b out
 |ex,ret,.block i c,out=>fO id ((i,out)::ex) ret c out
 |ex,ret,.scope c,out=>fO id ex ret c out
 |ex,ret,.loop c,_=>fO id ex ret c (lvC ex ret c 0)
 |ex,_,.rangeFunc _ _ a b,_=>match fO id (ex0 ex) 0 a (lvC (ex0 ex) 0 b 0)with
  |some x=>some x
  |none=>fO id (ex0 ex) 0 b 0
 |_,_,.region j ops dr,out=>bif Nat.beq j id then some (ops.toList,dr,out) else none
 |_,_,_,_=>none
def fnB:Code:=match P.F.get f with|some (@Bx.mk _ fn)=>(match fn.body with|some c=>c|none=> .skip)|none=> .skip
def rtM:List ResultVar→Nat
 |[]=>0
 | .tmp t::l=>Nat.lor (mb t) (rtM l)
 | .cell t _::l=>Nat.lor (mb t) (rtM l)
def fnR:List ResultVar:=match P.F.get f with|some (@Bx.mk _ fn)=>fn.results.toList|none=>[]
def genF:AC:=genC P GL H f r l [] (rtM (fnR P f)) (fnB P f) (rtM (fnR P f)) 0
def genFL (k:Nat):AC:=genL P GL H f r l k [] (rtM (fnR P f)) (fnB P f) (rtM (fnR P f)) 0
def genFO (I J:Nat→Int) (k:Nat):List GI:=match fO k [] (rtM (fnR P f)) (fnB P f) (rtM (fnR P f))with
 |some (ops,dr,out)=>(genG P I J GL H dr f ops out ops).getD []
 |none=>[]
def genFR:List AR:=(fnR P f).map fun
 | .tmp t=> .t t
 | .cell a t=> .c a (szT P t) (agT P t)
def genFN:Nat:=match P.F.get f with|some (@Bx.mk _ fn)=>Nat.add fn.params.size fn.nfree|none=>0
end
abbrev GLx:Globals:=[(0,[.int .i64 655,.int .i64 1,.int .i64 1,.int .i64 257,.int .i64 61,.int .i64 20,.int .i64 17,.int .i64 17,.int .i64 49,.int .i64 17,.int .i64 1,.int .i64 1,.int .i64 5,.int .i64 281,.int .i64 5,.int .i64 257,.int .i64 77,.int .i64 29,.int .i64 17,.int .i64 1024,.int .i64 18,.int .i64 50]),(1,[.int .i64 0,.int .i64 120,.int .i64 0,.int .i64 120,.int .i64 0,.int .i64 120,.int .i64 0,.int .i64 120,.int .i64 0,.int .i64 120,.int .i64 0,.int .i64 120,.int .i64 0,.int .i64 120,.int .i64 1,.int .i64 100,.int .i64 1,.int .i64 100,.int .i64 0,.int .i64 1099511627776,.int .i64 0,.int .i64 1099511627776,.int .i64 0,.int .i64 1099511627776,.int .i64 0,.int .i64 1099511627776,.int .i64 0,.int .i64 1099511627776,.int .i64 0,.int .i64 1099511627776,.int .i64 0,.int .i64 1099511627776,.int .i64 0,.int .i64 1099511627776,.int .i64 0,.int .i64 100,.int .i64 0,.int .i64 100]),(2,[.int .i64 31,.int .i64 28,.int .i64 31,.int .i64 30,.int .i64 31,.int .i64 30,.int .i64 31,.int .i64 31,.int .i64 30,.int .i64 31,.int .i64 30,.int .i64 31]),(3,[.int .i64 10,.int .i64 2,.int .i64 11,.int .i64 12,.int .i64 3,.int .i64 12,.int .i64 14,.int .i64 4,.int .i64 13,.int .i64 18,.int .i64 5,.int .i64 14])]
def cIr0:List GI:=[⟨none,.mv 4 (.c (.v (.int .i64 0)))⟩]
def cIr1:List GI:=[⟨none,.mv 6 (.t 0 false)⟩,⟨none,.p 7 (.alen (.t 6 false))⟩,⟨none,.mv 8 (.c (.v (.int .i64 0)))⟩]
def cIr2:List GI:=[⟨none,.p 9 (.bin .lss (.t 8 false) (.t 7 false))⟩]
def cIr3:List GI:=[⟨none,.mv 10 (.t 8 false)⟩,⟨none,.mv 5 (.t 10 false)⟩]
def cIr4 (s:Nat) (g:Bool):List GI:=[⟨none,.mv 11 (.t 1 false)⟩,⟨none,.mv 12 (.t 0 false)⟩,⟨none,.mv 13 (.t 5 false)⟩,⟨none,.p 14 (.iaddr (.t 12 false) (.t 13 false) s)⟩,⟨none,.p 15 (.load (.t 14 false) s g)⟩,⟨none,.call (some 16) (.t 11 false) [(.t 15 false)]⟩]
def cIr5:List GI:=[⟨none,.mv 17 (.t 5 false)⟩,⟨none,.mv 4 (.t 17 false)⟩]
def cIr6:List GI:=[⟨none,.p 18 (.bin .add (.t 8 false) (.c (.v (.int .i64 1))))⟩,⟨none,.mv 8 (.t 18 false)⟩]
def cIr7:List GI:=[⟨none,.mv 4 (.c (.v (.int .i64 (-1))))⟩]
def cIl0 (s:Nat) (g:Bool):AC:=(.seq (.reg cIr2 [0,1,7,8,9]) (.seq (.cond (.t 9 false) .skip (.exit 0)) (.seq (.block 1 (.seq (.reg cIr3 [0,1,5,7,8]) (.seq (.reg (cIr4 s g) [0,1,5,7,8,16]) (.cond (.t 16 false) (.seq (.reg cIr5 [4]) .ret) .skip)))) (.reg cIr6 [0,1,7,8]))))
def cI (s:Nat) (g:Bool):AC:=(.seq (.reg cIr0 [0,1]) (.seq (.seq (.reg cIr1 [0,1,7,8]) (.block 0 (.loop (cIl0 s g)))) (.seq (.reg cIr7 [4]) .ret)))
def cIR:List AR:=[.t 4]
def cJr0:List GI:=[⟨none,.mv 4 (.c (.v (.bool false)))⟩]
def cJr1 (f:Nat):List GI:=[⟨none,.mv 5 (.t 0 true)⟩,⟨none,.mv 6 (.t 1 false)⟩,⟨none,.call (some 7) (.c (.v (.func f []))) [(.t 5 false),(.t 6 false)]⟩,⟨none,.p 8 (.bin .geq (.t 7 false) (.c (.v (.int .i64 0))))⟩,⟨none,.mv 4 (.t 8 false)⟩]
def cJ (f:Nat):AC:=(.seq (.reg cJr0 [0,1]) (.seq (.reg (cJr1 f) [4]) .ret))
abbrev PX:=PSp Go.Proofs.Tryz.prog GLx
abbrev FX:=FSp Go.Proofs.Tryz.prog GLx
open Go.Proofs
section
abbrev lit {α:Type} (l:α) {x:α} (_h:l=x:=by conv=>lhs;reduce):α:=x
set_option maxHeartbeats 2000000
noncomputable def tyL:List TypeInfo:=Tryz.prog.types.toList
noncomputable def fnL:List (Bx Func):=boxes Tryz.prog.funcs.toList
noncomputable def PT:Tr TI:=lit (Tr.mk 1000 (tyL.map tiO))
noncomputable def PF:Tr (Bx Func):=lit (Tr.mk 1000 fnL)
noncomputable def PG:Pg:=⟨PT,PF⟩
noncomputable def hints:Hint
 |67,120=>3
 |291,346=>3
 |160,3000003=>1
 |492,516=>3
 |12,2000020=>1
 |12,2000032=>1
 |136,2000042=>1
 |136,2000044=>2
 |37,3000004=>1
 |444,467=>7
 |444,468=>7
 |_,_=>0
def c37r4:List GI:=[⟨none,.take 22 (.t 6 false)⟩,
 ⟨none,.p 23 (.load (.t 8 false) 4 true)⟩,
 ⟨none,.p 24 (.alen (.t 22 false))⟩,
 ⟨none,.bsl 25 71 4 [(.c (.v (.agg [.int .i64 0,.int .i64 0,.list [],.list []])))]⟩,
 ⟨none,.appP 26 (.t 22 true) (.t 25 false) 71 4 64⟩,
 ⟨none,.p 27 (.iaddrP (.t 26 true) (.t 24 false) 4)⟩,
 ⟨none,.fin 26 (.t 6 false) (.t 27 false) (.t 23 false) 4⟩,
 ⟨none,.store (.t 6 false) (.t 26 true) 1⟩]
def c12r1:List GI:=[⟨none,.p 15 (.build [.nil 3 1,.nil 97 3,.nil 47 3] [])⟩,⟨none,.alloc 9 [.own 3 1 [],.own 97 3 [],.own 47 3 []]⟩,⟨none,.store (.t 9 false) (.t 15 true) 3⟩]
def c12r (o k m t sz by_:Nat) (r:Bool):List GI:=[⟨none,.p k (.faddr (.t 9 false) o 1)⟩,⟨none,.p (k+1) (.load (.t k false) 1 false)⟩,⟨none,.p (k+2) (.faddr (.t 4 false) o 1)⟩,⟨none,.p (k+3) (.load (.t (k+2) false) 1 false)⟩,
 ⟨none,if r then .appR (k+4) (.t (k+1) true) (.t (k+3) false) t sz by_ else .app (k+4) (.t (k+1) true) (.t (k+3) false) t sz by_⟩,⟨none,.p (k+5) (.faddr (.t 9 false) o 1)⟩,⟨none,.store (.t (k+5) false) (.t (k+4) true) m⟩]
def c12r2:List GI:=lit (c12r 0 16 1 3 1 8 true)
def c12r3:List GI:=lit (c12r 1 22 1 97 3 24 false)
def c12r4:List GI:=lit (c12r 2 28 1 47 3 72 true)
def byH:Nat→Nat→Option (List GI)
 |37,4=>some c37r4
 |12,1=>some c12r1
 |12,2=>some c12r2
 |12,3=>some c12r3
 |12,4=>some c12r4
 |_,_=>none
noncomputable def oG (f k:Nat):List GI:=match byH f k with
 |some x=>x
 |none=>genFO PG GLx hints f iP iN k
theorem oG37:oG 37 4=c37r4:=rfl
theorem oG12a:oG 12 1=c12r1:=rfl
theorem oG12b:oG 12 2=c12r2:=rfl
theorem oG12c:oG 12 3=c12r3:=rfl
theorem oG12d:oG 12 4=c12r4:=rfl
noncomputable def lGn (f:Nat):Nat→Nat→AC
 |0,_=> .never
 |n+1,k=>genFL PG GLx hints f (oG f) (lGn f n) k
noncomputable def lG (f k:Nat):AC:=lGn f 9 k
noncomputable def gA (f:Nat):AC:=genF PG GLx hints f (oG f) (lG f)
noncomputable def gR (f:Nat):List AR:=genFR PG f
noncomputable def gN (f:Nat):Nat:=genFN PG f
theorem oGe (f k:Nat) (hn:byH f k=none):oG f k=genFO PG GLx hints f iP iN k:=by unfold oG;rw[hn]
theorem Zge (f k:Nat) {x:(Nat→Int)→(Nat→Int)→List GI} (h:(λI J=>genFO PG GLx hints f I J k)=x:=by conv=>lhs;reduce) (hn:byH f k=none:=by rfl):oG f k=x (λn=> @OfNat.ofNat Int n _) (λn=> -@OfNat.ofNat Int n _):=(oGe f k hn).trans (congrFun (congrFun h iP) iN)
theorem Zga (f:Nat) {x:(Nat→List GI)→(Nat→AC)→AC} (h:(λr l=>genF PG GLx hints f r l)=x:=by conv=>lhs;reduce):gA f=x (oG f) (lG f):=by subst h;rfl
theorem Zgl (f k:Nat) {x:(Nat→List GI)→(Nat→AC)→AC} (h:(λr l=>genFL PG GLx hints f r l k)=x:=by conv=>lhs;reduce) (h2:lG f k=x (oG f) (lG f):=by kernel_rfl):lG f k=x (oG f) (lG f):=h2
abbrev la (f:Nat) {x:(Nat→List GI)→(Nat→AC)→AC} (_h:(λr l=>genF PG GLx hints f r l)=x:=by conv=>lhs;reduce):AC:=x (oG f) (lG f)
abbrev ll (f k:Nat) {x:(Nat→List GI)→(Nat→AC)→AC} (_h:(λr l=>genFL PG GLx hints f r l k)=x:=by conv=>lhs;reduce):AC:=x (oG f) (lG f)
theorem Zgr (f:Nat) {x:List AR} (h:gR f=x:=by conv=>lhs;reduce):gR f=x:=h
theorem Zkk (f:Nat) (h:chkF Tryz.prog GLx f (gN f) (gA f) (gR f)=true:=by kernel_rfl):chkF Tryz.prog GLx f (gN f) (gA f) (gR f)=true:=h
end
theorem k149:chkF Tryz.prog GLx 74 2 (cJ 122) cIR=true:=by kernel_rfl
theorem k151:chkF Tryz.prog GLx 76 2 (cJ 123) cIR=true:=by kernel_rfl
theorem k153:chkF Tryz.prog GLx 78 2 (cJ 124) cIR=true:=by kernel_rfl
theorem k251:chkF Tryz.prog GLx 122 2 (cI 4 true) cIR=true:=by kernel_rfl
theorem k252:chkF Tryz.prog GLx 123 2 (cI 1 false) cIR=true:=by kernel_rfl
theorem k253:chkF Tryz.prog GLx 124 2 (cI 3 true) cIR=true:=by kernel_rfl
theorem k254:chkF Tryz.prog GLx 125 2 (cI 3 true) cIR=true:=by kernel_rfl
theorem k256:chkF Tryz.prog GLx 127 2 (cJ 166) cIR=true:=by kernel_rfl
theorem k307:chkF Tryz.prog GLx 166 2 (cI 8 true) cIR=true:=by kernel_rfl
mutual
def V.beq:V→V→Bool
 | .int k n,.int k' n'=>decide (k=k')&&decide (n=n')
 | .bool b,.bool b'=>b==b'
 | .str s,.str s'=>decide (s=s')
 | .list xs,.list ys=>V.beqs xs ys
 | .agg xs,.agg ys=>V.beqs xs ys
 | .ptr xs,.ptr ys=>V.beqs xs ys
 | .nilp,.nilp=>true
 | .func f cs,.func g ds=>f==g&&V.beqs cs ds
 | .nilf,.nilf=>true
 | .nilm,.nilm=>true
 |_,_=>false
def V.beqs:List V→List V→Bool
 |[],[]=>true
 |x::xs,y::ys=>V.beq x y&&V.beqs xs ys
 |_,_=>false
end
mutual
theorem V.beq_eq:∀ {x y:V},V.beq x y=true→x=y
 | .int k n,y,h=>by cases y<;>simp_all [V.beq]
 | .bool b,y,h=>by cases y<;>simp_all [V.beq]
 | .str s,y,h=>by cases y<;>simp_all [V.beq]
 | .list xs,y,h=>by cases y<;>simp only[V.beq,Bool.false_eq_true]at h;rw[V.beqs_eq h]
 | .agg xs,y,h=>by cases y<;>simp only[V.beq,Bool.false_eq_true]at h;rw[V.beqs_eq h]
 | .ptr xs,y,h=>by cases y<;>simp only[V.beq,Bool.false_eq_true]at h;rw[V.beqs_eq h]
 | .nilp,y,h=>by cases y<;>simp_all [V.beq]
 | .func f cs,y,h=>by
  cases y<;>simp only[V.beq,Bool.false_eq_true,Bool.and_eq_true,beq_iff_eq]at h
  rw[h.1,V.beqs_eq h.2]
 | .nilf,y,h=>by cases y<;>simp_all [V.beq]
 | .nilm,y,h=>by cases y<;>simp_all [V.beq]
theorem V.beqs_eq:∀ {xs ys:List V},V.beqs xs ys=true→xs=ys
 |[],ys,h=>by cases ys<;>simp_all [V.beqs]
 |x::xs,ys,h=>by
  cases ys with
  |nil=>simp[V.beqs]at h
  |cons y ys=>
   simp only[V.beqs,Bool.and_eq_true]at h;rw[V.beq_eq h.1,V.beqs_eq h.2]
end
mutual
def D.beq:D→D→Bool
 | .v x,.v y=>V.beq x y
 | .any,.any=>true
 | .nil e s,.nil e' s'=>e==e'&&s==s'
 | .own e s xs,.own e' s' ys=>e==e'&&s==s'&&V.beqs xs ys
 | .agg ds,.agg es=>D.beqs ds es
 | .tup ds,.tup es=>D.beqs ds es
 | .ref r o,.ref r' o'=>r==r'&&o==o'
 | .sref r n,.sref r' n'=>r==r'&&n==n'
 | .mref r,.mref r'=>r==r'
 | .func f cs,.func g ds=>f==g&&D.beqs cs ds
 | .meth f cs,.meth g ds=>f==g&&D.beqs cs ds
 | .yld r,.yld r'=>r==r'
 |_,_=>false
def D.beqs:List D→List D→Bool
 |[],[]=>true
 |x::xs,y::ys=>D.beq x y&&D.beqs xs ys
 |_,_=>false
end
mutual
theorem D.beq_eq:∀ {x y:D},D.beq x y=true→x=y
 | .v x,y,h=>by cases y<;>simp only[D.beq,Bool.false_eq_true]at h;rw[V.beq_eq h]
 | .any,y,h=>by cases y<;>simp_all [D.beq]
 | .nil e s,y,h=>by cases y<;>simp_all [D.beq]
 | .own e s xs,y,h=>by
  cases y<;>simp only[D.beq,Bool.false_eq_true,Bool.and_eq_true,beq_iff_eq]at h
  rw[h.1.1,h.1.2,V.beqs_eq h.2]
 | .agg ds,y,h=>by cases y<;>simp only[D.beq,Bool.false_eq_true]at h;rw[D.beqs_eq h]
 | .tup ds,y,h=>by cases y<;>simp only[D.beq,Bool.false_eq_true]at h;rw[D.beqs_eq h]
 | .ref r o,y,h=>by cases y<;>simp_all [D.beq]
 | .sref r n,y,h=>by cases y<;>simp_all [D.beq]
 | .mref r,y,h=>by cases y<;>simp_all [D.beq]
 | .func f cs,y,h=>by
  cases y<;>simp only[D.beq,Bool.false_eq_true,Bool.and_eq_true,beq_iff_eq]at h
  rw[h.1,D.beqs_eq h.2]
 | .meth f cs,y,h=>by
  cases y<;>simp only[D.beq,Bool.false_eq_true,Bool.and_eq_true,beq_iff_eq]at h
  rw[h.1,D.beqs_eq h.2]
 | .yld r,y,h=>by cases y<;>simp_all [D.beq]
 | .pend b e s xs,y,h=>by simp[D.beq]at h
 | .pptr b s n,y,h=>by simp[D.beq]at h
theorem D.beqs_eq:∀ {xs ys:List D},D.beqs xs ys=true→xs=ys
 |[],ys,h=>by cases ys<;>simp_all [D.beqs]
 |x::xs,ys,h=>by
  cases ys with
  |nil=>simp[D.beqs]at h
  |cons y ys=>
   simp only[D.beqs,Bool.and_eq_true]at h;rw[D.beq_eq h.1,D.beqs_eq h.2]
end
def beqL {α:Type} (f:α→α→Bool):List α→List α→Bool
 |[],[]=>true
 |x::xs,y::ys=>f x y&&beqL f xs ys
 |_,_=>false
theorem beqL_eq {α:Type} {f:α→α→Bool} (hf:∀x y,f x y=true→x=y):∀ {xs ys:List α},beqL f xs ys=true→xs=ys
 |[],ys,h=>by cases ys<;>simp_all [beqL]
 |x::xs,ys,h=>by
  cases ys with
  |nil=>simp[beqL]at h
  |cons y ys=>
   simp only[beqL,Bool.and_eq_true]at h;rw[hf _ _ h.1,beqL_eq hf h.2]
def Row.beq:Row→Row→Bool
 | .cells ds,.cells es=>D.beqs ds es
 | .map es bs ck,.map fs cs dk=>beqL (λp q=>V.beq p.1 q.1&&V.beq p.2 q.2) es fs&&beqL (λa b:Nat=>a==b) bs cs&&ck==dk
 | .dead,.dead=>true
 |_,_=>false
theorem Row.beq_eq {x y:Row} (h:Row.beq x y=true):x=y:=by
 cases x<;>cases y<;>simp only[Row.beq,Bool.false_eq_true]at h
 ·rw[D.beqs_eq h]
 ·simp only[Bool.and_eq_true,beq_iff_eq]at h;rw[beqL_eq (λp q h=>by
   simp only[Bool.and_eq_true]at h;exact Prod.ext (V.beq_eq h.1) (V.beq_eq h.2)) h.1.1,beqL_eq (λa b h=>by simpa using h) h.1.2,h.2]
 ·rfl
mutual
def D.lt (n:Nat):D→Bool
 | .ref r _=>decide (r <n)
 | .sref r _=>decide (r <n)
 | .mref r=>decide (r <n)
 | .yld r=>decide (r <n)
 | .agg ds=>D.lts n ds
 | .tup ds=>D.lts n ds
 | .func _ ds=>D.lts n ds
 | .meth _ ds=>D.lts n ds
 |_=>true
def D.lts (n:Nat):List D→Bool
 |[]=>true
 |d::ds=>D.lt n d&&D.lts n ds
end
def Row.lt (n:Nat):Row→Bool
 | .cells ds=>D.lts n ds
 |_=>true
def kill (n:Nat) (h:List Row):List Row:=h.take n++List.replicate (h.length-n) .dead
theorem kill_len (n:Nat) (h:List Row):(kill n h).length=h.length:=by simp[kill];omega
theorem kill_get (n:Nat) (h:List Row) (r:Nat):(kill n h)[r]?=if r <n then h[r]? else if r <h.length then some .dead else none:=by
 simp only[kill];by_cases h1:r <n
 ·rw[if_pos h1];by_cases h2:r <h.length
  ·rw[List.getElem?_append_left (by simp;omega),List.getElem?_take,if_pos h1]
  ·rw[List.getElem?_eq_none (by simp;omega),List.getElem?_eq_none (by omega)]
 ·rw[if_neg h1];by_cases h2:r <h.length
  ·rw[if_pos h2,List.getElem?_append_right (by simp;omega),List.getElem?_replicate,if_pos (by simp;omega)]
  ·rw[if_neg h2,List.getElem?_eq_none (by simp;omega)]
theorem Inv.kill {g:Gh} {w:World} {μ:List Nat} {t:Nat→D} {u:Nat→Value} {h:List Row} {O:Nat→Prop} (hi:Inv g w μ t u h O) (n:Nat):Inv g w μ t u (Go.Va.kill n h) O:=by
 have hcell:∀r k v b,own1 (cellD (Go.Va.kill n h) r k) v=some b→own1 (cellD h r k) v=some b:=by
  intro r k v b hb;simp only[cellD,kill_get]at hb ⊢;by_cases h1:r <n
  ·simp only[h1,if_true]at hb;exact hb
  ·simp only[h1,if_false]at hb;by_cases h2:r <h.length
   ·simp[h2,own1]at hb
   ·simp[h2,own1]at hb
 have hblk:∀p b,blk t u (Go.Va.kill n h) w μ p=some b→blk t u h w μ p=some b:=by
  intro p b hp;cases p with
  |tmp m k=>exact hp
  |cell r k=>exact hcell r k _ b hp
 refine⟨hi.agree,hi.olt,hi.rep,by rw[kill_len];exact hi.len,?_,hi.nod,hi.mo,λp q b hp hq=>hi.uniq p q b (hblk p b hp) (hblk q b hq),λp b hp=>hi.sep p b (hblk p b hp)⟩;intro r row b hr hb;rw[kill_get]at hr;by_cases h1:r <n
 ·rw[if_pos h1]at hr;exact hi.rows r row b hr hb
 ·rw[if_neg h1]at hr;by_cases h2:r <h.length
  ·rw[if_pos h2]at hr;simp only[Option.some.injEq]at hr;subst hr;exact(hi.rows r _ b (List.getElem?_eq_getElem h2) hb).lt
  ·rw[if_neg h2]at hr;cases hr
theorem FSp.kill {P:Program} {GL:Globals} {f:Nat} {args rets:List D} {h h':List Row} (hf:FSp P GL f args h rets h') (n:Nat):FSp P GL f args h rets (Go.Va.kill n h'):=by
 refine⟨hf.1,λg w μ us O hinv hgl hall htame=>(hf.2 g w μ us O hinv hgl hall htame).mono ?_⟩;rintro e w' ⟨v,g',μ',rfl,h3,h4⟩;exact⟨v,g',μ',rfl,h3.kill n,h4⟩
structure LD where
 e:Env
 ps:List Nat
 asg:AC
 body:AC
abbrev Lp:=List (Nat×Tag×LD)
def Lp.get:Lp→Nat→Option (Tag×LD)
 |[],_=>none
 |x::t,r=>if x.1=r then some x.2 else Lp.get t r
def Lp.tag:Lp→Nat→Tag→Lp
 |[],_,_=>[]
 |x::t,r,g=>if x.1=r then (r,g,x.2.2)::t else x::Lp.tag t r g
def Tag.beq:Tag→Tag→Bool
 | .ready,.ready=>true
 | .busy,.busy=>true
 | .done none,.done none=>true
 | .done (some i),.done (some j)=>i==j
 |_,_=>false
theorem Tag.beq_eq {x y:Tag} (h:Tag.beq x y=true):x=y:=by
 unfold Tag.beq at h;split at h<;>simp_all
def Lp.beq:Lp→Lp→Bool
 |[],[]=>true
 |x::t,y::u=>x.1==y.1&&Tag.beq x.2.1 y.2.1&&Lp.beq t u
 |_,_=>false
structure ES where
 e:Env
 h:List Row
 t:Lp
section
variable (P:Program) (GL:Globals)
def Lp.ins:Lp→List Row→List Row
 |[],h=>h
 |x::t,h=>(Lp.ins t h).set x.1 (recRow P GL x.2.1 x.2.2.e x.2.2.ps x.2.2.asg x.2.2.body)
end
def Lp.has (t:Lp) (r:Nat):Prop:=r∈t.map (·.1)
structure OKT (t:Lp) (h:List Row):Prop where
 dead:∀r,t.has r→h[r]?=some .dead
 nod:(t.map (·.1)).Nodup
def Lp.kin:Lp→Lp→Prop
 |[],[]=>True
 |x::t,y::u=>x.1=y.1∧x.2.2=y.2.2∧Lp.kin t u
 |_,_=>False
theorem Lp.kin.refl:∀t:Lp,t.kin t
 |[]=>trivial
 |x::t=>⟨rfl,rfl,Lp.kin.refl t⟩
theorem Lp.kin.trans:∀ {a b c:Lp},a.kin b→b.kin c→a.kin c
 |[],[],[],_,_=>trivial
 |x::a,y::b,z::c,h,h'=>⟨h.1.trans h'.1,h.2.1.trans h'.2.1,Lp.kin.trans h.2.2 h'.2.2⟩
 |[],[],_::_,_,h=>h.elim
 |[],_::_,_,h,_=>h.elim
 |_::_,[],_,h,_=>h.elim
 |_::_,_::_,[],_,h=>h.elim
theorem Lp.kin.map:∀ {a b:Lp},a.kin b→a.map (·.1)=b.map (·.1)
 |[],[],_=>rfl
 |x::a,y::b,h=>by simp only[List.map_cons,h.1,Lp.kin.map h.2.2]
 |[],_::_,h=>h.elim
 |_::_,[],h=>h.elim
theorem Lp.kin_tag:∀(t:Lp) (r:Nat) (g:Tag),t.kin (t.tag r g)
 |[],_,_=>trivial
 |x::t,r,g=>by
  simp only[Lp.tag];split
  ·rename_i h;exact⟨h,rfl,Lp.kin.refl t⟩
  ·exact⟨rfl,rfl,Lp.kin_tag t r g⟩
theorem Lp.beq_eq:∀ {a t u:Lp},a.kin t→a.kin u→Lp.beq t u=true→t=u
 |[],[],[],_,_,_=>rfl
 |x::a,y::t,z::u,h,h',hb=>by
  simp only[Lp.beq,Bool.and_eq_true,beq_iff_eq]at hb;have h1:=Tag.beq_eq hb.1.2;have h2:=Lp.beq_eq h.2.2 h'.2.2 hb.2;have h3:y=z:=Prod.ext hb.1.1 (Prod.ext h1 (h.2.1.symm.trans h'.2.1));rw[h2,h3]
 |[],[],_::_,_,h,_=>h.elim
 |[],_::_,_,h,_,_=>h.elim
 |_::_,[],_,h,_,_=>h.elim
 |_::_,_::_,[],_,h,_=>h.elim
section
variable {P:Program} {GL:Globals}
theorem ins_len:∀(t:Lp) (h:List Row),(t.ins P GL h).length=h.length
 |[],h=>rfl
 |x::t,h=>by simp only[Lp.ins,List.length_set,ins_len t h]
theorem ins_get:∀(t:Lp) {h:List Row} {r:Nat},¬t.has r→(t.ins P GL h)[r]?=h[r]?
 |[],h,r,_=>rfl
 |x::t,h,r,hn=>by
  simp only[Lp.has,List.map_cons,List.mem_cons,not_or]at hn;simp only[Lp.ins];rw[List.getElem?_set_ne (Ne.symm hn.1)];exact ins_get t hn.2
theorem ins_loop:∀(t:Lp) {h:List Row} {r:Nat} {g:Tag} {l:LD},r <h.length→t.get r=some (g,l)→(t.ins P GL h)[r]?=some (recRow P GL g l.e l.ps l.asg l.body)
 |[],h,r,g,l,_,hg=>by simp[Lp.get]at hg
 |x::t,h,r,g,l,hl,hg=>by
  simp only[Lp.get]at hg;simp only[Lp.ins];by_cases hx:x.1=r
  ·simp only[hx,if_true,Option.some.injEq]at hg;rw[hx,List.getElem?_set_self (by rw[ins_len];exact hl),hg]
  ·simp only[hx,if_false]at hg;rw[List.getElem?_set_ne hx];exact ins_loop t hl hg
theorem ins_set:∀(t:Lp) {h:List Row} {r:Nat} (x:Row),¬t.has r→t.ins P GL (h.set r x)=(t.ins P GL h).set r x
 |[],h,r,x,_=>rfl
 |y::t,h,r,x,hn=>by
  simp only[Lp.has,List.map_cons,List.mem_cons,not_or]at hn;simp only[Lp.ins,ins_set t x hn.2];rw[List.set_comm _ _ hn.1]
theorem ins_append:∀(t:Lp) {h:List Row} (x:Row),(∀r,t.has r→r <h.length)→t.ins P GL (h++[x])=t.ins P GL h++[x]
 |[],h,x,_=>rfl
 |y::t,h,x,hn=>by
  simp only[Lp.ins];rw[ins_append t x λr hr=>hn r (by simp only[Lp.has,List.map_cons,List.mem_cons];exact .inr hr)];rw[List.set_append_left _ _ (by rw[ins_len];exact hn y.1 (by simp[Lp.has]))]
theorem ins_appendL:∀(t:Lp) {h:List Row} (l:List Row),(∀r,t.has r→r <h.length)→t.ins P GL (h++l)=t.ins P GL h++l
 |[],h,l,_=>rfl
 |y::t,h,l,hn=>by
  simp only[Lp.ins];rw[ins_appendL t l λr hr=>hn r (by simp only[Lp.has,List.map_cons,List.mem_cons];exact .inr hr)];rw[List.set_append_left _ _ (by rw[ins_len];exact hn y.1 (by simp[Lp.has]))]
theorem get_has:∀(t:Lp) {r:Nat} {x:Tag×LD},t.get r=some x→t.has r
 |[],r,x,h=>by simp[Lp.get]at h
 |y::t,r,x,h=>by
  simp only[Lp.get]at h;simp only[Lp.has,List.map_cons,List.mem_cons];split at h
  ·rename_i hy;exact .inl hy.symm
  ·exact .inr (get_has t h)
theorem ins_tag:∀(t:Lp) {h:List Row} {r:Nat} {g g':Tag} {l:LD},(t.map (·.1)).Nodup→t.get r=some (g,l)→(t.tag r g').ins P GL h=(t.ins P GL h).set r (recRow P GL g' l.e l.ps l.asg l.body)
 |[],h,r,g,g',l,_,hg=>by simp[Lp.get]at hg
 |x::t,h,r,g,g',l,hn,hg=>by
  simp only[List.map_cons,List.nodup_cons]at hn;simp only[Lp.get]at hg;simp only[Lp.tag,Lp.ins];by_cases hx:x.1=r
  ·simp only[hx,if_true,Option.some.injEq]at hg;simp only[hx,if_true,Lp.ins,List.set_set,hg]
  ·simp only[hx,if_false]at hg;simp only[hx,if_false,Lp.ins];rw[ins_tag t hn.2 hg,List.set_comm _ _ (Ne.symm hx)]
theorem get_kin:∀ {t u:Lp} {r:Nat} {g g':Tag} {l l':LD},t.kin u→t.get r=some (g,l)→u.get r=some (g',l')→l=l'
 |[],[],r,g,g',l,l',_,h,_=>by simp[Lp.get]at h
 |x::t,y::u,r,g,g',l,l',hk,h,h'=>by
  simp only[Lp.get]at h h';by_cases hx:x.1=r
  ·rw[←hk.1]at h';simp only[hx,if_true,Option.some.injEq]at h h';have:=hk.2.1;rw[h,h']at this;exact this
  ·rw[←hk.1]at h';simp only[hx,if_false]at h h';exact get_kin hk.2.2 h h'
 |[],_::_,_,_,_,_,_,h,_,_=>h.elim
 |_::_,[],_,_,_,_,_,h,_,_=>h.elim
theorem OKT.nothas {t:Lp} {h:List Row} (hk:OKT t h) {r:Nat} {x:Row} (hr:h[r]?=some x) (hx:x≠ .dead):¬t.has r:=λhh=>by
 rw[hk.dead r hh]at hr;simp only[Option.some.injEq]at hr;exact hx hr.symm
theorem OKT.get {t:Lp} {h:List Row} (hk:OKT t h) {r:Nat} {x:Row} (hr:h[r]?=some x) (hx:x≠ .dead):(t.ins P GL h)[r]?=some x:=by
 rw[ins_get t (hk.nothas hr hx)];exact hr
theorem OKT.set {t:Lp} {h:List Row} (hk:OKT t h) {r:Nat} {x y:Row} (hr:h[r]?=some x) (hx:x≠ .dead):OKT t (h.set r y)∧t.ins P GL (h.set r y)=(t.ins P GL h).set r y:=by
 refine⟨⟨λr' hr'=>?_,hk.nod⟩,ins_set t y (hk.nothas hr hx)⟩;have hne:r≠r':=λhe=>hk.nothas hr hx (he▸hr');rw[List.getElem?_set_ne hne];exact hk.dead r' hr'
theorem OKT.lt {t:Lp} {h:List Row} (hk:OKT t h) {r:Nat} (hr:t.has r):r <h.length:=(List.getElem?_eq_some_iff.1 (hk.dead r hr)).1
theorem OKT.append {t:Lp} {h:List Row} (hk:OKT t h) (x:Row):OKT t (h++[x])∧t.ins P GL (h++[x])=t.ins P GL h++[x]:=by
 refine⟨⟨λr hr=>?_,hk.nod⟩,ins_append t x λr hr=>hk.lt hr⟩;rw[List.getElem?_append_left (hk.lt hr)];exact hk.dead r hr
theorem OKT.kin {t u:Lp} {h:List Row} (hk:OKT t h) (hu:t.kin u):OKT u h:=by
 refine⟨λr hr=>hk.dead r ?_,?_⟩
 ·simp only[Lp.has,hu.map];exact hr
 ·rw[←hu.map];exact hk.nod
theorem OKT.kill {t:Lp} {h:List Row} (hk:OKT t h) {n:Nat} (hn:∀r,t.has r→r <n):OKT t (kill n h)∧t.ins P GL (kill n h)=kill n (t.ins P GL h):=by
 refine⟨⟨λr hr=>?_,hk.nod⟩,?_⟩
 ·rw[kill_get,if_pos (hn r hr)];exact hk.dead r hr
 ·have hget:∀(t:Lp),(∀r,t.has r→r <n)→t.ins P GL (Go.Va.kill n h)=Go.Va.kill n (t.ins P GL h):=by
   intro t;induction t with
   |nil=>intro _;rfl
   |cons x t ih=>
    intro hn;have hn':∀r,Lp.has t r→r <n:=λr hr=>hn r (by simp only[Lp.has,List.map_cons,List.mem_cons];exact .inr hr);simp only[Lp.ins,ih hn'];have hx:x.1 <n:=hn x.1 (by simp[Lp.has]);apply List.ext_getElem?;intro r;rw[kill_get,List.getElem?_set,List.getElem?_set,kill_get,kill_len,List.length_set];by_cases h1:x.1=r
    ·subst h1;simp[hx]
    ·simp[h1]
  exact hget t hn
theorem val_lift {t:Lp} {e:Env} {h:List Row} (hk:OKT t h) {i:PI} {x:D} (hv:i.val e h=some x):i.val e (t.ins P GL h)=some x:=by
 cases hkd:i.kd with
 |n=>rw[PI.val_heap (h2:=t.ins P GL h) hkd];exact hv
 |r=>
  cases i with
  |load a n ag=>
   simp only[PI.val]at hv ⊢;split at hv
   ·exact hv
   ·rename_i r off ha;split at hv
    ·rename_i ds hr;simp only[hk.get (P:=P) (GL:=GL) hr (by simp)];exact hv
    ·cases hv
   ·cases hv
  |look m k st ks zs ag ok=>
   simp only[PI.val]at hv ⊢;split at hv
   ·split at hv
    ·rename_i hok;rw[if_pos hok];split at hv
     ·rename_i z hz;split at hv
      ·exact hv
      ·rename_i r ha;split at hv
       ·rename_i es bs ck hr;simp only[hk.get (P:=P) (GL:=GL) hr (by simp)];exact hv
       ·cases hv
      ·cases hv
     ·cases hv
    ·cases hv
   ·cases hv
  |mlen m=>
   simp only[PI.val]at hv ⊢;split at hv
   ·exact hv
   ·rename_i r ha;split at hv
    ·rename_i es hr;simp only[hk.get (P:=P) (GL:=GL) hr (by simp)];exact hv
    ·cases hv
   ·cases hv
  |_=>cases hkd
 |a=>cases i<;>cases hkd
 |w=>cases i<;>cases hkd
 |t=>cases i<;>cases hkd
theorem step_lift {t:Lp} {e:Env} {h:List Row} (hk:OKT t h) {i:AI} {s':St} (hs:i.step ⟨e,h⟩=some s'):i.step ⟨e,t.ins P GL h⟩=some ⟨s'.e,t.ins P GL s'.h⟩∧OKT t s'.h:=by
 cases i with
 |p d i=>
  simp only[AI.step,Option.map_eq_some_iff]at hs ⊢;obtain⟨x,hx,rfl⟩:=hs;exact⟨⟨x,val_lift hk hx,rfl⟩,hk⟩
 |mv d x=>simp only[AI.step,Option.some.injEq]at hs ⊢;subst hs;exact⟨rfl,hk⟩
 |alloc d zs=>
  simp only[AI.step,Option.some.injEq]at hs ⊢;subst hs;obtain⟨h1,h2⟩:=hk.append (P:=P) (GL:=GL) (.cells zs);exact⟨by rw[h2,ins_len],h1⟩
 |box d x=>
  simp only[AI.step]at hs ⊢;split at hs
  ·rename_i cs hc;simp only[Option.some.injEq]at hs;subst hs;obtain⟨h1,h2⟩:=hk.append (P:=P) (GL:=GL) (.cells (cs.map D.toRow));exact⟨by rw[h2,ins_len],h1⟩
  ·cases hs
 |store a x n=>
  simp only[AI.step]at hs ⊢;split at hs
  ·rename_i r off ha;split at hs
   ·rename_i ds hr;simp only[hk.get (P:=P) (GL:=GL) hr (by simp)];split at hs
    ·rename_i e' sz xs hx;split at hs
     ·rename_i m;split at hs
      ·rename_i hc;simp only[Option.some.injEq]at hs;subst hs;obtain⟨h1,h2⟩:=hk.set (P:=P) (GL:=GL) (y:= .cells (ds.set off (.own e' sz xs))) hr (by simp);exact⟨by rw[if_pos hc,h2],h1⟩
      ·cases hs
     ·cases hs
    ·rename_i bb e' sz xs hx;split at hs
     ·rename_i m;split at hs
      ·rename_i hc;simp only[Option.some.injEq]at hs;subst hs;obtain⟨h1,h2⟩:=hk.set (P:=P) (GL:=GL) (y:= .cells (ds.set off (.pend bb e' sz xs))) hr (by simp);exact⟨by rw[if_pos hc,h2],h1⟩
      ·cases hs
     ·cases hs
    ·rename_i hne hne2;split at hs
     ·rename_i cs hc;split at hs
      ·rename_i hc2;simp only[Option.some.injEq]at hs;subst hs;obtain⟨h1,h2⟩:=hk.set (P:=P) (GL:=GL) (y:= .cells (putL ds off (cs.map (D.toRowX x n)))) hr (by simp);exact⟨by simp only[hc,hc2,h2];simp[hc2],h1⟩
      ·cases hs
     ·cases hs
   ·cases hs
  ·cases hs
 |take d a=>
  simp only[AI.step]at hs ⊢;split at hs
  ·rename_i r off ha;split at hs
   ·rename_i ds hr;simp only[hk.get (P:=P) (GL:=GL) hr (by simp)];split at hs
    ·rename_i e' sz xs hx;simp only[Option.some.injEq]at hs;subst hs;obtain⟨h1,h2⟩:=hk.set (P:=P) (GL:=GL) (y:= .cells (ds.set off (.v (.list xs)))) hr (by simp);exact⟨by simp only[h2],h1⟩
    ·cases hs
   ·cases hs
  ·cases hs
 |app d x y e' sz by_=>
  simp only[AI.step]at hs ⊢;split at hs
  ·split at hs
   ·rename_i hc;simp only[Option.some.injEq]at hs;subst hs;exact⟨by rw[if_pos hc],hk⟩
   ·cases hs
  ·cases hs
 |appS d x y e' by_=>
  simp only[AI.step]at hs ⊢;split at hs
  ·split at hs
   ·rename_i hc;simp only[Option.some.injEq]at hs;subst hs;exact⟨by rw[if_pos hc],hk⟩
   ·cases hs
  ·cases hs
 |bsl d e' sz ps=>
  simp only[AI.step]at hs ⊢;split at hs
  ·split at hs
   ·rename_i hc;rw[if_pos hc];split at hs<;>(simp only[Option.some.injEq]at hs;subst hs;exact⟨rfl,hk⟩)
   ·cases hs
  ·cases hs
 |bsr d sz ps=>
  simp only[AI.step]at hs ⊢;split at hs
  ·rename_i cs hcs;simp only[Option.some.injEq]at hs;subst hs;obtain⟨h1,h2⟩:=hk.append (P:=P) (GL:=GL) (.cells cs);exact⟨by rw[h2,ins_len],h1⟩
  ·cases hs
 |s2b d x=>
  simp only[AI.step]at hs ⊢;split at hs
  ·simp only[Option.some.injEq]at hs;subst hs;exact⟨rfl,hk⟩
  ·cases hs
 |mksl d x z=>
  simp only[AI.step]at hs ⊢;split at hs
  ·rename_i k n hn;split at hs
   ·rename_i hc;simp only[Option.some.injEq]at hs;subst hs;obtain⟨h1,h2⟩:=hk.append (P:=P) (GL:=GL) (.cells (List.replicate n.toNat z));exact⟨by rw[if_pos hc,h2,ins_len],h1⟩
   ·cases hs
  ·cases hs
 |nilS d ne x=>cases hs
 |mkm d=>
  simp only[AI.step,Option.some.injEq]at hs ⊢;subst hs;obtain⟨h1,h2⟩:=hk.append (P:=P) (GL:=GL) (.map [] [] 0);exact⟨by rw[h2,ins_len],h1⟩
 |mput m k v st ks=>
  simp only[AI.step]at hs ⊢;split at hs
  ·rename_i r hm;split at hs
   ·rename_i es bs ck hr;simp only[hk.get (P:=P) (GL:=GL) hr (by simp)];split at hs
    ·rename_i kv vv hkv hvv;split at hs
     ·rename_i hko;rw[if_pos hko];split at hs
      ·simp only[Option.some.injEq]at hs;subst hs;obtain⟨h1,h2⟩:=hk.set (P:=P) (GL:=GL) (y:= .map (es++[(kv,vv)]) (bs++[ck]) (ck+1)) hr (by simp);exact⟨by rw[h2],h1⟩
      ·rename_i i hi;simp only[Option.some.injEq]at hs;subst hs;obtain⟨h1,h2⟩:=hk.set (P:=P) (GL:=GL) (y:= .map (es.set i (kv,vv)) bs ck) hr (by simp);exact⟨by rw[h2],h1⟩
      ·cases hs
     ·cases hs
    ·cases hs
   ·cases hs
  ·cases hs
 |ment d m k st ks=>
  simp only[AI.step]at hs ⊢;split at hs
  ·rename_i r hm;split at hs
   ·rename_i es bs ck hr;simp only[hk.get (P:=P) (GL:=GL) hr (by simp)];split at hs
    ·rename_i kv hkv;split at hs
     ·rename_i hko;rw[if_pos hko];split at hs
      ·rename_i i hi;split at hs
       ·simp only[Option.some.injEq]at hs;subst hs;exact⟨rfl,hk⟩
       ·cases hs
      ·cases hs
     ·cases hs
    ·cases hs
   ·cases hs
  ·cases hs
 |mest m b v=>
  simp only[AI.step]at hs ⊢;split at hs
  ·rename_i r hm;split at hs
   ·rename_i es bs ck hr;simp only[hk.get (P:=P) (GL:=GL) hr (by simp)];split at hs
    ·rename_i kk n vv hb hv;split at hs
     ·rename_i i hi;split at hs
      ·rename_i p hp;simp only[Option.some.injEq]at hs;subst hs;obtain⟨h1,h2⟩:=hk.set (P:=P) (GL:=GL) (y:= .map (es.set i (p.1,vv)) bs ck) hr (by simp);exact⟨by rw[h2],h1⟩
      ·cases hs
     ·cases hs
    ·cases hs
   ·cases hs
  ·cases hs
 |mdel d m k st ks=>
  simp only[AI.step]at hs ⊢;split at hs
  ·rename_i r hm;split at hs
   ·rename_i es bs ck hr;simp only[hk.get (P:=P) (GL:=GL) hr (by simp)];split at hs
    ·rename_i kv hkv;split at hs
     ·rename_i hko;rw[if_pos hko];split at hs
      ·simp only[Option.some.injEq]at hs;subst hs;exact⟨rfl,hk⟩
      ·rename_i i hi;simp only[Option.some.injEq]at hs;subst hs;obtain⟨h1,h2⟩:=hk.set (P:=P) (GL:=GL) (y:= .map (es.eraseIdx i) (bs.eraseIdx i) ck) hr (by simp);exact⟨by rw[h2],h1⟩
      ·cases hs
     ·cases hs
    ·cases hs
   ·cases hs
  ·cases hs
 |call d f args=>cases hs
 |callF d f args=>cases hs
 |callC d f args=>cases hs
 |callO d f q args=>cases hs
 |appR d x y e s b=>cases hs
 |frz d x s=>cases hs
 |callN d f args=>cases hs
 |appP d x y e s b=>cases hs
 |itr k d x=>cases hs
 |fin m ad p x sz=>
  simp only[AI.step]at hs ⊢;split at hs
  ·rename_i b s0 n y hp hx;split at hs
   ·rename_i b' e' s2 xs hf;split at hs
    ·rename_i hc;simp only[Option.some.injEq]at hs;subst hs;exact⟨by rw[if_pos hc],hk⟩
    ·cases hs
   ·rename_i hnp;split at hs
    ·rename_i r off ha;split at hs
     ·rename_i ds hr;split at hs
      ·rename_i b' e' s2 xs hd;split at hs
       ·rename_i hc;simp only[Option.some.injEq]at hs;subst hs;obtain⟨h1,h2⟩:=hk.set (P:=P) (GL:=GL) (y:= .cells (ds.set off (.own e' sz (xs++[y])))) hr (by simp);refine⟨?_,h1⟩;simp only[hk.get (P:=P) (GL:=GL) hr (by simp),hd,if_pos hc,h2]
       ·cases hs
      ·cases hs
     ·cases hs
    ·cases hs
  ·cases hs
 |mksz d x zs=>
  simp only[AI.step]at hs ⊢;split at hs
  ·rename_i k n hn;split at hs
   ·rename_i hc;simp only[Option.some.injEq]at hs;subst hs;obtain⟨h1,h2⟩:=hk.append (P:=P) (GL:=GL) (.cells (List.replicate n.toNat zs).flatten);exact⟨by rw[if_pos hc,h2,ins_len],h1⟩
   ·cases hs
  ·cases hs
 |clr d x zs=>
  simp only[AI.step]at hs ⊢;split at hs
  ·rename_i r n hx;split at hs
   ·rename_i ds hr;simp only[hk.get (P:=P) (GL:=GL) hr (by simp)];split at hs
    ·rename_i hc;rw[if_pos hc];simp only[Option.some.injEq]at hs;subst hs;obtain⟨h1,h2⟩:=hk.set (P:=P) (GL:=GL) (y:= .cells (putL ds 0 (List.replicate n zs).flatten)) hr (by simp);exact⟨by rw[h2],h1⟩
    ·cases hs
   ·cases hs
  ·cases hs
 |cpy d x y sz=>
  simp only[AI.step]at hs ⊢;split at hs
  ·rename_i r n hx;split at hs
   ·rename_i ys hy;split at hs
    ·rename_i ds hr;simp only[hk.get (P:=P) (GL:=GL) hr (by simp)];split at hs
     ·rename_i hc;rw[if_pos hc];simp only[Option.some.injEq]at hs;subst hs;obtain⟨h1,h2⟩:=hk.set (P:=P) (GL:=GL) (y:= .cells ((ys.flatMap V.cells).map .v)) hr (by simp);exact⟨by rw[h2],h1⟩
     ·cases hs
    ·cases hs
   ·cases hs
  ·cases hs
end
structure Ev where
 F:Nat→List D→List Row→Lp→Option (List D×List Row×Lp)
 Pf:Nat→List V→Option (List V)
 C:AC→ES→Option (List (AExit×ES))
 np:Nat→Bool
abbrev Tbl:=Nat→Option (Nat×AC×List AR)
def bindL {α β:Type} (f:α→Option (List β)):List α→Option (List β)
 |[]=>some []
 |x::xs=>match f x,bindL f xs with
  |some ys,some zs=>some (ys++zs)
  |_,_=>none
def mapL {α β:Type} (f:α→Option β):List α→Option (List β)
 |[]=>some []
 |x::xs=>match f x,mapL f xs with
  |some y,some zs=>some (y::zs)
  |_,_=>none
def oneOf {α:Type} (eq:α→α→Bool):List α→Option α
 |[]=>none
 |x::xs=>if xs.all (eq x) then some x else none
theorem bindL_mem {α β:Type} {f:α→Option (List β)}:∀ {xs:List α} {ys:List β},bindL f xs=some ys→∀x∈xs,∃zs,f x=some zs∧∀z∈zs,z∈ys
 |[],ys,_,x,hx=>by simp at hx
 |x::xs,ys,h,y,hy=>by
  simp only[bindL]at h;split at h
  ·rename_i asx bs ha hb;simp only[Option.some.injEq]at h;subst h;rcases List.mem_cons.1 hy with rfl|hy
   ·exact⟨asx,ha,λz hz=>List.mem_append_left _ hz⟩
   ·obtain⟨zs,h1,h2⟩:=bindL_mem hb y hy;exact⟨zs,h1,λz hz=>List.mem_append_right _ (h2 z hz)⟩
  ·cases h
theorem mapL_mem {α β:Type} {f:α→Option β}:∀ {xs:List α} {ys:List β},mapL f xs=some ys→∀x∈xs,∃z,f x=some z∧z∈ys
 |[],ys,_,x,hx=>by simp at hx
 |x::xs,ys,h,y,hy=>by
  simp only[mapL]at h;split at h
  ·rename_i a bs ha hb;simp only[Option.some.injEq]at h;subst h;rcases List.mem_cons.1 hy with rfl|hy
   ·exact⟨a,ha,by simp⟩
   ·obtain⟨z,h1,h2⟩:=mapL_mem hb y hy;exact⟨z,h1,by simp[h2]⟩
  ·cases h
theorem mapL_inv {α β:Type} {f:α→Option β}:∀ {xs:List α} {ys:List β},mapL f xs=some ys→∀y∈ys,∃x∈xs,f x=some y
 |[],ys,h,y,hy=>by simp only[mapL,Option.some.injEq]at h;subst h;simp at hy
 |x::xs,ys,h,y,hy=>by
  simp only[mapL]at h;split at h
  ·rename_i a bs ha hb;simp only[Option.some.injEq]at h;subst h;rcases List.mem_cons.1 hy with rfl|hy
   ·exact⟨x,by simp,ha⟩
   ·obtain⟨z,h1,h2⟩:=mapL_inv hb y hy;exact⟨z,by simp[h1],h2⟩
  ·cases h
theorem oneOf_mem {α:Type} {eq:α→α→Bool} {xs:List α} {x:α} (h:oneOf eq xs=some x):x∈xs∧∀y∈xs,y=x∨eq x y=true:=by
 cases xs with
 |nil=>simp[oneOf]at h
 |cons a xs=>
  simp only[oneOf]at h;split at h
  ·rename_i hall;simp only[Option.some.injEq]at h;subst h;refine⟨by simp,λy hy=>?_⟩;rcases List.mem_cons.1 hy with rfl|hy
   ·exact .inl rfl
   ·exact .inr (List.all_eq_true.1 hall y hy)
  ·cases h
def yEnd (t:Lp) (r:Nat):AExit→Bool×Lp
 | .normal=>(true,t.tag r .ready)
 | .ret=>(false,t.tag r (.done none))
 | .exit i=>(false,t.tag r (.done (some i)))
def yEq (x y:Bool×List Row×Lp):Bool:=x.1==y.1&&beqL Row.beq x.2.1 y.2.1&&Lp.beq x.2.2 y.2.2
def fEq (x y:List D×List Row×Lp):Bool:=D.beqs x.1 y.1&&beqL Row.beq x.2.1 y.2.1&&Lp.beq x.2.2 y.2.2
def evY (E:Ev) (r:Nat) (args:List D) (h:List Row) (t:Lp):Option (Bool×List Row×Lp):=
 match t.get r with
 |some (.ready,l)=>if args.length=l.ps.length then
   match E.C l.asg ⟨setPs l.e l.ps args,h,t⟩with
   |some [(.normal,s1)]=>match s1.t.get r with
    |some (.ready,_)=>match E.C l.body ⟨s1.e,s1.h,s1.t.tag r .busy⟩with
     |some o2=>match mapL (λo=>match o.2.t.get r with
       |some (.busy,_)=>some ((yEnd o.2.t r o.1).1,o.2.h,(yEnd o.2.t r o.1).2)
       |_=>none) o2 with
      |some rs=>oneOf yEq rs
      |none=>none
     |none=>none
    |_=>none
   |_=>none
  else none
 |_=>none
def allV:List D→Option (List V)
 |[]=>some []
 | .v x::ds=>match allV ds with
  |some xs=>some (x::xs)
  |none=>none
 |_=>none
theorem allV_map:∀ {ds:List D} {vs:List V},allV ds=some vs→ds=vs.map .v
 |[],vs,h=>by simp only[allV,Option.some.injEq]at h;subst h;rfl
 |d::ds,vs,h=>by
  cases d<;>simp only[allV,reduceCtorEq]at h
  split at h
  ·rename_i xs hxs;simp only[Option.some.injEq]at h;subst h;simp only[List.map_cons,allV_map hxs]
  ·cases h
def evCall (E:Ev) (f:Nat) (args:List D) (h:List Row) (t:Lp):Option (List D×List Row×Lp):=
 match allV args with
 |some vs=>bif E.np f then E.F f args h t else match E.Pf f vs with
  |some rets=>some (rets.map .v,h,t)
  |none=>E.F f args h t
 |none=>E.F f args h t
def evIC (E:Ev) (d:Option Nat) (f:Opd) (args:List Opd) (s:ES):Option (List ES):=
 match f.ev s.e with
 | .yld r=>(evY E r (argsOf s.e args) s.h s.t).map λx=>[⟨setO s.e d (.v (.bool x.1)),x.2.1,x.2.2⟩]
 | .meth fid fs=>(evCall E fid (fs++argsOf s.e args) s.h s.t).map λx=>[⟨setO s.e d (retDs x.1),x.2.1,x.2.2⟩]
 |fd=>match fnOf fd with
  |some (fid,caps)=>(evCall E fid (argsOf s.e args++caps) s.h s.t).map λx=>[⟨setO s.e d (retDs x.1),x.2.1,x.2.2⟩]
  |none=>none
def appRs (d:Nat) (x y:Opd) (e sz by_:Nat) (s:St):Option St:=
 match (y.ev s.e).toV with
 |some (.list ys)=>if headOK sz ys=true∧roomy ys.length by_=true then
   (match x.ev s.e with
   | .nil _ _=>some (if ys.isEmpty=true then ⟨(d,.nil e sz)::s.e,s.h⟩ else ⟨(d,.sref s.h.length ys.length)::s.e,s.h++[.cells ((ys.flatMap V.cells).map .v)]⟩)
   | .own e' _ []=>if NoGrow e' then some (if ys.isEmpty=true then ⟨(d,.nil e sz)::s.e,s.h⟩ else ⟨(d,.sref s.h.length ys.length)::s.e,s.h++[.cells ((ys.flatMap V.cells).map .v)]⟩) else none
   | .v (.list xs)=>if ys.isEmpty=true then some ⟨(d,.v (.list xs))::s.e,s.h⟩ else none
   |_=>none)
  else none
 |_=>none
def chunk (sz:Nat):Nat→List V→List V
 |0,_=>[]
 |n+1,cs=>(bif Nat.beq sz 1 then cs.headD .nilp else .agg (cs.take sz))::chunk sz n (cs.drop sz)
def frzS (d:Nat) (x:Opd) (sz:Nat) (s:St):Option St:=
 match x.ev s.e with
 | .nil _ _=>some ⟨(d,.v (.list []))::s.e,s.h⟩
 | .v (.list xs)=>some ⟨(d,.v (.list xs))::s.e,s.h⟩
 | .sref r n=>match s.h[r]? with
  |some (.cells ds)=>match D.vs? (ds.take (n*sz))with
   |some cs=>if (0 <sz∧(chunk sz n cs).length=n)∧((chunk sz n cs).all λx=>x.cells.length==sz)=true∧V.beqs cs ((chunk sz n cs).flatMap V.cells)=true then some ⟨(d,.v (.list (chunk sz n cs)))::s.e,s.h.set r .dead⟩ else none
   |none=>none
  |_=>none
 |_=>none
def evI (E:Ev) (i:AI) (s:ES):Option (List ES):=
 match i with
 | .appR d x y e sz by_=>(appRs d x y e sz by_ ⟨s.e,s.h⟩).map λs'=>[⟨s'.e,s'.h,s.t⟩]
 | .frz d x sz=>(frzS d x sz ⟨s.e,s.h⟩).map λs'=>[⟨s'.e,s'.h,s.t⟩]
 | .call d f args=>evIC E d f args s
 | .callF d f args=>evIC E d f args s
 | .callC d f args=>evIC E d f args s
 | .nilS d ne x=>match (x.ev s.e).copy with
  | .v (.list [])| .nil _ _=>some [⟨(d,.v (.bool (true != ne)))::s.e,s.h,s.t⟩,⟨(d,.v (.bool (false != ne)))::s.e,s.h,s.t⟩]
  | .v (.list (_::_))=>some [⟨(d,.v (.bool (false != ne)))::s.e,s.h,s.t⟩]
  |_=>none
 |i=>(i.step ⟨s.e,s.h⟩).map λs'=>[⟨s'.e,s'.h,s.t⟩]
def evG (E:Ev) (x:GI) (s:ES):Option (List ES):=
 match x.g with
 |none=>evI E x.i s
 |some (t,want)=>match find s.e t with
  | .v (.bool b)=>if b=want then evI E x.i s else some [⟨setO s.e x.i.dst (.tup []),s.h,s.t⟩]
  | .tup []=>some [⟨setO s.e x.i.dst (.tup []),s.h,s.t⟩]
  |_=>none
def evOps (E:Ev):List GI→ES→Option (List ES)
 |[],s=>some [s]
 |x::xs,s=>match evG E x s with
  |some ss=>bindL (evOps E xs) ss
  |none=>none
def evJC (E:Ev) (t:Lp) (fd:D) (args:List D) (h:List Row):Option (List D×List Row):=
 match (match fd with
  | .yld r=>(evY E r args h t).map λx=>([.v (.bool x.1)],x.2)
  | .meth fid fs=>evCall E fid (fs++args) h t
  |fd=>match fnOf fd with
   |some (fid,caps)=>evCall E fid (args++caps) h t
   |none=>none:Option (List D×List Row×Lp))with
 |some x=>if Lp.beq t x.2.2 then some (x.1,x.2.1) else none
 |none=>none
def evJI (E:Ev) (t:Lp) (i:AI) (s:St):Option St:=
 match i with
 | .callF d f args=>(evJC E t (f.ev s.e) (argsOf s.e args) s.h).map λx=>⟨setO s.e d (retDs x.1),x.2⟩
 | .callC d f args=>match evJC E t (f.ev s.e) (argsOf s.e args) s.h with
  |some x=>if beqL Row.beq (x.2.take s.h.length) s.h then some ⟨setO s.e d (retDs x.1),x.2⟩ else none
  |none=>none
 | .call d f args=>match (f.ev s.e).toV,toVs s.e args with
  |some (.func fid caps),some vs=>(E.Pf fid (vs++caps)).map λrets=>⟨setO s.e d (retD rets),s.h⟩
  |_,_=>none
 |i=>i.step s
def evJG (E:Ev) (t0:Lp) (x:GI) (s:St):Option St:=
 match x.g with
 |none=>evJI E t0 x.i s
 |some (t,want)=>match find s.e t with
  | .v (.bool b)=>if b=want then evJI E t0 x.i s else some ⟨setO s.e x.i.dst (.tup []),s.h⟩
  | .tup []=>some ⟨setO s.e x.i.dst (.tup []),s.h⟩
  |_=>none
def evJ (E:Ev) (t0:Lp):List GI→St→Option St
 |[],s=>some s
 |x::xs,s=>match evJG E t0 x s with
  |some s1=>evJ E t0 xs s1
  |none=>none
def evT (E:Ev) (t0:Lp) (is:List GI):AT→St→Option (List St)
 | .done,s=>some [s]
 | .take i t,s=>match evJG E t0 (is.getD i default) s with
  |some s1=>evT E t0 is t s1
  |none=>none
 | .pick c,s=>evT E t0 is c s
 | .alt i t r,s=>match evJG E t0 (is.getD i default) s with
  |some s1=>match evT E t0 is t s1,evT E t0 is r s with
   |some a,some b=>some (a++b)
   |_,_=>none
  |none=>none
 | .none,_=>some []
def mkPi (o s1:St):List (Nat×Nat):=s1.e.filterMap λp=>match p.2,find o.e p.1 with
 | .ref a _,.ref b _=>some (b,a)
 | .sref a _,.sref b _=>some (b,a)
 | .mref a,.mref b=>some (b,a)
 |_,_=>none
def renSt (π:List (Nat×Nat)) (s:St):St:=⟨s.e.map λp=>(p.1,p.2.ren π),renRows π s.h⟩
def endEq (keep:List Nat) (a b:St):Bool:=D.beqs ((normE a.e keep).map (·.2)) ((normE b.e keep).map (·.2))&&beqL Row.beq a.h b.h
def alike (n0:Nat) (t:Lp) (keep:List Nat) (o s1:St):Bool:=
 endEq keep o s1||(t.isEmpty&&(let π:=mkPi o s1;permOK n0 o.h.length π&&noObj o.h&&endEq keep (renSt π o) s1))
def mergeA (n0:Nat) (t:Lp) (keep:List Nat):List St→List St
 |[]=>[]
 |s1::ss=>s1::ss.filter λo=> !alike n0 t keep o s1
def evC (E:Ev) (ac:AC) (s:ES):Option (List (AExit×ES)):=
 match ac with
 | .skip=>some [(.normal,s)]
 | .reg ops keep=>(evOps E ops s).map λss=>ss.map λs'=>(.normal,⟨normE s'.e keep,s'.h,s'.t⟩)
 | .regD ops keep _=>(evJ E s.t ops ⟨s.e,s.h⟩).map λs'=>[(.normal,⟨normE s'.e keep,s'.h,s.t⟩)]
 | .regA ops keep _ t=>(evT E s.t ops t ⟨s.e,s.h⟩).map λss=>(mergeA s.h.length s.t keep ss).map λs'=>(.normal,⟨normE s'.e keep,s'.h,s.t⟩)
 | .regV _ _ _=>none
 | .seq a b=>match E.C a s with
  |some os=>bindL (λo=>match o.1 with| .normal=>E.C b o.2|e=>some [(e,o.2)]) os
  |none=>none
 | .cond x a b=>match x.ev s.e with
  | .v (.bool t)=>if t then E.C a s else E.C b s
  |_=>none
 | .block id c=>(E.C c s).map λos=>os.map λo=>match o.1 with| .exit id'=>if id'=id then (.normal,o.2) else o|_=>o
 | .loop c=>match E.C c s with
  |some os=>bindL (λo=>match o.1 with| .normal=>E.C (.loop c) o.2|e=>some [(e,o.2)]) os
  |none=>none
 | .scope c=>E.C c s
 | .never=>none
 | .exit id=>some [(.exit id,s)]
 | .ret=>some [(.ret,s)]
 | .rangeF q ps asg body=>match fnOf (q.ev s.e)with
  |some (fid,caps)=>match E.F fid (.yld s.h.length::caps) (s.h++[.dead]) ((s.h.length,.ready,⟨cpE s.e,ps,asg,body⟩)::s.t)with
   |some (_,h',x::t')=>match x.2.1 with
    | .ready=>some [(.normal,⟨s.e,h',t'⟩)]
    | .busy=>none
    | .done none=>some [(.ret,⟨s.e,h',t'⟩)]
    | .done (some i)=>some [(.exit i,⟨s.e,h',t'⟩)]
   |_=>none
  |none=>none
abbrev Prims:=Nat→List D→List Row→Option (List D×List Row)
def tidy (n:Nat) (x:List D×List Row×Lp):List D×List Row×Lp:=
 if D.lts n x.1&&(x.2.1.take n).all (Row.lt n) then (x.1,kill n x.2.1,x.2.2) else x
def evF (T:Tbl) (Pr:Prims) (E:Ev) (f:Nat) (args:List D) (h:List Row) (t:Lp):Option (List D×List Row×Lp):=
 match T f with
 |some (n,ac,rs)=>if args.length=n then
   match E.C ac ⟨entryD args,h,t⟩with
   |some os=>match mapL (λo=>match o.1 with
     | .exit _=>none
     |_=>(resDs ⟨o.2.e,o.2.h⟩ rs).map λr=>tidy h.length (r,o.2.h,o.2.t)) os with
    |some xs=>oneOf fEq xs
    |none=>none
   |none=>none
  else none
 |none=>(Pr f args h).map λx=>(x.1,h++x.2,t)
def evP (T:Tbl) (M:Nat→List V→Option (List V)) (E:Ev) (f:Nat) (vs:List V):Option (List V):=
 match T f with
 |some (n,ac,rs)=>if vs.length=n then
   match E.C ac ⟨entry vs,[],[]⟩with
   |some os=>match mapL (λo=>match o.1 with
     | .exit _=>none
     |_=>resVs ⟨o.2.e,o.2.h⟩ rs) os with
    |some xs=>oneOf V.beqs xs
    |none=>none
   |none=>none
  else none
 |none=>M f vs
def evn (np:Nat→Bool) (M:Nat→List V→Option (List V)) (T:Tbl) (Pr:Prims):Nat→Ev
 |0=>⟨λ_ _ _ _=>none,λ_ _=>none,λ_ _=>none,np⟩
 |n+1=>⟨evF T Pr (evn np M T Pr n),evP T M (evn np M T Pr n),evC (evn np M T Pr n),np⟩
abbrev ev (T:Tbl) (Pr:Prims):Nat→Ev:=evn (λ_=>false) (λ_ _=>none) T Pr
section
variable (P:Program) (GL:Globals)
def ES.real (s:ES):St:=⟨s.e,s.t.ins P GL s.h⟩
structure Snd (E:Ev):Prop where
 F:∀ {f args h t r},E.F f args h t=some r→OKT t h→FSp P GL f args (t.ins P GL h) r.1 (r.2.2.ins P GL r.2.1)∧t.kin r.2.2∧OKT r.2.2 r.2.1
 Pf:∀ {f vs rets},E.Pf f vs=some rets→PSp P GL f vs rets
 K:∀ {ac s os},E.C ac s=some os→OKT s.t s.h→∀o∈os,s.t.kin o.2.t∧OKT o.2.t o.2.h
 C:∀ {ac s os},E.C ac s=some os→OKT s.t s.h→awp P GL ac (λe s'=>∃o∈os,e=o.1∧s'=o.2.real P GL) (s.real P GL)
end
section
variable {P:Program} {GL:Globals} {E:Ev} {T:Tbl} {Pr:Prims}
theorem row_eq {h h':List Row} (hb:beqL Row.beq h h'=true):h=h':=beqL_eq (λ_ _ h=>Row.beq_eq h) hb
theorem yEnd_kin (t:Lp) (r:Nat) (e:AExit):t.kin (yEnd t r e).2:=by cases e<;>exact Lp.kin_tag _ _ _
theorem evY_sound (hE:Snd P GL E) {r:Nat} {args:List D} {h:List Row} {t:Lp} {x:Bool×List Row×Lp} (he:evY E r args h t=some x) (hk:OKT t h):
  YSp P GL r args (t.ins P GL h) x.1 (x.2.2.ins P GL x.2.1)∧t.kin x.2.2∧OKT x.2.2 x.2.1:=by
 unfold evY at he;split at he
 ·rename_i l hget;split at he
  ·rename_i hlen;split at he
   ·rename_i s1 h1;split at he
    ·rename_i l1 hget1;split at he
     ·rename_i o2 h2;split at he
      ·rename_i rs hrs;obtain⟨hmem,hall⟩:=oneOf_mem he;have hlt:r <h.length:=hk.lt (get_has t hget);have hasg:=hE.C h1 hk;obtain⟨hk1,hok1⟩:=hE.K h1 hk (.normal,s1) (by simp);simp only at hk1 hok1;have hl1:l1=l:=(get_kin hk1 hget hget1).symm;subst hl1;have hokb:OKT (s1.t.tag r .busy) s1.h:=hok1.kin (Lp.kin_tag _ _ _);have hbody:=hE.C h2 hokb;have hK:=hE.K h2 hokb;have hkin:∀o∈o2,t.kin o.2.t∧OKT o.2.t o.2.h:=λo ho=>⟨(hk1.trans (Lp.kin_tag _ _ _)).trans (hK o ho).1,(hK o ho).2⟩;have hkx:t.kin x.2.2∧OKT x.2.2 x.2.1:=by
        obtain⟨o,ho,hz⟩:=mapL_inv hrs x hmem;split at hz
        ·simp only[Option.some.injEq]at hz;subst hz;exact⟨(hkin o ho).1.trans (yEnd_kin _ _ _),(hkin o ho).2.kin (yEnd_kin _ _ _)⟩
        ·cases hz
       have hend:∀o∈o2,∃lb,o.2.t.get r=some (.busy,lb)∧lb=l1∧(yEnd o.2.t r o.1).1=x.1∧o.2.h=x.2.1∧(yEnd o.2.t r o.1).2=x.2.2:=by
        intro o ho;obtain⟨z,hz,hzm⟩:=mapL_mem hrs o ho;split at hz
        ·rename_i lb hgb;simp only[Option.some.injEq]at hz;subst hz;refine⟨lb,hgb,(get_kin (hkin o ho).1 hget hgb).symm,?_⟩;rcases hall _ hzm with rfl|heq
         ·exact⟨rfl,rfl,rfl⟩
         ·simp only[yEq,Bool.and_eq_true,beq_iff_eq]at heq;exact⟨heq.1.1.symm,(row_eq heq.1.2).symm,(Lp.beq_eq hkx.1 ((hkin o ho).1.trans (yEnd_kin _ _ _)) heq.2).symm⟩
        ·cases hz
       refine⟨?_,hkx⟩;refine ysp_of_awp (ins_loop t hlt hget) hlen (awp_mono _ ?_ hasg);rintro e s' ⟨o,ho,rfl,rfl⟩;simp only[List.mem_singleton]at ho;subst ho;have hlt1:r <s1.h.length:=hok1.lt (get_has _ hget1);refine⟨rfl,ins_loop _ hlt1 hget1,?_⟩;have e1:(s1.t.tag r .busy).ins P GL s1.h=(s1.t.ins P GL s1.h).set r (recRow P GL .busy l1.e l1.ps l1.asg l1.body):=ins_tag _ hok1.nod hget1;simp only[ES.real,←e1];refine awp_mono _ ?_ hbody;rintro e s' ⟨o,ho,rfl,rfl⟩;obtain⟨lb,hgb,rfl,q1,q2,q3⟩:=hend o ho;have hok:=(hkin o ho).2;have hlt2:r <o.2.h.length:=hok.lt (get_has _ hgb);refine⟨ins_loop _ hlt2 hgb,?_⟩;rw[←q1,←q2,←q3];cases o.1<;>exact⟨rfl,ins_tag _ hok.nod hgb⟩
      ·cases he
     ·cases he
    ·cases he
   ·cases he
  ·cases he
 ·cases he
theorem evCall_sound (hE:Snd P GL E) {f:Nat} {args:List D} {h:List Row} {t:Lp} {r:List D×List Row×Lp} (he:evCall E f args h t=some r) (hk:OKT t h):
  FSp P GL f args (t.ins P GL h) r.1 (r.2.2.ins P GL r.2.1)∧t.kin r.2.2∧OKT r.2.2 r.2.1:=by
 unfold evCall at he;split at he
 ·rename_i vs hvs;cases hnp:E.np f with
  |true=>rw[hnp]at he;exact hE.F he hk
  |false=>
   rw[hnp,cond_false]at he;split at he
   ·rename_i rets hr;simp only[Option.some.injEq]at he;subst he;rw[allV_map hvs];exact⟨(hE.Pf hr).fsp _,Lp.kin.refl _,hk⟩
   ·exact hE.F he hk
 ·exact hE.F he hk
theorem evIC_sound (hE:Snd P GL E) {d:Option Nat} {f:Opd} {args:List Opd} {s:ES} {os:List ES} (he:evIC E d f args s=some os) (hk:OKT s.t s.h):
  (∀o∈os,s.t.kin o.t∧OKT o.t o.h)∧∀K:St→Prop,(∀o∈os,K (o.real P GL))→awpCall P GL d f args K (s.real P GL):=by
 unfold evIC at he;split at he
 ·rename_i r hf;simp only[Option.map_eq_some_iff]at he;obtain⟨x,hx,rfl⟩:=he;obtain⟨h1,h2,h3⟩:=evY_sound hE hx hk;refine⟨λo ho=>by simp only[List.mem_singleton]at ho;subst ho;exact⟨h2,h3⟩,λK hK=>?_⟩;have hf':f.ev (s.real P GL).e= .yld r:=hf;simp only[awpCall,hf'];have hK':=hK _ (List.mem_singleton.2 rfl);exact⟨x.1,_,h1,hK'⟩
 ·rename_i fid fs hf;simp only[Option.map_eq_some_iff]at he;obtain⟨x,hx,rfl⟩:=he;obtain⟨h1,h2,h3⟩:=evCall_sound hE hx hk;refine⟨λo ho=>by simp only[List.mem_singleton]at ho;subst ho;exact⟨h2,h3⟩,λK hK=>?_⟩;have hf':f.ev (s.real P GL).e= .meth fid fs:=hf;simp only[awpCall,hf'];have hK':=hK _ (List.mem_singleton.2 rfl);exact⟨x.1,_,h1,hK'⟩
 ·rename_i hny hnm;split at he
  ·rename_i fid caps hfn;simp only[Option.map_eq_some_iff]at he;obtain⟨x,hx,rfl⟩:=he;obtain⟨h1,h2,h3⟩:=evCall_sound hE hx hk;refine⟨λo ho=>by simp only[List.mem_singleton]at ho;subst ho;exact⟨h2,h3⟩,λK hK=>?_⟩;simp only[awpCall];split
   ·rename_i r hr;exact absurd hr (hny r)
   ·rename_i a b hr;exact absurd hr (hnm a b)
   ·have hfn':fnOf (f.ev (s.real P GL).e)=some (fid,caps):=hfn;simp only[hfn'];have hK':=hK _ (List.mem_singleton.2 rfl);exact⟨x.1,_,h1,hK'⟩
  ·cases he
theorem appRs_awp {d e sz by_:Nat} {x y:Opd} {s s':St} (h:appRs d x y e sz by_ s=some s') {K:St→Prop} (hK:K s'):awpI P GL (.appR d x y e sz by_) K s:=by
 unfold appRs at h;split at h
 ·rename_i ys hy;split at h
  ·rename_i hc;split at h
   ·rename_i e' s2 hx;simp only[Option.some.injEq]at h;subst h;simp only[awpI,hx,hy];refine⟨hc.1,hc.2,.inr ?_⟩;split
    ·rename_i h0;rw[if_pos h0]at hK;exact hK
    ·rename_i h0;rw[if_neg h0]at hK;exact hK
   ·rename_i e' s2 hx;split at h
    ·rename_i hne;simp only[Option.some.injEq]at h;subst h;simp only[awpI,hx,hy];refine⟨hc.1,hc.2,.inr ⟨hne,?_⟩⟩;split
     ·rename_i h0;rw[if_pos h0]at hK;exact hK
     ·rename_i h0;rw[if_neg h0]at hK;exact hK
    ·cases h
   ·rename_i xs hx;split at h
    ·rename_i h0;simp only[Option.some.injEq]at h;subst h;have:ys=[]:=List.isEmpty_iff.1 h0;subst this;simp only[awpI,hx,hy];exact hK
    ·cases h
   ·cases h
  ·cases h
 ·cases h
theorem frzS_awp {d sz:Nat} {x:Opd} {s s':St} (h:frzS d x sz s=some s') {K:St→Prop} (hK:K s'):awpI P GL (.frz d x sz) K s:=by
 unfold frzS at h;split at h
 ·rename_i e' s2 hx;simp only[Option.some.injEq]at h;subst h;simp only[awpI,hx];exact hK
 ·rename_i xs hx;simp only[Option.some.injEq]at h;subst h;simp only[awpI,hx];exact hK
 ·rename_i r n hx;split at h
  ·rename_i ds hr;split at h
   ·rename_i cs hcs;split at h
    ·rename_i hc;obtain⟨⟨h0,h1⟩,h2,h3⟩:=hc;simp only[Option.some.injEq]at h;subst h;simp only[awpI,hx,hr];refine⟨h0,_,h1,λx hx=>?_,by rw[hcs,←V.beqs_eq h3],hK⟩;simpa using List.all_eq_true.1 h2 x hx
    ·cases h
   ·cases h
  ·cases h
 ·cases h
theorem appRs_lift {t:Lp} {d e sz by_:Nat} {x y:Opd} {en:Env} {h:List Row} {s':St} (hk:OKT t h) (hs:appRs d x y e sz by_ ⟨en,h⟩=some s'):
  appRs d x y e sz by_ ⟨en,t.ins P GL h⟩=some ⟨s'.e,t.ins P GL s'.h⟩∧OKT t s'.h:=by
 have row:∀(ys:List V),OKT t (h++[.cells ((ys.flatMap V.cells).map .v)])∧t.ins P GL (h++[.cells ((ys.flatMap V.cells).map .v)])=t.ins P GL h++[.cells ((ys.flatMap V.cells).map .v)]:=λys=>hk.append _;unfold appRs at hs;split at hs
 ·rename_i ys hy;change (y.ev en).toV=_ at hy;split at hs
  ·rename_i hc;split at hs
   ·rename_i e' s2 hx;change x.ev en=_ at hx;simp only[Option.some.injEq]at hs;subst hs;simp only[appRs,hy,hx,if_pos hc];by_cases h0:ys.isEmpty=true
    ·simp only[if_pos h0];exact⟨trivial,hk⟩
    ·simp only[if_neg h0,(row ys).2,ins_len];exact⟨trivial,(row ys).1⟩
   ·rename_i e' s2 hx;change x.ev en=_ at hx;split at hs
    ·rename_i hne;simp only[Option.some.injEq]at hs;subst hs;simp only[appRs,hy,hx,if_pos hc,if_pos hne];by_cases h0:ys.isEmpty=true
     ·simp only[if_pos h0];exact⟨trivial,hk⟩
     ·simp only[if_neg h0,(row ys).2,ins_len];exact⟨trivial,(row ys).1⟩
    ·cases hs
   ·rename_i xs hx;change x.ev en=_ at hx;split at hs
    ·rename_i h0;simp only[Option.some.injEq]at hs;subst hs;simp only[appRs,hy,hx,if_pos hc,if_pos h0];exact⟨trivial,hk⟩
    ·cases hs
   ·cases hs
  ·cases hs
 ·cases hs
theorem frzS_lift {t:Lp} {d sz:Nat} {x:Opd} {en:Env} {h:List Row} {s':St} (hk:OKT t h) (hs:frzS d x sz ⟨en,h⟩=some s'):
  frzS d x sz ⟨en,t.ins P GL h⟩=some ⟨s'.e,t.ins P GL s'.h⟩∧OKT t s'.h:=by
 unfold frzS at hs;split at hs
 ·rename_i e' s2 hx;change x.ev en=_ at hx;simp only[Option.some.injEq]at hs;subst hs;simp only[frzS,hx];exact⟨trivial,hk⟩
 ·rename_i xs hx;change x.ev en=_ at hx;simp only[Option.some.injEq]at hs;subst hs;simp only[frzS,hx];exact⟨trivial,hk⟩
 ·rename_i r n hx;change x.ev en=_ at hx;split at hs
  ·rename_i ds hr;change h[r]?=_ at hr;split at hs
   ·rename_i cs hcs;split at hs
    ·rename_i hc;simp only[Option.some.injEq]at hs;subst hs;obtain⟨h1,h2⟩:=hk.set (P:=P) (GL:=GL) (y:= .dead) hr (by simp);simp only[frzS,hx,hk.get (P:=P) (GL:=GL) hr (by simp),hcs,if_pos hc,h2];exact⟨trivial,h1⟩
    ·cases hs
   ·cases hs
  ·cases hs
 ·cases hs
theorem evI_sound (hE:Snd P GL E) {i:AI} {s:ES} {os:List ES} (he:evI E i s=some os) (hk:OKT s.t s.h):
  (∀o∈os,s.t.kin o.t∧OKT o.t o.h)∧∀K:St→Prop,(∀o∈os,K (o.real P GL))→awpI P GL i K (s.real P GL):=by
 by_cases ha:∃d x y e sz b,i= .appR d x y e sz b
 ·obtain⟨d,x,y,e,sz,b,rfl⟩:=ha;simp only[evI,Option.map_eq_some_iff]at he;obtain⟨s',hs',rfl⟩:=he;obtain⟨h1,h2⟩:=appRs_lift (P:=P) (GL:=GL) hk hs';refine⟨λo ho=>by simp only[List.mem_singleton]at ho;subst ho;exact⟨Lp.kin.refl _,h2⟩,λK hK=>?_⟩;exact appRs_awp (s:=s.real P GL) h1 (hK _ (List.mem_singleton.2 rfl))
 by_cases hz:∃d x sz,i= .frz d x sz
 ·obtain⟨d,x,sz,rfl⟩:=hz;simp only[evI,Option.map_eq_some_iff]at he;obtain⟨s',hs',rfl⟩:=he;obtain⟨h1,h2⟩:=frzS_lift (P:=P) (GL:=GL) hk hs';refine⟨λo ho=>by simp only[List.mem_singleton]at ho;subst ho;exact⟨Lp.kin.refl _,h2⟩,λK hK=>?_⟩;exact frzS_awp (s:=s.real P GL) h1 (hK _ (List.mem_singleton.2 rfl))
 by_cases hc:∃d f args,i= .call d f args∨i= .callF d f args∨i= .callC d f args
 ·obtain⟨d,f,args,rfl|rfl|rfl⟩:=hc
  ·exact evIC_sound hE he hk
  ·exact evIC_sound hE he hk
  ·exact evIC_sound hE he hk
 ·by_cases hn:∃d ne x,i= .nilS d ne x
  ·obtain⟨d,ne,x,rfl⟩:=hn;simp only[evI]at he;have hx:∀(s':ES),(x.ev (ES.real P GL s').e)=x.ev s'.e:=λ_=>rfl;split at he<;>simp only[Option.some.injEq,reduceCtorEq]at he<;>subst he
   all_goals
    rename_i hcp;refine⟨λo ho=>?_,λK hK=>?_⟩
    ·simp only[List.mem_cons,List.not_mem_nil,or_false]at ho
     first
      |(rcases ho with rfl|rfl<;>exact⟨Lp.kin.refl _,hk⟩)
      |(subst ho;exact⟨Lp.kin.refl _,hk⟩)
    ·simp only[awpI,hx,hcp]
     first
      |(have h1:=hK _ (List.mem_cons_self ..)
        have h2:=hK _ (List.mem_cons_of_mem _ (List.mem_cons_self ..));exact⟨h1,h2⟩)
      |(have h1:=hK _ (List.mem_cons_self ..)
        exact h1)
  ·have hs:evI E i s=(i.step ⟨s.e,s.h⟩).map λs'=>[⟨s'.e,s'.h,s.t⟩]:=by
    unfold evI;split
    ·exact absurd ⟨_,_,_,_,_,_,rfl⟩ ha
    ·exact absurd ⟨_,_,_,rfl⟩ hz
    ·exact absurd ⟨_,_,_,.inl rfl⟩ hc
    ·exact absurd ⟨_,_,_,.inr (.inl rfl)⟩ hc
    ·exact absurd ⟨_,_,_,.inr (.inr rfl)⟩ hc
    ·exact absurd ⟨_,_,_,rfl⟩ hn
    ·rfl
   rw[hs]at he;simp only[Option.map_eq_some_iff]at he;obtain⟨s',hs',rfl⟩:=he;obtain⟨h1,h2⟩:=step_lift (P:=P) (GL:=GL) hk hs';refine⟨λo ho=>by simp only[List.mem_singleton]at ho;subst ho;exact⟨Lp.kin.refl _,h2⟩,λK hK=>?_⟩;unfold awpI;split
   ·exact absurd ⟨_,_,_,.inl rfl⟩ hc
   ·exact absurd ⟨_,_,_,.inr (.inl rfl)⟩ hc
   ·exact absurd ⟨_,_,_,.inr (.inr rfl)⟩ hc
   ·cases hs'
   ·cases hs'
   ·cases hs'
   ·cases hs'
   ·cases hs'
   ·cases hs'
   ·exact absurd ⟨_,_,_,rfl⟩ hn
   ·have hK':=hK _ (List.mem_singleton.2 rfl);simp only[ES.real,h1];exact hK'
theorem evG_sound (hE:Snd P GL E) {x:GI} {s:ES} {os:List ES} (he:evG E x s=some os) (hk:OKT s.t s.h):
  (∀o∈os,s.t.kin o.t∧OKT o.t o.h)∧∀K:St→Prop,(∀o∈os,K (o.real P GL))→awpG P GL x K (s.real P GL):=by
 unfold evG at he;split at he
 ·rename_i hg;obtain⟨h1,h2⟩:=evI_sound hE he hk;refine⟨h1,λK hK=>?_⟩;simp only[awpG,hg];exact h2 K hK
 ·rename_i t want hg;have skip:some [(⟨setO s.e x.i.dst (.tup []),s.h,s.t⟩:ES)]=some os→(∀o∈os,s.t.kin o.t∧OKT o.t o.h)∧∀K:St→Prop,(∀o∈os,K (o.real P GL))→K ⟨setO s.e x.i.dst (.tup []),s.t.ins P GL s.h⟩:=by
   intro h;simp only[Option.some.injEq]at h;subst h;exact⟨λo ho=>by simp only[List.mem_singleton]at ho;subst ho;exact⟨Lp.kin.refl _,hk⟩,λK hK=>by have hK':=hK _ (List.mem_singleton.2 rfl);exact hK'⟩
  have hfe:find (s.real P GL).e t=find s.e t:=rfl;split at he
  ·rename_i b hb;split at he
   ·rename_i hbw;obtain⟨h1,h2⟩:=evI_sound hE he hk;refine⟨h1,λK hK=>?_⟩;simp only[awpG,hg,hfe,hb,hbw,if_true];exact h2 K hK
   ·rename_i hbw;obtain⟨h1,h2⟩:=skip he;refine⟨h1,λK hK=>?_⟩;simp only[awpG,hg,hfe,hb,hbw,if_false];exact h2 K hK
  ·rename_i hb;obtain⟨h1,h2⟩:=skip he;refine⟨h1,λK hK=>?_⟩;simp only[awpG,hg,hfe,hb];exact h2 K hK
  ·cases he
theorem evOps_sound (hE:Snd P GL E):∀ {ops:List GI} {s:ES} {os:List ES},evOps E ops s=some os→OKT s.t s.h→
  (∀o∈os,s.t.kin o.t∧OKT o.t o.h)∧∀K:St→Prop,(∀o∈os,K (o.real P GL))→awpOps P GL ops K (s.real P GL)
 |[],s,os,he,hk=>by
  simp only[evOps,Option.some.injEq]at he;subst he;exact⟨λo ho=>by simp only[List.mem_singleton]at ho;subst ho;exact⟨Lp.kin.refl _,hk⟩,λK hK=>hK _ (by simp)⟩
 |x::xs,s,os,he,hk=>by
  simp only[evOps]at he;split at he
  ·rename_i ss hss;obtain⟨h1,h2⟩:=evG_sound hE hss hk;refine⟨λo ho=>?_,λK hK=>?_⟩
   ·have:∃y∈ss,∃zs,evOps E xs y=some zs∧o∈zs:=by
     clear h1 h2 hss;induction ss generalizing os with
     |nil=>simp only[bindL,Option.some.injEq]at he;subst he;simp at ho
     |cons y ss ih=>
      simp only[bindL]at he;split at he
      ·rename_i asx bs ha hb;simp only[Option.some.injEq]at he;subst he;rcases List.mem_append.1 ho with ho|ho
       ·exact⟨y,by simp,asx,ha,ho⟩
       ·obtain⟨y',hy',zs,q1,q2⟩:=ih _ hb ho;exact⟨y',by simp[hy'],zs,q1,q2⟩
      ·cases he
    obtain⟨y,hy,zs,q1,q2⟩:=this;obtain⟨r1,_⟩:=evOps_sound hE q1 (h1 y hy).2;exact⟨(h1 y hy).1.trans (r1 o q2).1,(r1 o q2).2⟩
   ·refine h2 _ λy hy=>?_;obtain⟨zs,q1,q2⟩:=bindL_mem he y hy;exact(evOps_sound hE q1 (h1 y hy).2).2 K λo ho=>hK o (q2 o ho)
  ·cases he
theorem bindL_inv {α β:Type} {f:α→Option (List β)}:∀ {xs:List α} {ys:List β},bindL f xs=some ys→∀y∈ys,∃x∈xs,∃zs,f x=some zs∧y∈zs
 |[],ys,h,y,hy=>by simp only[bindL,Option.some.injEq]at h;subst h;simp at hy
 |x::xs,ys,h,y,hy=>by
  simp only[bindL]at h;split at h
  ·rename_i asx bs ha hb;simp only[Option.some.injEq]at h;subst h;rcases List.mem_append.1 hy with hy|hy
   ·exact⟨x,by simp,asx,ha,hy⟩
   ·obtain⟨x',hx',zs,q1,q2⟩:=bindL_inv hb y hy;exact⟨x',by simp[hx'],zs,q1,q2⟩
  ·cases h
theorem evJI_sound (hE:Snd P GL E) {i:AI} {e:Env} {h:List Row} {t:Lp} {s':St} (he:evJI E t i ⟨e,h⟩=some s') (hk:OKT t h):stepJ P GL i ⟨e,t.ins P GL h⟩ ⟨s'.e,t.ins P GL s'.h⟩∧OKT t s'.h:=by
 unfold evJI at he;have call:∀ {d:Option Nat} {f:Opd} {args:List Opd} {x:List D×List Row},evJC E t (f.ev e) (argsOf e args) h=some x→CallS P GL (f.ev e) (argsOf e args) (t.ins P GL h) x.1 (t.ins P GL x.2)∧OKT t x.2:=by
  intro d f args x hx;unfold evJC at hx;split at hx
  ·rename_i y hy;split at hx
   ·rename_i hb;simp only[Option.some.injEq]at hx;subst hx;have fin:∀ {rets:List D} {z:List Row×Lp},CallS P GL (f.ev e) (argsOf e args) (t.ins P GL h) rets (z.2.ins P GL z.1)→t.kin z.2→OKT z.2 z.1→Lp.beq t z.2=true→
      CallS P GL (f.ev e) (argsOf e args) (t.ins P GL h) rets (t.ins P GL z.1)∧OKT t z.1:=by
     intro rets z hc hkin hok hb;have:=Lp.beq_eq (Lp.kin.refl t) hkin hb;rw[←this]at hc hok;exact⟨hc,hok⟩
    split at hy
    ·rename_i r hf;simp only[Option.map_eq_some_iff]at hy;obtain⟨z,hz,rfl⟩:=hy;obtain⟨h1,h2,h3⟩:=evY_sound hE hz hk;have hf':f.ev e= .yld r:=hf;exact fin (z:=z.2) (by simp only[CallS,hf'];exact⟨z.1,h1,rfl⟩) h2 h3 hb
    ·rename_i fid fs hf;obtain⟨h1,h2,h3⟩:=evCall_sound hE hy hk;have hf':f.ev e= .meth fid fs:=hf;exact fin (z:=y.2) (by simp only[CallS,hf'];exact h1) h2 h3 hb
    ·rename_i hny hnm;split at hy
     ·rename_i fid caps hfn;obtain⟨h1,h2,h3⟩:=evCall_sound hE hy hk;refine fin (z:=y.2) ?_ h2 h3 hb;unfold CallS;split
      ·rename_i r hr;exact absurd hr (hny r)
      ·rename_i a b hr;exact absurd hr (hnm a b)
      ·exact⟨fid,caps,hfn,h1⟩
     ·cases hy
   ·cases hx
  ·cases hx
 split at he
 ·rename_i d f args;simp only[Option.map_eq_some_iff]at he;obtain⟨x,hx,rfl⟩:=he;obtain⟨h1,h2⟩:=call (d:=d) hx;exact⟨.inr (.inr (.inl ⟨d,f,args,x.1,_,.inl rfl,h1,rfl⟩)),h2⟩
 ·rename_i d f args;split at he
  ·rename_i x hx;split at he
   ·rename_i hb;simp only[Option.some.injEq]at he;subst he;obtain⟨h1,h2⟩:=call (d:=d) hx;refine⟨.inr (.inr (.inl ⟨d,f,args,x.1,_,.inr ⟨rfl,x.2.drop h.length,?_⟩,h1,rfl⟩)),h2⟩;have e1:x.2=h++x.2.drop h.length:=by
     have:=row_eq hb;conv=>lhs;rw[←List.take_append_drop h.length x.2,this]
    have e2:∀(l:List Row),Lp.ins P GL t (h++l)=Lp.ins P GL t h++l:=λl=>ins_appendL t l λr hr=>hk.lt hr;show Lp.ins P GL t x.2=Lp.ins P GL t h++x.2.drop h.length;rw[←e2,←e1]
   ·cases he
  ·cases he
 ·rename_i d f args;split at he
  ·rename_i fid caps vs hf hv;simp only[Option.map_eq_some_iff]at he;obtain⟨rets,hr,rfl⟩:=he;exact⟨.inr (.inl ⟨d,f,args,fid,caps,vs,rets,rfl,hf,hv,hE.Pf hr,rfl⟩),hk⟩
  ·cases he
 ·obtain⟨h1,h2⟩:=step_lift (P:=P) (GL:=GL) hk he;exact⟨.inl h1,h2⟩
theorem evJG_sound (hE:Snd P GL E) {x:GI} {e:Env} {h:List Row} {t:Lp} {s':St} (he:evJG E t x ⟨e,h⟩=some s') (hk:OKT t h):gstepJ P GL x ⟨e,t.ins P GL h⟩ ⟨s'.e,t.ins P GL s'.h⟩∧OKT t s'.h:=by
 unfold evJG at he;split at he
 ·rename_i hg;simp only[gstepJ,hg];exact evJI_sound hE he hk
 ·rename_i tt want hg;split at he
  ·rename_i b hb;have hb':find e tt= .v (.bool b):=hb;split at he
   ·rename_i hbw;simp only[gstepJ,hg,hb',hbw,if_true];exact evJI_sound hE he hk
   ·rename_i hbw;simp only[Option.some.injEq]at he;subst he;simp only[gstepJ,hg,hb',hbw,if_false];exact⟨trivial,hk⟩
  ·rename_i hb;have hb':find e tt= .tup []:=hb;simp only[Option.some.injEq]at he;subst he;simp only[gstepJ,hg,hb'];exact⟨trivial,hk⟩
  ·cases he
theorem evJ_sound (hE:Snd P GL E) {t:Lp}:∀ {ops:List GI} {e:Env} {h:List Row} {s':St},evJ E t ops ⟨e,h⟩=some s'→OKT t h→runJ P GL ops ⟨e,t.ins P GL h⟩ ⟨s'.e,t.ins P GL s'.h⟩∧OKT t s'.h
 |[],e,h,s',he,hk=>by
  simp only[evJ,Option.some.injEq]at he;subst he;exact⟨rfl,hk⟩
 |x::xs,e,h,s',he,hk=>by
  simp only[evJ]at he;split at he
  ·rename_i s1 h1;obtain⟨q1,q2⟩:=evJG_sound hE h1 hk;obtain⟨q3,q4⟩:=evJ_sound hE he q2;exact⟨⟨_,q1,q3⟩,q4⟩
  ·cases he
theorem evT_sound (hE:Snd P GL E) {t:Lp} {is:List GI}:∀(tr:AT) {e:Env} {h:List Row} {os:List St},evT E t is tr ⟨e,h⟩=some os→OKT t h→
  (∀o∈os,OKT t o.h)∧∀K:St→Prop,(∀o∈os,K ⟨o.e,t.ins P GL o.h⟩)→tr.ok P GL is K ⟨e,t.ins P GL h⟩:=by
 intro tr;induction tr with
 |done=>
  intro e h os he hk;simp only[evT,Option.some.injEq]at he;subst he;exact⟨λo ho=>by simp only[List.mem_singleton]at ho;subst ho;exact hk,λK hK=>by have hK':=hK _ (List.mem_singleton.2 rfl);exact hK'⟩
 |take i tr ih=>
  intro e h os he hk;simp only[evT]at he;split at he
  ·rename_i s1 h1;obtain⟨q1,q2⟩:=evJG_sound hE h1 hk;obtain⟨q3,q4⟩:=ih he q2;exact⟨q3,λK hK=>⟨_,q1,q4 K hK⟩⟩
  ·cases he
 |pick c ih=>intro e h os he hk;exact ih he hk
 |alt i tr r iht ihr=>
  intro e h os he hk;simp only[evT]at he;split at he
  ·rename_i s1 h1;obtain⟨q1,q2⟩:=evJG_sound hE h1 hk;split at he
   ·rename_i a b ha hb;simp only[Option.some.injEq]at he;subst he;obtain⟨q3,q4⟩:=iht ha q2;obtain⟨q5,q6⟩:=ihr hb hk;refine⟨λo ho=>(List.mem_append.1 ho).elim (q3 o) (q5 o),λK hK=>⟨⟨_,q1,q4 K λo ho=>hK o (List.mem_append_left _ ho)⟩,q6 K λo ho=>hK o (List.mem_append_right _ ho)⟩⟩
   ·cases he
  ·cases he
 |none=>
  intro e h os he hk;simp only[evT,Option.some.injEq]at he;subst he;exact⟨by simp,λK _=>trivial⟩
theorem mergeA_sub {n0:Nat} {t:Lp} {keep:List Nat} {ss:List St} {o:St} (h:o∈mergeA n0 t keep ss):o∈ss:=by
 cases ss with
 |nil=>exact h
 |cons s1 ss=>
  simp only[mergeA,List.mem_cons,List.mem_filter]at h ⊢;rcases h with h|h
  ·exact .inl h
  ·exact .inr h.1
theorem normE_map:∀(e e':Env) (keep:List Nat),(normE e keep).map (·.2)=(normE e' keep).map (·.2)→normE e keep=normE e' keep
 |_,_,[],_=>rfl
 |e,e',n::ns,h=>by
  simp only[normE,List.map_cons,List.cons.injEq]at h ⊢;exact⟨by rw[h.1],normE_map e e' ns h.2⟩
theorem endEq_eq {keep:List Nat} {a b:St} (h:endEq keep a b=true):normE a.e keep=normE b.e keep∧a.h=b.h:=by
 simp only[endEq,Bool.and_eq_true]at h;exact⟨normE_map _ _ _ (D.beqs_eq h.1),row_eq h.2⟩
theorem find_ren (π:List (Nat×Nat)):∀(e:Env) (n:Nat),find (e.map λp=>(p.1,p.2.ren π)) n=(find e n).ren π
 |[],n=>by simp only[List.map_nil,find,D.ren]
 |p::e,n=>by
  simp only[List.map_cons,find];by_cases h:p.1=n
  ·simp[h]
  ·rw[if_neg h,if_neg h,find_ren π e n]
theorem mergeA_sound {n0:Nat} {t:Lp} {keep:List Nat} {ss:List St} {o:St} (h:o∈ss):
  ∃s1∈mergeA n0 t keep ss,∃s2,RenS n0 ⟨o.e,t.ins P GL o.h⟩ s2∧(⟨normE s2.e keep,s2.h⟩:St)=ES.real P GL ⟨normE s1.e keep,s1.h,t⟩:=by
 cases ss with
 |nil=>simp at h
 |cons s1 ss=>
  have own:∀o,o∈mergeA n0 t keep (s1::ss)→∃s1'∈mergeA n0 t keep (s1::ss),∃s2,RenS n0 ⟨o.e,t.ins P GL o.h⟩ s2∧(⟨normE s2.e keep,s2.h⟩:St)=ES.real P GL ⟨normE s1'.e keep,s1'.h,t⟩:=
   λo ho=>⟨o,ho,_,.inl rfl,rfl⟩
  rcases List.mem_cons.1 h with rfl|h
  ·exact own _ (by simp[mergeA])
  ·cases ha:alike n0 t keep o s1 with
   |false=>exact own o (by simp only[mergeA,List.mem_cons,List.mem_filter];exact .inr ⟨h,by simp[ha]⟩)
   |true=>
    refine⟨s1,by simp[mergeA],?_⟩;simp only[alike,Bool.or_eq_true,Bool.and_eq_true]at ha;rcases ha with ha|⟨hte,⟨hp,hno⟩,he⟩
    ·obtain⟨h1,h2⟩:=endEq_eq ha;exact⟨⟨o.e,t.ins P GL o.h⟩,.inl rfl,by simp only[ES.real,h1,h2]⟩
    ·have htn:t=[]:=by simpa using hte
     subst htn;obtain⟨h1,h2⟩:=endEq_eq he;refine⟨renSt (mkPi o s1) o,.inr ⟨mkPi o s1,hp,hno,λn=>find_ren _ _ _,rfl⟩,?_⟩;simp only[ES.real,Lp.ins,h1,h2]
theorem evC_K (hE:Snd P GL E) {ac:AC} {s:ES} {os:List (AExit×ES)} (he:evC E ac s=some os) (hk:OKT s.t s.h):∀o∈os,s.t.kin o.2.t∧OKT o.2.t o.2.h:=by
 have here:∀(e:AExit),∀o∈[(e,s)],s.t.kin o.2.t∧OKT o.2.t o.2.h:=λe o ho=>by simp only[List.mem_singleton]at ho;subst ho;exact⟨Lp.kin.refl _,hk⟩
 cases ac with
 |skip=>simp only[evC,Option.some.injEq]at he;subst he;exact here _
 |reg ops keep=>
  simp only[evC,Option.map_eq_some_iff]at he;obtain⟨ss,hs,rfl⟩:=he;intro o ho;obtain⟨y,hy,rfl⟩:=List.mem_map.1 ho;exact(evOps_sound hE hs hk).1 y hy
 |regD ops keep cl=>
  simp only[evC,Option.map_eq_some_iff]at he;obtain⟨s',hs,rfl⟩:=he;intro o ho;simp only[List.mem_singleton]at ho;subst ho;exact⟨Lp.kin.refl _,(evJ_sound hE hs hk).2⟩
 |regV ops keep cl=>simp[evC]at he
 |regA ops keep cl t=>
  simp only[evC,Option.map_eq_some_iff]at he;obtain⟨ss,hs,rfl⟩:=he;intro o ho;obtain⟨y,hy,rfl⟩:=List.mem_map.1 ho;exact⟨Lp.kin.refl _,(evT_sound hE t hs hk).1 y (mergeA_sub hy)⟩
 |seq a b=>
  simp only[evC]at he;split at he
  ·rename_i o1 h1;intro o ho;obtain⟨x,hx,zs,q1,q2⟩:=bindL_inv he o ho;have k1:=hE.K h1 hk x hx;split at q1
   ·have k2:=hE.K q1 k1.2 o q2;exact⟨k1.1.trans k2.1,k2.2⟩
   ·simp only[Option.some.injEq]at q1;subst q1;simp only[List.mem_singleton]at q2;subst q2;exact k1
  ·cases he
 |cond x a b=>
  simp only[evC]at he;split at he
  ·split at he
   ·exact hE.K he hk
   ·exact hE.K he hk
  ·cases he
 |block id c=>
  simp only[evC,Option.map_eq_some_iff]at he;obtain⟨ss,hs,rfl⟩:=he;intro o ho;obtain⟨y,hy,rfl⟩:=List.mem_map.1 ho;have:=hE.K hs hk y hy;split
  ·split
   ·exact this
   ·exact this
  ·exact this
 |loop c=>
  simp only[evC]at he;split at he
  ·rename_i o1 h1;intro o ho;obtain⟨x,hx,zs,q1,q2⟩:=bindL_inv he o ho;have k1:=hE.K h1 hk x hx;split at q1
   ·have k2:=hE.K q1 k1.2 o q2;exact⟨k1.1.trans k2.1,k2.2⟩
   ·simp only[Option.some.injEq]at q1;subst q1;simp only[List.mem_singleton]at q2;subst q2;exact k1
  ·cases he
 |scope c=>exact hE.K he hk
 |never=>cases he
 |exit id=>simp only[evC,Option.some.injEq]at he;subst he;exact here _
 |ret=>simp only[evC,Option.some.injEq]at he;subst he;exact here _
 |rangeF q ps asg body=>
  simp only[evC]at he;split at he
  ·rename_i fid caps hf;split at he
   ·rename_i rets h' x t' hF;have hk0:OKT ((s.h.length,Tag.ready,(⟨cpE s.e,ps,asg,body⟩:LD))::s.t) (s.h++[.dead]):=by
     obtain⟨h1,_⟩:=hk.append (P:=P) (GL:=GL) .dead;refine⟨λr hr=>?_,?_⟩
     ·simp only[Lp.has,List.map_cons,List.mem_cons]at hr;rcases hr with rfl|hr
      ·simp
      ·exact h1.dead r hr
     ·rw[List.map_cons,List.nodup_cons];exact⟨λhh=>by have:=hk.lt hh;simp at this,hk.nod⟩
    obtain⟨_,k2,k3⟩:=hE.F hF hk0;have k4:s.t.kin t':=k2.2.2;have k5:OKT t' h':=⟨λr hr=>k3.dead r (by simp only[Lp.has,List.map_cons,List.mem_cons];exact .inr hr),by have:=k3.nod;rw[List.map_cons,List.nodup_cons]at this;exact this.2⟩;intro o ho;split at he<;>simp only[Option.some.injEq,reduceCtorEq]at he<;>subst he<;>simp only[List.mem_singleton]at ho<;>subst ho<;>exact⟨k4,k5⟩
   ·cases he
  ·cases he
def LoopW (P:Program) (GL:Globals) (c:AC) (Q:AExit→St→Prop):Nat→St→Prop
 |0,_=>False
 |n+1,s=>awp P GL c (λe s'=>match e with| .normal=>LoopW P GL c Q n s'|e=>Q e s') s
theorem LoopW.step {c:AC} {Q:AExit→St→Prop}:∀ {n:Nat} {s:St},LoopW P GL c Q n s→LoopW P GL c Q (n+1) s
 |0,s,h=>h.elim
 |n+1,s,h=>by
  refine awp_mono c ?_ h;intro e s' h;cases e with
  |normal=>exact LoopW.step h
  |exit i=>exact h
  |ret=>exact h
theorem LoopW.le {c:AC} {Q:AExit→St→Prop} {n m:Nat} {s:St} (h:LoopW P GL c Q n s) (hm:n≤m):LoopW P GL c Q m s:=by
 induction hm with
 |refl=>exact h
 |step _ ih=>exact ih.step
theorem LoopW.awp {c:AC} {Q:AExit→St→Prop} {n:Nat} {s:St} (h:LoopW P GL c Q n s):Go.Va.awp P GL (.loop c) Q s:=by
 refine⟨λm s=>LoopW P GL c Q m s,⟨n,h⟩,λm s h=>?_⟩;cases m with
 |zero=>exact h.elim
 |succ m=>
  refine awp_mono c ?_ h;intro e s' h;cases e with
  |normal=>exact⟨m,by omega,h⟩
  |exit i=>exact h
  |ret=>exact h
theorem awp_loopW {c:AC} {Q:AExit→St→Prop} {s:St} (h:awp P GL (.loop c) Q s):∃n,LoopW P GL c Q n s:=by
 obtain⟨I,⟨m,hm⟩,h⟩:=h
 suffices ∀m s,I m s→LoopW P GL c Q (m+1) s from⟨_,this m s hm⟩
 intro m;induction m using Nat.strongRecOn with
 |_ m ih=>
  intro s hs;refine awp_mono c ?_ (h m s hs);intro e s' h;cases e with
  |normal=>obtain⟨m',hlt,hI⟩:=h;exact(ih m' hlt s' hI).le hlt
  |exit i=>exact h
  |ret=>exact h
theorem all_max {α:Type} {p:Nat→α→Prop} (hp:∀n m x,n≤m→p n x→p m x):∀ {xs:List α},(∀x∈xs,∃n,p n x)→∃n,∀x∈xs,p n x
 |[],_=>⟨0,by simp⟩
 |x::xs,h=>by
  obtain⟨n,hn⟩:=h x (by simp);obtain⟨m,hm⟩:=all_max hp (xs:=xs) λy hy=>h y (by simp[hy]);refine⟨max n m,λy hy=>?_⟩;rcases List.mem_cons.1 hy with rfl|hy
  ·exact hp _ _ _ (Nat.le_max_left _ _) hn
  ·exact hp _ _ _ (Nat.le_max_right _ _) (hm y hy)
theorem evC_sound (hE:Snd P GL E) {ac:AC} {s:ES} {os:List (AExit×ES)} (he:evC E ac s=some os) (hk:OKT s.t s.h):awp P GL ac (λe s'=>∃o∈os,e=o.1∧s'=o.2.real P GL) (s.real P GL):=by
 cases ac with
 |skip=>
  simp only[evC,Option.some.injEq]at he;subst he;exact⟨_,List.mem_singleton.2 rfl,rfl,rfl⟩
 |reg ops keep=>
  simp only[evC,Option.map_eq_some_iff]at he;obtain⟨ss,hs,rfl⟩:=he;rw[awp_reg];exact(evOps_sound hE hs hk).2 _ λo ho=>⟨_,List.mem_map.2 ⟨o,ho,rfl⟩,rfl,rfl⟩
 |regD ops keep cl=>
  simp only[evC,Option.map_eq_some_iff]at he;obtain⟨s',hs,rfl⟩:=he;exact⟨_,(evJ_sound hE hs hk).1,_,List.mem_singleton.2 rfl,rfl,rfl⟩
 |regV ops keep cl=>simp[evC]at he
 |regA ops keep cl t=>
  simp only[evC,Option.map_eq_some_iff]at he;obtain⟨ss,hs,rfl⟩:=he;rw[awp_regA];obtain⟨hok,hall⟩:=evT_sound hE t hs hk;refine hall _ λo ho=>?_;obtain⟨s1,hs1,hr⟩:=mergeA_sound (P:=P) (GL:=GL) (n0:=s.h.length) (t:=s.t) (keep:=keep) ho;obtain⟨s2,hren,heq⟩:=hr;have hl:(s.real P GL).h.length=s.h.length:=ins_len _ _;rw[hl];exact⟨s2,hren,_,List.mem_map.2 ⟨s1,hs1,rfl⟩,rfl,heq⟩
 |seq a b=>
  simp only[evC]at he;split at he
  ·rename_i o1 h1;rw[awp_seq];refine awp_mono _ ?_ (hE.C h1 hk);rintro e s' ⟨o,ho,rfl,rfl⟩;obtain⟨zs,q1,q2⟩:=bindL_mem he o ho;have hko:=(hE.K h1 hk o ho).2;split at q1
   ·rename_i hn
    try rw[hn]
    refine awp_mono _ ?_ (hE.C q1 hko);rintro e s' ⟨o',ho',r⟩;exact⟨o',q2 o' ho',r⟩
   ·rename_i hn;simp only[Option.some.injEq]at q1;subst q1;have:=q2 _ (List.mem_singleton.2 rfl);cases he1:o.1 with
    |normal=>exact absurd he1 hn
    |exit i=>exact⟨_,this,he1.symm▸rfl,rfl⟩
    |ret=>exact⟨_,this,he1.symm▸rfl,rfl⟩
  ·cases he
 |cond x a b=>
  simp only[evC]at he;rw[awp_cond];have hx:x.ev (s.real P GL).e=x.ev s.e:=rfl;split at he
  ·rename_i t ht;rw[hx,ht];simp only[];split at he
   ·rename_i htt;rw[if_pos htt];exact hE.C he hk
   ·rename_i htt;rw[if_neg htt];exact hE.C he hk
  ·cases he
 |block id c=>
  simp only[evC,Option.map_eq_some_iff]at he;obtain⟨ss,hs,rfl⟩:=he;rw[awp_block];refine awp_mono _ ?_ (hE.C hs hk);rintro e s' ⟨o,ho,rfl,rfl⟩;have hm:=List.mem_map_of_mem (f:=λo:AExit×ES=>match o.1 with| .exit id'=>if id'=id then ((.normal,o.2):AExit×ES) else o|_=>o) ho
  obtain⟨e,s'⟩:=o;cases e with
  |normal=>exact⟨_,hm,rfl,rfl⟩
  |ret=>exact⟨_,hm,rfl,rfl⟩
  |exit i=>
   simp only at hm ⊢;by_cases hi:i=id
   ·simp only[hi,if_true]at hm ⊢;exact⟨_,hm,rfl,rfl⟩
   ·simp only[hi,if_false]at hm ⊢;exact⟨_,hm,rfl,rfl⟩
 |loop c=>
  simp only[evC]at he;split at he
  ·rename_i o1 h1;have hb:∀o∈o1,∃n,(match o.1 with| .normal=>LoopW P GL c (λe s'=>∃o∈os,e=o.1∧s'=o.2.real P GL) n (o.2.real P GL)|e=>∃o'∈os,e=o'.1∧o.2.real P GL=o'.2.real P GL):=by
    intro o ho;obtain⟨zs,q1,q2⟩:=bindL_mem he o ho;have hko:=(hE.K h1 hk o ho).2;split at q1
    ·rename_i hn;refine awp_loopW (awp_mono _ ?_ (hE.C q1 hko));rintro e s' ⟨o',ho',r⟩;exact⟨o',q2 o' ho',r⟩
    ·rename_i hn;simp only[Option.some.injEq]at q1;subst q1;have:=q2 _ (List.mem_singleton.2 rfl);cases he1:o.1 with
     |normal=>exact absurd he1 hn
     |exit i=>exact⟨0,_,this,he1.symm▸rfl,rfl⟩
     |ret=>exact⟨0,_,this,he1.symm▸rfl,rfl⟩
   obtain⟨n,hn⟩:=all_max (λn m x hnm h=>by
    cases hx:x.1 with
    |normal=>simp only[hx]at h ⊢;exact h.le hnm
    |exit i=>simp only[hx]at h ⊢;exact h
    |ret=>simp only[hx]at h ⊢;exact h) hb
   refine LoopW.awp (n:=n+1) (awp_mono _ ?_ (hE.C h1 hk));rintro e s' ⟨o,ho,rfl,rfl⟩;have:=hn o ho;cases he1:o.1 with
   |normal=>simp only[he1]at this ⊢;exact this
   |exit i=>simp only[he1]at this ⊢;exact this
   |ret=>simp only[he1]at this ⊢;exact this
  ·cases he
 |scope c=>
  have he':E.C c s=some os:=he;have h:=hE.C (ac:=c) he' hk;exact h
 |never=>cases he
 |exit id=>
  simp only[evC,Option.some.injEq]at he;subst he;exact⟨_,List.mem_singleton.2 rfl,rfl,rfl⟩
 |ret=>
  simp only[evC,Option.some.injEq]at he;subst he;exact⟨_,List.mem_singleton.2 rfl,rfl,rfl⟩
 |rangeF q ps asg body=>
  simp only[evC]at he;split at he
  ·rename_i fid caps hf;split at he
   ·rename_i rets h' x t' hF;obtain⟨h1,h2⟩:=hk.append (P:=P) (GL:=GL) .dead;have hnl:¬s.t.has s.h.length:=λhh=>by have:=hk.lt hh;simp at this
    have hk0:OKT ((s.h.length,Tag.ready,(⟨cpE s.e,ps,asg,body⟩:LD))::s.t) (s.h++[.dead]):=by
     refine⟨λr hr=>?_,?_⟩
     ·simp only[Lp.has,List.map_cons,List.mem_cons]at hr;rcases hr with rfl|hr
      ·simp
      ·exact h1.dead r hr
     ·rw[List.map_cons,List.nodup_cons];exact⟨hnl,hk.nod⟩
    obtain⟨k1,k2,k3⟩:=hE.F hF hk0;have hx1:s.h.length=x.1:=k2.1;have hx2:(⟨cpE s.e,ps,asg,body⟩:LD)=x.2.2:=k2.2.1;have hl:(s.real P GL).h.length=s.h.length:=ins_len _ _;have e0:Lp.ins P GL ((s.h.length,Tag.ready,(⟨cpE s.e,ps,asg,body⟩:LD))::s.t) (s.h++[.dead])=(s.real P GL).h++[recRow P GL .ready (cpE s.e) ps asg body]:=by
     simp only[Lp.ins,h2,ES.real];rw[List.set_append_right _ _ (by rw[ins_len];exact Nat.le_refl _),ins_len,Nat.sub_self];rfl
    have e1:Lp.ins P GL (x::t') h'=(Lp.ins P GL t' h').set s.h.length (recRow P GL x.2.1 (cpE s.e) ps asg body):=by
     simp only[Lp.ins,←hx1,←hx2]
    have hd:=k3.dead x.1 (by simp[Lp.has]);have hlt:s.h.length <h'.length:=by rw[hx1];exact(List.getElem?_eq_some_iff.1 hd).1
    have hnt:¬Lp.has t' s.h.length:=by
     have:=k3.nod;rw[List.map_cons,List.nodup_cons]at this;rw[hx1];exact this.1
    simp only[e0,e1]at k1;rw[awp_rangeF];have hq:∀Q:AExit→St→Prop,rangeEnd Q ⟨s.e,Lp.ins P GL t' h'⟩ x.2.1→
      ∃fid caps rets h' tag,fnOf (q.ev (s.real P GL).e)=some (fid,caps)∧FSp P GL fid (.yld (s.real P GL).h.length::caps) ((s.real P GL).h++[recRow P GL .ready (cpE (s.real P GL).e) ps asg body]) rets h'∧
       h'[(s.real P GL).h.length]?=some (recRow P GL tag (cpE (s.real P GL).e) ps asg body)∧rangeEnd Q ⟨(s.real P GL).e,h'.set (s.real P GL).h.length .dead⟩ tag:=by
     intro Q hQ;refine⟨fid,caps,rets,(Lp.ins P GL t' h').set s.h.length (recRow P GL x.2.1 (cpE s.e) ps asg body),x.2.1,hf,?_,?_,?_⟩
     ·rw[hl];exact k1
     ·rw[hl,List.getElem?_set_self (by rw[ins_len];exact hlt)];rfl
     ·rw[hl,List.set_set];have:(Lp.ins P GL t' h').set s.h.length .dead=Lp.ins P GL t' h':=set_self (by rw[ins_get t' hnt,hx1];exact hd);rw[this];exact hQ
    refine hq _ ?_;split at he<;>simp only[Option.some.injEq,reduceCtorEq]at he<;>subst he<;>rename_i hxt<;>rw[hxt]<;>exact⟨_,List.mem_singleton.2 rfl,rfl,rfl⟩
   ·cases he
  ·cases he
theorem arD_lift {t:Lp} {e:Env} {h:List Row} (hk:OKT t h):∀ {rs:List AR} {xs:List D},resDs ⟨e,h⟩ rs=some xs→resDs ⟨e,t.ins P GL h⟩ rs=some xs
 |[],xs,hx=>hx
 |r::rs,xs,hx=>by
  simp only[resDs]at hx ⊢;split at hx
  ·rename_i y ys hy hys;rw[arD_lift hk hys];have:r.d ⟨e,t.ins P GL h⟩=some y:=by
    cases r with
    |t n=>exact hy
    |c n sz ag=>
     simp only[AR.d,Option.bind_eq_some_iff]at hy ⊢;obtain⟨d,hd,hd2⟩:=hy;exact⟨d,val_lift hk hd,hd2⟩
   rw[this];exact hx
  ·cases hx
theorem tidy_sound {f:Nat} {args:List D} {h:List Row} {t:Lp} {n:Nat} {x:List D×List Row×Lp} (hk:t.kin x.2.2) (hok:OKT x.2.2 x.2.1) (hn:∀r,t.has r→r <n):
  t.kin (tidy n x).2.2∧OKT (tidy n x).2.2 (tidy n x).2.1∧(FSp P GL f args h x.1 (x.2.2.ins P GL x.2.1)→FSp P GL f args h (tidy n x).1 ((tidy n x).2.2.ins P GL (tidy n x).2.1)):=by
 unfold tidy;split
 ·have hn':∀r,Lp.has x.2.2 r→r <n:=λr hr=>hn r (by simp only[Lp.has,hk.map];exact hr);obtain⟨h1,h2⟩:=hok.kill (P:=P) (GL:=GL) hn';exact⟨hk,h1,λhf=>by simp only[h2];exact hf.kill n⟩
 ·exact⟨hk,hok,id⟩
theorem evF_sound (hT:∀f n ac rs,T f=some (n,ac,rs)→chkF P GL f n ac rs=true)
  (hP:∀f args h x,Pr f args h=some x→∀t,OKT t h→FSp P GL f args (t.ins P GL h) x.1 (t.ins P GL h++x.2)) (hE:Snd P GL E) {f:Nat} {args:List D} {h:List Row} {t:Lp} {r:List D×List Row×Lp} (he:evF T Pr E f args h t=some r) (hk:OKT t h):
  FSp P GL f args (t.ins P GL h) r.1 (r.2.2.ins P GL r.2.1)∧t.kin r.2.2∧OKT r.2.2 r.2.1:=by
 unfold evF at he;split at he
 ·rename_i n ac rs htb;split at he
  ·rename_i hlen;split at he
   ·rename_i os hos;split at he
    ·rename_i xs hxs;obtain⟨hmem,hall⟩:=oneOf_mem he;have hK:=hE.K hos hk;have hC:=hE.C hos hk;simp only at hK;have hn:∀r,t.has r→r <h.length:=λr hr=>hk.lt hr;have outs:∀o∈os,∃y,(∀i,o.1≠ .exit i)∧resDs ⟨o.2.e,o.2.h⟩ rs=some y∧tidy h.length (y,o.2.h,o.2.t)∈xs:=by
      intro o ho;obtain⟨z,hz,hzm⟩:=mapL_mem hxs o ho;split at hz
      ·cases hz
      ·rename_i hne;simp only[Option.map_eq_some_iff]at hz;obtain⟨y,hy,rfl⟩:=hz;exact⟨y,λi hi=>hne i hi,hy,hzm⟩
     have kinx:∀y∈xs,t.kin y.2.2∧OKT y.2.2 y.2.1:=by
      intro y hy;obtain⟨o,ho,hz⟩:=mapL_inv hxs y hy;have hko:=hK o ho;split at hz
      ·cases hz
      ·simp only[Option.map_eq_some_iff]at hz;obtain⟨z,_,rfl⟩:=hz;obtain⟨q1,q2,_⟩:=tidy_sound (P:=P) (GL:=GL) (f:=f) (args:=args) (h:=h) (n:=h.length) (x:=(z,o.2.h,o.2.t)) hko.1 hko.2 hn;exact⟨q1,q2⟩
     have same:∀y∈xs,y=r:=by
      intro y hy;rcases hall y hy with h|h
      ·exact h
      ·simp only[fEq,Bool.and_eq_true]at h;exact(Prod.ext (D.beqs_eq h.1.1) (Prod.ext (row_eq h.1.2) (Lp.beq_eq (kinx r hmem).1 (kinx y hy).1 h.2))).symm
     refine⟨?_,kinx r hmem⟩;refine fsp_tidy (hT f n ac rs htb) hlen (awp_mono _ ?_ hC);rintro e s' ⟨o,ho,rfl,rfl⟩;obtain⟨y,hne,hy,hym⟩:=outs o ho;have hok:=hK o ho;obtain⟨_,_,q3⟩:=tidy_sound (P:=P) (GL:=GL) (f:=f) (args:=args) (h:=t.ins P GL h) (n:=h.length) (x:=(y,o.2.h,o.2.t)) hok.1 hok.2 hn;refine⟨?_,y,arD_lift hok.2 hy,λg w μ t' u' O hi=>?_⟩
     ·cases hoe:o.1 with
      |normal=>trivial
      |ret=>trivial
      |exit i=>exact absurd hoe (hne i)
     ·rw[←same _ hym];unfold tidy;split
      ·have hn':∀r,Lp.has o.2.t r→r <h.length:=λr hr=>hn r (by simp only[Lp.has,hok.1.map];exact hr);obtain⟨_,h2⟩:=hok.2.kill (P:=P) (GL:=GL) hn';refine⟨rfl,?_⟩;simp only[h2];exact hi.kill _
      ·exact⟨rfl,hi⟩
    ·cases he
   ·cases he
  ·cases he
 ·simp only[Option.map_eq_some_iff]at he;obtain⟨x,hr,rfl⟩:=he;have hlt:∀r,t.has r→r <h.length:=λr hr=>hk.lt hr;refine⟨?_,Lp.kin.refl _,⟨λr hr=>?_,hk.nod⟩⟩
  ·have:=hP f args h x hr t hk;simp only[ins_appendL t x.2 hlt];exact this
  ·rw[List.getElem?_append_left (hlt r hr)];exact hk.dead r hr
theorem evP_sound (hT:∀f n ac rs,T f=some (n,ac,rs)→chkF P GL f n ac rs=true) (hE:Snd P GL E) {M:Nat→List V→Option (List V)} (hM:∀f vs r,M f vs=some r→PSp P GL f vs r) {f:Nat} {vs rets:List V} (he:evP T M E f vs=some rets):PSp P GL f vs rets:=by
 unfold evP at he;split at he
 ·rename_i n ac rs htb;split at he
  ·rename_i hlen;split at he
   ·rename_i os hos;split at he
    ·rename_i xs hxs;obtain⟨hmem,hall⟩:=oneOf_mem he;have hk:OKT ([]:Lp) ([]:List Row):=⟨λr hr=>by simp[Lp.has]at hr,by simp⟩;have hK:=hE.K hos hk;have hC:=hE.C hos hk;refine psp_of_awp (hT f n ac rs htb) hlen (awp_mono _ ?_ hC);rintro e s' ⟨o,ho,rfl,rfl⟩;obtain⟨z,hz,hzm⟩:=mapL_mem hxs o ho;have hzr:z=rets:=by
      rcases hall z hzm with h|h
      ·exact h
      ·exact(V.beqs_eq h).symm
     have ht:o.2.t=[]:=by
      have:=(hK o ho).1;simp only at this;cases h:o.2.t with
      |nil=>rfl
      |cons a b=>rw[h]at this;exact this.elim
     split at hz
     ·cases hz
     ·rename_i hne;refine⟨?_,?_⟩
      ·cases hoe:o.1 with
       |normal=>trivial
       |ret=>trivial
       |exit i=>exact absurd hoe (hne i)
      ·simp only[ES.real,ht,Lp.ins];rw[←hzr];exact hz
    ·cases he
   ·cases he
  ·cases he
 ·exact hM _ _ _ he
theorem evn_snd {np:Nat→Bool} {M:Nat→List V→Option (List V)} (hT:∀f n ac rs,T f=some (n,ac,rs)→chkF P GL f n ac rs=true)
  (hP:∀f args h x,Pr f args h=some x→∀t,OKT t h→FSp P GL f args (t.ins P GL h) x.1 (t.ins P GL h++x.2)) (hM:∀f vs r,M f vs=some r→PSp P GL f vs r):∀n,Snd P GL (evn np M T Pr n)
 |0=>by
  constructor
  ·intro f args h t r h;cases h
  ·intro f vs rets h;cases h
  ·intro ac s os h;cases h
  ·intro ac s os h;cases h
 |n+1=>by
  have ih:=evn_snd (np:=np) hT hP hM n
  constructor
  ·intro f args h t r he hk;exact evF_sound hT hP ih he hk
  ·intro f vs rets he;exact evP_sound hT ih hM he
  ·intro ac s os he hk;exact evC_K ih he hk
  ·intro ac s os he hk;exact evC_sound ih he hk
theorem ev_snd (hT:∀f n ac rs,T f=some (n,ac,rs)→chkF P GL f n ac rs=true)
  (hP:∀f args h x,Pr f args h=some x→∀t,OKT t h→FSp P GL f args (t.ins P GL h) x.1 (t.ins P GL h++x.2)) (n:Nat):Snd P GL (ev T Pr n):=evn_snd hT hP (λ_ _ _ h=>by cases h) n
theorem psp_of_evn {np:Nat→Bool} {M:Nat→List V→Option (List V)} (hT:∀f n ac rs,T f=some (n,ac,rs)→chkF P GL f n ac rs=true)
  (hP:∀f args h x,Pr f args h=some x→∀t,OKT t h→FSp P GL f args (t.ins P GL h) x.1 (t.ins P GL h++x.2)) (hM:∀f vs r,M f vs=some r→PSp P GL f vs r) {fuel f:Nat} {vs rets:List V} (h:(evn np M T Pr fuel).Pf f vs=some rets):PSp P GL f vs rets:=(evn_snd hT hP hM fuel).Pf h
theorem psp_of_ev (hT:∀f n ac rs,T f=some (n,ac,rs)→chkF P GL f n ac rs=true)
  (hP:∀f args h x,Pr f args h=some x→∀t,OKT t h→FSp P GL f args (t.ins P GL h) x.1 (t.ins P GL h++x.2)) {fuel f:Nat} {vs rets:List V} (h:(ev T Pr fuel).Pf f vs=some rets):PSp P GL f vs rets:=(ev_snd hT hP fuel).Pf h
end
end Go.Va
set_option maxHeartbeats 4000000
namespace Go.Va
open Go.Proofs
abbrev TL:=List (Nat×Nat×AC×List AR)
noncomputable def hint0:Hint
 |112,2000007=>1
 |110,2000004=>29
 |110,2000008=>29
 |317,2000006=>29
 |187,2000013=>29
 |202,2000054=>1
 |361,2000025=>5
 |361,2000038=>5
 |361,2000084=>5
 |361,2000094=>5
 |361,2000097=>5
 |361,2000121=>5
 |361,2000124=>5
 |f,g=>hints f g
noncomputable def oT (f k:Nat):List GI:=genFO PG GLx hint0 f iP iN k
noncomputable def lT (f:Nat):Nat→Nat→AC
 |0,_=> .never
 |n+1,k=>genFL PG GLx hint0 f (oT f) (lT f n) k
abbrev te (f:Nat) {n:Nat} {x:AC} {y:List AR} (_h1:gN f=n:=by conv=>lhs;reduce) (_h2:genF PG GLx hint0 f (oT f) (lT f 9)=x:=by conv=>lhs;reduce) (_h3:gR f=y:=by conv=>lhs;reduce):Nat×Nat×AC×List AR:=(f,n,x,y)
noncomputable def ck (x:Nat×Nat×AC×List AR):Bool:=chkF Tryz.prog GLx x.1 x.2.1 x.2.2.1 x.2.2.2
def lookT (l:TL) (f:Nat):Option (Nat×AC×List AR):=
 match l with
 |[]=>none
 |x::l=>if x.1=f then some x.2 else lookT l f
theorem lookT_ok {l:TL} (h:l.all ck=true):∀f n ac rs,lookT l f=some (n,ac,rs)→chkF Tryz.prog GLx f n ac rs=true:=by
 induction l with
 |nil=>intro f n ac rs hl;cases hl
 |cons x l ih=>
  intro f n ac rs hl;rw[List.all_cons,Bool.and_eq_true]at h;simp only[lookT]at hl;split at hl
  ·rename_i hx;simp only[Option.some.injEq]at hl;have:=h.1;rw[ck,hx,hl]at this;exact this
  ·exact ih h.2 f n ac rs hl
end Go.Va
namespace Go.Va
section
variable {P:Program} {GL:Globals}
theorem awp_loop_one {c:AC} {Q:AExit→St→Prop} {s s1:St} (h:awp P GL c (λe s'=>match e with| .normal=>s'=s1|e=>Q e s') s) (h1:awp P GL (.loop c) Q s1):awp P GL (.loop c) Q s:=by
 obtain⟨n,hn⟩:=awp_loopW h1;refine LoopW.awp (n:=n+1) (awp_mono c ?_ h);intro e s' h;cases e with
 |normal=>subst h;exact hn
 |exit i=>exact h
 |ret=>exact h
theorem awp_loop_end {c:AC} {Q:AExit→St→Prop} {s:St} (h:awp P GL c (λe s'=>match e with| .normal=>False|e=>Q e s') s):awp P GL (.loop c) Q s:=by
 refine LoopW.awp (n:=1) (awp_mono c ?_ h);intro e s' h;cases e with
 |normal=>exact h.elim
 |exit i=>exact h
 |ret=>exact h
theorem get_set {h:List Row} {r:Nat} {x y:Row} (hr:h[r]?=some y):(h.set r x)[r]?=some x:=List.getElem?_set_self (List.getElem?_eq_some_iff.1 hr).1
theorem get_app (h:List Row) (x:Row):(h++[x])[h.length]?=some x:=by simp
theorem get_old {h:List Row} {r:Nat} {y:Row} (l:List Row) (hr:h[r]?=some y):(h++l)[r]?=some y:=by
 rw[List.getElem?_append_left (List.getElem?_eq_some_iff.1 hr).1];exact hr
theorem lt_of_get {h:List Row} {r:Nat} {y:Row} (hr:h[r]?=some y):r <h.length:=(List.getElem?_eq_some_iff.1 hr).1
end
section
variable {P:Program} {GL:Globals}
def Row.low (n:Nat):Row→Bool
 | .cells ds=>D.lts n ds
 | .map _ _ _=>true
 | .dead=>true
 | .obj _ _ _=>false
theorem dlt_mono {n m:Nat} (h:n≤m):∀d:D,D.lt n d=true→D.lt m d=true:=by
 intro d;refine D.rec (motive_1:=λd=>D.lt n d=true→D.lt m d=true) (motive_2:=λl=>D.lts n l=true→D.lts m l=true) ?_ ?_ ?_ ?_ ?_ ?_ ?_ ?_ ?_ ?_ ?_ ?_ ?_ ?_ ?_ ?_ d
 all_goals simp only[D.lt,D.lts,decide_eq_true_eq,Bool.and_eq_true,implies_true,true_implies,imp_self]
 all_goals first
  |(intros;omega)
  |(intro a b iha ihb hab;exact⟨iha hab.1,ihb hab.2⟩)
  |(intros;assumption)
  |skip
theorem take_get {μ:List Nat} {r n b:Nat} (h:μ[r]?=some b) (hr:r <n):(μ.take n)[r]?=some b:=by
 rw[List.getElem?_take,if_pos hr];exact h
theorem lts_get {n:Nat}:∀ {ds:List D} {i:Nat} {d:D},D.lts n ds=true→ds[i]?=some d→D.lt n d=true
 |d::ds,i,x,h,hi=>by
  simp only[D.lts,Bool.and_eq_true]at h;cases i with
  |zero=>simp at hi;subst hi;exact h.1
  |succ i=>exact lts_get h.2 (by simpa using hi)
theorem RepC.low {g:Gh} {μ:List Nat} {n:Nat} {d:D} {u:Value} (h:RepC g μ d u) (hl:D.lt n d=true):RepC g (μ.take n) d u:=by
 cases d<;>simp only[RepC]at h ⊢
 ·exact h
 ·obtain⟨b,hb,rfl⟩:=h;exact⟨b,take_get hb (by simpa[D.lt]using hl),rfl⟩
theorem RepE.low {g:Gh} {w:World} {μ:List Nat} {n:Nat} {d:D} {u:Value} (h:RepE g w μ d u) (hl:D.lt n d=true):RepE g w (μ.take n) d u:=by
 cases d<;>simp only[RepE]at h ⊢ <;>try exact h
 ·obtain⟨b,hb,rfl⟩:=h;exact⟨b,take_get hb (by simpa[D.lt]using hl),rfl⟩
 ·obtain⟨b,cap,hb,rfl,hn⟩:=h;exact⟨b,cap,take_get hb (by simpa[D.lt]using hl),rfl,hn⟩
 ·obtain⟨b,hb,rfl⟩:=h;exact⟨b,take_get hb (by simpa[D.lt]using hl),rfl⟩
 ·obtain⟨vs,rfl,h⟩:=h;exact⟨vs,rfl,h.1,λi x v hx hv=>(h.2 i x v hx hv).low (lts_get (by simpa[D.lt]using hl) hx)⟩
 ·obtain⟨vs,rfl,h⟩:=h;exact⟨vs,rfl,h.1,λi x v hx hv=>(h.2 i x v hx hv).low (lts_get (by simpa[D.lt]using hl) hx)⟩
 ·obtain⟨b,hb,rfl⟩:=h;exact⟨b,take_get hb (by simpa[D.lt]using hl),rfl⟩
theorem RepG.low {g:Gh} {w:World} {μ:List Nat} {n:Nat} {d:D} {u:Value} (h:RepG g w μ d u) (hl:D.lt n d=true):RepG g w (μ.take n) d u:=by
 cases d<;>simp only[RepG]at h ⊢ <;>first
  |exact h.low hl
  |(obtain⟨vs,rfl,h,h1,h2⟩:=h
    exact⟨vs,rfl,⟨h.1,λi x v hx hv=>(h.2 i x v hx hv).low (lts_get (by simpa[D.lt]using hl) hx)⟩,h1,h2⟩)
theorem RepD.low {g:Gh} {w:World} {μ:List Nat} {n:Nat} {d:D} {u:Value} (h:RepD g w μ d u) (hl:D.lt n d=true):RepD g w (μ.take n) d u:=by
 cases d<;>simp only[RepD]at h ⊢ <;>first
  |exact h.low hl
  |(obtain⟨vs,rfl,h⟩:=h
    exact⟨vs,rfl,h.1,λi x v hx hv=>(h.2 i x v hx hv).low (lts_get (by simpa[D.lt]using hl) hx)⟩)
theorem Inv.low {g:Gh} {w:World} {μ:List Nat} {t:Nat→D} {u:Nat→Value} {h J:List Row} {O:Nat→Prop} (hi:Inv g w μ t u (h++J) O) (ht:∀n,D.lt h.length (t n)=true) (hh:∀row∈h,Row.low h.length row=true):
  Inv g w (μ.take h.length) t u h O:=by
 have hμl:(μ.take h.length).length=h.length:=by have:=hi.len;simp at this ⊢;omega
 have hget:∀ {r b:Nat},(μ.take h.length)[r]?=some b→r <h.length∧μ[r]?=some b:=by
  intro r b hb;rw[List.getElem?_take]at hb;split at hb
  ·exact⟨‹_›,hb⟩
  ·cases hb
 have hblk:∀p b,blk t u h w (μ.take h.length) p=some b→blk t u (h++J) w μ p=some b:=by
  intro p b hp;cases p with
  |tmp n k=>exact hp
  |cell r k=>
   simp only[blk]at hp ⊢;by_cases hr:r <h.length
   ·have e1:cellD (h++J) r k=cellD h r k:=by simp only[cellD,List.getElem?_append_left hr]
    have e2:cellU w (μ.take h.length) r k=cellU w μ r k:=by simp only[cellU,List.getElem?_take,if_pos hr]
    rw[e1,←e2];exact hp
   ·simp only[cellD,List.getElem?_eq_none (show h.length≤r by omega)]at hp;simp[own1]at hp
 refine⟨hi.agree,hi.olt,λn=>(hi.rep n).low (ht n),hμl,?_,?_,?_,λp q b hp hq=>hi.uniq p q b (hblk p b hp) (hblk q b hq),?_⟩
 ·intro r row b hr hb;obtain⟨hlt,hb⟩:=hget hb;have hrow:=hi.rows r row b (by rw[List.getElem?_append_left hlt];exact hr) hb;have hlow:=hh row (List.mem_of_getElem? hr);cases row with
  |cells ds=>
   obtain⟨vs,T,h1,h2,h3,h4⟩:=hrow;exact⟨vs,T,h1,⟨h2.1,λi x v hx hv=>(h2.2 i x v hx hv).low (lts_get hlow hx)⟩,h3,h4⟩
  |map es st ck=>exact hrow
  |obj tag p m=>simp[Row.low]at hlow
  |dead=>exact hrow
 ·intro r r' b hr hr';exact hi.nod r r' b (hget hr).2 (hget hr').2
 ·intro b hb;exact hi.mo b (List.mem_of_mem_take hb)
 ·intro p b hp;obtain⟨h1,h2⟩:=hi.sep p b (hblk p b hp);exact⟨λhm=>h1 (List.mem_of_mem_take hm),h2⟩
theorem lt_at0 {n:Nat} {d:D} (h:D.lt n d=true) (k:Nat):D.lt n (at0 .any d k)=true:=by
 simp only[at0];split
 ·exact h
 ·rfl
theorem lts_all {n:Nat}:∀ {ds:List D},(∀d∈ds,D.lt n d=true)→D.lts n ds=true
 |[],_=>rfl
 |d::ds,h=>by simp only[D.lts,Bool.and_eq_true];exact⟨h d (by simp),lts_all λx hx=>h x (by simp[hx])⟩
theorem lt_retDs {n:Nat} {ds:List D} (h:∀d∈ds,D.lt n d=true):D.lt n (retDs ds)=true:=by
 match ds with
 |[]=>rfl
 |[x]=>exact h x (by simp)
 |x::y::r=>simp only[retDs,D.lt];exact lts_all h
theorem fsp_low {f n:Nat} {ac:AC} {rs:List AR} {args rets:List D} {h h':List Row} (hk:chkF P GL f n ac rs=true) (hn:args.length=n) (hl:h.length≤h'.length)
  (hh:∀row∈h',Row.low h'.length row=true) (hr:∀d∈rets,D.lt h'.length d=true)
  (hw:awp P GL ac (λe s=>(match e with| .exit _=>False|_=>True)∧resDs s rs=some rets∧∃J,s.h=h'++J) ⟨entryD args,h⟩):FSp P GL f args h rets h':=by
 refine fsp_calls (calls_core (rets:=rets) (h':=h') hk hn (awp_mono ac (λe s=>by
  rintro⟨h1,h2,J,h3⟩;refine⟨h1,rets,h2,λg w μ v O hi=>⟨g,μ.take h'.length,λμ0 hμ0 ⟨tl,hp⟩=>?_,?_,Chg.refl _ _ _⟩⟩
  ·subst hp;rw[List.take_append,List.take_of_length_le (by omega)];exact List.prefix_append _ _
  ·rw[h3]at hi;exact hi.low (lt_at0 (lt_retDs hr)) hh) hw))
end
section
variable {P:Program} {GL:Globals}
theorem Inv.frzRow {g:Gh} {w:World} {μ:List Nat} {t:Nat→D} {u:Nat→Value} {h:List Row} {O:Nat→Prop} (hi:Inv g w μ t u h O) {r b n sz:Nat} {ds:List D} {xs:List V}
  (hr:h[r]?=some (.cells ds)) (hb:μ[r]?=some b) (hxl:xs.length=n) (hxc:∀x∈xs,x.cells.length=sz) (hvs:D.vs? (ds.take (n*sz))=some (xs.flatMap V.cells)):
  ∃g',Inv g' w μ t u (h.set r .dead) O∧Chg (λz=>z=b) g w g' w∧∀cap,n≤cap→RepV g' (.list xs) (.slice (some ⟨b,0,none⟩) n cap):=by
 obtain⟨vs,T,hheap,hall,hone,hgn⟩:=hi.rows r _ b hr hb;have hle:n*sz≤ds.length:=by
  have e1:=vs_len hvs;rw[flatMap_len hxc,hxl,List.length_take]at e1;omega
 have hcl:=vs_rep hvs (hall.take hle);obtain⟨ws,w1,w2,w3⟩:=unflat hxc hcl (λu hu=>hone u (List.mem_of_mem_take hu));have hwl:ws.length=n:=by rw[w1.1,hxl]
 let g':=g.put b 0 (vs.take (n*sz))
 have hgle:g.le g':=Gh.le_put _ λo _ _=>hgn o;have hchg:Chg (λz=>z=b) g w g' w:=⟨hgle,Nat.le_refl _,λ_ _ _=>rfl,λb' _ hb' o=>Gh.put_other hb' o,rfl,rfl⟩;have hag:∀b' o v,g'.m b' o=some v→w.cell? ⟨b',o,none⟩=some v:=by
  intro b' o v hv;by_cases hb':b'=b
  ·subst hb';rw[cell_of_row w b' o _ _ _ hheap];simp only[g',Gh.put]at hv;split at hv
   ·rename_i hc;simp only[Nat.sub_zero]at hv;have h2:=hc.2.2;rw[List.getElem?_take]at hv;split at hv
    ·simpa using hv
    ·cases hv
   ·rw[hgn]at hv;cases hv
  ·simp only[g',Gh.put_other hb']at hv;exact hi.agree b' o v hv
 have hinv:=hi.setAny hr hb .dead hchg hag (lt_of_heap hheap) (λk ds d h=>by cases h);have hsz:∀i,i <n→((λi=>ws.getD i (.bool false)) i).cells.size=sz:=λi hi=>by
  have:i <ws.length:=by omega
  simp only[List.getD,List.getElem?_eq_getElem this,Option.getD_some];exact w3 _ (List.getElem_mem this)
 refine⟨g',hinv,hchg,λcap hcap=>?_⟩;rw[←hxl];refine RepV.list xs ⟨b,0,none⟩ cap sz (λi=>ws.getD i (.bool false)) rfl (by omega) (λi x hi=>?_) (λi hi=>⟨hsz i (by omega),λj v hj=>?_⟩)
 ·obtain⟨u,hu,hru⟩:=w1.get hi;simp only[List.getD,hu,Option.getD_some];exact hru.mono hgle
 ·have hjs:j <sz:=by have:=(List.getElem?_eq_some_iff.1 hj).1;have:=hsz i (by omega);simp at *;omega
  have:=Gh.put_at g b 0 (vs.take (n*sz)) (i*sz+j) v (by
   rw[w2,flat_vs,hwl,flat_get hsz (by omega) hjs];exact hj)
  simpa using this
theorem FSp.frz {f:Nat} {args:List D} {h h':List Row} {ds cs:List D} {i r n sz:Nat} {xs:List V} (hf:FSp P GL f args h [.agg ds] h') (hi:ds[i]?=some (.sref r n)) (hr:h'[r]?=some (.cells cs))
  (hx:xs.length=n) (hxc:∀x∈xs,x.cells.length=sz) (hvs:D.vs? (cs.take (n*sz))=some (xs.flatMap V.cells)):FSp P GL f args h [.agg (ds.set i (.v (.list xs)))] (h'.set r .dead):=by
 obtain⟨h1,h2⟩:=hf;refine⟨h1,λg w μ us O hinv hgl hall htame=>(h2 g w μ us O hinv hgl hall htame).mono ?_⟩;rintro e w' ⟨v,g',μ',rfl,hi',hch,hμ⟩;have hrep:RepD g' w' μ' (.agg ds) v:=hi'.rep 0;obtain⟨vs,rfl,ha,ho,hn⟩:=hrep;obtain⟨u,hu,hru⟩:=ha.get hi;obtain⟨b,cap,hb,rfl,hnc⟩:=hru;obtain⟨g'',hinv'',hchg,hrv⟩:=hi'.frzRow hr hb hx hxc hvs;refine⟨_,g'',μ',rfl,?_,hch.trans (hchg.mono λz (hz:z=b) ho=>hi'.mo b (List.mem_of_getElem? hb) (hz▸ho)),hμ⟩;have hset:=hinv''.set (d:=0) (x:= .agg (ds.set i (.v (.list xs)))) (v:= .agg vs.toArray) ⟨vs,rfl,⟨by rw[List.length_set];exact ha.1,λj x v hj hv=>?_⟩,ho,λd hd v=>?_⟩ (λk=>by cases k<;>simp[ownAt,own1])
 ·refine Eq.mp ?_ hset
  congr 1
  ·funext k
   cases k<;>simp[at0,retDs]
  ·funext k
   cases k<;>simp[at0]
 ·rw[List.getElem?_set]at hj;by_cases hji:i=j
  ·subst hji;rw[if_pos rfl]at hj;split at hj
   ·simp only[Option.some.injEq]at hj;subst hj;rw[hu]at hv;simp only[Option.some.injEq]at hv;subst hv;exact hrv cap hnc
   ·cases hj
  ·rw[if_neg hji]at hj;refine(ha.2 j x v hj hv).chg hchg (List.prefix_refl _) λb' hb'=>?_;rw[hn x (List.mem_of_getElem? hj) v]at hb';cases hb'
 ·rcases List.mem_or_eq_of_mem_set hd with h3|rfl
  ·exact hn d h3 v
  ·rfl
theorem FSp.trim {f:Nat} {args rets:List D} {h h' J:List Row} (hf:FSp P GL f args h rets (h'++J)) (hl:h.length≤h'.length) (hh:∀row∈h',Row.low h'.length row=true) (hr:∀d∈rets,D.lt h'.length d=true):FSp P GL f args h rets h':=by
 obtain⟨h1,h2⟩:=hf;refine⟨h1,λg w μ us O hinv hgl hall htame=>(h2 g w μ us O hinv hgl hall htame).mono ?_⟩;rintro e w' ⟨v,g',μ',rfl,hi',hch,hμ⟩;refine⟨v,g',μ'.take h'.length,rfl,hi'.low (lt_at0 (lt_retDs hr)) hh,hch,?_⟩;obtain⟨tl,rfl⟩:=hμ;rw[List.take_append,List.take_of_length_le (by rw[hinv.len];exact hl)];exact List.prefix_append _ _
theorem fsp_frz {f n:Nat} {ac:AC} {rs:List AR} {args:List D} {ys:List V} (hk:chkF P GL f n ac rs=true) (hn:args.length=n)
  (hw:awp P GL ac (λe s=>(match e with| .exit _=>False|_=>True)∧∃(ds cs:List D) (i r m sz:Nat) (xs:List V),resDs s rs=some [.agg ds]∧ds[i]?=some (.sref r m)∧s.h[r]?=some (.cells cs)∧xs.length=m∧(∀x∈xs,x.cells.length=sz)∧
   D.vs? (cs.take (m*sz))=some (xs.flatMap V.cells)∧ds.set i (.v (.list xs))=ys.map .v) ⟨entryD args,[]⟩):FSp P GL f args [] [.v (.agg ys)] []:=by
 refine fsp_calls (calls_core (rets:=[.v (.agg ys)]) (h':=[]) hk hn (awp_mono ac (λe s=>by
  rintro⟨h1,ds,cs,i,r,m,sz,xs,hres,hi,hr,hx,hxc,hvs,hys⟩;refine⟨h1,_,hres,λg w μ v O hinv=>?_⟩;have hrep:RepD g w μ (.agg ds) v:=hinv.rep 0;obtain⟨vs,rfl,ha,ho,hnn⟩:=hrep;obtain⟨u,hu,hru⟩:=ha.get hi;obtain⟨b,cap,hb,rfl,hnc⟩:=hru;obtain⟨g',hinv',hchg,hrv⟩:=hinv.frzRow hr hb hx hxc hvs;have hlen:ys.length=ds.length:=by have:=congrArg List.length hys;simpa using this.symm
  have hset:=hinv'.set (d:=0) (x:= .v (.agg ys)) (v:= .agg vs.toArray) (.agg' ⟨by rw[hlen];exact ha.1,λj y v hj hv=>?_⟩ ho) (λk=>own_v _ _ _)
  ·have e1:(λn=>if 0=n then D.v (.agg ys) else at0 .any (retDs [.agg ds]) n)=at0 .any (retDs [.v (.agg ys)]):=by
    funext k;cases k<;>simp[at0,retDs]
   have e2:(λn=>if 0=n then Value.agg vs.toArray else at0 (.bool false) (.agg vs.toArray) n)=at0 (.bool false) (.agg vs.toArray):=by
    funext k;cases k<;>simp[at0]
   rw[e1,e2]at hset;refine⟨g',[],λμ0 hμ0 _=>by rw[List.eq_nil_of_length_eq_zero hμ0];exact List.prefix_refl _,?_,hchg.mono λz (hz:z=b) ho=>hinv.mo b (List.mem_of_getElem? hb) (hz▸ho)⟩;exact Inv.low (h:=[]) hset (λk=>by cases k<;>rfl) (by simp)
  ·have hm:(ys.map D.v)[j]?=some (.v y):=by rw[List.getElem?_map,hj];rfl
   rw[←hys,List.getElem?_set]at hm;by_cases hij:i=j
   ·subst hij;rw[if_pos rfl]at hm;split at hm
    ·simp only[Option.some.injEq,D.v.injEq]at hm;subst hm;rw[hu]at hv;simp only[Option.some.injEq]at hv;subst hv;exact hrv cap hnc
    ·cases hm
   ·rw[if_neg hij]at hm;exact RepV.mono hchg.le (ha.2 j _ v hm hv)) hw))
theorem psp_of_fsp {f:Nat} {args rets:List V} (hf:FSp P GL f (args.map .v) [] (rets.map .v) []):PSp P GL f args rets:=by
 refine⟨hf.1,λg w us hag hgl hall=>?_⟩;have hinv:Inv g w [] anyT anyU [] (λb=>b <w.heap.size):=by
  refine⟨hag,λb hb=>hb,λn=>by simp[anyT,RepD,RepG,RepE],rfl,λr row b hr=>by simp at hr,λr r' b hr=>by simp at hr,λb hb=>by simp at hb,λp q b hp=>?_,λp b hp=>?_⟩
  ·exfalso;cases p with
   |tmp n k=>cases k<;>simp[blk,anyT,ownAt,own1]at hp
   |cell r k=>simp[blk,cellD,own1]at hp
  ·exfalso;cases p with
   |tmp n k=>cases k<;>simp[blk,anyT,ownAt,own1]at hp
   |cell r k=>simp[blk,cellD,own1]at hp
 refine(hf.2 g w [] us _ hinv hgl ⟨by simpa using hall.1,λi x v hx hv=>?_⟩ (λi d v hd hv=>?_)).mono ?_
 ·simp only[List.getElem?_map,Option.map_eq_some_iff]at hx;obtain⟨y,hy,rfl⟩:=hx;exact hall.2 i y v hy hv
 ·simp only[List.getElem?_map,Option.map_eq_some_iff]at hd;obtain⟨y,_,rfl⟩:=hd;simp[own1]
 ·rintro e w' ⟨v,g',μ',rfl,hi,hc,hμ⟩;obtain rfl:μ'=[]:=List.eq_nil_of_length_eq_zero hi.len;have hr:=hi.rep 0;simp only[at0,if_true,retDs_map]at hr;exact⟨v,g',rfl,hr,⟨hc.le,hc.size,λb hb _=>hc.heap b hb (λh=>h hb),λb hb _=>hc.gh b hb (λh=>h hb),hc.os,hc.out⟩,hi.agree⟩
end
section
variable {P:Program} {GL:Globals}
def Snp (P:Program) (GL:Globals) (Pr:Prims):Prop:=∀f args h x,Pr f args h=some x→∀t,OKT t h→FSp P GL f args (t.ins P GL h) x.1 (t.ins P GL h++x.2)
abbrev Mem:=List (Nat×List V×List V)
def Mem.get:Mem→Nat→List V→Option (List V)
 |[],_,_=>none
 |x::l,f,vs=>bif Nat.beq x.1 f&&V.beqs x.2.1 vs then some x.2.2 else Mem.get l f vs
def Mem.ok (P:Program) (GL:Globals) (M:Mem):Prop:=∀x∈M,PSp P GL x.1 x.2.1 x.2.2
theorem Mem.ok.cons {M:Mem} {f:Nat} {vs r:List V} (h:PSp P GL f vs r) (hM:M.ok P GL):Mem.ok P GL ((f,vs,r)::M):=λx hx=>by
 rcases List.mem_cons.1 hx with rfl|hx
 ·exact h
 ·exact hM x hx
theorem Mem.ok.nil:Mem.ok P GL []:=λx hx=>by cases hx
def memP (M:Mem) (Pr:Prims):Prims:=λf args h=>match allV args with
 |some vs=>match M.get f vs with
  |some r=>some (r.map .v,[])
  |none=>Pr f args h
 |none=>Pr f args h
def noP:Prims:=λ_ _ _=>none
theorem noP_ok:Snp P GL noP:=λf args h x hx=>by cases hx
def evK (T:Tbl) (M:Nat→List V→Option (List V)) (E:Ev) (f:Nat) (vs:List V):Option (List V):=
 match M f vs with
 |some r=>some r
 |none=>evP T (λ_ _=>none) E f vs
def evm (np:Nat→Bool) (M:Nat→List V→Option (List V)) (T:Tbl) (Pr:Prims):Nat→Ev
 |0=>⟨λ_ _ _ _=>none,λ_ _=>none,λ_ _=>none,np⟩
 |n+1=>⟨evF T Pr (evm np M T Pr n),evK T M (evm np M T Pr n),evC (evm np M T Pr n),np⟩
theorem evm_snd {np:Nat→Bool} {M:Nat→List V→Option (List V)} {T:Tbl} {Pr:Prims} (hT:∀f n ac rs,T f=some (n,ac,rs)→chkF P GL f n ac rs=true)
  (hP:Snp P GL Pr) (hM:∀f vs r,M f vs=some r→PSp P GL f vs r):∀n,Snd P GL (evm np M T Pr n)
 |0=>by
  constructor
  ·intro f args h t r h;cases h
  ·intro f vs rets h;cases h
  ·intro ac s os h;cases h
  ·intro ac s os h;cases h
 |n+1=>by
  have ih:=evm_snd (np:=np) hT hP hM n
  constructor
  ·intro f args h t r he hk;exact evF_sound hT hP ih he hk
  ·intro f vs rets he;have he:evK T M (evm np M T Pr n) f vs=some rets:=he;unfold evK at he;split at he
   ·rename_i r hr;simp only[Option.some.injEq]at he;subst he;exact hM _ _ _ hr
   ·exact evP_sound hT ih (λ_ _ _ h=>by cases h) he
  ·intro ac s os he hk;exact evC_K ih he hk
  ·intro ac s os he hk;exact evC_sound ih he hk
def V.near:List V→List V→Bool
 | .int _ a::xs,.int _ b::ys=>bif a==b then V.near xs ys else false
 |_::xs,_::ys=>V.near xs ys
 |_,_=>true
abbrev MF:=List (Nat×List (List V×List V))
def getR:List (List V×List V)→List V→Option (List V)
 |[],_=>none
 |x::l,vs=>bif V.near x.1 vs then (bif V.beqs x.1 vs then some x.2 else getR l vs) else getR l vs
def getF:MF→Nat→List V→Option (List V)
 |[],_,_=>none
 |x::l,f,vs=>bif Nat.beq x.1 f then (match getR x.2 vs with|some r=>some r|none=>getF l f vs) else getF l f vs
def MF.ok (P:Program) (GL:Globals) (M:MF):Prop:=∀x∈M,∀y∈x.2,PSp P GL x.1 y.1 y.2
theorem getR_mem:∀ {l:List (List V×List V)} {vs r:List V},getR l vs=some r→(vs,r)∈l
 |[],_,_,h=>by simp[getR]at h
 |x::l,vs,r,h=>by
  simp only[getR]at h;cases h1:V.near x.1 vs with
  |false=>rw[h1]at h;exact List.mem_cons_of_mem _ (getR_mem h)
  |true=>
   cases h2:V.beqs x.1 vs with
   |false=>rw[h1,h2]at h;exact List.mem_cons_of_mem _ (getR_mem h)
   |true=>
    rw[h1,h2]at h;simp only[cond_true,Option.some.injEq]at h;subst h;rw[←V.beqs_eq h2];exact List.mem_cons_self ..
theorem getF_ok {P:Program} {GL:Globals}:∀ {M:MF},M.ok P GL→∀f vs r,getF M f vs=some r→PSp P GL f vs r
 |[],_,f,vs,r,h=>by simp[getF]at h
 |x::l,hM,f,vs,r,h=>by
  have ht:MF.ok P GL l:=λy hy=>hM y (List.mem_cons_of_mem _ hy);simp only[getF]at h;cases hf:Nat.beq x.1 f with
  |false=>rw[hf]at h;exact getF_ok ht f vs r h
  |true=>
   rw[hf,cond_true]at h;split at h
   ·rename_i r' hr;simp only[Option.some.injEq]at h;subst h;have:=hM x (List.mem_cons_self ..) _ (getR_mem hr)
    rwa [Nat.eq_of_beq_eq_true hf]at this
   ·exact getF_ok ht f vs r h
theorem MF.ok.app {P:Program} {GL:Globals} {M N:MF} (h:M.ok P GL) (h':N.ok P GL):MF.ok P GL (M++N):=λx hx=>(List.mem_append.1 hx).elim (h x) (h' x)
theorem MF.ok.nil {P:Program} {GL:Globals}:MF.ok P GL []:=λx hx=>by cases hx
def resE:Option (List V)→List V→Bool
 |some r,s=>V.beqs r s
 |none,_=>false
def MF.test (E:Ev) (M:MF):Bool:=M.all λx=>x.2.all λy=>resE (E.Pf x.1 y.1) y.2
theorem MF.test_ok {P:Program} {GL:Globals} {E:Ev} (hE:Snd P GL E) {M:MF} (h:M.test E=true):M.ok P GL:=by
 intro x hx y hy;have h1:=List.all_eq_true.1 h x hx;have h2:=List.all_eq_true.1 h1 y hy;unfold resE at h2;split at h2
 ·rename_i r hr;rw[←V.beqs_eq h2];exact hE.Pf hr
 ·cases h2
theorem FSp.ptrR {f:Nat} {args:List D} {h h':List Row} {cs:List V} {r:Nat} (hf:FSp P GL f args h [.ref r 0] h') (hr:h'[r]?=some (.cells (cs.map .v))):FSp P GL f args h [.v (.ptr cs)] (h'.set r .dead):=by
 obtain⟨h1,h2⟩:=hf;refine⟨h1,λg w μ us O hinv hgl hall htame=>(h2 g w μ us O hinv hgl hall htame).mono ?_⟩;rintro e w' ⟨v,g',μ',rfl,hi,hch,hμ⟩;have hrep:RepD g' w' μ' (.ref r 0) v:=hi.rep 0;obtain⟨b,hb,rfl⟩:=hrep;obtain⟨vs,T,hheap,hall2,hone,hgn⟩:=hi.rows r _ b hr hb
 let g2:=g'.put b 0 vs
 have hgle:g'.le g2:=Gh.le_put _ λo _ _=>hgn o;have hchg:Chg (λz=>z=b) g' w' g2 w':=⟨hgle,Nat.le_refl _,λ_ _ _=>rfl,λb' _ hb' o=>Gh.put_other hb' o,rfl,rfl⟩;have hag:∀b' o v,g2.m b' o=some v→w'.cell? ⟨b',o,none⟩=some v:=by
  intro b' o v hv;by_cases hb':b'=b
  ·subst hb';rw[cell_of_row w' b' o _ _ _ hheap];simp only[g2,Gh.put]at hv;split at hv
   ·simpa using hv
   ·rw[hgn]at hv;cases hv
  ·simp only[g2,Gh.put_other hb']at hv;exact hi.agree b' o v hv
 have hinv2:=hi.setAny hr hb .dead hchg hag (lt_of_heap hheap) (λk ds d h=>by cases h);refine⟨_,g2,μ',rfl,?_,hch.trans (hchg.mono λz (hz:z=b) ho=>hi.mo b (List.mem_of_getElem? hb) (hz▸ho)),hμ⟩;have hset:=hinv2.set (d:=0) (x:= .v (.ptr cs)) (v:= .pointer (some ⟨b,0,none⟩)) (RepV.ptr cs ⟨b,0,none⟩ (vs.take cs.length) rfl (by have:=hall2.1;simp at this ⊢;omega) (λi x v hx hv=>?_) (λv hv=>hone v (List.mem_of_mem_take hv)) (λi v hv=>?_)) (λk=>own_v _ _ _)
 ·refine Eq.mp ?_ hset
  congr 1
  ·funext k
   cases k<;>simp[at0,retDs]
  ·funext k
   cases k<;>simp[at0]
 ·rw[List.getElem?_take]at hv;split at hv
  ·have h3:RepV g' x v:=hall2.2 i (.v x) v (by simp[hx]) hv;exact h3.mono hgle
  ·cases hv
 ·rw[List.getElem?_take]at hv;split at hv
  ·simpa using Gh.put_at g' b 0 vs i v hv
  ·cases hv
end
def nums (k:IntKind) (xs:List Int):V:= .list (xs.map (.int k))
def le8 (bs:List Int):Int:=bs.foldr (λb w=>256*w+b) 0
def wordsI (bs:List Int):List Int:=(List.range ((bs.length+7)/8)).map λk=>le8 ((bs.drop (8*k)).take 8)
theorem wrap_i64 {a:Int} (h1: -9223372036854775808≤a) (h2:a <9223372036854775808):IntKind.i64.wrap a=a:=by
 unfold IntKind.wrap;simp only[IntKind.bits,IntKind.signed];have e1:((2:Int)^64)=18446744073709551616:=by decide
 have e2:((2:Int)^(64-1))=9223372036854775808:=by decide
 simp only[e1,e2,Bool.true_and,decide_eq_true_eq,ge_iff_le];split<;>omega
theorem wrap_u64 {a:Int} (h1:0≤a) (h2:a <18446744073709551616):IntKind.u64.wrap a=a:=by
 unfold IntKind.wrap;simp only[IntKind.bits,IntKind.signed];have e1:((2:Int)^64)=18446744073709551616:=by decide
 simp only[e1,Bool.false_and,Bool.false_eq_true,if_false];omega
def xorI (a b:Int):Int:=IntKind.u64.wrap ((a%2^IntKind.u64.bits).toNat ^^^ (b%2^IntKind.u64.bits).toNat:Nat)
def mixI (a b:Int):Int:=xorI (IntKind.u64.wrap (xorI a b*11400714819323198485)) (IntKind.u64.wrap (xorI a b*11400714819323198485)/4294967296)
def i64 (n:Int):Prop:= -9223372036854775808≤n∧n <9223372036854775808
def u64 (n:Int):Prop:=0≤n∧n <18446744073709551616
def uvarF:Nat→Int→List Int
 |0,n=>[n]
 |k+1,n=>if n <128 then [n] else (128+n%128)::uvarF k (n/128)
def uvar (n:Int):List Int:=uvarF 9 n
def zigI (n:Int):Int:=if n <0 then 2*(-(n+1))+1 else 2*n
def encI (n:Int):List Int:=uvar (zigI n)
def encRaw (b:List Int):List Int:=uvar b.length++b
def encInts (l:List Int):List Int:=uvar l.length++l.flatMap encI
theorem zigI_u64 {n:Int} (h:i64 n):u64 (zigI n):=by
 unfold zigI u64;unfold i64 at h;split<;>omega
theorem uvarF_len:∀(k:Nat) (n:Int),(uvarF k n).length≤k+1
 |0,n=>by simp[uvarF]
 |k+1,n=>by
  simp only[uvarF];split
  ·simp
  ·have:=uvarF_len k (n/128);simp;omega
theorem uvar_len (n:Int):(uvar n).length≤10:=uvarF_len 9 n
theorem encI_len (n:Int):(encI n).length≤10:=uvar_len _
theorem flat_encI_len:∀l:List Int,(l.flatMap encI).length≤10*l.length
 |[]=>by simp
 |x::l=>by
  have:=encI_len x;have:=flat_encI_len l;simp only[List.flatMap_cons,List.length_append,List.length_cons];omega
theorem wrap_u64_mod (a:Int):IntKind.u64.wrap a=a%18446744073709551616:=by
 unfold IntKind.wrap;simp only[IntKind.bits,IntKind.signed];have e1:((2:Int)^64)=18446744073709551616:=by decide
 simp only[e1,Bool.false_and,Bool.false_eq_true,if_false]
open Go.Proofs
def sumI (label:List Int) (l:List Int):Int:=
 mixI (l.foldl (λs n=>mixI s (IntKind.u64.wrap n)) (mixI (mixI ((wordsI label).foldl mixI 0) label.length) l.length)) 0
attribute [simp] fnOf D.norm argsOf D.arg retDs get_set get_app V.cells resDs AR.d D.keep
@[simp] theorem headOK_nil (s:Nat):headOK s []=true:=rfl
@[simp] theorem headOK_cons (s:Nat) (x:V) (xs:List V):headOK s (x::xs)=(x.cells.length==s):=rfl
@[simp] theorem headOK_int (k:IntKind) (l:List Int):headOK 1 (l.map (V.int k))=true:=by cases l<;>rfl
theorem awp_loop_nat0 {P:Program} {GL:Globals} {c:AC} {Q:AExit→St→Prop} (n:Nat) (S:Nat→St) {s:St} (hs:s=S 0)
  (h:∀k,k≤n→awp P GL c (λe s'=>match e with| .normal=>k <n∧s'=S (k+1)|e=>Q e s') (S k)):awp P GL (.loop c) Q s:=
 hs▸awp_loop_nat n S h 0 (Nat.zero_le _)
theorem awp_range_of {P:Program} {GL:Globals} {q:Opd} {ps:List Nat} {asg body:AC} {Q:AExit→St→Prop} {s:St} (fid:Nat) (caps rets:List D) (h1 h':List Row) (tag:Tag)
  (hq:fnOf (q.ev s.e)=some (fid,caps)) (hh:s.h++[recRow P GL .ready (cpE s.e) ps asg body]=h1) (hf:FSp P GL fid (.yld s.h.length::caps) h1 rets h')
  (hr:h'[s.h.length]?=some (recRow P GL tag (cpE s.e) ps asg body)) (he:rangeEnd Q ⟨s.e,h'.set s.h.length .dead⟩ tag):awp P GL (.rangeF q ps asg body) Q s:=by
 rw[awp_rangeF];exact⟨fid,caps,rets,h',tag,hq,hh▸hf,hr,he⟩
def hashI (label bs:List Int):Int:=sumI label ((wordsI bs).map IntKind.i64.wrap++[(bs.length:Int)])
section
variable {P:Program} {GL:Globals}
theorem awp_loop_inv {c:AC} {Q:AExit→St→Prop} (n:Nat) (S:Nat→St) (I:Nat→Prop) {s:St} (hs:s=S 0) (h0:I 0)
  (h:∀k,k≤n→I k→awp P GL c (λe s'=>match e with| .normal=>k <n∧I (k+1)∧s'=S (k+1)|e=>Q e s') (S k)):awp P GL (.loop c) Q s:=by
 subst hs;refine⟨λm s=>∃k,k≤n∧m=n-k∧I k∧s=S k,⟨n,0,Nat.zero_le _,rfl,h0,rfl⟩,?_⟩;rintro m s ⟨k,hk,rfl,hi,rfl⟩;refine awp_mono c ?_ (h k hk hi);intro e s' h;cases e with
 |normal=>obtain⟨hlt,hi',rfl⟩:=h;exact⟨n-(k+1),by omega,k+1,hlt,rfl,hi',rfl⟩
 |exit i=>exact h
 |ret=>exact h
end
def okR (n d:Int):Bool:=decide (1≤d∧d≤1048576∧n≤1099511627776∧ -1099511627776≤n∧Int.gcd n d=1)
def ratV (n d:Int):V:= .agg [.int .i64 n,.int .i64 d]
theorem l350 (m:Nat):∀(a b:Nat),b≤m→a <2^64→b <2^64→
  awp Tryz.prog GLx (.loop (lG 225 0)) (λe s=>e= .exit 0∧find s.e 0= .v (.int .u64 (Nat.gcd a b))) ⟨[(0,.v (.int .u64 a)),(1,.v (.int .u64 b))],[]⟩:=by
 induction m with
 |zero=>
  intro a b hb h1 h2;have:b=0:=by omega
  subst this;refine awp_loop_end ?_;simp only[Zgl 225 0,awp_seq,awp_reg,awp_block,awp_cond,Zge 225 1];simp[awp_exit]
 |succ m ih=>
  intro a b hb h1 h2;by_cases h0:b=0
  ·exact ih a b (by omega) h1 h2
  ·have hlt:=Nat.mod_lt a (show 0 <b by omega);have hih:=ih b (a%b) (by omega) h2 (by omega);have e:Nat.gcd b (a%b)=Nat.gcd a b:=by rw[Nat.gcd_comm,←Nat.gcd_rec,Nat.gcd_comm]
   rw[e]at hih;refine awp_loop_one ?_ hih;simp only[Zgl 225 0,awp_seq,awp_reg,awp_block,awp_cond,Zge 225 1];have w1:IntKind.u64.wrap ((a:Int)%b)=((a%b:Nat):Int):=by rw[wrap_u64 (by omega) (by omega)];rfl
   have h3:0 <b:=by omega
   simp[h3,awp_skip,awp_regD,Zge 225 2,Int.tmod_eq_emod_of_nonneg,h0]
theorem p350 (a b:Nat) (h1:a <2^64) (h2:b <2^64):PSp Tryz.prog GLx 225 [.int .u64 a,.int .u64 b] [.int .u64 (Nat.gcd a b)]:=by
 refine psp_of_awp (Zkk 225) rfl ?_;simp only[Zga 225,awp_seq,awp_block,awp_reg,Zge 225 0,entry];simp;refine awp_mono _ ?_ (l350 b a b (Nat.le_refl _) h1 h2);rintro e s ⟨rfl,h⟩;simp[Zge 225 3,h,awp_ret,Zgr 225]
theorem p330 (n:Int) (hn:i64 n):PSp Tryz.prog GLx 173 [.int .i64 n] [.int .u64 n.natAbs]:=by
 refine psp_of_awp (Zkk 173) rfl ?_;unfold i64 at hn;by_cases h0:n <0
 ·simp[Zga 173,awp,Zge 173 0,Zge 173 1,Zge 173 2,Zgr 173,entry,h0];simp only[wrap_u64_mod];omega
 ·simp[Zga 173,awp,Zge 173 0,Zge 173 1,Zge 173 3,Zgr 173,entry,h0];simp only[wrap_u64_mod];omega
def buildE (neg:Bool) (n d:Nat):List V:=
 if n/Nat.gcd n d>1099511627776∨d/Nat.gcd n d>1048576 then [ratV 0 0,.int .i64 5]
 else [ratV (if neg then -((n/Nat.gcd n d:Nat):Int) else ((n/Nat.gcd n d:Nat):Int)) ((d/Nat.gcd n d:Nat):Int),.int .i64 0]
theorem p329 (neg:Bool) (n d:Nat) (h1:n <2^64) (h2:d <2^64) (hd:0 <d):PSp Tryz.prog GLx 172 [.bool neg,.int .u64 n,.int .u64 d] (buildE neg n d):=by
 refine psp_of_awp (Zkk 172) rfl ?_;have hg:0 <Nat.gcd n d:=Nat.gcd_pos_of_pos_right _ hd;have hn1:=Nat.div_le_self n (Nat.gcd n d);have hd1:=Nat.div_le_self d (Nat.gcd n d);have hp:=p350 n d h1 h2;unfold buildE;generalize Nat.gcd n d=g at*;have qa:(n:Int)/g=((n/g:Nat):Int):=rfl;have qb:(d:Int)/g=((d/g:Nat):Int):=rfl;generalize n/g=a at*;generalize d/g=b at*;have w1:IntKind.u64.wrap (a:Int)=a:=wrap_u64 (by omega) (by omega);have w2:IntKind.u64.wrap (b:Int)=b:=wrap_u64 (by omega) (by omega);have hg0:g≠0:=by omega
 simp only[Zga 172,awp_seq,awp_reg,awp_regD,awp_cond,Zge 172 0,Zge 172 1,Zge 172 2,Zge 172 3,entry];simp;refine⟨_,_,hp.fsp _,?_⟩;simp[Int.tdiv_eq_ediv_of_nonneg,qa,qb,w1,w2,hg0];have w3:IntKind.i64.wrap (a:Int)=a∨1099511627776 <a:=by
  by_cases h:a≤1099511627776
  ·exact .inl (wrap_i64 (by omega) (by omega))
  ·exact .inr (by omega)
 by_cases h3:1099511627776 <(a:Int)
 ·have h3':1099511627776 <a:=by omega
  simp[h3,h3',awp_ret,Zge 172 4,Zgr 172,putL,ratV]
 ·have h3':¬1099511627776 <a:=by omega
  by_cases h4:1048576 <(b:Int)
  ·have h4':1048576 <b:=by omega
   simp[h3,h3',h4,h4',awp_ret,Zge 172 4,Zgr 172,putL,ratV]
  ·have h4':¬1048576 <b:=by omega
   have w5:IntKind.i64.wrap (a:Int)=a:=wrap_i64 (by omega) (by omega);have w6:IntKind.i64.wrap (b:Int)=b:=wrap_i64 (by omega) (by omega);have w7:IntKind.i64.wrap (-(a:Int))= -a:=wrap_i64 (by omega) (by omega);cases neg<;>simp[h3,h3',h4,h4',awp_skip,awp_ret,Zge 172 5,Zge 172 6,Zge 172 7,Zge 172 8,Zgr 172,putL,ratV,w5,w6,w7]
theorem buildE_ok (n d:Int) (hd:1≤d) (h1:i64 n) (h2:i64 d):(buildE (decide (n <0) != decide (d <0)) n.natAbs d.natAbs=[ratV n d,.int .i64 0])↔okR n d=true:=by
 unfold buildE okR;unfold i64 at h1 h2;have e:Int.gcd n d=Nat.gcd n.natAbs d.natAbs:=rfl;have hg:0 <Nat.gcd n.natAbs d.natAbs:=Nat.gcd_pos_of_pos_right _ (by omega);have hdn:decide (d <0)=false:=by simp;omega
 simp only[hdn];rw[e]
 constructor
 ·intro h;split at h
  ·simp[ratV]at h
  ·rename_i hc;simp[ratV]at h;have hb:d.natAbs/Nat.gcd n.natAbs d.natAbs=d.natAbs:=by omega
   have hg1:Nat.gcd n.natAbs d.natAbs=1:=by
    rcases Nat.lt_or_ge 1 (Nat.gcd n.natAbs d.natAbs)with h3|h3
    ·have:=Nat.div_lt_self (show 0 <d.natAbs by omega) h3;omega
    ·omega
   rw[hg1]at hc;simp[hg1]at hc ⊢;omega
 ·intro h;simp at h;obtain⟨h3,h4,h5,h6,h7⟩:=h;rw[h7];rw[if_neg (by simp;omega)];simp[ratV]
  constructor
  ·split<;>omega
  ·omega
theorem buildE_two (neg:Bool) (n d:Nat):buildE neg n d=[ratV 0 0,.int .i64 5]∨∃a b,buildE neg n d=[ratV a b,.int .i64 0]:=by
 unfold buildE;split
 ·exact .inl rfl
 ·exact .inr ⟨_,_,rfl⟩
theorem p306 (n d:Int) (hd:d≠0) (h1:i64 n) (h2:i64 d):PSp Tryz.prog GLx 132 [.int .i64 n,.int .i64 d] (buildE (decide (n <0) != decide (d <0)) n.natAbs d.natAbs):=by
 refine psp_of_awp (Zkk 132) rfl ?_;simp only[Zga 132,awp_seq,awp_reg,awp_cond,Zge 132 0,Zge 132 1,entry];simp[hd,awp_skip,Zge 132 3];refine⟨_,_,(p330 n h1).fsp _,?_⟩;simp;refine⟨_,_,(p330 d h2).fsp _,?_⟩;simp;have hx:(decide (n <0) != decide (d <0))= !(decide (n <0)==decide (d <0)):=rfl
 try rw[←hx]
 unfold i64 at h1 h2;refine⟨_,_,(p329 _ n.natAbs d.natAbs (by omega) (by omega) (by omega)).fsp _,?_⟩;generalize (decide (n <0) != decide (d <0))=ng;obtain h|⟨a,b,h⟩:=buildE_two ng n.natAbs d.natAbs<;>rw[h]<;>simp[ratV,awp_ret,Zgr 132,putL]
theorem p248 (n d:Int) (h1:i64 n) (h2:i64 d):PSp Tryz.prog GLx 92 [ratV n d] [.int .i64 (if okR n d then 0 else 1)]:=by
 refine psp_of_awp (Zkk 92) rfl ?_;simp only[Zga 92,awp_seq,awp_reg,awp_cond,Zge 92 0,Zge 92 1,entry];simp[ratV];by_cases hd:d <1
 ·have:okR n d=false:=by unfold okR;simp;omega
  simp[hd,this,awp_ret,Zge 92 2,Zgr 92]
 ·have hp:=(p306 n d (by omega) h1 h2);have hb:=buildE_ok n d (by omega) h1 h2;simp[hd,awp_skip,Zge 92 3];refine⟨_,_,hp.fsp _,?_⟩;obtain h|⟨a,b,h⟩:=buildE_two (decide (n <0) != decide (d <0)) n.natAbs d.natAbs
  ·have h3:okR n d=false:=by
    cases h4:okR n d with
    |false=>rfl
    |true=>rw[hb.2 h4]at h;simp at h
   rw[h,h3];simp[ratV,awp_ret,Zge 92 4,Zge 92 5,Zgr 92,putL]
  ·have h3:okR n d=decide (a=n∧b=d):=by
    rw[h]at hb;simp[ratV]at hb;rw[Bool.eq_iff_iff,←hb];simp
   rw[h,h3];by_cases h4:a=n<;>by_cases h5:b=d<;>simp[h4,h5,ratV,awp_ret,Zge 92 4,Zge 92 5,Zge 92 6,Zgr 92,putL,V.eqL,V.eq1]
theorem okR_b {n d:Int} (h:okR n d=true):1≤d∧d≤1048576∧n≤1099511627776∧ -1099511627776≤n:=by
 unfold okR at h;simp at h;omega
theorem mul_b {a b:Int} (h1:a≤1099511627776) (h2: -1099511627776≤a) (h3:1≤b) (h4:b≤1048576):a*b≤1152921504606846976∧ -1152921504606846976≤a*b:=by
 have:=Int.mul_le_mul_of_nonneg_right h1 (show 0≤b by omega);have:=Int.mul_le_mul_of_nonneg_right h2 (show 0≤b by omega);omega
theorem l291 (L:List V) (k:Nat) (hk:k <2^40) (n d:Int) (h1:i64 n) (h2:i64 d) (hx:L[k]?=some (ratV n d)) (m:Int) (hm:(k:Int) <m) (h:List Row) (Q:AExit→St→Prop)
  (hok:okR n d=true→Q .normal ⟨[(6,.v (.list L)),(7,.v (.int .i64 m)),(8,.v (.int .i64 (k+1:Nat)))],h++[.cells [.v (.int .i64 n),.v (.int .i64 d)]]⟩)
  (hno:okR n d=false→∀s,find s.e 2= .v (.int .i64 1)→Q .ret s):
  awp Tryz.prog GLx (lG 223 0) Q ⟨[(6,.v (.list L)),(7,.v (.int .i64 m)),(8,.v (.int .i64 k))],h⟩:=by
 have hw:IntKind.i64.wrap ((k:Int)+1)=k+1:=wrap_i64 (by omega) (by omega);simp only[Zgl 223 0,awp_seq,awp_reg,awp_block,awp_cond,Zge 223 2];simp[hm,awp_skip,Zge 223 3,hx,ratV,putL,Zge 223 4];refine⟨_,_,(p248 n d h1 h2).fsp _,?_⟩;cases ho:okR n d with
 |true=>
  have:=hok ho;simp[Zge 223 5,Zge 223 7,hw];simpa using this
 |false=>
  simp[Zge 223 5,awp_ret,Zge 223 6];exact hno ho _ rfl
theorem p291 (a b c d:Int) (h1:i64 a) (h2:i64 b) (h3:i64 c) (h4:i64 d):PSp Tryz.prog GLx 223 [.list [ratV a b,ratV c d]] [.int .i64 (if okR a b&&okR c d then 0 else 1)]:=by
 refine psp_of_awp (Zkk 223) rfl ?_;simp only[Zga 223,awp_seq,awp_reg,awp_block,Zge 223 0,Zge 223 1,entry];simp;cases ho:okR a b with
 |false=>
  refine awp_loop_end ?_;refine l291 [ratV a b,ratV c d] 0 (by omega) a b h1 h2 rfl 2 (by omega) [] _ (λh=>by rw[h]at ho;cases ho) ?_;intro _ s hs;simp[Zgr 223,hs]
 |true=>
  refine awp_loop_one (s1:=⟨[(6,.v (.list [ratV a b,ratV c d])),(7,.v (.int .i64 2)),(8,.v (.int .i64 1))],[.cells [.v (.int .i64 a),.v (.int .i64 b)]]⟩) ?_ ?_
  ·exact l291 [ratV a b,ratV c d] 0 (by omega) a b h1 h2 rfl 2 (by omega) [] _ (λ_=>rfl) (λh=>by rw[h]at ho;cases ho)
  cases ho2:okR c d with
  |false=>
   refine awp_loop_end ?_;refine l291 [ratV a b,ratV c d] 1 (by omega) c d h3 h4 rfl 2 (by omega) [.cells [.v (.int .i64 a),.v (.int .i64 b)]] _ (λh=>by rw[h]at ho2;cases ho2) ?_;intro _ s hs;simp[Zgr 223,hs]
  |true=>
   refine awp_loop_one (s1:=⟨[(6,.v (.list [ratV a b,ratV c d])),(7,.v (.int .i64 2)),(8,.v (.int .i64 2))],[.cells [.v (.int .i64 a),.v (.int .i64 b)],.cells [.v (.int .i64 c),.v (.int .i64 d)]]⟩) ?_ ?_
   ·exact l291 [ratV a b,ratV c d] 1 (by omega) c d h3 h4 rfl 2 (by omega) [.cells [.v (.int .i64 a),.v (.int .i64 b)]] _ (λ_=>rfl) (λh=>by rw[h]at ho2;cases ho2)
   refine awp_loop_end ?_;simp only[Zgl 223 0,awp_seq,awp_reg,awp_block,awp_cond,Zge 223 2];simp[awp_exit,awp_ret,Zge 223 8,Zgr 223]
def lessR (a b c d:Int):Bool:=decide (a*d <c*b)
def cmpR (a b c d:Int):Int:=if a*d <c*b then -1 else if c*b <a*d then 1 else 0
theorem p292 (a b c d:Int) (h1:okR a b=true) (h2:okR c d=true):PSp Tryz.prog GLx 224 [ratV a b,ratV c d] [.int .i64 (cmpR a b c d)]:=by
 refine psp_of_awp (Zkk 224) rfl ?_;have q1:=okR_b h1;have q2:=okR_b h2;have m1:=mul_b (a:=a) (b:=d) (by omega) (by omega) (by omega) (by omega);have m2:=mul_b (a:=c) (b:=b) (by omega) (by omega) (by omega) (by omega);unfold cmpR;have w1:IntKind.i64.wrap (a*d)=a*d:=wrap_i64 (by omega) (by omega);have w2:IntKind.i64.wrap (c*b)=c*b:=wrap_i64 (by omega) (by omega);simp only[Zga 224,awp_seq,awp_reg,awp_regD,awp_block,awp_cond,Zge 224 0,Zge 224 1,Zge 224 2,entry];simp[ratV,w1,w2];by_cases l1:a*d <c*b
 ·simp[l1,awp_ret,Zge 224 3,Zgr 224]
 ·by_cases l2:c*b <a*d
  ·simp[l1,l2,awp_ret,Zge 224 4,Zge 224 5,Zgr 224]
  ·simp[l1,l2,awp_skip,awp_ret,Zge 224 4,Zge 224 6,Zgr 224]
theorem p227 (a b c d:Int) (h1:i64 a) (h2:i64 b) (h3:i64 c) (h4:i64 d):PSp Tryz.prog GLx 170 [ratV a b,ratV c d] (if okR a b&&okR c d then [.int .i64 (cmpR a b c d),.int .i64 0] else [.int .i64 0,.int .i64 1]):=by
 refine psp_of_awp (Zkk 170) rfl ?_;have hp:=(p291 a b c d h1 h2 h3 h4).fsp;simp only[Zga 170,awp_seq,awp_reg,awp_cond,Zge 170 0,Zge 170 1,Zge 170 2,entry];simp[ratV]at hp ⊢;refine⟨_,_,hp _,?_⟩;cases ho1:okR a b<;>cases ho2:okR c d<;>simp[awp_skip,awp_ret,Zge 170 3,Zge 170 4,Zgr 170]
 have hq:=(p292 a b c d ho1 ho2).fsp;simp[ratV]at hq;refine⟨_,⟨_,hq _⟩,?_⟩;simp
theorem p352 (a b c d:Int) (h1:okR a b=true) (h2:okR c d=true):PSp Tryz.prog GLx 177 [ratV a b,ratV c d] [.bool (lessR a b c d)]:=by
 refine psp_of_awp (Zkk 177) rfl ?_;have q1:=okR_b h1;have q2:=okR_b h2;have m1:=mul_b (a:=a) (b:=d) (by omega) (by omega) (by omega) (by omega);have m2:=mul_b (a:=c) (b:=b) (by omega) (by omega) (by omega) (by omega);have w1:IntKind.i64.wrap (a*d)=a*d:=wrap_i64 (by omega) (by omega);have w2:IntKind.i64.wrap (c*b)=c*b:=wrap_i64 (by omega) (by omega);simp[Zga 177,awp,Zge 177 0,Zge 177 1,Zgr 177,entry,ratV,w1,w2,lessR]
theorem l215 (m:Nat):∀(a b:Int),b.natAbs≤m→a.natAbs≤1099511627776→b.natAbs≤1099511627776→
  awp Tryz.prog GLx (.loop (lG 175 0)) (λe s=>e= .exit 0∧∃g:Int,g.natAbs=Int.gcd a b∧find s.e 0= .v (.int .i64 g)) ⟨[(0,.v (.int .i64 a)),(1,.v (.int .i64 b))],[]⟩:=by
 induction m with
 |zero=>
  intro a b hb h1 h2;have:b=0:=by omega
  subst this;refine awp_loop_end ?_;simp only[Zgl 175 0,awp_seq,awp_reg,awp_block,awp_cond,Zge 175 1];simp[awp_exit]
 |succ m ih=>
  intro a b hb h1 h2;by_cases h0:b=0
  ·exact ih a b (by omega) h1 h2
  ·have e:(a.tmod b).natAbs=a.natAbs%b.natAbs:=Int.natAbs_tmod a b;have hlt:=Nat.mod_lt a.natAbs (show 0 <b.natAbs by omega);have hih:=ih b (a.tmod b) (by omega) h2 (by omega);have e2:Int.gcd b (a.tmod b)=Int.gcd a b:=by
    unfold Int.gcd;rw[e,Nat.gcd_comm,←Nat.gcd_rec,Nat.gcd_comm]
   rw[e2]at hih;refine awp_loop_one ?_ hih;simp only[Zgl 175 0,awp_seq,awp_reg,awp_block,awp_cond,Zge 175 1];have w1:IntKind.i64.wrap (a.tmod b)=a.tmod b:=wrap_i64 (by omega) (by omega);simp[awp_skip,awp_regD,Zge 175 2,h0]
theorem p215 (a b:Int) (h1:a.natAbs≤1099511627776) (h2:b.natAbs≤1099511627776):PSp Tryz.prog GLx 175 [.int .i64 a,.int .i64 b] [.int .i64 (Int.gcd a b)]:=by
 refine psp_of_awp (Zkk 175) rfl ?_;simp only[Zga 175,awp_seq,awp_block,awp_reg,Zge 175 0,entry];simp;refine awp_mono _ ?_ (l215 b.natAbs a b (Nat.le_refl _) h1 h2);rintro e s ⟨rfl,g,hg,h⟩;have hgb:Int.gcd a b≤2199023255552:=by
  unfold Int.gcd;rcases Nat.eq_zero_or_pos a.natAbs with h3|h3
  ·rw[h3,Nat.gcd_zero_left];omega
  ·have:=Nat.gcd_le_left b.natAbs h3;omega
 by_cases h0:g <0
 ·have w:IntKind.i64.wrap (-g)= -g:=wrap_i64 (by omega) (by omega);simp[Zge 175 3,h,h0,awp_seq,awp_reg,awp_cond,awp_ret,Zge 175 4,Zgr 175,w];omega
 ·simp[Zge 175 3,h,h0,awp_seq,awp_reg,awp_cond,awp_skip,awp_ret,Zge 175 5,Zgr 175];omega
set_option maxHeartbeats 2000000 in
theorem p127 (n d:Int) (h1:i64 n) (h2:i64 d):PSp Tryz.prog GLx 137 [ratV n d] [.int .i64 (if okR n d then 0 else 1)]:=by
 refine psp_of_awp (Zkk 137) rfl ?_;simp only[Zga 137,awp_seq,awp_reg,awp_cond,Zge 137 0,Zge 137 1,entry];unfold okR;by_cases b1:d <1
 ·simp[ratV,b1,awp_ret,Zge 137 2,Zgr 137];omega
 by_cases b2:1048576 <d
 ·simp[ratV,b1,b2,awp_ret,Zge 137 2,Zgr 137];omega
 by_cases b3:1099511627776 <n
 ·simp[ratV,b1,b2,b3,awp_ret,Zge 137 2,Zgr 137];omega
 by_cases b4:n < -1099511627776
 ·simp[ratV,b1,b2,b3,b4,awp_ret,Zge 137 2,Zgr 137];omega
 simp[ratV,b1,b2,b3,b4];refine⟨_,_,(p215 n d (by omega) (by omega)).fsp _,?_⟩;by_cases b5:Int.gcd n d=1
 ·simp[b5,awp_skip,awp_ret,Zge 137 3,Zgr 137];omega
 ·simp[b5,awp_ret,Zge 137 2,Zgr 137];omega
structure Ivl where
 (ln ld hn hd:Int)
 (lo ho li hi:Bool)
def Ivl.V (x:Ivl):V:= .agg [.int .i64 x.ln,.int .i64 x.ld,.int .i64 x.hn,.int .i64 x.hd,.bool x.lo,.bool x.ho,.bool x.li,.bool x.hi]
def Ivl.ok (x:Ivl):Prop:=i64 x.ln∧i64 x.ld∧i64 x.hn∧i64 x.hd
structure End where
 (far n d:Int)
 (after:Bool)
def End.V (x:End):V:= .agg [.int .i64 x.far,.int .i64 x.n,.int .i64 x.d,.bool x.after]
def loE (x:Ivl):End:=if x.li then ⟨-1,0,0,false⟩ else ⟨0,x.ln,x.ld,x.lo⟩
def hiE (x:Ivl):End:=if x.hi then ⟨1,0,0,false⟩ else ⟨0,x.hn,x.hd,!x.ho⟩
theorem ren_leaf {K:St→Prop} {n0:Nat} {s:St} (π:List (Nat×Nat)) (hp:permOK n0 s.h.length π=true) (ho:noObj s.h=true) (hK:K ⟨s.e.map λp=>(p.1,p.2.ren π),renRows π s.h⟩):∃s2,RenS n0 s s2∧K s2:=
 ⟨_,.inr ⟨π,hp,ho,λn=>find_ren π s.e n,rfl⟩,hK⟩
set_option maxHeartbeats 2000000 in
theorem p303 (x:Ivl):PSp Tryz.prog GLx 163 [x.V] [(loE x).V,(hiE x).V]:=by
 obtain⟨ln,ld,hn,hd,lo,ho,li,hi⟩:=x;refine psp_of_awp (Zkk 163) rfl ?_;rw[Zga 163];rw[awp_seq,awp_reg];simp[Zge 163 0,entry,Ivl.V];rw[awp_seq,awp_regA];obtain⟨R0,hR0⟩:∃R0:List D,R0=[.v (.int .i64 ln),.v (.int .i64 ld),.v (.int .i64 hn),.v (.int .i64 hd),.v (.bool lo),.v (.bool ho),.v (.bool li),.v (.bool hi)]:=⟨_,rfl⟩;obtain⟨Z,hZ⟩:∃Z:List D,Z=[.v (.int .i64 0),.v (.int .i64 0),.v (.int .i64 0),.v (.bool false)]:=⟨_,rfl⟩;obtain⟨A,hA⟩:∃A:List D,A=[.v (.int .i64 0),.v (.int .i64 ln),.v (.int .i64 ld),.v (.bool lo)]:=⟨_,rfl⟩;obtain⟨B,hB⟩:∃B:List D,B=[.v (.int .i64 0),.v (.int .i64 hn),.v (.int .i64 hd),.v (.bool !ho)]:=⟨_,rfl⟩;refine atok_mono _ (K:=λs=>find s.e 1= .ref 0 0∧find s.e 2= .ref 1 0∧find s.e 3= .ref 2 0∧
  ((find s.e 4= .ref 3 0∧find s.e 5= .ref 4 0∧s.h=[.cells R0,.cells Z,.cells Z,.cells A,.cells B])∨
   (find s.e 4= .ref 4 0∧find s.e 5= .ref 3 0∧s.h=[.cells R0,.cells Z,.cells Z,.cells B,.cells A]))) ?_ ?_
 ·rintro s ⟨f1,f2,f3,h⟩;have key:∀s:St,find s.e 1= .ref 0 0→find s.e 2= .ref 1 0→find s.e 3= .ref 2 0→find s.e 4= .ref 3 0→find s.e 5= .ref 4 0→s.h=[.cells R0,.cells Z,.cells Z,.cells A,.cells B]→
    awp Tryz.prog GLx (.seq (.seq (.reg (oG 163 2) [1,2,3,4,5,18]) (.cond (.t 18 false) (.reg (oG 163 3) [1,2,3,4,5]) .skip)) (.seq (.seq (.reg (oG 163 4) [2,3,4,5,21]) (.cond (.t 21 false) (.reg (oG 163 5) [2,3,4,5]) .skip)) (.seq (.regA (oG 163 6) [2,3] [[],[],[0],[0,1,2]] (.take 0 (.pick (.alt 1 (.take 2 (.take 3 .done)) (.alt 2 (.take 1 (.take 3 .done)) .none))))) .ret))) (λe s=>(match e with| .exit _=>False|_=>True)∧resVs s (gR 163)=some [(loE ⟨ln,ld,hn,hd,lo,ho,li,hi⟩).V,(hiE ⟨ln,ld,hn,hd,lo,ho,li,hi⟩).V]) ⟨normE s.e [1,2,3,4,5],s.h⟩:=by
   rintro s f1 f2 f3 f4 f5 fh;simp only[awp_seq,awp_reg,awp_cond,Zge 163 2];simp[f1,f2,f3,f4,f5,fh,hR0];cases li<;>cases hi<;>simp[awp_skip,awp_ret,awp_regA,Zge 163 3,Zge 163 4,Zge 163 5,Zge 163 6,putL,loE,hiE,End.V,hA,hB,hZ]<;>refine⟨_,.inl rfl,?_⟩<;>simp[Zgr 163]
  rcases h with ⟨f4,f5,fh⟩|⟨f4,f5,fh⟩
  ·exact⟨s,.inl rfl,key s f1 f2 f3 f4 f5 fh⟩
  ·refine ren_leaf [(3,4),(4,3)] (by rw[fh];rfl) (by rw[fh];rfl) (key _ ?_ ?_ ?_ ?_ ?_ ?_)
   ·rw[find_ren,f1];rfl
   ·rw[find_ren,f2];rfl
   ·rw[find_ren,f3];rfl
   ·rw[find_ren,f4];rfl
   ·rw[find_ren,f5];rfl
   ·rw[fh,hR0,hZ,hA,hB];rfl
 ·simp[Zge 163 1,putL,hR0,hZ,hA,hB]
def End.b (x:End):Prop:=x.far≤1∧ -1≤x.far∧x.n≤1099511627776∧ -1099511627776≤x.n∧0≤x.d∧x.d≤1048576
def lessE (a b:End):Bool:=
 if a.far≠b.far then decide (a.far <b.far) else if a.far≠0 then false else if a.n*b.d≠b.n*a.d then decide (a.n*b.d <b.n*a.d) else !a.after&&b.after
theorem mul_b0 {a b:Int} (h1:a≤1099511627776) (h2: -1099511627776≤a) (h3:0≤b) (h4:b≤1048576):a*b≤1152921504606846976∧ -1152921504606846976≤a*b:=by
 have:=Int.mul_le_mul_of_nonneg_right h1 h3;have:=Int.mul_le_mul_of_nonneg_right h2 h3;omega
theorem p304 (a b:End) (ha:a.b) (hb:b.b):PSp Tryz.prog GLx 164 [a.V,b.V] [.bool (lessE a b)]:=by
 obtain⟨fa,na,da,aa⟩:=a;obtain⟨fb,nb,db,ab⟩:=b;unfold End.b at ha hb;simp only at ha hb;have m1:=mul_b0 (a:=na) (b:=db) (by omega) (by omega) (by omega) (by omega);have m2:=mul_b0 (a:=nb) (b:=da) (by omega) (by omega) (by omega) (by omega);have w1:IntKind.i64.wrap (na*db)=na*db:=wrap_i64 (by omega) (by omega);have w2:IntKind.i64.wrap (nb*da)=nb*da:=wrap_i64 (by omega) (by omega);refine psp_of_awp (Zkk 164) rfl ?_;unfold lessE;simp only[Zga 164,awp_seq,awp_reg,awp_cond,Zge 164 0,entry];simp only[End.V];simp[Zge 164 1];by_cases h1:fa=fb
 ·subst h1;simp[awp_skip,Zge 164 3];by_cases h2:fa=0
  ·subst h2;simp[awp_regD,Zge 164 5,w1,w2,Zge 164 6];by_cases h3:na*db=nb*da
   ·rw[h3];simp[Zge 164 8];cases aa<;>simp[awp_ret,Zgr 164]
   ·simp[h3,awp_ret,Zge 164 7,Zgr 164]
  ·simp[h2,awp_ret,Zge 164 4,Zgr 164]
 ·simp[h1,awp_ret,Zge 164 2,Zgr 164]
def smallR (n d:Int):Bool:=okR n d&&decide (n≤1073741824∧ -1073741824≤n∧d≤32768)
theorem p309 (n d:Int) (h1:i64 n) (h2:i64 d):PSp Tryz.prog GLx 168 [ratV n d] [.bool (smallR n d)]:=by
 refine psp_of_awp (Zkk 168) rfl ?_;have hp:=(p248 n d h1 h2).fsp;unfold smallR;simp only[Zga 168,awp_seq,awp_reg,Zge 168 0,entry];simp[ratV]at hp ⊢;simp[Zge 168 1];refine⟨_,_,hp _,?_⟩;cases okR n d with
 |false=>simp[awp_ret,Zgr 168]
 |true=>
  by_cases b1: -1073741824≤n<;>by_cases b2:n≤1073741824<;>simp[b1,b2,awp_ret,Zgr 168]
theorem p308 (n d:Int) (h1:i64 n) (h2:i64 d) (op inf:Bool):PSp Tryz.prog GLx 167 [ratV n d,.bool op,.bool inf] [.bool (if inf then decide (n=0∧d=0)&& !op else smallR n d)]:=by
 refine psp_of_awp (Zkk 167) rfl ?_;have hp:=(p309 n d h1 h2).fsp;simp only[Zga 167,awp_seq,awp_reg,awp_cond,Zge 167 0,entry];simp[ratV]at hp ⊢;cases inf with
 |false=>
  simp[Zge 167 1,awp_skip,Zge 167 3];refine⟨_,_,hp _,?_⟩;simp[awp_ret,Zgr 167]
 |true=>
  simp[Zge 167 1,Zge 167 2];by_cases b1:n=0<;>by_cases b2:d=0<;>simp[b1,b2,V.eqL,V.eq1,awp_ret,Zgr 167]
theorem p305 (l:List V):PSp Tryz.prog GLx 165 [.list l] [.int .i64 (if l.length>32 then 4 else 0)]:=by
 refine psp_of_awp (Zkk 165) rfl ?_;simp only[Zga 165,awp_seq,awp_reg,awp_cond,Zge 165 0,entry];simp[Zge 165 1];by_cases h:32 <(l.length:Int)
 ·have h':32 <l.length:=by omega
  simp[h,h',awp_ret,Zge 165 2,Zgr 165]
 ·have h':¬32 <l.length:=by omega
  simp[h,h',awp_skip,awp_ret,Zge 165 3,Zgr 165]
def limE (n d:Int) (op inf:Bool):Bool:=if inf then decide (n=0∧d=0)&& !op else smallR n d
def goodE (x:Ivl):Bool:=limE x.ln x.ld x.lo x.li&&limE x.hn x.hd x.ho x.hi&&lessE (loE x) (hiE x)
theorem smallR_b {n d:Int} (h:smallR n d=true):1≤d∧d≤32768∧n≤1073741824∧ -1073741824≤n:=by
 unfold smallR at h;simp at h;have:=okR_b h.1;omega
theorem loE_b {x:Ivl} (h:limE x.ln x.ld x.lo x.li=true):(loE x).b:=by
 unfold limE at h;unfold loE End.b;split at h
 ·rename_i hi;simp[hi]
 ·rename_i hi;have:=smallR_b h;simp[hi];omega
theorem hiE_b {x:Ivl} (h:limE x.hn x.hd x.ho x.hi=true):(hiE x).b:=by
 unfold limE at h;unfold hiE End.b;split at h
 ·rename_i hi;simp[hi]
 ·rename_i hi;have:=smallR_b h;simp[hi];omega
theorem p258 (x:Ivl) (hx:x.ok):PSp Tryz.prog GLx 129 [x.V] [.bool (goodE x)]:=by
 refine psp_of_awp (Zkk 129) rfl ?_;have p1:=(p308 x.ln x.ld hx.1 hx.2.1 x.lo x.li).fsp;have p2:=(p308 x.hn x.hd hx.2.2.1 hx.2.2.2 x.ho x.hi).fsp;have p3:=(p303 x).fsp;have p4:=λh1 h2=>(p304 (loE x) (hiE x) (loE_b h1) (hiE_b h2)).fsp;unfold goodE;have e1:∀n d op inf,(if inf then decide (n=0∧d=0)&& !op else smallR n d)=limE n d op inf:=λ_ _ _ _=>rfl;rw[e1]at p1 p2;generalize hl1:limE x.ln x.ld x.lo x.li=l1 at*;generalize hl2:limE x.hn x.hd x.ho x.hi=l2 at*;simp only[Zga 129,awp_seq,awp_reg,awp_cond,Zge 129 0,Zge 129 1,entry];simp[ratV,Ivl.V]at p1 p2 p3 ⊢;simp[Zge 129 2];refine⟨_,_,p1 _,?_⟩;simp;cases l1 with
 |false=>simp[awp_ret,Zge 129 3,Zgr 129]
 |true=>
  simp;refine⟨_,_,p2 _,?_⟩;simp;cases l2 with
  |false=>simp[awp_ret,Zge 129 3,Zgr 129]
  |true=>
   simp[awp_skip,Zge 129 4];refine⟨_,_,p3 _,?_⟩;have q:=p4 rfl rfl;simp[End.V]at q ⊢;refine⟨_,_,q _,?_⟩;simp[awp_ret,Zgr 129]
theorem get_appk (h l:List Row) (n k:Nat) (hn:n=h.length+k):(h++l)[n]?=l[k]?:=by
 subst hn;rw[List.getElem?_append_right (by omega)];congr 1;omega
@[simp high] theorem get_app_0_0 (h l:List Row):(h++l)[h.length]?=l[0]?:=get_appk h l _ 0 (by omega)
@[simp high] theorem get_app_1_0 (h l:List Row):(h++l)[h.length+1]?=l[1]?:=get_appk h l _ 1 (by omega)
@[simp high] theorem get_app_2_0 (h l:List Row):(h++l)[h.length+1+1]?=l[2]?:=get_appk h l _ 2 (by omega)
@[simp high] theorem get_app_2_1 (h l:List Row):(h++l)[h.length+2]?=l[2]?:=get_appk h l _ 2 (by omega)
@[simp high] theorem get_app_3_0 (h l:List Row):(h++l)[h.length+1+1+1]?=l[3]?:=get_appk h l _ 3 (by omega)
@[simp high] theorem get_app_3_1 (h l:List Row):(h++l)[h.length+3]?=l[3]?:=get_appk h l _ 3 (by omega)
@[simp high] theorem get_app_4_0 (h l:List Row):(h++l)[h.length+1+1+1+1]?=l[4]?:=get_appk h l _ 4 (by omega)
@[simp high] theorem get_app_4_1 (h l:List Row):(h++l)[h.length+4]?=l[4]?:=get_appk h l _ 4 (by omega)
@[simp high] theorem get_app_5_0 (h l:List Row):(h++l)[h.length+1+1+1+1+1]?=l[5]?:=get_appk h l _ 5 (by omega)
@[simp high] theorem get_app_5_1 (h l:List Row):(h++l)[h.length+5]?=l[5]?:=get_appk h l _ 5 (by omega)
@[simp high] theorem get_app_6_0 (h l:List Row):(h++l)[h.length+1+1+1+1+1+1]?=l[6]?:=get_appk h l _ 6 (by omega)
@[simp high] theorem get_app_6_1 (h l:List Row):(h++l)[h.length+6]?=l[6]?:=get_appk h l _ 6 (by omega)
@[simp high] theorem get_app_7_0 (h l:List Row):(h++l)[h.length+1+1+1+1+1+1+1]?=l[7]?:=get_appk h l _ 7 (by omega)
@[simp high] theorem get_app_7_1 (h l:List Row):(h++l)[h.length+7]?=l[7]?:=get_appk h l _ 7 (by omega)
@[simp high] theorem get_app_8_0 (h l:List Row):(h++l)[h.length+1+1+1+1+1+1+1+1]?=l[8]?:=get_appk h l _ 8 (by omega)
@[simp high] theorem get_app_8_1 (h l:List Row):(h++l)[h.length+8]?=l[8]?:=get_appk h l _ 8 (by omega)
section
variable {P:Program} {GL:Globals}
theorem awp_loop_I {c:AC} {Q:AExit→St→Prop} (n:Nat) (I:Nat→St→Prop) {s:St} (h0:I 0 s)
  (h:∀k s,k≤n→I k s→awp P GL c (λe s'=>match e with| .normal=>k <n∧I (k+1) s'|e=>Q e s') s):awp P GL (.loop c) Q s:=by
 refine⟨λm s=>∃k,k≤n∧m=n-k∧I k s,⟨n,0,Nat.zero_le _,rfl,h0⟩,?_⟩;rintro m s ⟨k,hk,rfl,hi⟩;refine awp_mono c ?_ (h k s hk hi);intro e s' h;cases e with
 |normal=>obtain⟨hlt,hi'⟩:=h;exact⟨n-(k+1),by omega,k+1,hlt,rfl,hi'⟩
 |exit i=>exact h
 |ret=>exact h
end
def badAt (l:List Ivl) (k:Nat):Bool:=
 match l[k]? with
 |none=>true
 |some x=> !goodE x||(match k with|0=>false|j+1=>match l[j]? with|none=>true|some y=> !lessE (hiE y) (loE x))
def spanE (l:List Ivl):Int:=if (List.range l.length).any (badAt l) then 1 else if l.length>32 then 4 else 0
theorem any_bad {n k:Nat} {f:Nat→Bool} (hk:k <n) (h:f k=true):(List.range n).any f=true:=by
 rw[List.any_eq_true];exact⟨k,by simpa using hk,h⟩
theorem any_good {n:Nat} {f:Nat→Bool} (h:∀k <n,f k=false):(List.range n).any f=false:=by
 rw[List.any_eq_false];intro k hk;simpa using h k (by simpa using hk)
theorem goodE_b {x:Ivl} (h:goodE x=true):(loE x).b∧(hiE x).b:=by
 unfold goodE at h;simp at h;exact⟨loE_b h.1.1,hiE_b h.1.2⟩
theorem p246 (l:List Ivl) (hl:∀x∈l,x.ok) (hn:l.length≤2^40):PSp Tryz.prog GLx 121 [.list (l.map Ivl.V)] [.int .i64 (spanE l)]:=by
 refine psp_of_awp (Zkk 121) rfl ?_;simp only[Zga 121,awp_seq,awp_reg,awp_block,Zge 121 0,Zge 121 1,entry];simp;refine awp_loop_I l.length (λk s=>s.e=[(0,.v (.list (l.map Ivl.V))),(9,.v (.list (l.map Ivl.V))),(10,.v (.int .i64 l.length)),(11,.v (.int .i64 k))]∧∀j <k,badAt l j=false) ⟨rfl,by omega⟩ ?_;rintro k ⟨se,sh⟩ hk ⟨he,hg⟩;simp only at he;subst he;simp only[Zgl 121 0,awp_seq,awp_reg,awp_block,awp_cond,Zge 121 2];simp;by_cases h1:k <l.length
 ·obtain⟨x,hx⟩:∃x,l[k]?=some x:=⟨_,List.getElem?_eq_getElem h1⟩;have hxm:=List.mem_of_getElem? hx;have hw:IntKind.i64.wrap ((k:Int)+1)=k+1:=wrap_i64 (by omega) (by omega);have p1:=(p258 x (hl x hxm)).fsp;rw[if_pos (by omega),awp_skip];simp only[Zge 121 3];simp[Ivl.V]at p1;simp[hx,Ivl.V,putL,Zge 121 4];refine⟨_,_,p1 _,?_⟩;simp;cases hgx:goodE x with
  |false=>
   have hb:badAt l k=true:=by unfold badAt;rw[hx];simp[hgx]
   simp[awp_ret,Zge 121 5,Zgr 121];unfold spanE;rw[any_bad h1 hb];rfl
  |true=>
   simp[awp_skip,Zge 121 6];cases k with
   |zero=>
    have hb:badAt l 0=false:=by unfold badAt;rw[hx];simp[hgx]
    simp[Zge 121 11];simp at hw;simp[hw,h1];exact hb
   |succ j=>
    obtain⟨y,hy⟩:∃y,l[j]?=some y:=⟨_,List.getElem?_eq_getElem (by omega)⟩;have hgy:goodE y=true:=by
     have:=hg j (by omega);unfold badAt at this;rw[hy]at this;simp at this;exact this.1
    have p2:=(p303 x).fsp;have p3:=(p303 y).fsp;have p4:=(p304 (hiE y) (loE x) (goodE_b hgy).2 (goodE_b hgx).1).fsp;have hw2:IntKind.i64.wrap (j:Int)=j:=wrap_i64 (by omega) (by omega);simp[Ivl.V,End.V]at p2 p3 p4;simp[Zge 121 7];refine⟨_,_,p2 _,?_⟩;simp[putL,Zge 121 8,hw2,hy,Ivl.V];refine⟨_,_,p3 _,?_⟩;simp[Zge 121 9];refine⟨_,_,p4 _,?_⟩;simp;cases hle:lessE (hiE y) (loE x)with
    |false=>
     have hb:badAt l (j+1)=true:=by unfold badAt;rw[hx];simp[hgx,hy,hle]
     simp[awp_ret,Zge 121 10,Zgr 121];unfold spanE;rw[any_bad h1 hb];rfl
    |true=>
     have hb:badAt l (j+1)=false:=by unfold badAt;rw[hx];simp[hgx,hy,hle]
     simp at hw;simp[Zge 121 11,hw,h1];intro i hi;rcases Nat.lt_or_ge i (j+1)with h|h
     ·exact hg i h
     ·have:i=j+1:=by omega
      subst this;exact hb
 ·have hk2:k=l.length:=by omega
  subst hk2;rw[if_neg (by omega),awp_exit];have p5:=(p305 (l.map Ivl.V)).fsp;simp at p5;simp[Zge 121 12];refine⟨_,_,p5 _,?_⟩;simp[awp_ret,Zgr 121];unfold spanE;rw[any_good hg];simp
def aroundI (a n:Int):Int:=if a <0 then (IntKind.i64.wrap (0-IntKind.i64.wrap (a+1))).tmod n else a.tmod n
theorem p11 (a n:Int) (hn:n≠0):PSp Tryz.prog GLx 24 [.int .i64 a,.int .i64 n] [.int .i64 (aroundI a n)]:=by
 refine psp_of_awp (Zkk 24) rfl ?_;unfold aroundI;by_cases h1:a <0<;>simp[Zga 24,awp,Zge 24 0,Zge 24 1,Zge 24 2,Zge 24 3,Zgr 24,entry,h1,hn]
def pickI (l:List Int) (i n:Int):Int:=if i <0 then 0 else match l[i.toNat]? with|some x=>aroundI x n|none=>0
theorem p47 (l:List Int) (i n:Int) (hn:n≠0):PSp Tryz.prog GLx 22 [nums .i64 l,.int .i64 i,.int .i64 n] [.int .i64 (pickI l i n)]:=by
 refine psp_of_awp (Zkk 22) rfl ?_;unfold pickI;by_cases h1:i <0
 ·simp[Zga 22,awp,Zge 22 0,Zge 22 1,Zge 22 2,Zgr 22,entry,h1,nums]
 ·by_cases h2:(l.length:Int)≤i
  ·have:l[i.toNat]?=none:=by rw[List.getElem?_eq_none_iff];omega
   simp[Zga 22,awp,Zge 22 0,Zge 22 1,Zge 22 2,Zgr 22,entry,h1,h2,nums,this]
  ·have hlt:i.toNat <l.length:=by omega
   have hx:l[i.toNat]?=some l[i.toNat]:=List.getElem?_eq_getElem hlt;have h0:0≤i:=by omega
   simp[Zga 22,awp,Zge 22 0,Zge 22 1,Zge 22 3,Zgr 22,entry,h1,h2,nums,hx,h0,V.cells,fnOf,D.norm,argsOf,D.arg];refine⟨_,⟨_,(p11 l[i.toNat] n hn).fsp []⟩,?_⟩;simp[retDs]
end Go.Va
set_option maxHeartbeats 4000000
namespace Go.Va
open Go.Proofs
noncomputable def tbp:TL:=[te 44,te 45,te 46,te 76,te 87,te 88,te 89,te 123,te 131,te 171]
theorem tbp_ok:tbp.all ck=true:=by kernel_rfl
noncomputable def Tb:Tbl:=λf=>lookT tbp f
theorem Tb_ok:∀f n ac rs,Tb f=some (n,ac,rs)→chkF Tryz.prog GLx f n ac rs=true:=lookT_ok tbp_ok
end Go.Va
namespace Go.Va
section
variable {P:Program} {GL:Globals}
def Down (clos:List (List Nat)) (n:Nat) (rem:List Nat):Prop:=∀j <n,j∉rem→∀i∈(clos[j]?).getD [],i∉rem
def did (d:Nat→Bool) (i:Nat):Nat→Bool:=λj=>decide (j=i)||d j
def EnvD (ns cs:List (Option Nat)) (bn:List Nat) (vs bv:Nat→D) (d:Nat→Bool) (e:Env):Prop:=
 (∀j k:Nat,ns[j]?=some (some k)→d j=true→(∀c:Nat,cs[j]?=some (some c)→d c=false)→find e k=vs j)∧∀k∈bn,find e k=bv k
def okN (ns:List (Option Nat)) (bn:List Nat):Bool:=
 (List.range ns.length).all λj=>match ns[j]? with
  |some (some k)=> !bn.contains k&&(List.range ns.length).all λi=>i==j|| !(ns[i]?==some (some k))
  |_=>true
theorem okN_get {ns:List (Option Nat)} {bn:List Nat} (h:okN ns bn=true) {j k:Nat} (hj:ns[j]?=some (some k)):k∉bn∧∀i,ns[i]?=some (some k)→i=j:=by
 have hjl:j <ns.length:=(List.getElem?_eq_some_iff.1 hj).1;have:=List.all_eq_true.1 h j (List.mem_range.2 hjl);rw[hj]at this;simp only[Bool.and_eq_true,Bool.not_eq_true',List.all_eq_true,Bool.or_eq_true,beq_iff_eq]at this;refine⟨λhm=>?_,λi hi=>?_⟩
 ·have h1:=this.1;simp at h1;exact h1 hm
 ·have hil:i <ns.length:=(List.getElem?_eq_some_iff.1 hi).1;rcases this.2 i (List.mem_range.2 hil)with h2|h2
  ·exact h2
  ·rw[hi]at h2;simp at h2
theorem EnvD.step {ns cs:List (Option Nat)} {bn:List Nat} {vs bv:Nat→D} {d:Nat→Bool} {e e1:Env} (hE:EnvD ns cs bn vs bv d e) (hok:okN ns bn=true) (i:Nat)
  (hnew:∀k:Nat,ns[i]?=some (some k)→find e1 k=vs i) (hold:∀k:Nat,ns[i]?≠some (some k)→(∀j:Nat,cs[j]?=some (some i)→ns[j]?≠some (some k))→find e1 k=find e k):EnvD ns cs bn vs bv (did d i) e1:=by
 refine⟨λj k hj hd hc=>?_,λk hk=>?_⟩
 ·by_cases hji:j=i
  ·subst hji;exact hnew k hj
  ·have hdj:d j=true:=by simpa[did,hji]using hd
   rw[hold k (λhi=>hji ((okN_get hok hi).2 j hj)) (λj' hj' hk'=>?_)]
   ·refine hE.1 j k hj hdj λc hcc=>?_;have:=hc c hcc;simp only[did,Bool.or_eq_false_iff]at this;exact this.2
   ·have hjj:j=j':=(okN_get hok hk').2 j hj;subst hjj;have:=hc i hj';simp[did]at this
 ·rw[hold k (λhi=>(okN_get hok hi).1 hk) (λj' _ hk'=>(okN_get hok hk').1 hk)];exact hE.2 k hk
theorem EnvD.push {ns cs:List (Option Nat)} {bn:List Nat} {vs bv:Nat→D} {d:Nat→Bool} {e:Env} (hE:EnvD ns cs bn vs bv d e) (hok:okN ns bn=true) (i k:Nat) {v:D} (hi:ns[i]?=some (some k)) (hv:vs i=v):
  EnvD ns cs bn vs bv (did d i) ((k,v)::e):=by
 refine hE.step hok i (λk' hk'=>?_) (λk' hk' _=>?_)
 ·rw[hi]at hk';simp only[Option.some.injEq]at hk';subst hk';show (if k=k then v else find e k)=vs i;rw[if_pos rfl,hv]
 ·show (if k=k' then v else find e k')=find e k';rw[if_neg (λh=>hk' (by rw[hi,h]))]
end
section
variable {P:Program} {GL:Globals}
theorem anyD_inv {is:List GI} {clos:List (List Nat)} {n:Nat} {K:St→Prop} (I:List Nat→St→Prop)
  (hstep:∀rem i s,rem.Nodup→(∀j∈rem,j <n)→i∈rem→(∀j∈(clos[i]?).getD [],j∉rem)→(∀j <n,j∉rem→i∉(clos[j]?).getD [])→I rem s→awpG P GL (is.getD i default) (λs1=>I (rem.erase i) s1) s)
  (hfin:∀s,I [] s→K s):∀(k:Nat) (rem:List Nat) (s:St),rem.length=k→rem.Nodup→(∀j∈rem,j <n)→Down clos n rem→I rem s→AnyD P GL is clos K k rem s:=by
 intro k;induction k with
 |zero=>
  intro rem s hk _ _ _ hi;have:rem=[]:=List.eq_nil_of_length_eq_zero hk;subst this;exact hfin s hi
 |succ k ih=>
  intro rem s hk hnd hlt hd hi i him hdep;refine awpG_mono (λs1 h1=>ih (rem.erase i) s1 ?_ (hnd.erase i) (λj hj=>hlt j (List.mem_of_mem_erase hj)) ?_ h1) (hstep rem i s hnd hlt him hdep (λj hj hjr hij=>hd j hj hjr i hij him) hi)
  ·rw[List.length_erase_of_mem him];omega
  ·intro j hj hjr k2 hk2 hkr;have hk3:k2∈rem:=List.mem_of_mem_erase hkr;by_cases hji:j=i
   ·subst hji;exact hdep k2 hk2 hk3
   ·exact hd j hj (λhm=>hjr ((List.mem_erase_of_ne hji).2 hm)) k2 hk2 hk3
theorem anyD_all {is:List GI} {clos:List (List Nat)} {n:Nat} {K:St→Prop} (I:(Nat→Bool)→St→Prop)
  (hstep:∀d i s,i <n→d i=false→(∀j∈(clos[i]?).getD [],d j=true)→(∀j <n,i∈(clos[j]?).getD []→d j=false)→I d s→awpG P GL (is.getD i default) (λs1=>I (did d i) s1) s)
  (hfin:∀d s,(∀j <n,d j=true)→I d s→K s) {s:St} (h0:I (λj=>decide (n≤j)) s):AnyD P GL is clos K n (List.range n) s:=by
 refine anyD_inv (clos:=clos) (n:=n) (λrem s=>I (λj=>decide (j∉rem)) s) ?_ ?_ n (List.range n) s (by simp) List.nodup_range (λj hj=>List.mem_range.1 hj) ?_ ?_
 ·intro rem i s hnd hlt hi hdep hup hI;have e:(λj=>decide (j∉rem.erase i))=did (λj=>decide (j∉rem)) i:=by
   funext j
   simp only[did,hnd.mem_erase_iff];by_cases h1:j=i<;>simp[h1]
  rw[e];exact hstep (λj=>decide (j∉rem)) i s (hlt i hi) (by simpa using hi) (λj hj=>by simpa using hdep j hj) (λj hj hij=>by
   have:j∈rem:=Classical.byContradiction λh=>hup j hj h hij;simpa using this) hI
 ·intro s hI;exact hfin _ s (λj _=>by simp) hI
 ·intro j hj hjr i hi;exact absurd (List.mem_range.2 hj) hjr
 ·have e:(λj=>decide (j∉List.range n))=λj=>decide (n≤j):=by
   funext j;simp
  rw[e];exact h0
end
structure HM where
 E:List ((Int×Int)×Int)
 st:List Nat
 ck:Nat
def hget:List ((Int×Int)×Int)→Int×Int→Option Int
 |[],_=>none
 |x::E,k=>if x.1=k then some x.2 else hget E k
def hups:List ((Int×Int)×Int)→Int×Int→Int→List ((Int×Int)×Int)
 |[],k,v=>[(k,v)]
 |x::E,k,v=>if x.1=k then (k,v)::E else x::hups E k v
def HM.get (m:HM) (k:Int×Int):Option Int:=hget m.E k
def HM.set (m:HM) (k:Int×Int) (v:Int):HM:=
 if (m.get k).isSome then ⟨hups m.E k v,m.st,m.ck⟩ else ⟨hups m.E k v,m.st++[m.ck],m.ck+1⟩
def entH (x:(Int×Int)×Int):V×V:=(.agg [.int .i64 x.1.1,.int .i64 x.1.2],.int .u64 x.2)
def HM.row (m:HM):Row:= .map (m.E.map entH) m.st m.ck
theorem hget_ups:∀(E:List ((Int×Int)×Int)) (k:Int×Int) (v:Int) (k':Int×Int),hget (hups E k v) k'=if k'=k then some v else hget E k'
 |[],k,v,k'=>by simp only[hups,hget];by_cases h:k=k'<;>simp[h,eq_comm]
 |x::E,k,v,k'=>by
  simp only[hups];by_cases h:x.1=k
  ·subst h;simp only[if_true,hget];by_cases h2:x.1=k'<;>simp[h2,eq_comm]
   intro h3;exact absurd h3.symm h2
  ·rw[if_neg h];simp only[hget,hget_ups E k v k'];by_cases h2:x.1=k'
   ·subst h2;simp[h]
   ·simp[h2]
theorem HM.get_set (m:HM) (k:Int×Int) (v:Int) (k':Int×Int):(m.set k v).get k'=if k'=k then some v else m.get k':=by
 unfold HM.set;split<;>exact hget_ups _ _ _ _
def joinO (a b:Option Int):Option Int:=
 match a,b with
 |none,none=>none
 |a,b=>some (sumI [98,108,111,99,107] [IntKind.i64.wrap (a.getD 0),IntKind.i64.wrap (b.getD 0)])
def putF:Nat→Int→Int→Int→HM→HM
 |0,j,n,h,m=>m.set (j,n) h
 |f+1,j,n,h,m=>putF f (j+1) (n/2) ((joinO ((m.set (j,n) h).get (j,2*(n/2))) ((m.set (j,n) h).get (j,2*(n/2)+1))).getD 0) (m.set (j,n) h)
open Go.Proofs Go.Shelf Go.Maps Go.Sort
end Go.Va
