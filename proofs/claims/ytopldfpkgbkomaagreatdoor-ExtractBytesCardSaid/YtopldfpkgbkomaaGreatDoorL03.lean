/- Laws that ExtractBytes leans on, part 3. No condition of its own. -/
import Derived.RangeFuncRecord
import Derived.Test.YtopldfpkgbkomaaGreatDoorProg
import Derived.Shelf.SlIterI.Collect
import Derived.KernelRfl
import Derived.Shelf.SlIterI.Sorted
import Derived.Shelf.SortM.Plain
import Derived.Shelf.SortM.SortNone
import Derived.Test.YtopldfpkgbkomaaGreatDoorL02
set_option linter.all false
set_option maxRecDepth 100000
set_option maxHeartbeats 4000000
noncomputable section
namespace Go.Va
section
variable {u:Value} {d:D} {μ:List Nat} {w w':World} {g:Gh} {O:Nat→Prop} {h:List Row} {b:Nat} {a:Act} {s:St} {Q:AExit→St→Prop} {q:Opd}
section
variable {P:Program} {GL:Ac} {N:Nat} {r:Option Nat}
theorem Lu:∀(e:CH) (n:Nat),AF (L3 e) n=(AF e n).copy
 |[],n=>rfl
 |(k,d)::e,n=>by
  simp only[L3,qR,AF];by_cases h:k=n
  ·simp[h]
  ·rw[if_neg h,if_neg h];exact Lu e n
theorem Ot (h:RepE g w μ d u) (h0:∀v,Ae d v=none):RepE g w' μ d u:=by
 cases d<;>first
  |exact h
  |(have:=h0 (.slice (some ⟨0,0,none⟩) 0 1);simp[Ae]at this;done)
theorem TN (h:RepD g w μ d.copy u):RepD g w' μ d.copy u:=by
 cases d<;>simp only[D.copy]at h ⊢ <;>first
  |exact h
  |exact Ot h λv=>rfl
  |trivial
  |(obtain⟨vs,rfl,ha,h1,h2⟩:=h
    exact⟨vs,rfl,⟨ha.1,λi x v hx hv=>Ot (ha.2 i x v hx hv) (h2 x (qJ hx))⟩,h1,h2⟩)
def Su (b:Nat):Deferred:={target:= .collected b,args:= #[]}
def Marks (O':Nat→Prop) (w w':World) (ds ds':List Deferred):Prop:=
 ∃ms:List Nat,ds'=ms.map Su++ds∧ms.Nodup∧∀b∈ms,O' b∧w.heap.size≤b∧w'.heap[b]?=some (.deferred (some []))
def AfterM (GL:Ac) (N:Nat) (Q:St→Prop) (g:Gh) (w:World) (μ:List Nat) (a:Act) (O:Nat→Prop) (a':Act) (w':World):Prop:=
 ∃s' g' μ' O',Q s'∧Gs GL N g' w' μ' s' a' O'∧(∀b,O b→O' b)∧Chg (λb=>¬O b) g w g' w'∧μ <+: μ'∧Marks O' w w' a.defers a'.defers
theorem Marks.nil {O':Nat→Prop} {ds ds':List Deferred} (h:ds'=ds):Marks O' w w' ds ds':=⟨[],by simp[h],List.nodup_nil,by simp⟩
theorem Marks.trans {O1 O2:Nat→Prop} {g1 g2:Gh} {w w1 w2:World} {d0 d1 d2:List Deferred} (h1:Marks O1 w w1 d0 d1) (hs:w.heap.size≤w1.heap.size) (hO:∀b,O1 b→O2 b) (hc:Chg (λb=>¬O1 b) g1 w1 g2 w2)
  (h2:Marks O2 w1 w2 d1 d2):Marks O2 w w2 d0 d2:=by
 obtain⟨m1,rfl,n1,p1⟩:=h1;obtain⟨m2,rfl,n2,p2⟩:=h2;refine⟨m2++m1,by simp,?_,λb hb=>?_⟩
 ·rw[List.nodup_append];refine⟨n2,n1,λa ha b hb hab=>?_⟩;subst hab;have:=Bc (p1 a hb).2.2;have:=(p2 a ha).2.1;omega
 ·rcases qW.1 hb with hb|hb
  ·obtain⟨q1,q2,q3⟩:=p2 b hb;exact⟨q1,by omega,q3⟩
  ·obtain⟨q1,q2,q3⟩:=p1 b hb;exact⟨hO b q1,q2,(hc.heap b (Bc q3) (λh=>h q1)).trans q3⟩
theorem AfterM.trans {Q:St→Prop} {g:Gh} {w:World} {μ:List Nat} {a:Act} {O O1:Nat→Prop} {g1:Gh} {w1:World} {μ1:List Nat} {a1:Act} {a2:Act} {w2:World}
  (hO:∀b,O b→O1 b) (hc:Chg (λb=>¬O b) g w g1 w1) (hμ:μ <+: μ1) (hd:Marks O1 w w1 a.defers a1.defers) (h:AfterM GL N Q g1 w1 μ1 a1 O1 a2 w2):AfterM GL N Q g w μ a O a2 w2:=by
 obtain⟨s',g',μ',O2,hq,hg,hO',hc',hμ',hd'⟩:=h;exact⟨s',g',μ',O2,hq,hg,λb hb=>hO' b (hO b hb),hc.trans (hc'.mono λb h hb=>h (hO b hb)),hμ.trans hμ',hd.trans hc.size hO' hc' hd'⟩
def PostM (GL:Ac) (N:Nat) (Q:AExit→St→Prop) (g:Gh) (w:World) (μ:List Nat) (a:Act) (O:Nat→Prop) (e':Exit) (a':Act) (w':World):Prop:=
 ∃e,HN e e'∧AfterM GL N (Q e) g w μ a O a' w'
theorem PostM.trans {Q:AExit→St→Prop} {g:Gh} {w:World} {μ:List Nat} {a:Act} {O O1:Nat→Prop} {g1:Gh} {w1:World} {μ1:List Nat} {a1:Act}
  (hO:∀b,O b→O1 b) (hc:Chg (λb=>¬O b) g w g1 w1) (hμ:μ <+: μ1) (hd:Marks O1 w w1 a.defers a1.defers) {e':Exit} {a2:Act} {w2:World} (h:PostM GL N Q g1 w1 μ1 a1 O1 e' a2 w2):PostM GL N Q g w μ a O e' a2 w2:=by
 obtain⟨e,he,h2⟩:=h;exact⟨e,he,h2.trans hO hc hμ hd⟩
theorem Inv.addO {t:Nat→D} {u:Nat→Value} (hi:Inv g w μ t u h O) {b0:Nat} (hb0:b0 <w.heap.size) (hm:b0∉μ) (hp:∀p,Cl t u h w μ p≠some b0):
  Inv g w μ t u h (λb=>O b∨b=b0) where
 agree:=hi.agree
 olt:=λb h=>by rcases h with h|rfl;exact hi.olt b h;exact hb0
 rep:=hi.rep
 len:=hi.len
 rows:=hi.rows
 nod:=hi.nod
 mo:=λb hb ho=>by rcases ho with ho|ho;exact hi.mo b hb ho;exact hm (ho▸hb)
 uniq:=hi.uniq
 sep:=λp b h=>⟨(hi.sep p b h).1,λho=>by rcases ho with ho|ho;exact(hi.sep p b h).2 ho;exact hp p (ho▸h)⟩
theorem Inv.subO {t:Nat→D} {u:Nat→Value} {O':Nat→Prop} (hi:Inv g w μ t u h O) (hs:∀b,O' b→O b):Inv g w μ t u h O' where
 agree:=hi.agree
 olt:=λb h=>hi.olt b (hs b h)
 rep:=hi.rep
 len:=hi.len
 rows:=hi.rows
 nod:=hi.nod
 mo:=λb hb ho=>hi.mo b hb (hs b ho)
 uniq:=hi.uniq
 sep:=λp b h=>⟨(hi.sep p b h).1,λho=>(hi.sep p b h).2 (hs b ho)⟩
theorem EY {o:Obj} (g:Gh):Chg (λx=>x=b) g w g (w.putObj b o):=
 ⟨Gh.le.refl g,by simp,λb' _ hne=>World.putObj_heap_other hne,λ_ _ _ _=>rfl,rfl,rfl⟩
theorem Ge {o:Obj} (hg:∀o,g.m b o=none) (hag:∀b o v,g.m b o=some v→w.cell? ⟨b,o,none⟩=some v):
  ∀b' o' v,g.m b' o'=some v→(w.putObj b o).cell? ⟨b',o',none⟩=some v:=by
 intro b' o' v hv;by_cases hbb:b'=b
 ·subst hbb;rw[hg]at hv;cases hv
 ·rw[World.cell?_of_block (a:=⟨b',o',none⟩) (World.putObj_heap_other hbb)];exact hag b' o' v hv
theorem Ox {g0:Operand} {ps0:Array Tmp} {asg0 body0:Code} {ps:List Nat} {asg body:AC} (hk:Dj P GL N (.rangeFunc g0 ps0 asg0 body0) (.rangeF q ps asg body)=true)
 (hg:Gs GL N g w μ s a O) (h:awp P GL (.rangeF q ps asg body) Q s):
  (Code.rangeFunc g0 ps0 asg0 body0).wpIn (WF none) 0 P (PostM GL N Q g w μ a O) a w:=by
 simp only[Dj,qI,beq_iff_eq]at hk;obtain⟨⟨⟨⟨⟨⟨k1,k2⟩,k3⟩,k4⟩,k5⟩,k6⟩,k7⟩:=hk;obtain⟨fid,caps,rets,h',tag,hf,⟨hok,hsp⟩,hrow,hend⟩:=h;refine wpIn_rangeFunc λfn _=>?_;obtain⟨cvs,hcv,hcr,hct⟩:=Jc ((hg.gd P).ev k1) hf;have hsz1:(w.alloc (.deferred (some []))).heap.size=w.heap.size+1:=by simp
 have hsz2:∀lp,((w.alloc (.deferred (some []))).alloc (.loop lp)).heap.size=w.heap.size+2:=λlp=>by simp
 have i1:Inv g (w.alloc (.deferred (some []))) μ (AF s.e) (λn=>a.tmps.getD n undef) s.h O:=hg.inv.chg (CG _ g w _) (Dh hg.inv.agree _);have hμlt:∀b,b∈μ→b <w.heap.size:=λb hb=>hg.inv.mem_lt hb;have i2:Inv g (w.alloc (.deferred (some []))) μ (AF s.e) (λn=>a.tmps.getD n undef) s.h (λb=>O b∨b=w.heap.size):=by
  refine i1.addO (by omega) (λhm=>by have:=hμlt _ hm;omega) λp hp=>?_;have hp':Cl (AF s.e) (λn=>a.tmps.getD n undef) s.h w μ p=some w.heap.size:=by
   cases p with
   |tmp n k=>exact hp
   |cell r k=>
    simp only[Cl]at hp ⊢;have e2:BK (w.alloc (.deferred (some []))) μ r k=BK w μ r k:=by
     simp only[BK];cases hm:μ[r]? with
     |none=>rfl
     |some b'=>
      simp only[qp];rw[World.cell?_alloc_lt w _ ⟨b',k,none⟩ (hμlt b' (qJ hm))]
    rw[e2]at hp;exact hp
  have:=hg.inv.blk_lt hp';omega
 let lp:Loop:={state:= .ready,pending:=none,fn,tmps:=a.tmps,params:=ps0,assign:=asg0,body:=body0,defers:=w.heap.size}
 have hpre:μ <+: μ++[(w.alloc (.deferred (some []))).heap.size]:=rx _ _;have hloop:LoopP P GL .ready (L3 s.e) ps asg body g (μ++[(w.alloc (.deferred (some []))).heap.size]) (.loop lp):=by
  refine⟨lp,N,rfl,by rw[←k2],hg.sz,λn w'=>⟨?_,λk=>?_⟩,k6,k7,k4,k5,λp hp=>by simpa using qV.1 k3 p hp,rfl,rfl⟩
  ·rw[Lu];refine TN (w:=w) ?_;exact(hg.inv.rep n).copy.chg (M:=λ_=>True) (Chg.refl _ _ _) hpre λk b hb=>by rw[CR]at hb;cases hb
  ·rw[Lu];exact CR _ _ _
 have i3:=i2.newAny (BF P GL .ready (L3 s.e) ps asg body) (.loop lp) ⟨.loop lp,heap_alloc_new _ _,hloop,λo=>Gh.lt_of i2.agree (qM _) o⟩ (λk ds d h=>by cases h);have i4:=i3.call;have hμr:(μ++[(w.alloc (.deferred (some []))).heap.size])[s.h.length]?=some (w.heap.size+1):=by rw[←hg.inv.len,hsz1];simp
 have hcr':All2 (RepG g ((w.alloc (.deferred (some []))).alloc (.loop lp)) (μ++[(w.alloc (.deferred (some []))).heap.size])) caps cvs:=by
  refine⟨hcr.1,λi x v hx hv=>?_⟩;have hch:Chg (λ_=>False) g w g ((w.alloc (.deferred (some []))).alloc (.loop lp)):=(CG _ g w _).trans (CG _ g _ _);exact(hcr.2 i x v hx hv).chg hch hpre λb hb=>by rw[hct i x v hx hv]at hb;cases hb
 have hcall:=hsp g _ _ (.func (.yield (w.heap.size+1)) #[] #[]::cvs) _ i4 hg.glob (.cons ⟨w.heap.size+1,hμr,rfl⟩ hcr') (λi d v hd hv=>by
  cases i with
  |zero=>simp at hd hv;subst hd;rfl
  |succ i=>exact hct i d v (by simpa using hd) (by simpa using hv))
 have hinvoke:(invoke (.fn (.func fid) cvs.toArray) #[.func (.yield (w.heap.size+1)) #[] #[]]).run P ((w.alloc (.deferred (some []))).alloc (.loop lp))=
   .ok (.enter fid (Value.func (.yield (w.heap.size+1)) #[] #[]::cvs).toArray) ((w.alloc (.deferred (some []))).alloc (.loop lp)):=by
  unfold Tg at hok;split at hok
  ·rename_i fn hfn;simp only[qI,rV]at hok;have h1:¬fn.body=none:=by cases hb:fn.body<;>simp_all
   have h3:¬fn.name= "runtime.NumGoroutine" :=by simpa using hok.2
   have h2:(#[Value.func (.yield (w.heap.size+1)) #[] #[]]++cvs.toArray)=(Value.func (.yield (w.heap.size+1)) #[] #[]::cvs).toArray:=by
    rw[←ri];simp
   simp[invoke,callFunc,hfn,h3,h1,h2]
  ·cases hok
 have hres:(resolve a.eval (rangeCall g0 (w.heap.size+1)) 0).run P ((w.alloc (.deferred (some []))).alloc (.loop lp))=
   .ok {target:= .fn (.func fid) cvs.toArray,args:= #[.func (.yield (w.heap.size+1)) #[] #[]]} ((w.alloc (.deferred (some []))).alloc (.loop lp)):=by
  have hcv':a.eval g0= .func (.func fid) #[] cvs.toArray:=hcv;have he:∀v,a.eval (.const v)=v:=λ_=>rfl;simp[resolve,rangeCall,hcv',Deferred.ofValue,he]
 refine⟨w.heap.size+1,[Su w.heap.size],(w.alloc (.deferred (some []))).alloc (.loop lp),_,_,fid,_,_,run_enterLoop_outer ..,hres,λ_ _=>trivial,hinvoke,(λh=>by simp[WF,Fence.wide]at h),Ff ?_⟩;refine hcall.mono ?_;rintro e w3 ⟨v,g',μ',rfl,hinvR,hch,hμ⟩;have hinv:=hinvR.leave;have hb3:μ'[s.h.length]?=some (w.heap.size+1):=FC hμ hμr;obtain⟨o,ho,⟨lp',N',rfl,l1,l2,l3,l4,l5,l6,l7,l8,htag⟩,hgn⟩:=hinv.rows s.h.length _ _ hrow hb3;have hbusy:tag≠ .busy:=by rintro rfl;exact hend
 have hstate:lp'.state≠ .busy:=by
  cases tag with
  |ready=>intro h;rw[htag.1]at h;cases h
  |busy=>exact absurd rfl hbusy
  |done e=>cases e<;>exact htag.1
 have i5:=i3.ret hinv hch hμ;have i6:=i5.setAny hrow hb3 .dead (EY g') (Ge (o:= .loop {lp' with state:= .exhausted}) hgn i5.agree) (show _ <_ by rw[World.putObj_size];exact Bc ho) (λk ds d h=>by cases h);have hgs:Gs GL N g' (w3.putObj (w.heap.size+1) (.loop {lp' with state:= .exhausted})) μ' ⟨s.e,h'.set s.h.length .dead⟩ {a with defers:=[Su w.heap.size]++a.defers} (λb=>O b∨b=w.heap.size):=
  ⟨i6,hg.glob.mono hch.le,hg.sz⟩
 have hOlt:∀b,O b→b <w.heap.size:=hg.inv.olt;have hc1:Chg (λb=>¬O b) g w g ((w.alloc (.deferred (some []))).alloc (.loop lp)):=(CG _ g w _).trans (CG _ g _ _);have hc2:Chg (λb=>¬O b) g ((w.alloc (.deferred (some []))).alloc (.loop lp)) g' w3:=hch.mono λb h hb=>h (.inl (.inl hb));have hc3:Chg (λb=>¬O b) g' w3 g' (w3.putObj (w.heap.size+1) (.loop {lp' with state:= .exhausted})):=(EY g').mono λb h hb=>by subst h;have:=hOlt _ hb;omega
 have hmarks:Marks (λb=>O b∨b=w.heap.size) w (w3.putObj (w.heap.size+1) (.loop {lp' with state:= .exhausted})) a.defers ([Su w.heap.size]++a.defers):=by
  refine⟨[w.heap.size],rfl,by simp,λb hb=>?_⟩;simp only[qO]at hb;subst hb;refine⟨.inr rfl,qM _,?_⟩;rw[World.putObj_heap_other (by omega),hch.heap w.heap.size (by rw[hsz2];omega) (λh=>h (.inl (.inr rfl)))];have e1:((w.alloc (.deferred (some []))).alloc (.loop lp)).heap[w.heap.size]?=(w.alloc (.deferred (some []))).heap[w.heap.size]?:=
   (CG (λ_=>False) g (w.alloc (.deferred (some []))) (.loop lp)).heap w.heap.size (by omega) (λh=>h)
  rw[e1];exact heap_alloc_new _ _
 have fin:∀e,Q e ⟨s.e,h'.set s.h.length .dead⟩→AfterM GL N (Q e) g w μ a O {a with defers:=[Su w.heap.size]++a.defers} (w3.putObj (w.heap.size+1) (.loop {lp' with state:= .exhausted})):=λe he=>
  ⟨_,g',μ',_,he,hgs,λb h=> .inl h,hc1.trans (hc2.trans hc3),hpre.trans hμ,hmarks⟩
 refine⟨lp'.pending,_,run_endLoop ho hstate,?_⟩;generalize w3.putObj (w.heap.size+1) (.loop {lp' with state:= .exhausted})=w4 at fin ⊢;cases tag with
 |ready=>rw[htag.2];exact⟨.normal,trivial,fin _ hend⟩
 |busy=>exact absurd rfl hbusy
 |done e=>
  cases e with
  |none=>rw[htag.2];exact wpIn_ret ⟨.ret,trivial,fin _ hend⟩
  |some i=>rw[htag.2];exact wpIn_exit ⟨.exit i,rfl,fin _ hend⟩
end
end
section
variable {h h':List Row} {args:List D}
section
variable {P:Program} {GL:Ac} {N:Nat} {r:Option Nat}
theorem DM:∀(ac:AC) {c:Code},Dj P GL N c ac=true→(r=none∨ac.flat=true)→∀ {Q:AExit→St→Prop} {g:Gh} {w:World} {μ:List Nat} {s:St} {a:Act} {O:Nat→Prop},
  Gs GL N g w μ s a O→awp P GL ac Q s→c.wpIn (WF r) 0 P (PostM GL N Q g w μ a O) a w
 | .skip,c,hk,hr,Q,g,w,μ,s,a,O,hg,h=>by
  cases c<;>simp[Dj]at hk
  exact wpIn_skip ⟨.normal,trivial,s,g,μ,O,h,hg,λ_ h=>h,Chg.refl _ _ _,qP _,.nil rfl⟩
 | .reg is keep,c,hk,hr,Q,g,w,μ,s,a,O,hg,h=>by
  cases c<;>(try simp only[Dj,qY]at hk)
  rename_i id ops dr;cases dr with
  |true=>simp[Dj]at hk
  |false=>
  simp only[Dj]at hk;refine wpIn_region (Jk _ _ hk hg h λa' w' h2=>?_);obtain⟨s',g',μ',hq,hgs,hch,hμ,hd⟩:=h2;exact⟨.normal,trivial,_,g',μ',O,hq,hgs.norm keep,λ_ h=>h,hch,hμ,.nil hd⟩
 | .regD is keep Ax,c,hk,hr,Q,g,w,μ,s,a,O,hg,h=>by
  cases c<;>(try simp only[Dj,qY]at hk)
  rename_i id ops dr;cases dr with
  |false=>simp[Dj]at hk
  |true=>
  simp only[Dj,qI]at hk;refine wpIn_region_any hk.2 (Qb hk.1.1 hk.1.2 (K:=λs'=>Q .normal ⟨Bm s'.e keep,s'.h⟩) ?_ hg.drawn h λa' w' h2=>?_)
  ·intro s1 s2 he h;rw[←Hj he.1,←he.2];exact h
  ·obtain⟨s',g',μ',hq,hgs,hch,hμ,hd⟩:=h2;exact⟨.normal,trivial,_,g',μ',O,hq,hgs.norm keep,λ_ h=>h,(IQ g w _ _).trans hch,hμ,.nil hd⟩
 | .regA is keep Ax t,c,hk,hr,Q,g,w,μ,s,a,O,hg,h=>by
  cases c<;>(try simp only[Dj,qY]at hk)
  rename_i id ops dr;cases dr with
  |false=>simp[Dj]at hk
  |true=>
  simp only[Dj,qI]at hk;refine wpIn_region_any hk.2 (Qc hk.1.1.1.1 hk.1.1.1.2 hk.1.1.2 hk.1.2 (K:=λs'=>∃s2,RJ s.h.length s' s2∧Q .normal ⟨Bm s2.e keep,s2.h⟩) ?_ hg.drawn h λa' w' h2=>?_)
  ·rintro s1 s2 he ⟨s3,hr,hq⟩;rcases hr with rfl|⟨π,hp,ho,hf,hh⟩
   ·exact⟨s2,.inl rfl,by rw[←Hj he.1,←he.2];exact hq⟩
   ·exact⟨s3,.inr ⟨π,by rw[←he.2];exact hp,by rw[←he.2];exact ho,λn=>by rw[←he.1];exact hf n,by rw[←he.2];exact hh⟩,hq⟩
  ·obtain⟨s',g',μ',⟨s2,hr,hq⟩,hgs,hch,hμ,hd⟩:=h2;obtain⟨μ2,hgs2,hpre⟩:=hgs.ren hr;exact⟨.normal,trivial,_,g',μ2,O,hq,hgs2.norm keep,λ_ h=>h,(IQ g w _ _).trans hch,hpre μ (by rw[hg.inv.len];exact qM _) hμ,.nil hd⟩
 | .regV is keep Ax,c,hk,hr,Q,g,w,μ,s,a,O,hg,h=>by
  cases c<;>(try simp only[Dj,qY]at hk)
  rename_i id ops dr;cases dr with
  |false=>simp[Dj]at hk
  |true=>
  simp only[Dj,qI]at hk;refine wpIn_region_any hk.2 (Qa hk.1.1 hk.1.2 (K:=λs'=>Q .normal ⟨Bm s'.e keep,s'.h⟩) hg.drawn h λa' w' h2=>?_);obtain⟨s',g',μ',hq,hgs,hch,hμ,hd⟩:=h2;exact⟨.normal,trivial,_,g',μ',O,hq,hgs.norm keep,λ_ h=>h,(IQ g w _ _).trans hch,hμ,.nil hd⟩
 | .seq x y,c,hk,hr,Q,g,w,μ,s,a,O,hg,h=>by
  cases c<;>simp only[Dj,qY,qI]at hk
  have hr1:r=none∨x.flat=true:=hr.imp_right λh=>by simp only[AC.flat,qI]at h;exact h.1
  have hr2:r=none∨y.flat=true:=hr.imp_right λh=>by simp only[AC.flat,qI]at h;exact h.2
  refine wpIn_seq (wpIn_mono (DM x hk.1 hr1 hg h) ?_);rintro e a' w' ⟨e1,he,s',g',μ',O',hq,hgs,hO,hch,hμ,hd⟩;cases e1 with
  |normal=>
   cases e<;>simp only[HN]at he
   exact wpIn_mono (DM y hk.2 hr2 hgs hq) λe2 a2 w2 h2=>h2.trans hO hch hμ hd
  |exit i=>
   cases e<;>simp only[HN]at he
   subst he;exact⟨.exit i,rfl,s',g',μ',O',hq,hgs,hO,hch,hμ,hd⟩
  |ret=>
   cases e<;>simp only[HN]at he
   exact⟨.ret,trivial,s',g',μ',O',hq,hgs,hO,hch,hμ,hd⟩
 | .cond x y z,c,hk,hr,Q,g,w,μ,s,a,O,hg,h=>by
  cases c<;>simp only[Dj,qY,qI]at hk
  simp only[awp]at h;have hr1:r=none∨y.flat=true:=hr.imp_right λh=>by simp only[AC.flat,qI]at h;exact h.1
  have hr2:r=none∨z.flat=true:=hr.imp_right λh=>by simp only[AC.flat,qI]at h;exact h.2
  have hrx:=(hg.gd P).ev hk.1.1;split at h
  ·rename_i t ht;rw[ht]at hrx;refine wpIn_cond (GE hrx) ?_;cases t with
   |true=>exact DM y hk.1.2 hr1 hg h
   |false=>exact DM z hk.2 hr2 hg h
  ·exact h.elim
 | .block id x,c,hk,hr,Q,g,w,μ,s,a,O,hg,h=>by
  cases c<;>simp only[Dj,qY,qI,beq_iff_eq]at hk
  obtain⟨rfl,hk⟩:=hk;refine wpIn_block (wpIn_mono (DM x hk hr hg h) ?_);rintro e a' w' ⟨e1,he,s',g',μ',O',hq,hgs,hO,hch,hμ,hd⟩;cases e1 with
  |normal=>
   cases e<;>simp only[HN]at he
   exact⟨.normal,trivial,s',g',μ',O',hq,hgs,hO,hch,hμ,hd⟩
  |exit i=>
   cases e<;>simp only[HN]at he
   subst he;simp only[Exit.inBlock];split
   ·rename_i hi;simp only[hi,if_true]at hq;exact⟨.normal,trivial,s',g',μ',O',hq,hgs,hO,hch,hμ,hd⟩
   ·rename_i hi;simp only[hi,if_false]at hq;exact⟨.exit i,rfl,s',g',μ',O',hq,hgs,hO,hch,hμ,hd⟩
  |ret=>
   cases e<;>simp only[HN]at he
   exact⟨.ret,trivial,s',g',μ',O',hq,hgs,hO,hch,hμ,hd⟩
 | .loop x,c,hk,hr,Q,g,w,μ,s,a,O,hg,h=>by
  cases c<;>simp only[Dj,qY]at hk
  obtain⟨I,⟨m,hm⟩,hround⟩:=h;refine MO (λm a' w'=>∃s' g' μ' O',I m s'∧Gs GL N g' w' μ' s' a' O'∧(∀b,O b→O' b)∧Chg (λb=>¬O b) g w g' w'∧μ <+: μ'∧Marks O' w w' a.defers a'.defers) ?_ m a w ⟨s,g,μ,O,hm,hg,λ_ h=>h,Chg.refl _ _ _,qP _,.nil rfl⟩;rintro m a1 w1 ⟨s1,g1,μ1,O1,hI,hgs1,hO1,hch1,hμ1,hd1⟩;refine wpIn_mono (DM x hk hr hgs1 (hround m s1 hI)) ?_;rintro e a' w' ⟨e1,he,s',g',μ',O',hq,hgs,hO,hch,hμ,hd⟩;cases e1 with
  |normal=>
   cases e<;>simp only[HN]at he
   obtain⟨m',hlt,hI'⟩:=hq;exact⟨m',hlt,s',g',μ',O',hI',hgs,λb hb=>hO b (hO1 b hb),hch1.trans (hch.mono λb h hb=>h (hO1 b hb)),hμ1.trans hμ,hd1.trans hch1.size hO hch hd⟩
  |exit i=>
   cases e<;>simp only[HN]at he
   subst he;exact⟨.exit i,rfl,s',g',μ',O',hq,hgs,λb hb=>hO b (hO1 b hb),hch1.trans (hch.mono λb h hb=>h (hO1 b hb)),hμ1.trans hμ,hd1.trans hch1.size hO hch hd⟩
  |ret=>
   cases e<;>simp only[HN]at he
   exact⟨.ret,trivial,s',g',μ',O',hq,hgs,λb hb=>hO b (hO1 b hb),hch1.trans (hch.mono λb h hb=>h (hO1 b hb)),hμ1.trans hμ,hd1.trans hch1.size hO hch hd⟩
 | .exit id,c,hk,hr,Q,g,w,μ,s,a,O,hg,h=>by
  cases c<;>simp[Dj]at hk
  subst hk;exact wpIn_exit ⟨.exit _,rfl,s,g,μ,O,h,hg,λ_ h=>h,Chg.refl _ _ _,qP _,.nil rfl⟩
 | .ret,c,hk,hr,Q,g,w,μ,s,a,O,hg,h=>by
  cases c<;>simp[Dj]at hk
  exact wpIn_ret ⟨.ret,trivial,s,g,μ,O,h,hg,λ_ h=>h,Chg.refl _ _ _,qP _,.nil rfl⟩
 | .never,c,hk,hr,Q,g,w,μ,s,a,O,hg,h=>h.elim
 | .rangeF q ps asg body,c,hk,hr,Q,g,w,μ,s,a,O,hg,h=>by
  have hrn:r=none:=by
   rcases hr with h|h
   ·exact h
   ·simp[AC.flat]at h
  subst hrn;cases c<;>(try (simp only[Dj,qY]at hk;done))
  exact Ox hk hg h
def KT (e:CH) (ps:List Nat) (args:List D):CH:=(ps.zip args).foldl (λe p=>p::e) e
def Ha (P:Program) (GL:Ac) (e0:CH) (ps:List Nat) (asg body:AC) (rr:Nat):AExit→List Row→Bool→List Row→Prop
 | .normal,h,b,h'=>b=true∧h'=h.set rr (BF P GL .ready e0 ps asg body)
 | .ret,h,b,h'=>b=false∧h'=h.set rr (BF P GL (.done none) e0 ps asg body)
 | .exit i,h,b,h'=>b=false∧h'=h.set rr (BF P GL (.done (some i)) e0 ps asg body)
abbrev ZF (g:Gh) (w:World) (μ:List Nat) (e:CH) (ts:Array Value):Prop:=∀n,RepD g w μ (AF e n) (ts.getD n undef)∧∀k,Ak (AF e n) (ts.getD n undef) k=none
theorem LK {g:Gh} {w:World} {μ:List Nat} {N:Nat}:∀ {ps:List Nat} {args:List D} {us:List Value} {e:CH} {ts:Array Value},args.length=ps.length→(∀p∈ps,p <N)→All2 (RepG g w μ) args us→Tame args us→ts.size=N→
  ZF g w μ e ts→ZF g w μ (KT e ps args) ((ps.zip us).foldl (λt p=>t.setIfInBounds p.1 p.2) ts)∧((ps.zip us).foldl (λt p=>t.setIfInBounds p.1 p.2) ts).size=N
 |[],args,us,e,ts,_,_,_,_,hs,hg=>by simpa[KT]using ⟨hg,hs⟩
 |p::ps,[],us,e,ts,hl,_,_,_,_,_=>by simp at hl
 |p::ps,a::args,[],e,ts,_,_,ha,_,_,_=>by have:=ha.1;simp at this
 |p::ps,a::args,u::us,e,ts,hl,hp,ha,ht,hs,hg=>by
  rw[All2.cons_iff]at ha;have:=LK (ps:=ps) (args:=args) (us:=us) (e:=(p,a)::e) (ts:=ts.setIfInBounds p u) (by simpa using hl) (λq hq=>hp q (by simp[hq])) ha.2
   (λi d v hd hv=>ht (i+1) d v (by simpa using hd) (by simpa using hv)) (by simpa using hs) (λn=>by
    simp only[AF];by_cases h:p=n
    ·subst h;have hlt:p <ts.size:=hs▸hp p (by simp);have e1:(ts.setIfInBounds p u).getD p undef=u:=by simp[qf,hlt]
     rw[if_pos rfl,e1];exact⟨ha.1.toD,IK ha.1 (ht 0 a u rfl rfl)⟩
    ·have e1:(ts.setIfInBounds p u).getD n undef=ts.getD n undef:=by simp[qf,rH,h]
     rw[if_neg h,e1];exact hg n)
  exact this
theorem GX {rr:Nat} {e0:CH} {ps:List Nat} {asg body:AC} {b:Bool} (hrow:h[rr]?=some (BF P GL .ready e0 ps asg body)) (hl:args.length=ps.length)
  (hw:awp P GL asg (λe s=>e= .normal∧s.h[rr]?=some (BF P GL .ready e0 ps asg body)∧
   awp P GL body (λe s'=>s'.h[rr]?=some (BF P GL .busy e0 ps asg body)∧Ha P GL e0 ps asg body rr e s'.h b h') ⟨s.e,s.h.set rr (BF P GL .busy e0 ps asg body)⟩) ⟨KT e0 ps args,h⟩):
  ZD P GL rr args h b h':=by
 intro g w μ us O hinv hgl hall htame bl hbl;obtain⟨o,ho,⟨lp,N,rfl,l1,l2,l3,l4,l5,l6,l7,l8,htag⟩,hgn⟩:=hinv.rows rr _ bl hrow hbl;have hlen:us.length=args.length:=hall.1;have hsz:us.toArray.size=lp.params.size:=by rw[l1];simp[hlen,hl]
 refine⟨_,_,_,_,run_yield ho hsz,?_⟩;obtain⟨hgood,hsz2⟩:=LK hl l8 hall htame l2 λn=>l3 n w;have e1:(lp.params.zip us.toArray).foldl (λtmps x=>match x with|(t,a)=>tmps.setIfInBounds t a) lp.tmps=(ps.zip us).foldl (λt p=>t.setIfInBounds p.1 p.2) lp.tmps:=by
  rw[l1,←Array.foldl_toList];simp
 refine roundIn_of_wpIn trivial ?_;rw[e1];generalize (ps.zip us).foldl (λt p=>t.setIfInBounds p.1 p.2) lp.tmps=ts at hgood hsz2;have hgs:Gs GL N g w μ ⟨KT e0 ps args,h⟩ {tmps:=ts,defers:=[]} O:=⟨hinv.enter (λn=>(hgood n).1) (λn=>(hgood n).2),hgl,hsz2⟩;refine wpIn_mono (DM (r:=some bl) asg l4 (.inr l6) hgs hw) ?_;rintro e a1 w1 ⟨ee,he,s1,g1,μ1,O1,⟨rfl,hrow1,hw1⟩,hgs1,hO1,hch1,hμ1,_⟩;cases e<;>simp only[HN]at he
 have hbl1:μ1[rr]?=some bl:=FC hμ1 hbl;obtain⟨o1,ho1,⟨lp1,N1,rfl,j1,j2,j3,j4,j5,j6,j7,j8,htag1⟩,hgn1⟩:=hgs1.inv.rows rr _ bl hrow1 hbl1;refine⟨_,run_beginRound ho1 htag1.1,?_⟩;have i2:=hgs1.inv.setAny hrow1 hbl1 (BF P GL .busy e0 ps asg body) (EY g1) (Ge (o:= .loop {lp1 with state:= .busy}) hgn1 hgs1.inv.agree)
  ⟨_,World.putObj_heap_same (Bc ho1),⟨_,N1,rfl,j1,j2,j3,j4,j5,j6,j7,j8,rfl⟩,hgn1⟩ (λk ds d h=>by cases h)
 have hgs2:Gs GL N g1 (w1.putObj bl (.loop {lp1 with state:= .busy})) μ1 ⟨s1.e,s1.h.set rr (BF P GL .busy e0 ps asg body)⟩ a1 O1:=⟨i2,hgs1.glob,hgs1.sz⟩;refine wpIn_mono (DM (r:=some bl) body l5 (.inr l7) hgs2 hw1) ?_;rintro e a3 w3 ⟨ee,he,s3,g3,μ3,O3,⟨hrow3,hend⟩,hgs3,hO3,hch3,hμ3,_⟩;have hbl3:μ3[rr]?=some bl:=FC hμ3 hbl1;obtain⟨o3,ho3,⟨lp3,N3,rfl,m1,m2,m3,m4,m5,m6,m7,m8,htag3⟩,hgn3⟩:=hgs3.inv.rows rr _ bl hrow3 hbl3;have hnO:¬O bl:=hinv.mo bl (qJ hbl);have fin:∀(jump:Option Code) (tag:Tag),ZE tag {lp3 with state:=if jump.isNone then .ready else .done,pending:=jump}→b=jump.isNone→h'=s3.h.set rr (BF P GL tag e0 ps asg body)→
   ∃v w',(Instr.endRound bl jump).run P w3= .ok v w'∧∃g' μ',Ending.returned v= .returned (.bool b)∧Inv g' w' μ' KL Mj h' O∧Chg (λb=>¬O b) g w g' w'∧μ <+: μ':=by
  intro jump tag htg hb hh;have i4:=hgs3.inv.setAny hrow3 hbl3 (BF P GL tag e0 ps asg body) (EY g3) (Ge (o:= .loop {lp3 with state:=if jump.isNone then .ready else .done,pending:=jump}) hgn3 hgs3.inv.agree)
   ⟨_,World.putObj_heap_same (Bc ho3),⟨_,N3,rfl,m1,m2,m3,m4,m5,m6,m7,m8,htg⟩,hgn3⟩ (λk ds d h=>by cases h)
  refine⟨_,_,run_endRound jump ho3,g3,μ3,by rw[hb],?_,?_,hμ1.trans (hμ3)⟩
  ·rw[hh];exact(i4.leave).subO λb hb=>hO3 b (hO1 b hb)
  ·have hm:∀x,x=bl→¬O x:=λx h hb=>hnO (h▸hb);exact hch1.trans (Chg.trans ((EY g1).mono hm) (Chg.trans (hch3.mono λb h hb=>h (hO1 b hb)) ((EY g3).mono hm)))
 cases ee with
 |normal=>
  cases e<;>simp only[HN]at he
  exact fin none .ready ⟨rfl,rfl⟩ hend.1 hend.2
 |exit i=>
  cases e<;>simp only[HN]at he
  subst he;exact fin (some (.exit i)) (.done (some i)) ⟨by simp,rfl⟩ hend.1 hend.2
 |ret=>
  cases e<;>simp only[HN]at he
  exact fin (some .ret) (.done none) ⟨by simp,rfl⟩ hend.1 hend.2
end
end
section
inductive AR where
 |t (n:Nat)
 |c (n sz:Nat) (ag:Bool)
def AR.val (s:St):AR→Option V
 | .t n=>(AF s.e n).toV
 | .c n sz ag=>((PI.load (.t n false) sz ag).val s.e s.h).bind D.toV
def Bw (s:St):List AR→Option (List V)
 |[]=>some []
 |r::rs=>match r.val s,Bw s rs with
  |some x,some xs=>some (x::xs)
  |_,_=>none
def AV (args:List V):CH:=args.zipIdx.map λp=>(p.2,.v p.1)
def D.one?:D→Option D
 | .tup _=>none
 |d=>some d
def D.keep:D→D
 | .own e s xs=> .own e s xs
 |d=>d.arg
def AR.d (s:St):AR→Option D
 | .t n=>some (AF s.e n).keep
 | .c n sz ag=>((PI.load (.t n false) sz ag).val s.e s.h).bind λd=>d.arg.one?
def DS (s:St):List AR→Option (List D)
 |[]=>some []
 |r::rs=>match r.d s,DS s rs with
  |some x,some xs=>some (x::xs)
  |_,_=>none
def Ab (args:List D):CH:=args.zipIdx.map λp=>(p.2,p.1)
def KI (P:Program):ResultVar→AR→Bool
 | .tmp t,.t n=>t==n
 | .cell a T,.c n sz ag=>a==n&&Ba P T sz&&H8 P T ag&&(ag||sz==1)
 |_,_=>false
def E5:List AR→List Nat
 |[]=>[]
 | .t n::rs=>n::E5 rs
 | .c _ _ _::rs=>E5 rs
def Cq (P:Program) (GL:Ac) (f n:Nat) (ac:AC) (rs:List AR):Bool:=
 match P.funcs[f]? with
 |some fn=> !(fn.name== "runtime.NumGoroutine")&&(match fn.body with|some c=>Dj P GL fn.ntmps c ac|none=>false)&&Ap (KI P) fn.results.toList rs&&decide (n≤fn.ntmps)&&decide (E5 rs).Nodup
 |none=>false
def MG (tmps:Array Value):ResultVar→Sem Value
 | .tmp t=>pure (tmps.getD t undef)
 | .cell a t=>do loadVar t (←asAddr (tmps.getD a undef))
theorem LO (fn:Func) (tmps:Array Value):results fn tmps=(do
  let vs ←fn.results.mapM (MG tmps)
  pure (if h:vs.size=1 then vs[0] else .tuple vs)):=by
 unfold results
 congr 1
variable {N f n:Nat} {M O:Nat→Prop} {a:Act} {s:St} {μ:List Nat} {w w':World} {g g':Gh} {vs:List Value} {xs:List V} {h h':List Row} {u v:Value} {d:D} {args rets:List D}
section
variable {P:Program} {GL:Ac}
theorem HB:∀(args:List V) (k n:Nat),AF ((args.zipIdx k).map λp=>(p.2,D.v p.1)) n=if k≤n then ((args[n-k]?).map D.v).getD .any else .any
 |[],k,n=>by simp[AF]
 |x::xs,k,n=>by
  simp only[tj,qR,AF];by_cases h:k=n
  ·subst h;simp
  ·rw[if_neg h,HB xs (k+1) n];by_cases h2:k+1≤n
   ·rw[if_pos h2,if_pos (by omega),show n-k=(n-(k+1))+1 by omega,sU]
   ·rw[if_neg h2,if_neg (by omega)]
theorem Ir (args:List V) (n:Nat):AF (AV args) n=((args[n]?).map D.v).getD .any:=by
 have:=HB args 0 n;simpa[AV]using this
theorem cB (hg:Gs GL N g w μ s a O) {rv:ResultVar} {r:AR} (hk:KI P rv r=true) {x:V} (hx:r.val s=some x):
  ∃v,(MG a.tmps rv).run P w= .ok v w∧RepV g x v:=by
 cases rv with
 |tmp t=>
  cases r with
  |t n=>
   have:t=n:=by simpa[KI]using hk
   subst this;exact⟨_,rfl,Cs (hg.inv.rep t) hx⟩
  |c n sz ag=>simp[KI]at hk
 |cell b t=>
  cases r with
  |t n=>simp[KI]at hk
  |c n sz ag=>
   simp only[KI,qI,beq_iff_eq]at hk;obtain⟨⟨⟨rfl,hs⟩,hag⟩,h1⟩:=hk;simp only[AR.val,sK]at hx;obtain⟨d,hd,hdx⟩:=hx;have:=Nu (P:=P) (GL:=GL) (a:= .tmp b) (a':= .t b false) (t:=t) (by simp[oe]) hs hag h1 (hg.gd P) hd
    {(default:Oper)with op:= .load t (.tmp b)} rfl
   obtain⟨v,hrun,hrep,_⟩:=this;refine⟨v,?_,Cs hrep hdx⟩;have hev:a.eval (.tmp b)=a.tmps.getD b undef:=rfl;simp only[execOp,Instr.loadAt,hev,Sem.run_bind,Sem.run_map]at hrun;simp only[MG,Sem.run_bind];cases hp:a.tmps.getD b undef with
   |pointer p=>
    cases p with
    |none=>simp[hp,Instr.sureAddr]at hrun
    |some p=>
     simp only[hp,Instr.sureAddr,Sem.run_pure,Result.andThen_ok,asAddr]at hrun ⊢;cases hl:(loadVar t p).run P w with
     |ok v' w'=>simp[hl]at hrun;obtain⟨rfl,rfl⟩:=hrun;rfl
     |halt h w'=>simp[hl]at hrun
   |_=>simp[hp,Instr.sureAddr]at hrun
theorem KV {g:Gh} {w:World} {μ:List Nat} {s:St} {a:Act} {O:Nat→Prop} {N:Nat} (hg:Gs GL N g w μ s a O):∀ {rvs:List ResultVar} {rs:List AR} {xs:List V},Ap (KI P) rvs rs=true→Bw s rs=some xs→
  ∃vs:List Value,(rvs.mapM (MG a.tmps)).run P w= .ok vs w∧All2 (RepV g) xs vs
 |[],[],xs,_,h=>by
  simp only[Bw,qF]at h;subst h;exact⟨[],rfl,.nil⟩
 |rv::rvs,r::rs,xs,hk,h=>by
  simp only[Ap,qI]at hk;simp only[Bw]at h;split at h
  ·rename_i y ys hy hys;simp only[qF]at h;subst h;obtain⟨v,h1,h2⟩:=cB hg hk.1 hy;obtain⟨vs,h3,h4⟩:=KV hg hk.2 hys;refine⟨v::vs,?_,.cons h2 h4⟩;rw[List.mapM_cons,Sem.run_bind,h1,Result.andThen_ok,Sem.run_bind,h3];rfl
  ·cases h
 |[],_::_,_,hk,_=>by simp[Ap]at hk
 |_::_,[],_,hk,_=>by simp[Ap]at hk
theorem Wa (h:All2 (RepV g) xs vs):RepD g w [] (JG xs) (if h:vs.toArray.size=1 then vs.toArray[0] else .tuple vs.toArray):=by
 unfold JG;split
 ·rename_i x;have hl:=h.1
  match vs,hl with
  |[v],_=>
   simp only[sg,qT,ra,dite_true];exact(All2.cons_iff.1 h).1
 ·rename_i hne;have hl:¬vs.toArray.size=1:=by
   intro h1;have:xs.length=1:=by rw[←h.1];simpa using h1
   match xs,this with
   |[x],_=>exact hne x rfl
  rw[dif_neg hl];exact⟨vs,rfl,by simp[h.1],λi x v hx hv=>by
   simp only[qZ,qQ]at hx;obtain⟨y,hy,rfl⟩:=hx;exact h.2 i y v hy hv⟩
theorem Inv.chgO {t:Nat→D} {u:Nat→Value} (hi:Inv g w μ t u h O) (hc:Chg M g w g' w') (hM:∀b,M b→O b)
  (hag:∀b o v,g'.m b o=some v→w'.cell? ⟨b,o,none⟩=some v):Inv g' w' μ t u h O:=by
 have hcellU:∀r k,BK w' μ r k=BK w μ r k:=by
  intro r k;simp only[BK];cases hm:μ[r]? with
  |none=>rfl
  |some b=>
   have hbm:=qJ hm;simp only[qp];rw[World.cell?_of_block (a:=⟨b,k,none⟩) (hc.heap b (hi.mem_lt hbm) (λh=>hi.mo b hbm (hM b h)))]
 refine hi.upd hc hag (λn=>EP hi hc (qP μ) n λk b' hb' h=>(hi.sep _ b' hb').2 (hM b' h)) hi.len
  (λr row b hr hb=>hi.rowChg hc (qP μ) hr hb (λh=>hi.mo b (qJ hb) (hM b h)) (λp b' hp h=>absurd (hM b' h) (hi.sep p b' hp).2)) hi.nod (λb hb=> .inl hb)
  (λp=>some p) (λp q r hp hq=>by simp at hp hq;rw[hp,hq]) (.tmp 0 0) ?_
 intro p b hp;cases p with
 |tmp m j=>exact .inl ⟨.tmp m j,rfl,hp⟩
 |cell r k=>simp only[Cl,hcellU]at hp;exact .inl ⟨.cell r k,rfl,hp⟩
theorem JU {F:Fence} {n:Nat} {fn:Func} {tmps:Array Value} {R:Ending→World→Prop}:∀(ms:List Nat) {w:World},ms.Nodup→(∀b∈ms,w.heap[b]?=some (.deferred (some [])))→
  (∀w':World,w'.heap.size=w.heap.size→w'.os=w.os→w'.output=w.output→(∀b,b∉ms→w'.heap[b]?=w.heap[b]?)→∃v,(results fn tmps).run P w'= .ok v w'∧R (.returned v) w')→LeavesInM F n P fn tmps R (ms.map Su) .returning w
 |[],w,_,_,h=>h w rfl rfl rfl λ_ _=>rfl
 |b::ms,w,hn,hd,h=>by
  rw[sn]at hn;refine⟨by simp,.inl ⟨b,_,rfl,run_takeDeferred (hd b (by simp)),?_⟩⟩;refine JU ms hn.2 (λb' hb'=>?_) λw' hs ho hu hw=>h w' (hs.trans World.putObj_size) ho hu λb' hb'=>?_
  ·rw[World.putObj_heap_other (λ(h:b'=b)=>hn.1 (h▸hb'))];exact hd b' (by simp[hb'])
  ·simp only[qL,not_or]at hb';rw[hw b' hb'.2,World.putObj_heap_other hb'.1]
theorem QB {F:Fence} {fn:Func} {Q:St→Prop} {R:Ending→World→Prop} {a':Act} {w1:World} (hd:a.defers=[]) (hOlt:∀b,O b→b <w.heap.size)
  (h:AfterM GL N Q g w μ a O a' w1) (hR:∀s' g' μ' w',Q s'→Gs GL N g' w' μ' s' a' O→Chg (λb=>¬O b) g w g' w'→μ <+: μ'→∃v,(results fn a'.tmps).run P w'= .ok v w'∧R (.returned v) w'):
  LeavesInM F n P fn a'.tmps R a'.defers .returning w1:=by
 obtain⟨s',g',μ',O',hq,hg,hO,hc,hμ,ms,hms,hnd,hp⟩:=h;rw[hms,hd,sI];have hnone:∀b∈ms,∀o,g'.m b o=none:=by
  intro b hb o;cases hx:g'.m b o with
  |none=>rfl
  |some v=>
   have:=hg.inv.agree b o v hx;simp[World.cell?,(hp b hb).2.2]at this
 have hnO:∀b∈ms,¬O b∨False:=λb hb=> .inl λho=>by
  have h1:=(hp b hb).2.1;have h3:=hOlt b ho;omega
 refine JU ms hnd (λb hb=>(hp b hb).2.2) λw' hs ho hu hw=>?_;have hc2:Chg (λb=>b∈ms) g' w1 g' w':=⟨Gh.le.refl _,by omega,λb _ hb=>hw b hb,λ_ _ _ _=>rfl,ho,hu⟩;have hag:∀b o v,g'.m b o=some v→w'.cell? ⟨b,o,none⟩=some v:=by
  intro b o v hv;by_cases hb:b∈ms
  ·rw[hnone b hb]at hv;cases hv
  ·rw[World.cell?_of_block (a:=⟨b,o,none⟩) (hw b hb)];exact hg.inv.agree b o v hv
 have hinv:=(hg.inv.chgO hc2 (λb hb=>(hp b hb).1) hag).subO hO;exact hR s' g' μ' w' hq ⟨hinv,hg.glob,hg.sz⟩ (hc.trans (hc2.mono λb hb ho=>(hnO b hb).elim (λh=>h ho) id)) hμ
theorem Gg {ac:AC} {rs:List AR} {args rets:List V} (hk:Cq P GL f n ac rs=true) (hn:args.length=n)
  (h:awp P GL ac (λe s=>(match e with| .exit _=>False|_=>True)∧Bw s rs=some rets) ⟨AV args,[]⟩):PSp P GL f args rets:=by
 unfold Cq at hk;split at hk
 ·rename_i fn hfn;simp only[qI]at hk;obtain⟨⟨⟨⟨hnm,hbody⟩,hres⟩,hnn⟩,_⟩:=hk;have hnt:args.length≤fn.ntmps:=by rw[hn];simpa using hnn
  split at hbody
  ·rename_i c hc;refine⟨by simp[Tg,hfn,hc,hnm],λg w us hag hgl hall=>(callsIn_wide (n:=0)).1 ?_⟩;have hlen:us.length=args.length:=hall.1;refine callsIn_of_wp_marks hfn hc trivial ?_ rfl;have hinv:Gs GL fn.ntmps g w [] ⟨AV args,[]⟩ {tmps:=us.toArray++Array.replicate (fn.ntmps-us.toArray.size) undef,defers:=[]} (λb=>b <w.heap.size):=by
    refine⟨⟨hag,λb hb=>hb,λn=>?_,rfl,λr row b hr=>by simp at hr,λr r' b hr=>by simp at hr,λb hb=>by simp at hb,λp q b hp=>?_,λp b hp=>?_⟩,hgl,by simp;omega⟩
    ·simp only[Ir];cases hx:args[n]? with
     |none=>simp[RepD,RepG,RepE]
     |some x=>
      obtain⟨v,hv,hr⟩:=hall.get hx;have hlt:=(qK.1 hv).1;have:(us.toArray++Array.replicate (fn.ntmps-us.toArray.size) undef).getD n undef=v:=by
       simp[Array.getElem?_append,hlt];exact(qK.1 hv).2
      simp only[qq,qd,this];exact hr
    ·exfalso;cases p with
     |tmp n k=>
      simp only[Cl,Ir]at hp;cases hx:args[n]?<;>simp only[hx,Option.map_none,qq,Option.getD_none,qd]at hp<;>cases k<;>simp[Ak,Ae]at hp
     |cell r k=>simp[Cl,A9,Ae]at hp
    ·exfalso;cases p with
     |tmp n k=>
      simp only[Cl,Ir]at hp;cases hx:args[n]?<;>simp only[hx,Option.map_none,qq,Option.getD_none,qd]at hp<;>cases k<;>simp[Ak,Ae]at hp
     |cell r k=>simp[Cl,A9,Ae]at hp
   refine wpIn_mono (DM (r:=none) ac hbody (.inl rfl) hinv h) ?_;rintro e a' w1 ⟨e1,he,haft⟩;have fin:(match e1 with| .exit _=>False|_=>True)→LeavesInM (WF none) 0 P fn a'.tmps (λe w'=>∃v g',e= .returned v∧RepD g' w' [] (JG rets) v∧Chg (λ_=>False) g w g' w'∧SW g' w') a'.defers .returning w1:=by
    intro _;refine QB rfl (λb hb=>hb) haft ?_;rintro s' g' μ' w' ⟨_,hrv⟩ hgs hch _;obtain⟨vs,hrun,hrep⟩:=KV hgs hres hrv;have hresult:(results fn a'.tmps).run P w'= .ok (if h:vs.toArray.size=1 then vs.toArray[0] else .tuple vs.toArray) w':=by
     rw[LO,Array.mapM_eq_mapM_toList];simp only[Sem.run_bind,Sem.run_map];rw[hrun];rfl
    have hch':Chg (λ_=>False) g w g' w':=⟨hch.le,hch.size,λb hb _=>hch.heap b hb (λh=>h hb),λb hb _=>hch.gh b hb (λh=>h hb),hch.os,hch.out⟩;exact⟨_,hresult,_,g',rfl,Wa hrep,hch',hgs.inv.agree⟩
   cases e1 with
   |normal=>cases e<;>simp only[HN]at he;exact fin trivial
   |exit i=>obtain⟨_,_,_,_,⟨hnx,_⟩,_⟩:=haft;exact hnx.elim
   |ret=>cases e<;>simp only[HN]at he;exact fin trivial
  ·cases hbody
 ·cases hk
theorem GT:∀(args:List D) (k n:Nat),AF ((args.zipIdx k).map λp=>(p.2,p.1)) n=if k≤n then (args[n-k]?).getD .any else .any
 |[],k,n=>by simp[AF]
 |x::xs,k,n=>by
  simp only[tj,qR,AF];by_cases h:k=n
  ·subst h;simp
  ·rw[if_neg h,GT xs (k+1) n];by_cases h2:k+1≤n
   ·rw[if_pos h2,if_pos (by omega),show n-k=(n-(k+1))+1 by omega,sU]
   ·rw[if_neg h2,if_neg (by omega)]
theorem Pn (args:List D) (n:Nat):AF (Ab args) n=(args[n]?).getD .any:=by
 have:=GT args 0 n;simpa[Ab]using this
theorem Us (h:RepD g w μ d u):RepG g w μ d.keep u:=by
 have:=h.arg;cases d<;>first
  |exact h
  |exact this
theorem Ut (d:D) (u:Value) (b:Nat) (h:Ae d.keep u=some b):Ak d u 0=some b:=by
 cases d<;>first
  |(simp only[D.keep]at h;rw[Lc]at h;cases h;done)
  |exact h
theorem Xr (hg:Gs GL N g w μ s a O) {rv:ResultVar} {r:AR} (hk:KI P rv r=true) {x:D} (hx:r.d s=some x):
  ∃v,(MG a.tmps rv).run P w= .ok v w∧RepG g w μ x v∧∀b,Ae x v=some b→∃n,r= .t n∧Ak (AF s.e n) (a.tmps.getD n undef) 0=some b:=by
 cases rv with
 |tmp t=>
  cases r with
  |t n=>
   have:t=n:=by simpa[KI]using hk
   subst this;simp only[AR.d,qF]at hx;subst hx;exact⟨_,rfl,Us (hg.inv.rep t),λb hb=>⟨t,rfl,Ut _ _ _ hb⟩⟩
  |c n sz ag=>simp[KI]at hk
 |cell b t=>
  cases r with
  |t n=>simp[KI]at hk
  |c n sz ag=>
   simp only[KI,qI,beq_iff_eq]at hk;obtain⟨⟨⟨rfl,hs⟩,hag⟩,h1⟩:=hk;simp only[AR.d,sK]at hx;obtain⟨d,hd,hdx⟩:=hx;have hxe:d.arg=x:=by
    cases hq:d.arg<;>rw[hq]at hdx<;>simp[D.one?]at hdx<;>exact hdx
   subst hxe;have:=Nu (P:=P) (GL:=GL) (a:= .tmp b) (a':= .t b false) (t:=t) (by simp[oe]) hs hag h1 (hg.gd P) hd
    {(default:Oper)with op:= .load t (.tmp b)} rfl
   obtain⟨v,hrun,hrep,_⟩:=this;refine⟨v,?_,hrep.arg,λb' hb'=>by rw[Lc]at hb';cases hb'⟩;have hev:a.eval (.tmp b)=a.tmps.getD b undef:=rfl;simp only[execOp,Instr.loadAt,hev,Sem.run_bind,Sem.run_map]at hrun;simp only[MG,Sem.run_bind];cases hp:a.tmps.getD b undef with
   |pointer p=>
    cases p with
    |none=>simp[hp,Instr.sureAddr]at hrun
    |some p=>
     simp only[hp,Instr.sureAddr,Sem.run_pure,Result.andThen_ok,asAddr]at hrun ⊢;cases hl:(loadVar t p).run P w with
     |ok v' w'=>simp[hl]at hrun;obtain⟨rfl,rfl⟩:=hrun;rfl
     |halt h w'=>simp[hl]at hrun
   |_=>simp[hp,Instr.sureAddr]at hrun
theorem JH {g:Gh} {w:World} {μ:List Nat} {s:St} {a:Act} {O:Nat→Prop} {N:Nat} (hg:Gs GL N g w μ s a O):∀ {rvs:List ResultVar} {rs:List AR} {xs:List D},Ap (KI P) rvs rs=true→DS s rs=some xs→
  ∃vs:List Value,(rvs.mapM (MG a.tmps)).run P w= .ok vs w∧All2 (RepG g w μ) xs vs∧∀(k:Nat) d v b,xs[k]?=some d→vs[k]?=some v→Ae d v=some b→∃n,rs[k]?=some (.t n)∧Ak (AF s.e n) (a.tmps.getD n undef) 0=some b
 |[],[],xs,_,h=>by
  simp only[DS,qF]at h;subst h;exact⟨[],rfl,.nil,λi d v b h=>by simp at h⟩
 |rv::rvs,r::rs,xs,hk,h=>by
  simp only[Ap,qI]at hk;simp only[DS]at h;split at h
  ·rename_i y ys hy hys;simp only[qF]at h;subst h;obtain⟨v,h1,h2,h2'⟩:=Xr hg hk.1 hy;obtain⟨vs,h3,h4,h4'⟩:=JH hg hk.2 hys;refine⟨v::vs,?_,.cons h2 h4,λi d u b hd hu hb=>?_⟩
   ·rw[List.mapM_cons,Sem.run_bind,h1,Result.andThen_ok,Sem.run_bind,h3];rfl
   ·cases i with
    |zero=>
     simp at hd hu;subst hd;subst hu;obtain⟨n,rfl,h⟩:=h2' b hb;exact⟨n,rfl,h⟩
    |succ i=>exact h4' i d u b (by simpa using hd) (by simpa using hu) hb
  ·cases h
 |[],_::_,_,hk,_=>by simp[Ap]at hk
 |_::_,[],_,hk,_=>by simp[Ap]at hk
theorem UG {xs:List D} (h:All2 (RepG g w μ) xs vs):
  RepD g w μ (Bj xs) (if h:vs.toArray.size=1 then vs.toArray[0] else .tuple vs.toArray)∧
   ∀k b,Ak (Bj xs) (if h:vs.toArray.size=1 then vs.toArray[0] else .tuple vs.toArray) k=some b→∃d v,xs[k]?=some d∧vs[k]?=some v∧Ae d v=some b:=by
 unfold Bj;split
 ·rename_i x;have hl:=h.1
  match vs,hl with
  |[v],_=>
   simp only[sg,qT,ra,dite_true];have hx:=(All2.cons_iff.1 h).1;refine⟨hx.toD,λk b hb=>?_⟩;have hnt:∀ds,x≠ .tup ds:=λds he=>by subst he;exact hx.elim
   cases k with
   |zero=>
    refine⟨x,v,rfl,rfl,?_⟩;cases x<;>first
     |exact hb
     |exact absurd rfl (hnt _)
   |succ k=>
    exfalso;cases x<;>first
     |(simp[Ak]at hb;done)
     |exact absurd rfl (hnt _)
 ·rename_i hne;have hl:¬vs.toArray.size=1:=by
   intro h1;have:xs.length=1:=by rw[←h.1];simpa using h1
   match xs,this with
   |[x],_=>exact hne x rfl
  rw[dif_neg hl];refine⟨⟨vs,rfl,h⟩,λk b hb=>?_⟩;simp only[Ak,sw]at hb;cases hx:xs[k]? with
  |none=>simp[hx,Ae]at hb
  |some x=>
   obtain⟨v,hv,_⟩:=h.get hx;simp only[hx,hv,qd]at hb;exact⟨x,v,rfl,hv,hb⟩
theorem G4:∀ {rs:List AR} {k n:Nat},rs[k]?=some (.t n)→n∈E5 rs
 |[],k,n,h=>by simp at h
 | .t m::rs,0,n,h=>by simp at h;simp[E5,h]
 | .t m::rs,k+1,n,h=>by simp only[E5,qL];exact .inr (G4 (rs:=rs) (k:=k) (by simpa using h))
 | .c _ _ _::rs,0,n,h=>by simp at h
 | .c _ _ _::rs,k+1,n,h=>by simp only[E5];exact G4 (rs:=rs) (k:=k) (by simpa using h)
theorem I0:∀ {rs:List AR},(E5 rs).Nodup→∀ {k k' n:Nat},rs[k]?=some (.t n)→rs[k']?=some (.t n)→k=k'
 |[],_,k,k',n,h,_=>by simp at h
 | .t m::rs,hd,k,k',n,h,h'=>by
  simp only[E5,sn]at hd;cases k with
  |zero=>cases k' with
   |zero=>rfl
   |succ k'=>
    simp at h;subst h;exact absurd (G4 (rs:=rs) (k:=k') (by simpa using h')) hd.1
  |succ k=>cases k' with
   |zero=>
    simp at h';subst h';exact absurd (G4 (rs:=rs) (k:=k) (by simpa using h)) hd.1
   |succ k'=>rw[I0 hd.2 (k:=k) (k':=k') (by simpa using h) (by simpa using h')]
 | .c _ _ _::rs,hd,k,k',n,h,h'=>by
  simp only[E5]at hd;cases k with
  |zero=>simp at h
  |succ k=>cases k' with
   |zero=>simp at h'
   |succ k'=>rw[I0 hd (k:=k) (k':=k') (by simpa using h) (by simpa using h')]
theorem WZ {t:Nat→D} {u:Nat→Value} (hi:Inv g w μ t u h O) {rs:List AR} (hnd:(E5 rs).Nodup) {x:D} (hx:RepD g w μ x v)
  (ho:∀k b,Ak x v k=some b→∃n,rs[k]?=some (.t n)∧Ak (t n) (u n) 0=some b):Inv g w μ (IU .any x) (IU (.bool false) v) h O:=by
 refine hi.upd (Chg.refl (λ_=>False) g w) hi.agree (λn=>?_) hi.len hi.rows hi.nod (λb hb=> .inl hb)
  (λp=>match p with| .tmp 0 k=>(match rs[k]? with|some (.t n)=>some (.tmp n 0)|_=>none)| .tmp (_+1) _=>none| .cell r k=>some (.cell r k)) ?_ (.tmp 0 0) ?_
 ·simp only[IU];split
  ·exact hx
  ·trivial
 ·intro p q z hp hq;cases p with
  |tmp n k=>
   cases n with
   |succ n=>cases hp
   |zero=>
    simp only at hp;split at hp
    ·rename_i n hn;simp only[qF]at hp;subst hp;cases q with
     |tmp n' k'=>
      cases n' with
      |succ n'=>cases hq
      |zero=>
       simp only at hq;split at hq
       ·rename_i n' hn';simp only[qF,Pl.tmp.injEq,and_true]at hq;subst hq;rw[I0 hnd hn hn']
       ·cases hq
     |cell r k'=>simp at hq
    ·cases hp
  |cell r k=>
   simp only[qF]at hp;subst hp;cases q with
   |tmp n' k'=>
    cases n' with
    |succ n'=>cases hq
    |zero=>
     simp only at hq;split at hq
     ·simp at hq
     ·cases hq
   |cell r' k'=>simpa[eq_comm]using hq
 ·intro p b hb;refine .inl ?_;cases p with
  |tmp n k=>
   cases n with
   |succ n=>simp only[Cl,IU]at hb;cases k<;>simp[Ak,Ae]at hb
   |zero=>
    have hb':Ak x v k=some b:=by simpa[Cl,IU]using hb
    obtain⟨n,hn,hbn⟩:=ho k b hb';exact⟨.tmp n 0,by simp only[hn],hbn⟩
  |cell r k=>exact⟨.cell r k,rfl,hb⟩
theorem Gy {ac:AC} {rs:List AR} (hk:Cq P GL f n ac rs=true) (hn:args.length=n)
  (hw:awp P GL ac (λe s=>(match e with| .exit _=>False|_=>True)∧∃y,DS s rs=some y∧∀g w μ v O,Inv g w μ (IU .any (Bj y)) (IU (.bool false) v) s.h O→
   ∃g2 μ2,(∀μ0:List Nat,μ0.length=h.length→μ0 <+: μ→μ0 <+: μ2)∧Inv g2 w μ2 (IU .any (Bj rets)) (IU (.bool false) v) h' O∧Chg (λb=>¬O b) g w g2 w) ⟨Ab args,h⟩):
  Tg P f=true∧∀(g:Gh) (w:World) (μ:List Nat) (us:List Value) (O:Nat→Prop),us.length=args.length→Inv g w μ (Mi .any args) (Mi undef us) h O→GlobOK GL g→
  Calls P f us.toArray w λe w'=>∃v g' μ',e= .returned v∧Inv g' w' μ' (IU .any (Bj rets)) (IU (.bool false) v) h' O∧Chg (λb=>¬O b) g w g' w'∧μ <+: μ':=by
 unfold Cq at hk;split at hk
 ·rename_i fn hfn;simp only[qI]at hk;obtain⟨⟨⟨⟨hnm,hbody⟩,hres⟩,hnn⟩,hndp⟩:=hk;have hndp:(E5 rs).Nodup:=by simpa using hndp
  have hnt:args.length≤fn.ntmps:=by rw[hn];simpa using hnn
  split at hbody
  ·rename_i c hc;refine⟨by simp[Tg,hfn,hc,hnm],λg w μ us O hlen hinv0 hgl=>(callsIn_wide (n:=0)).1 ?_⟩;refine callsIn_of_wp_marks hfn hc trivial ?_ rfl;have hu:(λn=>(us.toArray++Array.replicate (fn.ntmps-us.toArray.size) undef).getD n undef)=Mi undef us:=by
    funext n
    by_cases hlt:n <us.length
    ·simp[Mi,Array.getElem?_append,hlt]
    ·have e2:(us.toArray++Array.replicate (fn.ntmps-us.toArray.size) undef)[n]?.getD undef=undef:=by
      rw[Array.getElem?_append_right (by simpa using hlt),Array.getElem?_replicate];split<;>rfl
     have e3:Mi undef us n=undef:=by simp[Mi,rG (Nat.le_of_not_lt hlt)]
     rw[e3,qf];exact e2
   have hinv:Gs GL fn.ntmps g w μ ⟨Ab args,h⟩ {tmps:=us.toArray++Array.replicate (fn.ntmps-us.toArray.size) undef,defers:=[]} O:=by
    refine⟨?_,hgl,by simp;omega⟩;show Inv g w μ (AF (Ab args)) (λn=>(us.toArray++Array.replicate (fn.ntmps-us.toArray.size) undef).getD n undef) h O;rw[hu,show AF (Ab args)=Mi .any args from funext (Pn args)];exact hinv0
   refine wpIn_mono (DM (r:=none) ac hbody (.inl rfl) hinv hw) ?_;rintro e a' w1 ⟨e1,he,haft⟩;have fin:(match e1 with| .exit _=>False|_=>True)→LeavesInM (WF none) 0 P fn a'.tmps (λe w'=>∃v g' μ',e= .returned v∧Inv g' w' μ' (IU .any (Bj rets)) (IU (.bool false) v) h' O∧Chg (λb=>¬O b) g w g' w'∧μ <+: μ') a'.defers .returning w1:=by
    intro _;refine QB rfl hinv.inv.olt haft ?_;rintro s' g' μ' w' ⟨_,y,hrv,hweak⟩ hgs hch hμ;obtain⟨vs,hrun,hrep,hown⟩:=JH hgs hres hrv;have hresult:(results fn a'.tmps).run P w'= .ok (if h:vs.toArray.size=1 then vs.toArray[0] else .tuple vs.toArray) w':=by
     rw[LO,Array.mapM_eq_mapM_toList];simp only[Sem.run_bind,Sem.run_map];rw[hrun];rfl
    obtain⟨r1,r2⟩:=UG hrep;have hret:=WZ hgs.inv hndp r1 (λk b hb=>by
     obtain⟨d,v,hd,hv,ho⟩:=r2 k b hb;exact hown k d v b hd hv ho)
    obtain⟨g2,μ2,hμ2,hinv2,hch2⟩:=hweak _ _ _ _ _ hret;exact⟨_,hresult,_,g2,μ2,rfl,hinv2,hch.trans hch2,hμ2 μ hinv0.len hμ⟩
   cases e1 with
   |normal=>cases e<;>simp only[HN]at he;exact fin trivial
   |exit i=>obtain⟨_,_,_,_,⟨hnx,_⟩,_⟩:=haft;exact hnx.elim
   |ret=>cases e<;>simp only[HN]at he;exact fin trivial
  ·cases hbody
 ·cases hk
end
end
section
attribute [simp] Opd.moved Dg BZ AI.step AI.dst CQ Opd.ev Opd.clear AF D.copy PI.val V.bin D.isNil D.isNilP Kw D.cells? Et E0 D.isCap D.toRow IV IB EG Bm D.toV D.v? D.vs? Bw AR.val V.part D.part V.getI JG
variable {s:St} {K:St→Prop} {h h':List Row} {args rets:List D} {f n:Nat} {Q:AExit→St→Prop}
section
variable {P:Program} {GL:Ac}
@[simp] theorem bw (K:St→Prop) (s:St):Bd P GL [] K s=K s:=rfl
@[simp] theorem Xo (i:AI) (rest:List GI) (K:St→Prop) (s:St):Bd P GL (⟨none,i⟩::rest) K s=Dg P GL i (Bd P GL rest K) s:=rfl
@[simp] theorem Xp (t:Nat) (want:Bool) (i:AI) (rest:List GI) (K:St→Prop) (s:St):Bd P GL (⟨some (t,want),i⟩::rest) K s=
  match AF s.e t with
  | .v (.bool b)=>if b=want then Dg P GL i (Bd P GL rest K) s else Bd P GL rest K ⟨CQ s.e i.dst (.tup []),s.h⟩
  | .tup []=>Bd P GL rest K ⟨CQ s.e i.dst (.tup []),s.h⟩
  |_=>False:=rfl
def NS (P:Program) (GL:Ac) (i:AI) (K:St→Prop) (s:St):Prop:=
 match i with
 | .call d f args=>∃fid caps vs rets,(f.ev s.e).toV=some (.func fid caps)∧IV s.e args=some vs∧PSp P GL fid (vs++caps) rets∧K ⟨CQ s.e d (JG rets),s.h⟩
 | .callF d f args=>BZ P GL d f args K s
 | .callC d f args=>BZ P GL d f args (λs'=>(∃t,s'.h=s.h++t)∧K s') s
 | .callO d f q args=>∃fid rets,Dt (f.ev s.e)=some (fid,[])∧cg P GL fid (q.ev s.e::Ar s.e args) rets∧K ⟨CQ (q.clear s.e) d (Bj rets),s.h⟩
 |i=>match i.step s with
  |some s'=>K s'
  |none=>False
def Jl (P:Program) (GL:Ac) (ops:List GI) (K:St→Prop) (s:St):Prop:=∃s',MR P GL ops s s'∧K s'
theorem P4 {d:Option Nat} {f:Opd} {args:List Opd} (h:BZ P GL d f args K s):∃rets h',GV P GL (f.ev s.e) (Ar s.e args) s.h rets h'∧K ⟨CQ s.e d (Bj rets),h'⟩:=by
 unfold BZ at h;split at h
 ·rename_i r hf;obtain⟨b,h',hy,hK⟩:=h;exact⟨[.v (.bool b)],h',by simp only[GV,hf];exact⟨b,hy,rfl⟩,hK⟩
 ·rename_i fid fs hf;obtain⟨rets,h',hs,hK⟩:=h;exact⟨rets,h',by simp only[GV,hf];exact hs,hK⟩
 ·rename_i h1 h2;split at h
  ·rename_i fid caps hf;obtain⟨rets,h',hs,hK⟩:=h;refine⟨rets,h',?_,hK⟩;unfold GV;split
   ·rename_i r hr;exact absurd hr (h1 r)
   ·rename_i a b hr;exact absurd hr (h2 a b)
   ·exact⟨fid,caps,hf,hs⟩
  ·exact h.elim
theorem Mp {i:AI}:(∃s1,KS P GL i s s1∧K s1)↔NS P GL i K s:=by
 constructor
 ·rintro⟨s1,h|⟨d,f,args,fid,caps,vs,rets,rfl,hf,hv,hp,rfl⟩|⟨d,f,args,rets,h',hi,hc,rfl⟩|⟨d,f,q,args,fid,rets,rfl,hf,hp,rfl⟩,hK⟩
  ·unfold NS;split
   ·cases h
   ·cases h
   ·cases h
   ·cases h
   ·rw[h];exact hK
  ·exact⟨fid,caps,vs,rets,hf,hv,hp,hK⟩
  ·have key:∀K:St→Prop,K ⟨CQ s.e d (Bj rets),h'⟩→BZ P GL d f args K s:=by
    intro K hK;simp only[BZ];unfold GV at hc;split at hc
    ·rename_i r hf;obtain⟨b,hy,rfl⟩:=hc
     first|(rw[hf];exact⟨b,h',hy,hK⟩)|exact⟨b,h',hy,hK⟩
    ·rename_i fid fs hf
     first|(rw[hf];exact⟨rets,h',hc,hK⟩)|exact⟨rets,h',hc,hK⟩
    ·rename_i h1 h2;obtain⟨fid,caps,hf,hs⟩:=hc
     first
      |(simp only[hf];exact⟨rets,h',hs,hK⟩)
      |(split
        ·rename_i r hr;exact absurd hr (h1 r)
        ·rename_i a b hr;exact absurd hr (h2 a b)
        ·simp only[hf];exact⟨rets,h',hs,hK⟩)
   rcases hi with rfl|⟨rfl,ht⟩
   ·exact key K hK
   ·exact key (λs'=>(∃t,s'.h=s.h++t)∧K s') ⟨ht,hK⟩
  ·exact⟨fid,rets,hf,hp,hK⟩
 ·intro h;unfold NS at h;split at h
  ·rename_i d f args;obtain⟨fid,caps,vs,rets,hf,hv,hp,hK⟩:=h;exact⟨_,.inr (.inl ⟨d,f,args,fid,caps,vs,rets,rfl,hf,hv,hp,rfl⟩),hK⟩
  ·rename_i d f args;obtain⟨rets,h',hc,hK⟩:=P4 h;exact⟨_,.inr (.inr (.inl ⟨d,f,args,rets,h',.inl rfl,hc,rfl⟩)),hK⟩
  ·rename_i d f args;obtain⟨rets,h',hc,hq⟩:=P4 (K:=λs'=>(∃t,s'.h=s.h++t)∧K s') h;obtain⟨ht,hK⟩:=hq;exact⟨_,.inr (.inr (.inl ⟨d,f,args,rets,h',.inr ⟨rfl,ht⟩,hc,rfl⟩)),hK⟩
  ·rename_i d f q args;obtain⟨fid,rets,hf,hp,hK⟩:=h;exact⟨_,.inr (.inr (.inr ⟨d,f,q,args,fid,rets,rfl,hf,hp,rfl⟩)),hK⟩
  ·split at h
   ·rename_i s' hs;exact⟨s',.inl hs,h⟩
   ·exact h.elim
@[simp] theorem iJ (K:St→Prop) (s:St):Jl P GL [] K s↔K s:=⟨λ⟨_,h,hK⟩=>by cases h;exact hK,λh=>⟨s,rfl,h⟩⟩
@[simp] theorem bx (i:AI) (rest:List GI) (K:St→Prop) (s:St):Jl P GL (⟨none,i⟩::rest) K s↔NS P GL i (Jl P GL rest K) s:=by
 rw[←Mp]
 constructor
 ·rintro⟨t,⟨s1,h1,h2⟩,hK⟩;exact⟨s1,h1,t,h2,hK⟩
 ·rintro⟨s1,h1,t,h2,hK⟩;exact⟨t,⟨s1,h1,h2⟩,hK⟩
@[simp] theorem bz (t:Nat) (want:Bool) (i:AI) (rest:List GI) (K:St→Prop) (s:St):Jl P GL (⟨some (t,want),i⟩::rest) K s↔
  match AF s.e t with
  | .v (.bool b)=>if b=want then NS P GL i (Jl P GL rest K) s else Jl P GL rest K ⟨CQ s.e i.dst (.tup []),s.h⟩
  | .tup []=>Jl P GL rest K ⟨CQ s.e i.dst (.tup []),s.h⟩
  |_=>False:=by
 have h0:Jl P GL (⟨some (t,want),i⟩::rest) K s↔∃s1,BW P GL ⟨some (t,want),i⟩ s s1∧Jl P GL rest K s1:=by
  constructor
  ·rintro⟨t,⟨s1,h1,h2⟩,hK⟩;exact⟨s1,h1,t,h2,hK⟩
  ·rintro⟨s1,h1,t,h2,hK⟩;exact⟨t,⟨s1,h1,h2⟩,hK⟩
 rw[h0];simp only[BW];cases hf:AF s.e t with
 |v x=>
  cases x with
  |bool b=>
   simp only[];by_cases hw:b=want
   ·simp only[hw,if_true];exact Mp
   ·simp only[hw,if_false];exact⟨λ⟨_,h1,h2⟩=>h1▸h2,λh=>⟨_,rfl,h⟩⟩
  |_=>simp only[];exact⟨λ⟨_,h1,_⟩=>h1,λh=>h.elim⟩
 |tup ds=>
  cases ds with
  |nil=>simp only[];exact⟨λ⟨_,h1,h2⟩=>h1▸h2,λh=>⟨_,rfl,h⟩⟩
  |cons d ds=>simp only[];exact⟨λ⟨_,h1,_⟩=>h1,λh=>h.elim⟩
 |_=>simp only[];exact⟨λ⟨_,h1,_⟩=>h1,λh=>h.elim⟩
attribute [simp] NS
theorem AW (ops:List GI) (keep:List Nat) (cl:List (List Nat)) (Q:AExit→St→Prop) (s:St):awp P GL (.regD ops keep cl) Q s=Jl P GL ops (λs'=>Q .normal ⟨Bm s'.e keep,s'.h⟩) s:=rfl
theorem CO (ops:List GI) (keep:List Nat) (cl:List (List Nat)) (t:AT) (Q:AExit→St→Prop) (s:St):awp P GL (.regA ops keep cl t) Q s=t.ok P GL ops (λs'=>∃s2,RJ s.h.length s' s2∧Q .normal ⟨Bm s2.e keep,s2.h⟩) s:=rfl
@[simp] theorem cc (is:List GI) (K:St→Prop) (s:St):AT.done.ok P GL is K s=K s:=rfl
@[simp] theorem cY (is:List GI) (i:Nat) (t:AT) (K:St→Prop) (s:St):(AT.take i t).ok P GL is K s↔Jl P GL [is.getD i default] (t.ok P GL is K) s:=
 ⟨λ⟨s1,h1,h2⟩=>⟨s1,⟨s1,h1,rfl⟩,h2⟩,λ⟨s1,⟨s2,h1,h2⟩,h3⟩=>by cases h2;exact⟨_,h1,h3⟩⟩
@[simp] theorem cZ (is:List GI) (c:AT) (K:St→Prop) (s:St):(AT.pick c).ok P GL is K s=c.ok P GL is K s:=rfl
@[simp] theorem iK (is:List GI) (i:Nat) (t r:AT) (K:St→Prop) (s:St):(AT.alt i t r).ok P GL is K s↔Jl P GL [is.getD i default] (t.ok P GL is K) s∧r.ok P GL is K s:=
 ⟨λ⟨⟨s1,h1,h2⟩,h⟩=>⟨⟨s1,⟨s1,h1,rfl⟩,h2⟩,h⟩,λ⟨⟨s1,⟨s2,h1,h2⟩,h3⟩,h⟩=>by cases h2;exact⟨⟨_,h1,h3⟩,h⟩⟩
@[simp] theorem cb (is:List GI) (K:St→Prop) (s:St):AT.none.ok P GL is K s=True:=rfl
theorem CT {is:List GI} (t:AT):∀ {K K':St→Prop} {s:St},(∀s,K s→K' s)→t.ok P GL is K s→t.ok P GL is K' s:=by
 induction t with
 |done=>intro K K' s hk h;exact hk _ h
 |take i t ih=>rintro K K' s hk ⟨s1,h1,h2⟩;exact⟨s1,h1,ih hk h2⟩
 |pick c ih=>intro K K' s hk h;exact ih (s:=s) hk h
 |alt i t r iht ihr=>rintro K K' s hk ⟨⟨s1,h1,h2⟩,h⟩;exact⟨⟨s1,h1,iht hk h2⟩,ihr hk h⟩
 |none=>intro K K' s hk h;trivial
theorem AG (ops:List GI) (keep:List Nat) (Q:AExit→St→Prop) (s:St):awp P GL (.reg ops keep) Q s=Bd P GL ops (λs'=>Q .normal ⟨Bm s'.e keep,s'.h⟩) s:=rfl
theorem AE (a b:AC) (Q:AExit→St→Prop) (s:St):awp P GL (.seq a b) Q s=awp P GL a (λe s'=>match e with| .normal=>awp P GL b Q s'|e=>Q e s') s:=rfl
theorem AL (x:Opd) (a b:AC) (Q:AExit→St→Prop) (s:St):awp P GL (.cond x a b) Q s=match x.ev s.e with| .v (.bool t)=>if t then awp P GL a Q s else awp P GL b Q s|_=>False:=rfl
theorem AU (id:Nat) (c:AC) (Q:AExit→St→Prop) (s:St):awp P GL (.block id c) Q s=awp P GL c (λe s'=>match e with| .exit id'=>if id'=id then Q .normal s' else Q (.exit id') s'|e=>Q e s') s:=rfl
theorem AB (Q:AExit→St→Prop) (s:St):awp P GL .skip Q s=Q .normal s:=rfl
theorem AJ (id:Nat) (Q:AExit→St→Prop) (s:St):awp P GL (.exit id) Q s=Q (.exit id) s:=rfl
theorem AD (Q:AExit→St→Prop) (s:St):awp P GL .ret Q s=Q .ret s:=rfl
theorem MF (q:Opd) (ps:List Nat) (asg body:AC) (Q:AExit→St→Prop) (s:St):awp P GL (.rangeF q ps asg body) Q s=
  ∃fid caps rets h' tag,Dt (q.ev s.e)=some (fid,caps)∧FSp P GL fid (.yld s.h.length::caps) (s.h++[BF P GL .ready (L3 s.e) ps asg body]) rets h'∧
   h'[s.h.length]?=some (BF P GL tag (L3 s.e) ps asg body)∧EE Q ⟨s.e,h'.set s.h.length .dead⟩ tag:=rfl
theorem NT {i:AI} {K':St→Prop} (hk:∀s,K s→K' s) (h:Dg P GL i K s):Dg P GL i K' s:=by
 have hcall:∀ {d f args},BZ P GL d f args K s→BZ P GL d f args K' s:=by
  intro d f args h;unfold BZ at h ⊢;split at h
  ·obtain⟨a,b,h1,h3⟩:=h;exact⟨a,b,h1,hk _ h3⟩
  ·obtain⟨a,b,h1,h3⟩:=h;exact⟨a,b,h1,hk _ h3⟩
  ·split at h
   ·obtain⟨a,b,h1,h3⟩:=h;exact⟨a,b,h1,hk _ h3⟩
   ·exact h
 unfold Dg at h ⊢;split at h
 ·exact hcall h
 ·exact hcall h
 ·exact hcall h
 ·obtain⟨a,b,h1,h2,h3⟩:=h;exact⟨a,b,h1,h2,hk _ h3⟩
 ·split at h
  ·exact⟨h.1,h.2.1,λb=>hk _ (h.2.2 b)⟩
  ·exact h
 ·obtain⟨a,b,c,h1,h2,h3⟩:=h;exact⟨a,b,c,h1,h2,hk _ h3⟩
 ·split at h
  ·refine⟨h.1,h.2.1,?_⟩;rcases h.2.2 with ⟨h1,h2⟩|h
   ·exact .inl ⟨h1,hk _ h2⟩
   ·refine .inr ?_;split at h
    ·rename_i hy;rw[if_pos hy];exact hk _ h
    ·rename_i hy;rw[if_neg hy];exact λk=>hk _ (h k)
  ·refine⟨h.1,h.2.1,?_⟩;rcases h.2.2 with ⟨h1,h2,h3⟩|h
   ·exact .inl ⟨h1,h2,hk _ h3⟩
   ·refine .inr ⟨h.1,?_⟩;have h:=h.2;split at h
    ·rename_i hy;rw[if_pos hy];exact hk _ h
    ·rename_i hy;rw[if_neg hy];exact λk=>hk _ (h k)
  ·exact h
 ·split at h
  ·exact hk _ h
  ·split at h
   ·obtain⟨h0,xs,h1,h2,h3,h4⟩:=h;exact⟨h0,xs,h1,h2,h3,hk _ h4⟩
   ·exact h
  ·exact h
 ·split at h
  ·exact⟨hk _ h.1,hk _ h.2⟩
  ·exact⟨hk _ h.1,hk _ h.2⟩
  ·exact hk _ h
  ·exact h
 ·split at h
  ·exact hk _ h
  ·exact h
theorem NU {x:GI} {K':St→Prop} (hk:∀s,K s→K' s) (h:Iz P GL x K s):Iz P GL x K' s:=by
 unfold Iz at h ⊢;split at h
 ·exact NT hk h
 ·split at h
  ·split at h
   ·rename_i hw;rw[if_pos hw];exact NT hk h
   ·rename_i hw;rw[if_neg hw];exact hk _ h
  ·exact hk _ h
  ·exact h
theorem Kn:∀ {ops:List GI} {K K':St→Prop} {s:St},(∀s,K s→K' s)→Bd P GL ops K s→Bd P GL ops K' s
 |[],_,_,_,hk,h=>hk _ h
 |x::rest,_,_,_,hk,h=>NU (λs h=>Kn hk h) h
theorem NW {is:List GI} {cl:List (List Nat)}:∀(n:Nat) {rem:List Nat} {K K':St→Prop} {s:St},(∀s,K s→K' s)→Tf P GL is cl K n rem s→Tf P GL is cl K' n rem s
 |0,_,_,_,s,hk,h=>hk s h
 |n+1,rem,_,_,s,hk,h=>λi hi hj=>NU (λs h=>NW n hk h) (h i hi hj)
theorem AZ:∀(c:AC) {Q Q':AExit→St→Prop} {s:St},(∀e s,Q e s→Q' e s)→awp P GL c Q s→awp P GL c Q' s:=by
 intro c;induction c with
 |skip=>intro Q Q' s hq h;exact hq _ _ h
 |reg ops keep=>intro Q Q' s hq h;exact Kn (λs h=>hq _ _ h) h
 |regA ops keep cl t=>intro Q Q' s hq h;exact CT t (λs ⟨s2,h1,h2⟩=>⟨s2,h1,hq _ _ h2⟩) h
 |regV ops keep cl=>intro Q Q' s hq h;exact NW _ (λs h=>hq _ _ h) h
 |regD ops keep cl=>rintro Q Q' s hq ⟨t,h1,h2⟩;exact⟨t,h1,hq _ _ h2⟩
 |seq a b iha ihb=>
  intro Q Q' s hq h;refine iha ?_ h;intro e s h;cases e with
  |normal=>exact ihb hq h
  |exit i=>exact hq _ _ h
  |ret=>exact hq _ _ h
 |cond x a b iha ihb=>
  intro Q Q' s hq h;simp only[awp]at h ⊢;split at h
  ·rename_i t ht;cases t with
   |true=>exact iha hq h
   |false=>exact ihb hq h
  ·exact h
 |block id c ih=>
  intro Q Q' s hq h;refine ih ?_ h;intro e s h;cases e with
  |exit i=>simp only at h ⊢;split at h<;>rename_i hi<;>simp only[hi,if_true,if_false]<;>exact hq _ _ h
  |normal=>exact hq _ _ h
  |ret=>exact hq _ _ h
 |loop c ih=>
  intro Q Q' s hq h;obtain⟨I,h0,h⟩:=h;refine⟨I,h0,λm s hi=>ih ?_ (h m s hi)⟩;intro e s h;cases e with
  |normal=>exact h
  |exit i=>exact hq _ _ h
  |ret=>exact hq _ _ h
 |exit id=>intro Q Q' s hq h;exact hq _ _ h
 |ret=>intro Q Q' s hq h;exact hq _ _ h
 |never=>intro Q Q' s hq h;exact h
 |rangeF q ps asg body _ _=>
  rintro Q Q' s hq ⟨fid,caps,rets,h',tag,h1,h2,h3,h4⟩;refine⟨fid,caps,rets,h',tag,h1,h2,h3,?_⟩;cases tag with
  |ready=>exact hq _ _ h4
  |busy=>exact h4
  |done e=>cases e<;>exact hq _ _ h4
theorem J9 (H:Tg P f=true∧∀(g:Gh) (w:World) (μ:List Nat) (us:List Value) (O:Nat→Prop),us.length=args.length→Inv g w μ (Mi .any args) (Mi undef us) h O→GlobOK GL g→
  Calls P f us.toArray w λe w'=>∃v g' μ',e= .returned v∧Inv g' w' μ' (IU .any (Bj rets)) (IU (.bool false) v) h' O∧Chg (λb=>¬O b) g w g' w'∧μ <+: μ'):FSp P GL f args h rets h':=by
 obtain⟨h1,h2⟩:=H;refine⟨h1,λg w μ us O hinv hgl hall htame=>h2 g w μ us O hall.1 (hinv.enter (λn=>?_) (λn k=>?_)) hgl⟩
 ·simp only[Mi];cases hx:args[n]? with
  |none=>simp[RepD,RepG,RepE]
  |some x=>
   obtain⟨v,hv,hr⟩:=hall.get hx;rw[hv];exact hr.toD
 ·simp only[Mi];cases hx:args[n]? with
  |none=>cases k<;>simp[Ak,Ae]
  |some x=>
   obtain⟨v,hv,hr⟩:=hall.get hx;rw[hv];exact IK hr (htame n x v hx hv) k
theorem Pi {ac:AC} {rs:List AR} (hk:Cq P GL f n ac rs=true) (hn:args.length=n)
  (hw:awp P GL ac (λe s=>(match e with| .exit _=>False|_=>True)∧∃y,DS s rs=some y∧∀g w μ t u O,Inv g w μ t u s.h O→y=rets∧Inv g w μ t u h' O) ⟨Ab args,h⟩):FSp P GL f args h rets h':=by
 refine J9 (Gy (rets:=rets) (h':=h') hk hn (AZ ac (λe s=>by
  rintro⟨h1,y,h2,h3⟩;exact⟨h1,y,h2,λg w μ v O hi=>⟨g,μ,λ_ _ h=>h,by obtain⟨rfl,h4⟩:=h3 _ _ _ _ _ _ hi;exact h4,Chg.refl _ _ _⟩⟩) hw))
theorem Ip {ac:AC} {rs:List AR} (hk:Cq P GL f n ac rs=true) (hn:args.length=n)
  (hw:awp P GL ac (λe s=>(match e with| .exit _=>False|_=>True)∧DS s rs=some rets∧s.h=h') ⟨Ab args,h⟩):FSp P GL f args h rets h':=by
 refine Pi hk hn ?_;have hm:∀e s,((match e with|AExit.exit _=>False|_=>True)∧DS s rs=some rets∧s.h=h')→((match e with|AExit.exit _=>False|_=>True)∧∃y,DS s rs=some y∧∀g w μ t u O,Inv g w μ t u s.h O→y=rets∧Inv g w μ t u h' O):=by
  rintro e s ⟨h1,h2,rfl⟩;exact⟨h1,rets,h2,λ_ _ _ _ _ _ hi=>⟨rfl,hi⟩⟩
 exact AZ ac hm hw
theorem Le {ac:AC} {rs:List AR} (hk:Cq P GL f n ac rs=true) (hn:args.length=n)
  (hw:∀h,awp P GL ac (λe s=>(match e with| .exit _=>False|_=>True)∧DS s rs=some rets∧s.h=h) ⟨Ab args,h⟩):cg P GL f args rets:=by
 have key:∀h,_:=λh=>Gy (h':=h) hk hn (AZ ac (λe s=>by
  rintro⟨h1,h2,rfl⟩;exact⟨h1,rets,h2,λg _ μ _ _ hi=>⟨g,μ,λ_ _ h=>h,hi,Chg.refl _ _ _⟩⟩) (hw h))
 exact⟨(key []).1,λg w μ us O h hl hi hg=>(key h).2 g w μ us O hl hi hg⟩
theorem Ei {c:AC} {s0:St} {e0:AExit} (h:awp P GL c (λe s=>e=e0∧s=s0) s) (hq:Q e0 s0):awp P GL c Q s:=
 AZ c (λe s h=>by obtain⟨rfl,rfl⟩:=h;exact hq) h
theorem EQ {c:AC} (n:Nat) (S:Nat→St)
  (h:∀k,k≤n→awp P GL c (λe s'=>match e with| .normal=>k <n∧s'=S (k+1)|e=>Q e s') (S k)) (k:Nat) (hk:k≤n):awp P GL (.loop c) Q (S k):=by
 refine⟨λm s=>∃k,k≤n∧m=n-k∧s=S k,⟨n-k,k,hk,rfl,rfl⟩,?_⟩;rintro m s ⟨k,hk,rfl,rfl⟩;refine AZ c ?_ (h k hk);intro e s' h;cases e with
 |normal=>obtain⟨hlt,rfl⟩:=h;exact⟨n-(k+1),by omega,k+1,hlt,rfl,rfl⟩
 |exit i=>exact h
 |ret=>exact h
end
end
abbrev An:Ac:=[(0,[.int .i64 12,.int .i64 0])]
def iC:List GI:=[⟨none,.mv 4 (.c (.v (.int .i64 0)))⟩]
def iB:List GI:=[⟨none,.mv 6 (.t 0 false)⟩,⟨none,.p 7 (.alen (.t 6 false))⟩,⟨none,.mv 8 (.c (.v (.int .i64 0)))⟩]
def Xf:List GI:=[⟨none,.p 9 (.bin .lss (.t 8 false) (.t 7 false))⟩]
def bM:List GI:=[⟨none,.mv 10 (.t 8 false)⟩,⟨none,.mv 5 (.t 10 false)⟩]
def bL (s:Nat) (g:Bool):List GI:=[⟨none,.mv 11 (.t 1 false)⟩,⟨none,.mv 12 (.t 0 false)⟩,⟨none,.mv 13 (.t 5 false)⟩,⟨none,.p 14 (.iaddr (.t 12 false) (.t 13 false) s)⟩,⟨none,.p 15 (.load (.t 14 false) s g)⟩,⟨none,.call (some 16) (.t 11 false) [(.t 15 false)]⟩]
def bK:List GI:=[⟨none,.mv 17 (.t 5 false)⟩,⟨none,.mv 4 (.t 17 false)⟩]
def bJ:List GI:=[⟨none,.p 18 (.bin .add (.t 8 false) (.c (.v (.int .i64 1))))⟩,⟨none,.mv 8 (.t 18 false)⟩]
def iA:List GI:=[⟨none,.mv 4 (.c (.v (.int .i64 (-1))))⟩]
def TQ (s:Nat) (g:Bool):AC:=(.seq (.reg Xf [0,1,7,8,9]) (.seq (.cond (.t 9 false) .skip (.exit 0)) (.seq (.block 1 (.seq (.reg bM [0,1,5,7,8]) (.seq (.reg (bL s g) [0,1,5,7,8,16]) (.cond (.t 16 false) (.seq (.reg bK [4]) .ret) .skip)))) (.reg bJ [0,1,7,8]))))
def cI (s:Nat) (g:Bool):AC:=(.seq (.reg iC [0,1]) (.seq (.seq (.reg iB [0,1,7,8]) (.block 0 (.loop (TQ s g)))) (.seq (.reg iA [4]) .ret)))
def P7:List AR:=[.t 4]
def hU:List GI:=[⟨none,.mv 4 (.c (.v (.bool false)))⟩]
def gz (f:Nat):List GI:=[⟨none,.mv 5 (.t 0 true)⟩,⟨none,.mv 6 (.t 1 false)⟩,⟨none,.call (some 7) (.c (.v (.func f []))) [(.t 5 false),(.t 6 false)]⟩,⟨none,.p 8 (.bin .geq (.t 7 false) (.c (.v (.int .i64 0))))⟩,⟨none,.mv 4 (.t 8 false)⟩]
def cJ (f:Nat):AC:=(.seq (.reg hU [0,1]) (.seq (.reg (gz f) [4]) .ret))
abbrev PX:=PSp Go.Proofs.Tryz.prog An
abbrev FX:=FSp Go.Proofs.Tryz.prog An
section
def AH (k:IntKind) (xs:List Int):V:= .list (xs.map (.int k))
def PZ (bs:List Int):Int:=bs.foldr (λb w=>256*w+b) 0
def BV (bs:List Int):List Int:=(List.range ((bs.length+7)/8)).map λk=>PZ ((bs.drop (8*k)).take 8)
theorem AQ {a:Int} (h1: -9223372036854775808≤a:=by omega) (h2:a <9223372036854775808:=by omega):IntKind.i64.wrap a=a:=by
 unfold IntKind.wrap;simp only[IntKind.bits,IntKind.signed];have e1:((2:Int)^64)=18446744073709551616:=by decide
 have e2:((2:Int)^(64-1))=9223372036854775808:=by decide
 simp only[e1,e2,rC,decide_eq_true_eq,ge_iff_le];split<;>omega
theorem BM {a:Int} (h1:0≤a) (h2:a <18446744073709551616):IntKind.u64.wrap a=a:=by
 unfold IntKind.wrap;simp only[IntKind.bits,IntKind.signed];have e1:((2:Int)^64)=18446744073709551616:=by decide
 simp only[e1,tE,qY,if_false];omega
variable {b:Nat}
theorem SA {a:Nat} (h:a≤b):(256:Int)^a≤256^b:=by
 have:=so (n:=256) (by decide) h;have h2:((256^a:Nat):Int)≤((256^b:Nat):Int):=Int.ofNat_le.2 this;rw[sb,sb]at h2;exact h2
theorem NC:∀(l:List Int),(∀b∈l,0≤b∧b <256)→0≤PZ l∧PZ l <256^l.length
 |[],_=>by simp[PZ]
 |b::l,h=>by
  obtain⟨h1,h2⟩:=NC l λx hx=>h x (by simp[hx]);obtain⟨h3,h4⟩:=h b (by simp);have e:PZ (b::l)=256*PZ l+b:=rfl;rw[e,qT,rN];omega
theorem Up (bs:List Int) (hb:∀b∈bs,0≤b∧b <256) (a j:Nat) (hj:j≤8):0≤PZ ((bs.drop a).take j)∧PZ ((bs.drop a).take j) <256^j:=by
 obtain⟨h1,h2⟩:=NC ((bs.drop a).take j) λb h=>hb b (rh (rK h));refine⟨h1,Int.lt_of_lt_of_le h2 ?_⟩;exact SA (by simp;omega)
theorem D8 (a:Int):0≤IntKind.u64.wrap a∧IntKind.u64.wrap a <18446744073709551616:=by
 unfold IntKind.wrap;simp only[IntKind.bits,IntKind.signed];have e1:((2:Int)^64)=18446744073709551616:=by decide
 simp only[e1,tE,qY,if_false];omega
def ZJ (a b:Int):Int:=IntKind.u64.wrap ((a%2^IntKind.u64.bits).toNat ^^^ (b%2^IntKind.u64.bits).toNat:Nat)
def HG (a b:Int):Int:=ZJ (IntKind.u64.wrap (ZJ a b*11400714819323198485)) (IntKind.u64.wrap (ZJ a b*11400714819323198485)/4294967296)
theorem Bo (k:Nat) (h:k <4611686018427387904:=by omega):IntKind.i64.wrap ((k:Int)+1)=k+1:=AQ
end
def i64 (n:Int):Prop:= -9223372036854775808≤n∧n <9223372036854775808
def u64 (n:Int):Prop:=0≤n∧n <18446744073709551616
def Ci:Nat→Int→List Int
 |0,n=>[n]
 |k+1,n=>if n <128 then [n] else (128+n%128)::Ci k (n/128)
def CY (n:Int):List Int:=Ci 9 n
def Fy (n:Int):Int:=if n <0 then 2*(-(n+1))+1 else 2*n
def AN (n:Int):List Int:=CY (Fy n)
def AY (b:List Int):List Int:=CY b.length++b
def Ah (l:List Int):List Int:=CY l.length++l.flatMap AN
theorem HQ {n:Int} (h:i64 n):u64 (Fy n):=by
 unfold Fy u64;unfold i64 at h;split<;>omega
theorem IA:∀(k:Nat) (n:Int),(Ci k n).length≤k+1
 |0,n=>by simp[Ci]
 |k+1,n=>by
  simp only[Ci];split
  ·simp
  ·have:=IA k (n/128);simp;omega
theorem Aw (n:Int):(CY n).length≤10:=IA 9 n
theorem AO (n:Int):(AN n).length≤10:=Aw _
theorem Au:∀l:List Int,(l.flatMap AN).length≤10*l.length
 |[]=>by simp
 |x::l=>by
  have:=AO x;have:=Au l;simp only[qN,qG,qT];omega
def wr (xs:List Int):Row:= .cells [.own 5 1 (xs.map (.int .u8))]
theorem Ky {a:Int} (h1:0≤a) (h2:a <256):IntKind.u8.wrap a=a:=by
 unfold IntKind.wrap;simp only[IntKind.bits,IntKind.signed];have e1:((2:Int)^8)=256:=by decide
 simp only[e1,tE,qY,if_false];omega
theorem HS (a:Int):IntKind.u8.wrap a=a%256:=by
 unfold IntKind.wrap;simp only[IntKind.bits,IntKind.signed];have e1:((2:Int)^8)=256:=by decide
 simp only[e1,tE,qY,if_false]
theorem D9 (a:Int):IntKind.u64.wrap a=a%18446744073709551616:=by
 unfold IntKind.wrap;simp only[IntKind.bits,IntKind.signed];have e1:((2:Int)^64)=18446744073709551616:=by decide
 simp only[e1,tE,qY,if_false]
theorem eU (m:Nat) (h:m <256):m ||| 128=128+m%128:=by
 have key:∀m:Fin 256,m.val ||| 128=128+m.val%128:=by decide+kernel
 exact key ⟨m,h⟩
theorem OW (m:Nat) (h:m <2^64):m ^^^ (2^64-1)=2^64-1-m:=by
 rw[Nat.xor_comm];apply Nat.eq_of_testBit_eq;intro i;rw[Nat.testBit_xor,Nat.testBit_two_pow_sub_one];have:(2^64-1-m)=2^64-(m+1):=by omega
 rw[this,Nat.testBit_two_pow_sub_succ h];cases hb:m.testBit i<;>by_cases hi:i <64<;>simp[hi]
 rw[Nat.testBit_lt_two_pow (tP h (so (by decide) (by omega)))]at hb;cases hb
section
open Go.Proofs Go.Shelf Go.Maps
def oN:Ren:=⟨λ|8=>298|10=>300|11=>326|n=>n,λ|0=>0|4=>4|23=>138|24=>22|26=>3|28=>352|33=>248|3=>62|n=>n,λn=>n⟩
theorem mS:SlLaysZI.n8 Tryz.prog oN where
 mixed:=by kernel_rfl
 f8:=⟨Tryz.f298.name,by kernel_rfl,Tryz.func298.trans (congrArg some (by kernel_rfl))⟩
 f11:=⟨Tryz.f326.name,by kernel_rfl,Tryz.func326.trans (congrArg some (by kernel_rfl))⟩
 t0:=Tryz.underlying0
 a0:=Tryz.isAgg0
 z0:=Tryz.sizeOf0
 v0:=Tryz.zeroValue0
 t24:=Tryz.underlying22
 a24:=Tryz.isAgg22
 z24:=Tryz.sizeOf22
 v24:=Tryz.zeroValue22
 t26:=Tryz.underlying3
 a26:=Tryz.isAgg3
 z26:=Tryz.sizeOf3
 v26:=Tryz.zeroValue3
 t28:=Tryz.underlying352
 a28:=Tryz.isAgg352
 z28:=Tryz.sizeOf352
 v28:=Tryz.zeroValue352
 i26:=by kernel_rfl
theorem ea:SlLaysZI.n10 Tryz.prog oN where
 mixed:=by kernel_rfl
 f10:=⟨Tryz.f300.name,by kernel_rfl,Tryz.func300.trans (congrArg some (by kernel_rfl))⟩
 t0:=Tryz.underlying0
 a0:=Tryz.isAgg0
 z0:=Tryz.sizeOf0
 v0:=Tryz.zeroValue0
 t4:=Tryz.underlying4
 a4:=Tryz.isAgg4
 z4:=Tryz.sizeOf4
 v4:=Tryz.zeroValue4
 t23:=Tryz.underlying138
 a23:=Tryz.isAgg138
 z23:=Tryz.sizeOf138
 v23:=Tryz.zeroValue138
 t26:=Tryz.underlying3
 a26:=Tryz.isAgg3
 z26:=Tryz.sizeOf3
 v26:=Tryz.zeroValue3
 t33:=Tryz.underlying248
 a33:=Tryz.isAgg248
 z33:=Tryz.sizeOf248
 v33:=Tryz.zeroValue248
def RK:Value→Option (DataW Unit×List MemPlace):=λ_=>some (.nil,[])
variable {m r:Nat} {h:List Row}
theorem dQ {es:List (V×V)} {st:List Nat} {ck:Nat} {ks:List Int}
  (hr:h[r]?=some (.cells [.mref m])) (hm:h[m]?=some (.map es st ck)) (he:es.map (·.1)=ks.map (.int .i64)) (h1:ks.length≤1) (hw:∀k∈ks,i64 k):
  FX 298 [.func 300 [.ref r 0]] h [.own 3 1 (ks.map (.int .i64))] h:=by
 refine⟨by kernel_rfl,λg w μ us O hinv hgl hall htame=>?_⟩;obtain⟨hlen,Dn⟩:=hall;obtain⟨u,rfl⟩:∃u,us=[u]:=by
  match us,hlen with
  |[u],_=>exact⟨u,rfl⟩
 have hu:RepE g w μ (.func 300 [.ref r 0]) u:=Dn 0 _ u rfl rfl;obtain⟨vs,rfl,hvs⟩:=hu;obtain⟨c,rfl⟩:∃c,vs=[c]:=by
  match vs,hvs.1 with
  |[c],_=>exact⟨c,rfl⟩
 have hc:RepC g μ (.ref r 0) c:=hvs.2 0 _ c rfl rfl;obtain⟨br,hbr,rfl⟩:=hc;obtain⟨rs,T,hb,ha,h1c,hno⟩:=hinv.rows r _ br hr hbr;obtain⟨x,rfl⟩:∃x,rs=[x]:=by
  match rs,ha.1 with
  |[x],_=>exact⟨x,rfl⟩
 have hx:RepE g w μ (.mref m) x:=ha.2 0 _ x rfl rfl;obtain⟨bm,hbm,rfl⟩:=hx;obtain⟨ents,hmb,hst,hborn,hal,hno2⟩:=hinv.rows m _ bm hm hbm;have hel:ents.toList.length=ks.length:=by
  have e1:=congrArg List.length he;simp only[qr]at e1;rw[hal.1,e1]
 have hkey:∀(i:Nat) (y:MapEntry),ents.toList[i]?=some y→∃k,ks[i]?=some k∧y.key= .int .i64 k:=by
  intro i y hy;have hi:i <ents.toList.length:=(qK.1 hy).1;obtain⟨kv,hkv⟩:∃kv,es[i]?=some kv:=⟨_,qH (by rw[←hal.1];exact hi)⟩;have h2:=(hal.2 i kv y hkv hy).1;have h3:(es.map (·.1))[i]?=some kv.1:=by simp[hkv]
  rw[he]at h3;simp only[qZ,qQ]at h3;obtain⟨k,hk,hk2⟩:=h3;refine⟨k,hk,?_⟩;rw[←hk2]at h2;generalize y.key=yk at h2 ⊢;cases h2;rfl
 have hkl:∀k∈ks,keyOf Tryz.prog 3 (.int .i64 k)=some (.int .i64 k):=by
  intro k hk;have h2:=hw k hk;simp only[i64]at h2;have h3:(Lit.int .i64 k).wf=true:=by
   simp only[Lit.wf,qI,decide_eq_true_eq,IntKind.min,IntKind.max,IntKind.signed,IntKind.bits];simp;omega
  simp[keyOf,mapKey,Tryz.underlying3,h3]
 have hrd:∀(i:Nat) (y:MapEntry),ents.toList[i]?=some y→∃k,ks[i]?=some k∧Go.WideElems.rd Tryz.prog 3 RK y=some (.int .i64 k,.nil):=by
  intro i y hy;obtain⟨k,hk,hy2⟩:=hkey i y hy;refine⟨k,hk,?_⟩;simp[Go.WideElems.rd,hy2,hkl k (qJ hk),RK]
 have hown:w.ownsMap Tryz.prog 3 RK bm 1 (.map ((ents.toList.map (Go.WideElems.rg Tryz.prog 3 RK)).foldr DataW.insert [])):=by
  refine⟨ents,ck,hmb,⟨?_,hst,?_⟩,?_,rfl⟩
  ·have:ents.size≤1:=by rw[←uE,hel];exact h1
   exact qo this (by decide)
  ·intro y hy;obtain⟨i,hi⟩:=sj.1 hy;obtain⟨k,_,hk⟩:=hrd i y hi;exact⟨_,hk⟩
  ·rw[←uE,hel];exact h1
 have hik:intKeys (.map ((ents.toList.map (Go.WideElems.rg Tryz.prog 3 RK)).foldr DataW.insert []):DataW Unit)=ks∧Maps.size (.map ((ents.toList.map (Go.WideElems.rg Tryz.prog 3 RK)).foldr DataW.insert []):DataW Unit)=ks.length:=by
  generalize ents.toList=el at hel hrd
  match ks,el,h1,hel with
  |[],[],_,_=>exact⟨rfl,rfl⟩
  |[k],[y],_,_=>
   obtain⟨k',hk',hk⟩:=hrd 0 y rfl;simp at hk';subst hk';simp[Go.WideElems.rg,hk,intKeys,Maps.size,DataW.insert,intOf]
 have hlt:br <w.heap.size:=Bc hb;have hseq:=AnyZI.keys_gives ea Fence.wide 2 trivial rfl (by omega) br bm 1 _ w hlt (by simp[World.cell?,hb]) hown;have cS:=AnyZI.collect_in mS Fence.wide 4 trivial trivial rfl (by omega) 300 #[.pointer (some ⟨br,0,none⟩)] trivial (enters_of Tryz.func300 (by kernel_rfl) rfl) _ _ (by rw[hik.2];exact qo h1 (by decide)) (by rw[hik.2];omega) w hseq;refine(callsIn_wide.1 cS).mono ?_;rintro e w' ⟨v,ss,rfl,hS,hrow,hnil,hbel⟩;rw[hik.1]at hS;have hss:ss=ks:=by
  match ks,h1 with
  |[],_=>exact List.perm_nil.1 hS
  |[k],_=>exact List.perm_singleton.1 hS
 subst hss;rcases hrow with ⟨hl2,⟨rfl,hz⟩|⟨gb,cap,cur,rfl,hbase,hgb,r1,r2,r3,r4⟩⟩
 ·obtain rfl:ss=[]:=rU hz;have hc:Chg (λ_=>False) g w g w':=⟨Gh.le.refl g,hbel.size,λb hb _=>hbel.block b hb,λb hb _ o=>rfl,hbel.os,hbel.output⟩;have hag:∀b o v,g.m b o=some v→w'.cell? ⟨b,o,none⟩=some v:=by
   intro b o v hv;have h2:=hinv.agree b o v hv;have h3:b <w.heap.size:=by
    rcases qi b w.heap.size with h'|h'
    ·exact h'
    ·simp[World.cell?,tQ h']at h2
   rw[World.cell?_of_block (a:=⟨b,o,none⟩) (hbel.block b h3)];exact h2
  exact⟨_,g,μ,rfl,hinv.newOwn (d:=0) hc hag (.inl ⟨none,rfl,rfl,by simp⟩) (λ_ _=>⟨none,rfl⟩) (by simp[Ae]),hc.mono λ_ h=>h.elim,qP _⟩
 ·obtain⟨k,rfl⟩:∃k,ss=[k]:=by
   match ss,h1 with
   |[k],_=>exact⟨k,rfl⟩
   |[],_=>simp at hnil
  have hnone:∀b,w.heap.size≤b→∀o,g.m b o=none:=by
   intro b hb2 o;cases h4:g.m b o with
   |none=>rfl
   |some v=>
    have h2:=hinv.agree b o v h4;simp[World.cell?,tQ hb2]at h2
  let g':Gh:=⟨λb o=>if b=gb then (if o=0 then some (.int .i64 k) else none) else g.m b o⟩
  have hc:Chg (λ_=>False) g w g' w':=by
   refine⟨λb o v hv=>?_,hbel.size,λb hb _=>hbel.block b hb,λb hb _ o=>?_,hbel.os,hbel.output⟩
   ·by_cases hbg:b=gb
    ·subst hbg;rw[hnone b hbase]at hv;cases hv
    ·simpa[g',hbg]using hv
   ·have hbg:b≠gb:=by omega
    simp[g',hbg]
  have hcur:cur[0]?=some (.int .i64 k):=by
   have h2:(cur.toList.take 1)[0]?=some (.int .i64 k):=by
    simp only[uC,Nat.mul_one]at r4;rw[r4];rfl
   rw[List.getElem?_take_of_lt (by omega)]at h2;rw[←rb];exact h2
  have hag:∀b o v,g'.m b o=some v→w'.cell? ⟨b,o,none⟩=some v:=by
   intro b o v hv;by_cases hbg:b=gb
   ·subst hbg;simp only[g',if_true]at hv;split at hv
    ·rename_i ho;subst ho;simp only[qF]at hv;subst hv;simp[World.cell?,hgb,hcur]
    ·cases hv
   ·simp only[g',hbg,if_false]at hv;have h2:=hinv.agree b o v hv;have h3:b <w.heap.size:=by
     rcases qi b w.heap.size with h'|h'
     ·exact h'
     ·simp[World.cell?,tQ h']at h2
    rw[World.cell?_of_block (a:=⟨b,o,none⟩) (hbel.block b h3)];exact h2
  have hcap:0 <cap:=by
   have:1≤cap:=by simpa using r1
   omega
  refine⟨_,g',μ,rfl,hinv.newOwn (d:=0) hc hag (.inr ⟨gb,cap,cur,λ_=> .int .i64 k,rfl,hcap,hgb,by simpa using r1,by simpa using r3,?_,?_,?_⟩) (λh=>by simp at h) ?_,hc.mono λ_ h=>h.elim,qP _⟩
  ·intro i x hx
   match i with
   |0=>simp at hx;subst hx;exact .int _ _
   |i+1=>simp at hx
  ·intro i hi;obtain rfl:i=0:=by simpa using hi
   refine⟨rfl,λj v hv=>?_⟩
   match j with
   |0=>simp[Value.cells]at hv;subst hv;simp[g']
   |j+1=>simp[Value.cells]at hv
  ·intro o ho;have:o≠0:=by simp at ho;omega
   simp[g',this]
  ·intro b hb2;simp only[Ae]at hb2;split at hb2
   ·cases hb2
   ·simp only[qF]at hb2;rw[←hb2];exact hbase
end
def mb (n:Nat):Nat:=Nat.shiftLeft 1 n
def mh (m n:Nat):Bool:=Nat.beq (Nat.land (Nat.shiftRight m n) 1) 1
def md (m n:Nat):Nat:=Nat.xor (Nat.lor m (mb n)) (mb n)
def mP:Nat→Nat→Nat→List Nat
 |0,_,_=>[]
 |k+1,m,i=>bif Nat.beq m 0 then [] else bif Nat.beq (Nat.land m 1) 1 then i::mP k (Nat.shiftRight m 1) (Nat.add i 1) else mP k (Nat.shiftRight m 1) (Nat.add i 1)
def ml (m:Nat):List Nat:=mP 500 m 0
def um:List Operand→Nat
 |[]=>0
 | .tmp t::l=>Nat.lor (mb t) (um l)
 |_::l=>um l
def YC (o:Oper):Nat:=um o.op.operands.toList
def Wu {α:Type}:List α→Nat→Option α
 |[],_=>none
 |x::_,0=>some x
 |_::l,n+1=>Wu l n
inductive Tr (α:Type) where
 |lf
 |nd (l:Tr α) (x:α) (r:Tr α)
def Tr.get {α:Type}:Tr α→Nat→Option α
 | .lf,_=>none
 | .nd l x r,n=>bif Nat.beq n 0 then some x else bif Nat.beq (Nat.land n 1) 1 then l.get (Nat.shiftRight n 1) else r.get (Nat.sub (Nat.shiftRight n 1) 1)
def Zq {α:Type}:List α→List α
 |x::_::l=>x::Zq l
 |l=>l
def Tr.mk {α:Type}:Nat→List α→Tr α
 |n+1,x::l=> .nd (Tr.mk n (Zq l)) x (Tr.mk n (Zq l.tail))
 |_,_=> .lf
inductive Bx (α:Type) where
 |mk {x:α}
inductive TD where
 |none
 |bool
 |int (k:IntKind)
 |string
 |pointer (e:Nat)
 |slice (e:Nat)
 |array (n e:Nat)
 |map (k e:Nat)
 |struct (fs:List (Nat×Nat))
 |ref
 |tuple (es:List Nat)
 |func
 |named (u:Nat)
structure TI where
 d:TD
 size:Nat
 bytes:Nat
def oy (i:TypeInfo):TI:=⟨match i.desc with
 | .bool=> .bool
 | .int k=> .int k
 | .string=> .string
 | .pointer e=> .pointer e
 | .slice e=> .slice e
 | .array n e=> .array n e
 | .map k e=> .map k e
 | .struct fs=> .struct (fs.toList.map λf=>(f.offset,f.type))
 | .interface _=> .ref
 | .chan _ _=> .ref
 | .tuple es=> .tuple es.toList
 | .func _ _ _=> .func
 | .named _ u=> .named u
 |_=> .none,i.size,i.bytes⟩
structure Pg where
 T:Tr TI
 F:Tr (Bx Func)
def Pg.inf (P:Pg) (t:Nat):Option TI:=P.T.get t
def Pg.und (P:Pg) (t:Nat):Option TD:=match P.inf t with
 |some ⟨.named u,_,_⟩=>(match P.inf u with|some i=>some i.d|none=>none)
 |some i=>some i.d
 |none=>none
def ZC:List Func→List (Bx Func)
 |[]=>[]
 |x::l=> @Bx.mk Func x::ZC l
section
variable (P:Pg)
def K0 (t:Nat):Nat:=match P.inf t with|some i=>i.size|none=>0
def ia (t:Nat):Nat:=match P.inf t with|some i=>i.bytes|none=>0
def OU (t:Nat):Nat:=match P.und t with|some (.slice e)=>e|some (.pointer e)=>e|some (.map _ e)=>e|some (.array _ e)=>e|_=>0
def cd (t:Nat):Bool:=match P.und t with|some (.struct _)=>true|some (.array _ _)=>true|_=>false
def o6 (t:Nat):Bool:=match P.und t with|some (.slice _)=>true|_=>false
def o5 (t:Nat):Bool:=match P.und t with|some .string=>true|_=>false
def oY (t:Nat):Bool:=match P.und t with|some (.slice _)=>true|some (.tuple _)=>true|_=>false
def nr (t:Nat):List (Nat×Nat):=match P.und t with|some (.struct fs)=>fs|_=>[]
def cr {α:Type}:Nat→List α→List α
 |0,_=>[]
 |n+1,l=>l++cr n l
def gX:Nat→Nat→List Nat
 |0,t=>[t]
 |n+1,t=>match P.und t with
  |some (.struct fs)=>fs.flatMap λf=>gX n f.2
  |some (.array k e)=>cr k (gX n e)
  |_=>[t]
def cO:Nat→Nat→Bool
 |0,_=>false
 |n+1,t=>match P.und t with
  |some (.pointer _)=>true
  |some (.map _ _)=>true
  |some .func=>true
  |some .ref=>true
  |some (.struct fs)=>fs.any λf=>cO n f.2
  |some (.tuple es)=>es.any (cO n)
  |_=>false
variable (I J:Nat→Int) (GL:Ac)
def z0 (row:Bool) (t:Nat):D:=match P.und t with
 |some (.int k)=> .v (.int k (I 0))
 |some .bool=> .v (.bool false)
 |some .string=> .v (.str .empty)
 |some (.slice e)=>bif row then .own e (K0 P e) [] else .nil e (K0 P e)
 |some (.pointer _)=> .v .nilp
 |some (.map _ _)=> .v .nilm
 |some .func=> .v .nilf
 |_=> .any
def zs (row:Bool) (t:Nat):List D:=(gX P 5 t).map (z0 P I row)
def cV:Value→V
 | .int k (.ofNat n)=> .int k (I n)
 | .int k (.negSucc n)=> .int k (J (Nat.add n 1))
 | .bool b=> .bool b
 | .string s=> .str s
 | .pointer _=> .nilp
 | .map _=> .nilm
 | .slice _ _ _=> .list []
 | .agg cs=> .agg (cs.toList.map fun
  | .int k (.ofNat n)=> .int k (I n)
  | .int k (.negSucc n)=> .int k (J (Nat.add n 1))
  | .bool b=> .bool b
  | .string s=> .str s
  | .map _=> .nilm
  | .slice _ _ _=> .list []
  | .nilFunc=> .nilf
  |_=> .nilp)
 |_=> .nilf
def oq (mv own:Bool) (t:Nat):Operand→Opd
 | .tmp n=> .t n mv
 | .const (.slice _ _ _)=> .c (bif own then .own (OU P t) (K0 P (OU P t)) [] else .nil (OU P t) (K0 P (OU P t)))
 | .const v=> .c (.v (cV I J v))
 | .func f=> .c (.v (.func f []))
 | .global g=> .g g (match GL.find? λp=>Nat.beq p.1 g with|some p=>p.2.map (cV I J)|none=>[])
def eV (ts:List Nat):List Operand→List Opd
 |[]=>[]
 |x::xs=>(match ts with|t::_=>oq P I J GL false false t x|[]=>oq P I J GL false false 0 x)::eV ts.tail xs
def oo:Option Operand→Option Opd
 |none=>none
 |some x=>some (oq P I J GL false false 0 x)
def kq (t:Nat):Nat:=match P.und t with|some .bool=>1|some .string=>2|_=>0
def kS (t:Nat):Bool:=match P.und t with|some (.map k _)=>cd P k|_=>false
def kK (t:Nat):List Nat:=match P.und t with|some (.map k _)=>(gX P 5 k).map (kq P)|_=>[]
def od:Option Operand→Bool
 |some (.const (.int _ (.ofNat 0)))=>true
 |_=>false
def qB (o:Operand):Nat:=match o with| .func f=>f|_=>1000000
def iU (o:Operand):Bool:=match o with| .tmp _=>true|_=>false
def iT:BinOp→Bool
 | .neq=>true
 |_=>false
abbrev WG:=Nat→Nat→Nat
variable (H:WG) (dr:Bool) (fn:Nat) (ops:List Oper)
def gD (d:Option Nat) (ty:Nat) (f:Operand) (args:List Operand) (ats:List Nat):AI:=
 let q:=oq P I J GL false false 0 f
 let asx:=eV P I J GL ats args
 match H fn (qB f)with
 |3=> .callN d q asx
 |4=>match args with
  |x::xs=> .callO d q (oq P I J GL (iU x) false (ats.headD 0) x) (eV P I J GL ats.tail xs)
  |[]=> .call d q asx
 |5=>bif dr then .callC d q asx else .call d q asx
 |6=>bif dr&&(ats.any (cO P 5)||cO P 5 ty||iU f) then .callC d q asx else .call d q asx
 |_=>bif dr&&(ats.any (cO P 5)||cO P 5 ty||iU f) then .callF d q asx else .call d q asx
def aA (d:Nat) (o:Oper):Bool:=match o.op with
 | .call c=>(match c.callee with| .builtin .append=>(match c.args.toList with| .tmp n::_=>Nat.beq n d|_=>false)|_=>false)
 |_=>false
def nl (dd:Nat→Bool) (o:Oper):Option AI:=
 let O:=oq P I J GL false false
 let mO (t:Nat) (x:Operand):=match x with| .tmp n=> .t n (oY P t&&dd n)|x=>O t x
 let d:=o.dst.getD 0
 let p (i:PI):Option AI:=some (.p d i)
 let h:=H fn (Nat.add 2000000 d)
 let mI (x:Operand):AI:=match h with
  |0=> .mv d (match x with| .tmp n=> .t n (oY P o.type&&dd n)|x=>oq P I J GL false true o.type x)
  |1=> .mv d (oq P I J GL true true o.type x)
  |2=> .mv d (oq P I J GL false true o.type x)
  |s=> .frz d (O o.type x) (Nat.sub s 10)
 match o.op with
 | .move x=>some (mI x)
 | .assign x=>some (mI x)
 | .pick c a b=>p (.pick (O 0 c) (O o.type a) (O o.type b))
 | .alloc t=>some (.alloc d (zs P I true t))
 | .box t x=>some (.box d (O t x))
 | .build t ps=>p (.build (zs P I false t) (ps.toList.map λq=>match P.und t with
  |some (.array _ e)=>(Nat.mul q.1 (K0 P e),K0 P e,O e q.2)
  |_=>match Wu (nr P t) q.1 with|some f=>(f.1,K0 P f.2,O f.2 q.2)|none=>(0,0,O 0 q.2)))
 | .buildSlice t _ ps=>some (bif Nat.beq h 0 then .bsl d (OU P t) (K0 P (OU P t)) (ps.toList.map λq=>O (OU P t) q.2) else .bsr d (K0 P (OU P t)) (ps.toList.map λq=>O (OU P t) q.2))
 | .load t a=>bif o6 P t&&ops.any (aA d) then some (.take d (O 0 a)) else p (.load (O 0 a) (K0 P t) (cd P t))
 | .store t a x=>some (.store (O 0 a) (mO t x) (K0 P t))
 | .nilCheck x=>p (.nilc (O 0 x))
 | .binOp b t x y _=>match P.und t with
  |some (.int _)=>p (.bin b (O t x) (O t y))
  |some .string=>p (.bin b (O t x) (O t y))
  |some .bool=>p (.eqB (iT b) (O t x) (O t y))
  |some (.pointer _)=>p (.eqP (iT b) (O t x) (O t y))
  |some (.slice _)=>some (.nilS d (iT b) (O 0 x))
  |some (.struct _)=>p (.eqA (iT b) ((gX P 5 t).map (kq P)) (O t x) (O t y))
  |_=>none
 | .unOp u _ x=>match u with
  | .not=>p (.not (O 0 x))
  | .neg=>p (.neg (O 0 x))
  | .xor=>p (.inv (O 0 x))
  |_=>none
 | .convert a b x=>match P.und b with
  |some (.int k)=>p (.cint k (O 0 x))
  |some (.slice _)=>some (.s2b d (O 0 x))
  |some .string=>p (.b2s (O a x))
  |_=>none
 | .fieldAddr t x i=>match Wu (nr P t) i with
  |some f=>p (.faddr (O 0 x) f.1 (K0 P f.2))
  |none=>none
 | .field t x i=>match Wu (nr P t) i with
  |some f=>p (.fld (O 0 x) f.1 (K0 P f.2) (cd P f.2))
  |none=>none
 | .indexAddr t x i=>match P.und t with
  |some (.slice e)=>p (.iaddr (O t x) (O 0 i) (K0 P e))
  |some (.array n e)=>p (.iaddrA (O 0 x) (O 0 i) n (K0 P e))
  |_=>none
 | .index t x i=>match P.und t with
  |some .string=>p (.idxS (O 0 x) (O 0 i))
  |some (.array n e)=>p (.idxA (O 0 x) (O 0 i) n (K0 P e) (cd P e))
  |_=>none
 | .slice t x lo hi mx=>match P.und t with
  |some (.slice e)=>match mx with
   |none=>p (.slc (O t x) (oo P I J GL lo) (oo P I J GL hi) (K0 P e))
   |m=>bif od hi&&od m then p (.slc0 (O t x) e (K0 P e)) else none
  |some .string=>p (.slcS (O 0 x) (oo P I J GL lo) (oo P I J GL hi))
  |_=>none
 | .makeSlice t x _=>bif Nat.beq (K0 P (OU P t)) 1&&Nat.beq (H fn 1000001) 0 then some (.mksl d (O 0 x) (z0 P I true (OU P t))) else some (.mksz d (O 0 x) (zs P I true (OU P t)))
 | .makeMap _ _=>some (.mkm d)
 | .lookup t x i ok=>p (.look (O 0 x) (O 0 i) (kS P t) (kK P t) (zs P I false (OU P t)) (cd P (OU P t)) ok)
 | .mapUpdate t x i v=>some (.mput (O 0 x) (O 0 i) (O (OU P t) v) (kS P t) (kK P t))
 | .mapEntry t x i=>some (.ment d (O 0 x) (O 0 i) (kS P t) (kK P t))
 | .entryStore t x i v=>some (.mest (O 0 x) (O 0 i) (O (OU P t) v))
 | .extract x i=>p (.ext (O 0 x) i)
 | .makeFunc (.func f) first caps=>match first.toList with
  |[]=>p (.mkf f (eV P I J GL [] caps.toList))
  |l=>p (.mkme f (eV P I J GL [] l))
 | .call c=>
  let ats:=c.argTypes.toList
  let t0:=ats.headD 0
  match c.callee with
  | .value f=>some (gD P I J GL H dr fn o.dst o.type f c.args.toList ats)
  | .builtin .len=>match c.args.toList with
   |x::_=>match P.und t0 with
    |some (.slice _)=>p (.alen (O t0 x))
    |some .string=>p (.lenS (O 0 x))
    |some (.map _ _)=>p (.mlen (O 0 x))
    |_=>none
   |[]=>none
  | .builtin .delete=>match c.args.toList with
   |x::y::_=>some (.mdel o.dst (O 0 x) (O 0 y) (kS P t0) (kK P t0))
   |_=>none
  | .builtin .max=>match c.args.toList with
   |[x,y]=>p (.minmax true (O o.type x) (O o.type y))
   |_=>none
  | .builtin .min=>match c.args.toList with
   |[x,y]=>p (.minmax false (O o.type x) (O o.type y))
   |_=>none
  | .builtin .append=>match c.args.toList with
   |x::y::_=>
    let t1:=ats.tail.headD 0
    let e:=OU P t0
    let b:=oq P I J GL (iU x) false t0 x
    bif o5 P t1 then some (.appS d b (O 0 y) e (ia P e)) else match h with
     |0=>some (.app d b (O t1 y) e (K0 P e) (ia P e))
     |1=>some (.appR d b (O t1 y) e (K0 P e) (ia P e))
     |_=>some (.appR d (O t0 x) (O t1 y) e (K0 P e) (ia P e))
   |_=>none
  | .builtin .copy=>match c.args.toList with
   |x::y::_=>some (.cpy o.dst (O t0 x) (O (ats.tail.headD 0) y) (K0 P (OU P t0)))
   |_=>none
  |_=>none
 |_=>none
def iV (j:Nat):Nat:=match Wu ops j with|some o=>(match o.dst with|some t=>mb t|none=>0)|none=>0
def cR:List Oper→Nat→Nat
 |[],out=>out
 |o::r,out=>match o.guard,o.dst with
  |none,some d=>Nat.lor (md (cR r out) d) (YC o)
  |none,none=>Nat.lor (cR r out) (YC o)
  |some g,some d=>bif mh (YC o) d then Nat.lor (Nat.lor (cR r out) (YC o)) (iV ops g.1) else md (Nat.lor (Nat.lor (cR r out) (YC o)) (iV ops g.1)) d
  |some g,none=>Nat.lor (Nat.lor (cR r out) (YC o)) (iV ops g.1)
def ot (o:Oper):Nat:=match o.guard with|some g=>Nat.lor (YC o) (iV ops g.1)|none=>(YC o)
def VN:List Oper→Nat→Nat→Bool
 |[],out,n=> !mh out n
 |o::r,out,n=>bif mh (ot ops o) n then false else match o.guard,o.dst with
  |none,some d=>bif Nat.beq d n then true else VN r out n
  |_,_=>VN r out n
def aL:Nat→List Oper→Option (List GI)
 |_,[]=>some []
 |out,o::r=>match nl P I J GL H dr fn ops (VN ops r out) o,aL out r with
  |some i,some l=>some (⟨match o.guard with|none=>none|some g=>(match Wu ops g.1 with|some q=>(match q.dst with|some t=>some (t,g.2)|none=>none)|none=>none),i⟩::l)
  |_,_=>none
end
def mR:List (Nat×Nat)→Nat→Nat
 |[],_=>0
 |(k,m)::l,n=>bif Nat.beq k n then m else mR l n
def XQ (ex:List (Nat×Nat)) (ret:Nat):Code→Nat
 | .seq a b=>Nat.lor (XQ ex ret a) (XQ ex ret b)
 | .cond _ a b=>Nat.lor (XQ ex ret a) (XQ ex ret b)
 | .block _ c=>XQ ex ret c
 | .loop c=>XQ ex ret c
 | .rangeFunc _ _ a b=>Nat.lor (XQ ex ret a) (XQ ex ret b)
 | .exit i=>mR ex i
 | .ret=>ret
 |_=>0
def oZ (m:Nat):List Nat→Nat
 |[]=>m
 |t::l=>oZ (md m t) l
def Tj:List (Nat×Nat)→List (Nat×Nat)
 |[]=>[]
 |(k,_)::l=>(k,0)::Tj l
def PQ:List (Nat×Nat)→Nat→Code→Nat→Nat
 |_,ret,.ret,_=>ret
 |ex,ret,.seq a b,out=>PQ ex ret a (PQ ex ret b out)
 |_,_,.region _ ops _,out=>cR ops.toList ops.toList out
 |ex,ret,.cond x a b,out=>Nat.lor (Nat.lor (PQ ex ret a out) (PQ ex ret b out)) (um [x])
 |ex,ret,.block i c,out=>PQ ((i,out)::ex) ret c out
 |ex,ret,.loop c,_=>PQ ex ret c 0
 |ex,ret,.rangeFunc g ps a b,out=>Nat.lor (Nat.lor (um [g]) (oZ (PQ (Tj ex) 0 a (PQ (Tj ex) 0 b 0)) ps.toList)) (Nat.lor out (XQ ex ret b))
 |ex,_,.exit i,_=>mR ex i
 |_,_,_,out=>out
def oE (acc:List Nat):List Edge→Nat
 |[]=>0
 |e::l=>bif Region.binds .any e then Nat.lor (Nat.lor (mb e.on) ((Wu acc e.on).getD 0)) (oE acc l) else oE acc l
def cls:List Nat→List Oper→List Nat
 |acc,[]=>acc
 |acc,o::l=>cls (acc++[oE acc o.after.toList]) l
def Ax (ops:List Oper):List (List Nat):=(cls [] ops).map ml
def np (is:List GI) (cl:List (List Nat)):Bool:=
 (is.zipIdx.all λp=>match Wu cl p.2 with
  |some c=>is.zipIdx.all λq=>bif Nat.blt q.2 p.2 then c.any (Nat.beq q.2)||Hq q.1 p.1 else true
  |none=>false)
def ZO (is:List GI) (cl:List (List Nat)):Nat→List Nat→AT
 |0,_=> .none
 |n+1,rem=>match rem with
  |[]=> .done
  |_=>match rem.find? λi=>Wc cl rem i&&rem.all λj=>Nat.beq j i||((Wu cl j).getD []).any (Nat.beq i)||Hq (is.getD i default) (is.getD j default)with
   |some i=> .take i (ZO is cl n (rem.filter λj=> !Nat.beq j i))
   |none=> .pick ((rem.filter (Wc cl rem)).foldr (λi r=> .alt i (ZO is cl n (rem.filter λj=> !Nat.beq j i)) r) .none)
def iP (n:Nat):Int:= @OfNat.ofNat Int n _
def iN (n:Nat):Int:= -@OfNat.ofNat Int n _
def iq (P:Pg) (GL:Ac) (H:WG) (f:Nat) (r:Nat→List GI) (id:Nat) (ops:List Oper) (dr:Bool) (out:Nat):AC:=
 match aL P iP iN GL H dr f ops out ops with
 |none=> .never
 |some is=>bif Nat.beq (H f (Nat.add 3000000 id)) 1 then .regV (r id) (ml out) (Ax ops) else bif dr then (bif np is (Ax ops) then .regD (r id) (ml out) (Ax ops) else .regA (r id) (ml out) (Ax ops) (ZO is (Ax ops) (Nat.add is.length 1) (List.range is.length))) else .reg (r id) (ml out)
def nL:Code→Nat
 | .seq a b=>Nat.add (nL a) (nL b)
 | .cond _ a b=>Nat.add (nL a) (nL b)
 | .block _ c=>nL c
 | .loop c=>Nat.add (nL c) 1
 | .rangeFunc _ _ a b=>Nat.add (Nat.add (nL a) (nL b)) 1
 |_=>0
section
variable (P:Pg) (GL:Ac) (H:WG) (f:Nat) (r:Nat→List GI) (l:Nat→AC)
def N8:List (Nat×Nat)→Nat→Code→Nat→Nat→AC
 |_,_,.skip,_,_=> .skip
 |_,_,.ret,_,_=> .ret
 |_,_,.exit i,_,_=> .exit i
 |_,_,.region id ops dr,out,_=>iq P GL H f r id ops.toList dr out
 |ex,ret,.seq a b,out,n=> .seq (N8 ex ret a (PQ ex ret b out) n) (N8 ex ret b out (Nat.add n (nL a)))
 |ex,ret,.cond x a b,out,n=> .cond (oq P iP iN GL false false 0 x) (N8 ex ret a out n) (N8 ex ret b out (Nat.add n (nL a)))
 |ex,ret,.block i c,out,n=> .block i (N8 ((i,out)::ex) ret c out n)
 |_,_,.loop _,_,n=> .loop (l n)
 |_,_,.rangeFunc g ps _ _,_,n=> .rangeF (oq P iP iN GL false false 0 g) ps.toList (l n) (l (Nat.add n 1000))
 |_,_,_,_,_=> .never
def N7 (k:Nat):List (Nat×Nat)→Nat→Code→Nat→Nat→AC
 |ex,ret,.seq a b,out,n=>bif Nat.blt (Nat.mod k 1000) (Nat.add n (nL a)) then N7 k ex ret a (PQ ex ret b out) n else N7 k ex ret b out (Nat.add n (nL a))
 |ex,ret,.cond _ a b,out,n=>bif Nat.blt (Nat.mod k 1000) (Nat.add n (nL a)) then N7 k ex ret a out n else N7 k ex ret b out (Nat.add n (nL a))
 |ex,ret,.block i c,out,n=>N7 k ((i,out)::ex) ret c out n
 |ex,ret,.loop c,_,n=>bif Nat.beq n k then N8 P GL H f r l ex ret c (PQ ex ret c 0) (Nat.add n 1) else N7 k ex ret c (PQ ex ret c 0) (Nat.add n 1)
 |ex,_,.rangeFunc _ _ a b,_,n=>bif Nat.beq n k then N8 P GL H f r l (Tj ex) 0 a (PQ (Tj ex) 0 b 0) (Nat.add n 1)
  else bif Nat.beq (Nat.add n 1000) k then N8 P GL H f r l (Tj ex) 0 b 0 (Nat.add (Nat.add n 1) (nL a))
  else bif Nat.blt (Nat.mod k 1000) (Nat.add (Nat.add n 1) (nL a)) then N7 k (Tj ex) 0 a (PQ (Tj ex) 0 b 0) (Nat.add n 1) else N7 k (Tj ex) 0 b 0 (Nat.add (Nat.add n 1) (nL a))
 |_,_,_,_,_=> .never
def fO (id:Nat):List (Nat×Nat)→Nat→Code→Nat→Option (List Oper×Bool×Nat)
 |ex,ret,.seq a b,out=>match fO id ex ret a (PQ ex ret b out)with
  |some x=>some x
  |none=>fO id ex ret b out
 |ex,ret,.cond _ a b,out=>match fO id ex ret a out with
  |some x=>some x
  |none=>fO id ex ret b out
 |ex,ret,.block i c,out=>fO id ((i,out)::ex) ret c out
 |ex,ret,.loop c,_=>fO id ex ret c (PQ ex ret c 0)
 |ex,_,.rangeFunc _ _ a b,_=>match fO id (Tj ex) 0 a (PQ (Tj ex) 0 b 0)with
  |some x=>some x
  |none=>fO id (Tj ex) 0 b 0
 |_,_,.region j ops dr,out=>bif Nat.beq j id then some (ops.toList,dr,out) else none
 |_,_,_,_=>none
def nq:Code:=match P.F.get f with|some (@Bx.mk _ fn)=>(match fn.body with|some c=>c|none=> .skip)|none=> .skip
def YU:List ResultVar→Nat
 |[]=>0
 | .tmp t::l=>Nat.lor (mb t) (YU l)
 | .cell t _::l=>Nat.lor (mb t) (YU l)
def aN:List ResultVar:=match P.F.get f with|some (@Bx.mk _ fn)=>fn.results.toList|none=>[]
def XN:AC:=N8 P GL H f r l [] (YU (aN P f)) (nq P f) (YU (aN P f)) 0
def SF (k:Nat):AC:=N7 P GL H f r l k [] (YU (aN P f)) (nq P f) (YU (aN P f)) 0
def Ph (I J:Nat→Int) (k:Nat):List GI:=match fO k [] (YU (aN P f)) (nq P f) (YU (aN P f))with
 |some (ops,dr,out)=>(aL P I J GL H dr f ops out ops).getD []
 |none=>[]
def gB:List AR:=(aN P f).map fun
 | .tmp t=> .t t
 | .cell a t=> .c a (K0 P t) (cd P t)
def gC:Nat:=match P.F.get f with|some (@Bx.mk _ fn)=>Nat.add fn.params.size fn.nfree|none=>0
end
open Go.Proofs
section
abbrev lit {α:Type} (l:α) {x:α} (_h:l=x:=by conv=>lhs;reduce):α:=x
set_option maxHeartbeats 2000000
noncomputable def ov:List TypeInfo:=Tryz.prog.types.toList
noncomputable def qA:List (Bx Func):=ZC Tryz.prog.funcs.toList
noncomputable def PT:Tr TI:=lit (Tr.mk 1000 (ov.map oy))
noncomputable def PF:Tr (Bx Func):=lit (Tr.mk 1000 qA)
noncomputable def PG:Pg:=⟨PT,PF⟩
noncomputable def Hs:WG
 |22,61=>3
 |23,61=>3
 |72,61=>3
 |140,245=>3
 |_,135=>4
 |180,n=>bif Nat.blt n 1000001 then 6 else 0
 |132,n=>bif Nat.blt n 1000001 then 6 else 0
 |297,104=>5
 |59,61=>3
 |62,1000001=>1
 |3,2000029=>2
 |3,2000072=>18
 |7,2000141=>2
 |8,2000170=>2
 |8,2000186=>11
 |36,2000014=>1
 |36,2000030=>1
 |115,2000016=>1
 |26,2000020=>1
 |26,2000032=>1
 |320,2000074=>2
 |331,2000042=>1
 |331,2000044=>2
 |64,3000004=>1
 |_,_=>0
def iF:List GI:=[⟨none,.take 22 (.t 6 false)⟩,
 ⟨none,.p 23 (.load (.t 8 false) 4 true)⟩,
 ⟨none,.p 24 (.alen (.t 22 false))⟩,
 ⟨none,.bsl 25 84 4 [(.c (.v (.agg [.int .i64 0,.int .i64 0,.list [],.list []])))]⟩,
 ⟨none,.appP 26 (.t 22 true) (.t 25 false) 84 4 64⟩,
 ⟨none,.p 27 (.iaddrP (.t 26 true) (.t 24 false) 4)⟩,
 ⟨none,.fin 26 (.t 6 false) (.t 27 false) (.t 23 false) 4⟩,
 ⟨none,.store (.t 6 false) (.t 26 true) 1⟩]
noncomputable def oG (f k:Nat):List GI:=bif Nat.beq f 64&&Nat.beq k 4 then iF else Ph PG An Hs f iP iN k
noncomputable def oa (f:Nat):Nat→Nat→AC
 |0,_=> .never
 |n+1,k=>SF PG An Hs f (oG f) (oa f n) k
noncomputable def lG (f k:Nat):AC:=oa f 9 k
noncomputable def gA (f:Nat):AC:=XN PG An Hs f (oG f) (lG f)
noncomputable def gR (f:Nat):List AR:=gB PG f
noncomputable def gN (f:Nat):Nat:=gC PG f
theorem pd (f k:Nat) (hn:(Nat.beq f 64&&Nat.beq k 4)=false):oG f k=Ph PG An Hs f iP iN k:=by rw[oG,hn,cond_false]
theorem AA (f k:Nat) {x:(Nat→Int)→(Nat→Int)→List GI} (h:(λI J=>Ph PG An Hs f I J k)=x:=by conv=>lhs;reduce) (hn:(Nat.beq f 64&&Nat.beq k 4)=false:=by rfl):oG f k=x (λn=> @OfNat.ofNat Int n _) (λn=> -@OfNat.ofNat Int n _):=(pd f k hn).trans (congrFun (congrFun h iP) iN)
theorem At (f:Nat) {x:(Nat→List GI)→(Nat→AC)→AC} (h:(λr l=>XN PG An Hs f r l)=x:=by conv=>lhs;reduce):gA f=x (oG f) (lG f):=by subst h;rfl
theorem BA (f k:Nat) {x:(Nat→List GI)→(Nat→AC)→AC} (h:(λr l=>SF PG An Hs f r l k)=x:=by conv=>lhs;reduce) (h2:lG f k=x (oG f) (lG f):=by kernel_rfl):lG f k=x (oG f) (lG f):=h2
abbrev la (f:Nat) {x:(Nat→List GI)→(Nat→AC)→AC} (_h:(λr l=>XN PG An Hs f r l)=x:=by conv=>lhs;reduce):AC:=x (oG f) (lG f)
abbrev ll (f k:Nat) {x:(Nat→List GI)→(Nat→AC)→AC} (_h:(λr l=>SF PG An Hs f r l k)=x:=by conv=>lhs;reduce):AC:=x (oG f) (lG f)
theorem AX (f:Nat) {x:List AR} (h:gR f=x:=by conv=>lhs;reduce):gR f=x:=h
theorem KN (f:Nat) (h:Cq Tryz.prog An f (gN f) (gA f) (gR f)=true:=by kernel_rfl):Cq Tryz.prog An f (gN f) (gA f) (gR f)=true:=h
theorem BU (f:Nat) {args rets:List V} (h:awp Tryz.prog An (gA f) (λe s=>(match e with| .exit _=>False|_=>True)∧Bw s (gR f)=some rets) ⟨AV args,[]⟩) (hk:Cq Tryz.prog An f (gN f) (gA f) (gR f)=true:=by kernel_rfl) (hn:args.length=gN f:=by rfl):PX f args rets:=Gg hk hn h
variable {h h':List Row} {args rets:List D}
theorem Fn (f:Nat) (hw:awp Tryz.prog An (gA f) (λe s=>(match e with| .exit _=>False|_=>True)∧DS s (gR f)=some rets∧s.h=h') ⟨Ab args,h⟩) (hk:Cq Tryz.prog An f (gN f) (gA f) (gR f)=true:=by kernel_rfl) (hn:args.length=gN f:=by rfl):FX f args h rets h':=Ip hk hn hw
def Zw {P:Program} {GL:Ac}:=And.intro (@AE P GL) (And.intro (@AG P GL) (And.intro (@AU P GL) (@AL P GL)))
end
theorem nj:Cq Tryz.prog An 149 2 (cJ 251) P7=true:=by kernel_rfl
theorem ni:Cq Tryz.prog An 151 2 (cJ 252) P7=true:=by kernel_rfl
theorem nh:Cq Tryz.prog An 153 2 (cJ 253) P7=true:=by kernel_rfl
theorem nV:Cq Tryz.prog An 183 2 (cJ 272) P7=true:=by kernel_rfl
theorem nU:Cq Tryz.prog An 251 2 (cI 4 true) P7=true:=by kernel_rfl
theorem nT:Cq Tryz.prog An 252 2 (cI 1 false) P7=true:=by kernel_rfl
theorem nQ:Cq Tryz.prog An 253 2 (cI 3 true) P7=true:=by kernel_rfl
theorem nP:Cq Tryz.prog An 272 2 (cI 3 true) P7=true:=by kernel_rfl
theorem nO:Cq Tryz.prog An 277 2 (cJ 318) P7=true:=by kernel_rfl
theorem nN:Cq Tryz.prog An 293 2 (cJ 323) P7=true:=by kernel_rfl
theorem nM:Cq Tryz.prog An 318 2 (cI 4 true) P7=true:=by kernel_rfl
theorem nK:Cq Tryz.prog An 323 2 (cI 4 true) P7=true:=by kernel_rfl
mutual
def V.beq:V→V→Bool
 | .int k n,.int k' n'=>decide (k=k')&&decide (n=n')
 | .bool b,.bool b'=>b==b'
 | .str s,.str s'=>decide (s=s')
 | .list xs,.list ys=>V.beqs xs ys
 | .agg xs,.agg ys=>V.beqs xs ys
 | .ptr xs,.ptr ys=>V.beqs xs ys
 | .nilp,.nilp=>true
 | .func f cs,.func g ds=>f==g&&V.beqs cs ds
 | .nilf,.nilf=>true
 | .nilm,.nilm=>true
 |_,_=>false
def V.beqs:List V→List V→Bool
 |[],[]=>true
 |x::xs,y::ys=>V.beq x y&&V.beqs xs ys
 |_,_=>false
end
mutual
theorem V.beq_eq:∀ {x y:V},V.beq x y=true→x=y
 | .int k n,y,h=>by cases y<;>simp_all [V.beq]
 | .bool b,y,h=>by cases y<;>simp_all [V.beq]
 | .str s,y,h=>by cases y<;>simp_all [V.beq]
 | .list xs,y,h=>by cases y<;>simp only[V.beq,qY]at h;rw[V.beqs_eq h]
 | .agg xs,y,h=>by cases y<;>simp only[V.beq,qY]at h;rw[V.beqs_eq h]
 | .ptr xs,y,h=>by cases y<;>simp only[V.beq,qY]at h;rw[V.beqs_eq h]
 | .nilp,y,h=>by cases y<;>simp_all [V.beq]
 | .func f cs,y,h=>by
  cases y<;>simp only[V.beq,qY,qI,beq_iff_eq]at h
  rw[h.1,V.beqs_eq h.2]
 | .nilf,y,h=>by cases y<;>simp_all [V.beq]
 | .nilm,y,h=>by cases y<;>simp_all [V.beq]
theorem V.beqs_eq:∀ {xs ys:List V},V.beqs xs ys=true→xs=ys
 |[],ys,h=>by cases ys<;>simp_all [V.beqs]
 |x::xs,ys,h=>by
  cases ys with
  |nil=>simp[V.beqs]at h
  |cons y ys=>
   simp only[V.beqs,qI]at h;rw[V.beq_eq h.1,V.beqs_eq h.2]
end
mutual
def D.beq:D→D→Bool
 | .v x,.v y=>V.beq x y
 | .any,.any=>true
 | .nil e s,.nil e' s'=>e==e'&&s==s'
 | .own e s xs,.own e' s' ys=>e==e'&&s==s'&&V.beqs xs ys
 | .agg ds,.agg es=>D.beqs ds es
 | .tup ds,.tup es=>D.beqs ds es
 | .ref r o,.ref r' o'=>r==r'&&o==o'
 | .sref r n,.sref r' n'=>r==r'&&n==n'
 | .mref r,.mref r'=>r==r'
 | .func f cs,.func g ds=>f==g&&D.beqs cs ds
 | .meth f cs,.meth g ds=>f==g&&D.beqs cs ds
 | .yld r,.yld r'=>r==r'
 |_,_=>false
def D.beqs:List D→List D→Bool
 |[],[]=>true
 |x::xs,y::ys=>D.beq x y&&D.beqs xs ys
 |_,_=>false
end
mutual
theorem D.beq_eq:∀ {x y:D},D.beq x y=true→x=y
 | .v x,y,h=>by cases y<;>simp only[D.beq,qY]at h;rw[V.beq_eq h]
 | .any,y,h=>by cases y<;>simp_all [D.beq]
 | .nil e s,y,h=>by cases y<;>simp_all [D.beq]
 | .own e s xs,y,h=>by
  cases y<;>simp only[D.beq,qY,qI,beq_iff_eq]at h
  rw[h.1.1,h.1.2,V.beqs_eq h.2]
 | .agg ds,y,h=>by cases y<;>simp only[D.beq,qY]at h;rw[D.beqs_eq h]
 | .tup ds,y,h=>by cases y<;>simp only[D.beq,qY]at h;rw[D.beqs_eq h]
 | .ref r o,y,h=>by cases y<;>simp_all [D.beq]
 | .sref r n,y,h=>by cases y<;>simp_all [D.beq]
 | .mref r,y,h=>by cases y<;>simp_all [D.beq]
 | .func f cs,y,h=>by
  cases y<;>simp only[D.beq,qY,qI,beq_iff_eq]at h
  rw[h.1,D.beqs_eq h.2]
 | .meth f cs,y,h=>by
  cases y<;>simp only[D.beq,qY,qI,beq_iff_eq]at h
  rw[h.1,D.beqs_eq h.2]
 | .yld r,y,h=>by cases y<;>simp_all [D.beq]
 | .pend b e s xs,y,h=>by simp[D.beq]at h
 | .pptr b s n,y,h=>by simp[D.beq]at h
theorem D.beqs_eq:∀ {xs ys:List D},D.beqs xs ys=true→xs=ys
 |[],ys,h=>by cases ys<;>simp_all [D.beqs]
 |x::xs,ys,h=>by
  cases ys with
  |nil=>simp[D.beqs]at h
  |cons y ys=>
   simp only[D.beqs,qI]at h;rw[D.beq_eq h.1,D.beqs_eq h.2]
end
def Kx {α:Type} (f:α→α→Bool):List α→List α→Bool
 |[],[]=>true
 |x::xs,y::ys=>f x y&&Kx f xs ys
 |_,_=>false
theorem LC {α:Type} {f:α→α→Bool} (hf:∀x y,f x y=true→x=y):∀ {xs ys:List α},Kx f xs ys=true→xs=ys
 |[],ys,h=>by cases ys<;>simp_all [Kx]
 |x::xs,ys,h=>by
  cases ys with
  |nil=>simp[Kx]at h
  |cons y ys=>
   simp only[Kx,qI]at h;rw[hf _ _ h.1,LC hf h.2]
def Row.beq:Row→Row→Bool
 | .cells ds,.cells es=>D.beqs ds es
 | .map es bs ck,.map fs cs dk=>Kx (λp q=>V.beq p.1 q.1&&V.beq p.2 q.2) es fs&&Kx (λa b:Nat=>a==b) bs cs&&ck==dk
 | .dead,.dead=>true
 |_,_=>false
theorem Row.beq_eq {x y:Row} (h:Row.beq x y=true):x=y:=by
 cases x<;>cases y<;>simp only[Row.beq,qY]at h
 ·rw[D.beqs_eq h]
 ·simp only[qI,beq_iff_eq]at h;rw[LC (λp q h=>by
   simp only[qI]at h;exact tF (V.beq_eq h.1) (V.beq_eq h.2)) h.1.1,LC (λa b h=>by simpa using h) h.1.2,h.2]
 ·rfl
mutual
def D.lt (n:Nat):D→Bool
 | .ref r _=>decide (r <n)
 | .sref r _=>decide (r <n)
 | .mref r=>decide (r <n)
 | .yld r=>decide (r <n)
 | .agg ds=>D.lts n ds
 | .tup ds=>D.lts n ds
 | .func _ ds=>D.lts n ds
 | .meth _ ds=>D.lts n ds
 |_=>true
def D.lts (n:Nat):List D→Bool
 |[]=>true
 |d::ds=>D.lt n d&&D.lts n ds
end
def Row.lt (n:Nat):Row→Bool
 | .cells ds=>D.lts n ds
 |_=>true
def Pb (n:Nat) (h:List Row):List Row:=h.take n++List.replicate (h.length-n) .dead
theorem Pa (n:Nat) (h:List Row):(Pb n h).length=h.length:=by simp[Pb];omega
theorem Ho (n:Nat) (h:List Row) (r:Nat):(Pb n h)[r]?=if r <n then h[r]? else if r <h.length then some .dead else none:=by
 simp only[Pb];by_cases h1:r <n
 ·rw[if_pos h1];by_cases h2:r <h.length
  ·rw[qe (by simp;omega),qu,if_pos h1]
  ·rw[rG (by simp;omega),rG (by omega)]
 ·rw[if_neg h1];by_cases h2:r <h.length
  ·rw[if_pos h2,ql (by simp;omega),List.getElem?_replicate,if_pos (by simp;omega)]
  ·rw[if_neg h2,rG (by simp;omega)]
theorem Inv.kill {g:Gh} {w:World} {μ:List Nat} {t:Nat→D} {u:Nat→Value} {h:List Row} {O:Nat→Prop} (hi:Inv g w μ t u h O) (n:Nat):Inv g w μ t u (Go.Va.Pb n h) O:=by
 have hcell:∀r k v b,Ae (A9 (Go.Va.Pb n h) r k) v=some b→Ae (A9 h r k) v=some b:=by
  intro r k v b hb;simp only[A9,Ho]at hb ⊢;by_cases h1:r <n
  ·simp only[h1,if_true]at hb;exact hb
  ·simp only[h1,if_false]at hb;by_cases h2:r <h.length
   ·simp[h2,Ae]at hb
   ·simp[h2,Ae]at hb
 have hblk:∀p b,Cl t u (Go.Va.Pb n h) w μ p=some b→Cl t u h w μ p=some b:=by
  intro p b hp;cases p with
  |tmp m k=>exact hp
  |cell r k=>exact hcell r k _ b hp
 refine⟨hi.agree,hi.olt,hi.rep,by rw[Pa];exact hi.len,?_,hi.nod,hi.mo,λp q b hp hq=>hi.uniq p q b (hblk p b hp) (hblk q b hq),λp b hp=>hi.sep p b (hblk p b hp)⟩;intro r row b hr hb;rw[Ho]at hr;by_cases h1:r <n
 ·rw[if_pos h1]at hr;exact hi.rows r row b hr hb
 ·rw[if_neg h1]at hr;by_cases h2:r <h.length
  ·rw[if_pos h2]at hr;simp only[qF]at hr;subst hr;exact(hi.rows r _ b (qH h2) hb).lt
  ·rw[if_neg h2]at hr;cases hr
theorem FSp.kill {P:Program} {GL:Ac} {f:Nat} {args rets:List D} {h h':List Row} (hf:FSp P GL f args h rets h') (n:Nat):FSp P GL f args h rets (Go.Va.Pb n h'):=by
 refine⟨hf.1,λg w μ us O hinv hgl hall htame=>(hf.2 g w μ us O hinv hgl hall htame).mono ?_⟩;rintro e w' ⟨v,g',μ',rfl,h3,h4⟩;exact⟨v,g',μ',rfl,h3.kill n,h4⟩
structure LD where
 e:CH
 ps:List Nat
 asg:AC
 body:AC
abbrev Lp:=List (Nat×Tag×LD)
def Lp.get:Lp→Nat→Option (Tag×LD)
 |[],_=>none
 |x::t,r=>if x.1=r then some x.2 else Lp.get t r
def Lp.tag:Lp→Nat→Tag→Lp
 |[],_,_=>[]
 |x::t,r,g=>if x.1=r then (r,g,x.2.2)::t else x::Lp.tag t r g
def Tag.beq:Tag→Tag→Bool
 | .ready,.ready=>true
 | .busy,.busy=>true
 | .done none,.done none=>true
 | .done (some i),.done (some j)=>i==j
 |_,_=>false
theorem Tag.beq_eq {x y:Tag} (h:Tag.beq x y=true):x=y:=by
 unfold Tag.beq at h;split at h<;>simp_all
def Lp.beq:Lp→Lp→Bool
 |[],[]=>true
 |x::t,y::u=>x.1==y.1&&Tag.beq x.2.1 y.2.1&&Lp.beq t u
 |_,_=>false
structure ES where
 e:CH
 h:List Row
 t:Lp
section
variable (P:Program) (GL:Ac)
def Lp.ins:Lp→List Row→List Row
 |[],h=>h
 |x::t,h=>(Lp.ins t h).set x.1 (BF P GL x.2.1 x.2.2.e x.2.2.ps x.2.2.asg x.2.2.body)
end
def Lp.has (t:Lp) (r:Nat):Prop:=r∈t.map (·.1)
structure OKT (t:Lp) (h:List Row):Prop where
 dead:∀r,t.has r→h[r]?=some .dead
 nod:(t.map (·.1)).Nodup
def Lp.kin:Lp→Lp→Prop
 |[],[]=>True
 |x::t,y::u=>x.1=y.1∧x.2.2=y.2.2∧Lp.kin t u
 |_,_=>False
theorem Lp.kin.refl:∀t:Lp,t.kin t
 |[]=>trivial
 |x::t=>⟨rfl,rfl,Lp.kin.refl t⟩
theorem Lp.kin.trans:∀ {a b c:Lp},a.kin b→b.kin c→a.kin c
 |[],[],[],_,_=>trivial
 |x::a,y::b,z::c,h,h'=>⟨h.1.trans h'.1,h.2.1.trans h'.2.1,Lp.kin.trans h.2.2 h'.2.2⟩
 |[],[],_::_,_,h=>h.elim
 |[],_::_,_,h,_=>h.elim
 |_::_,[],_,h,_=>h.elim
 |_::_,_::_,[],_,h=>h.elim
theorem Lp.kin.map:∀ {a b:Lp},a.kin b→a.map (·.1)=b.map (·.1)
 |[],[],_=>rfl
 |x::a,y::b,h=>by simp only[qR,h.1,Lp.kin.map h.2.2]
 |[],_::_,h=>h.elim
 |_::_,[],h=>h.elim
theorem Lp.kin_tag:∀(t:Lp) (r:Nat) (g:Tag),t.kin (t.tag r g)
 |[],_,_=>trivial
 |x::t,r,g=>by
  simp only[Lp.tag];split
  ·rename_i h;exact⟨h,rfl,Lp.kin.refl t⟩
  ·exact⟨rfl,rfl,Lp.kin_tag t r g⟩
theorem Lp.beq_eq:∀ {a t u:Lp},a.kin t→a.kin u→Lp.beq t u=true→t=u
 |[],[],[],_,_,_=>rfl
 |x::a,y::t,z::u,h,h',hb=>by
  simp only[Lp.beq,qI,beq_iff_eq]at hb;have h1:=Tag.beq_eq hb.1.2;have h2:=Lp.beq_eq h.2.2 h'.2.2 hb.2;have h3:y=z:=tF hb.1.1 (tF h1 (h.2.1.symm.trans h'.2.1));rw[h2,h3]
 |[],[],_::_,_,h,_=>h.elim
 |[],_::_,_,h,_,_=>h.elim
 |_::_,[],_,h,_,_=>h.elim
 |_::_,_::_,[],_,h,_=>h.elim
variable {r:Nat} {h:List Row} {e:CH} {s':St}
section
variable {P:Program} {GL:Ac}
theorem DK:∀(t:Lp) (h:List Row),(t.ins P GL h).length=h.length
 |[],h=>rfl
 |x::t,h=>by simp only[Lp.ins,rD,DK t h]
theorem N0:∀(t:Lp) {h:List Row} {r:Nat},¬t.has r→(t.ins P GL h)[r]?=h[r]?
 |[],h,r,_=>rfl
 |x::t,h,r,hn=>by
  simp only[Lp.has,qR,qL,not_or]at hn;simp only[Lp.ins];rw[qz (Ne.symm hn.1)];exact N0 t hn.2
theorem JX:∀(t:Lp) {h:List Row} {r:Nat} {g:Tag} {l:LD},r <h.length→t.get r=some (g,l)→(t.ins P GL h)[r]?=some (BF P GL g l.e l.ps l.asg l.body)
 |[],h,r,g,l,_,hg=>by simp[Lp.get]at hg
 |x::t,h,r,g,l,hl,hg=>by
  simp only[Lp.get]at hg;simp only[Lp.ins];by_cases hx:x.1=r
  ·simp only[hx,if_true,qF]at hg;rw[hx,rA (by rw[DK];exact hl),hg]
  ·simp only[hx,if_false]at hg;rw[qz hx];exact JX t hl hg
theorem SB:∀(t:Lp) {h:List Row} {r:Nat} (x:Row),¬t.has r→t.ins P GL (h.set r x)=(t.ins P GL h).set r x
 |[],h,r,x,_=>rfl
 |y::t,h,r,x,hn=>by
  simp only[Lp.has,qR,qL,not_or]at hn;simp only[Lp.ins,SB t x hn.2];rw[List.set_comm _ _ hn.1]
theorem Lo:∀(t:Lp) {h:List Row} (x:Row),(∀r,t.has r→r <h.length)→t.ins P GL (h++[x])=t.ins P GL h++[x]
 |[],h,x,_=>rfl
 |y::t,h,x,hn=>by
  simp only[Lp.ins];rw[Lo t x λr hr=>hn r (by simp only[Lp.has,qR,qL];exact .inr hr)];rw[rp _ _ (by rw[DK];exact hn y.1 (by simp[Lp.has]))]
theorem Hp:∀(t:Lp) {h:List Row} (l:List Row),(∀r,t.has r→r <h.length)→t.ins P GL (h++l)=t.ins P GL h++l
 |[],h,l,_=>rfl
 |y::t,h,l,hn=>by
  simp only[Lp.ins];rw[Hp t l λr hr=>hn r (by simp only[Lp.has,qR,qL];exact .inr hr)];rw[rp _ _ (by rw[DK];exact hn y.1 (by simp[Lp.has]))]
theorem K7:∀(t:Lp) {r:Nat} {x:Tag×LD},t.get r=some x→t.has r
 |[],r,x,h=>by simp[Lp.get]at h
 |y::t,r,x,h=>by
  simp only[Lp.get]at h;simp only[Lp.has,qR,qL];split at h
  ·rename_i hy;exact .inl hy.symm
  ·exact .inr (K7 t h)
theorem Nz:∀(t:Lp) {h:List Row} {r:Nat} {g g':Tag} {l:LD},(t.map (·.1)).Nodup→t.get r=some (g,l)→(t.tag r g').ins P GL h=(t.ins P GL h).set r (BF P GL g' l.e l.ps l.asg l.body)
 |[],h,r,g,g',l,_,hg=>by simp[Lp.get]at hg
 |x::t,h,r,g,g',l,hn,hg=>by
  simp only[qR,sn]at hn;simp only[Lp.get]at hg;simp only[Lp.tag,Lp.ins];by_cases hx:x.1=r
  ·simp only[hx,if_true,qF]at hg;simp only[hx,if_true,Lp.ins,rI,hg]
  ·simp only[hx,if_false]at hg;simp only[hx,if_false,Lp.ins];rw[Nz t hn.2 hg,List.set_comm _ _ (Ne.symm hx)]
theorem N6:∀ {t u:Lp} {r:Nat} {g g':Tag} {l l':LD},t.kin u→t.get r=some (g,l)→u.get r=some (g',l')→l=l'
 |[],[],r,g,g',l,l',_,h,_=>by simp[Lp.get]at h
 |x::t,y::u,r,g,g',l,l',hk,h,h'=>by
  simp only[Lp.get]at h h';by_cases hx:x.1=r
  ·rw[←hk.1]at h';simp only[hx,if_true,qF]at h h';have:=hk.2.1;rw[h,h']at this;exact this
  ·rw[←hk.1]at h';simp only[hx,if_false]at h h';exact N6 hk.2.2 h h'
 |[],_::_,_,_,_,_,_,h,_,_=>h.elim
 |_::_,[],_,_,_,_,_,h,_,_=>h.elim
theorem OKT.nothas {t:Lp} (hk:OKT t h) {x:Row} (hr:h[r]?=some x) (hx:x≠ .dead):¬t.has r:=λhh=>by
 rw[hk.dead r hh]at hr;simp only[qF]at hr;exact hx hr.symm
theorem OKT.get {t:Lp} (hk:OKT t h) {x:Row} (hr:h[r]?=some x) (hx:x≠ .dead):(t.ins P GL h)[r]?=some x:=by
 rw[N0 t (hk.nothas hr hx)];exact hr
theorem OKT.set {t:Lp} {h:List Row} (hk:OKT t h) {r:Nat} {x y:Row} (hr:h[r]?=some x) (hx:x≠ .dead):OKT t (h.set r y)∧t.ins P GL (h.set r y)=(t.ins P GL h).set r y:=by
 refine⟨⟨λr' hr'=>?_,hk.nod⟩,SB t y (hk.nothas hr hx)⟩;have hne:r≠r':=λhe=>hk.nothas hr hx (he▸hr');rw[qz hne];exact hk.dead r' hr'
theorem OKT.lt {t:Lp} (hk:OKT t h) (hr:t.has r):r <h.length:=(qK.1 (hk.dead r hr)).1
theorem OKT.append {t:Lp} (hk:OKT t h) (x:Row):OKT t (h++[x])∧t.ins P GL (h++[x])=t.ins P GL h++[x]:=by
 refine⟨⟨λr hr=>?_,hk.nod⟩,Lo t x λr hr=>hk.lt hr⟩;rw[qe (hk.lt hr)];exact hk.dead r hr
theorem OKT.kin {t u:Lp} {h:List Row} (hk:OKT t h) (hu:t.kin u):OKT u h:=by
 refine⟨λr hr=>hk.dead r ?_,?_⟩
 ·simp only[Lp.has,hu.map];exact hr
 ·rw[←hu.map];exact hk.nod
theorem OKT.kill {t:Lp} {h:List Row} (hk:OKT t h) {n:Nat} (hn:∀r,t.has r→r <n):OKT t (Pb n h)∧t.ins P GL (Pb n h)=Pb n (t.ins P GL h):=by
 refine⟨⟨λr hr=>?_,hk.nod⟩,?_⟩
 ·rw[Ho,if_pos (hn r hr)];exact hk.dead r hr
 ·have Dn:∀(t:Lp),(∀r,t.has r→r <n)→t.ins P GL (Go.Va.Pb n h)=Go.Va.Pb n (t.ins P GL h):=by
   intro t;induction t with
   |nil=>intro _;rfl
   |cons x t ih=>
    intro hn;have hn':∀r,Lp.has t r→r <n:=λr hr=>hn r (by simp only[Lp.has,qR,qL];exact .inr hr);simp only[Lp.ins,ih hn'];have hx:x.1 <n:=hn x.1 (by simp[Lp.has]);apply rj;intro r;rw[Ho,rY,rY,Ho,Pa,rD];by_cases h1:x.1=r
    ·subst h1;simp[hx]
    ·simp[h1]
  exact Dn t hn
theorem OX {t:Lp} (hk:OKT t h) {i:PI} {x:D} (hv:i.val e h=some x):i.val e (t.ins P GL h)=some x:=by
 cases hkd:i.kd with
 |n=>rw[PI.val_heap (h2:=t.ins P GL h) hkd];exact hv
 |r=>
  cases i with
  |load a n ag=>
   simp only[PI.val]at hv ⊢;split at hv
   ·exact hv
   ·rename_i r off ha;split at hv
    ·rename_i ds hr;simp only[hk.get (P:=P) (GL:=GL) hr (by simp)];exact hv
    ·cases hv
   ·cases hv
  |look m k st ks zs ag ok=>
   simp only[PI.val]at hv ⊢;split at hv
   ·split at hv
    ·rename_i hok;rw[if_pos hok];split at hv
     ·rename_i z hz;split at hv
      ·exact hv
      ·rename_i r ha;split at hv
       ·rename_i es bs ck hr;simp only[hk.get (P:=P) (GL:=GL) hr (by simp)];exact hv
       ·cases hv
      ·cases hv
     ·cases hv
    ·cases hv
   ·cases hv
  |mlen m=>
   simp only[PI.val]at hv ⊢;split at hv
   ·exact hv
   ·rename_i r ha;split at hv
    ·rename_i es hr;simp only[hk.get (P:=P) (GL:=GL) hr (by simp)];exact hv
    ·cases hv
   ·cases hv
  |_=>cases hkd
 |a=>cases i<;>cases hkd
 |w=>cases i<;>cases hkd
 |t=>cases i<;>cases hkd
theorem Mo {t:Lp} (hk:OKT t h) {i:AI} (hs:i.step ⟨e,h⟩=some s'):i.step ⟨e,t.ins P GL h⟩=some ⟨s'.e,t.ins P GL s'.h⟩∧OKT t s'.h:=by
 cases i with
 |p d i=>
  simp only[AI.step,qQ]at hs ⊢;obtain⟨x,hx,rfl⟩:=hs;exact⟨⟨x,OX hk hx,rfl⟩,hk⟩
 |mv d x=>simp only[AI.step,qF]at hs ⊢;subst hs;exact⟨rfl,hk⟩
 |alloc d zs=>
  simp only[AI.step,qF]at hs ⊢;subst hs;obtain⟨h1,h2⟩:=hk.append (P:=P) (GL:=GL) (.cells zs);exact⟨by rw[h2,DK],h1⟩
 |box d x=>
  simp only[AI.step]at hs ⊢;split at hs
  ·rename_i cs hc;simp only[qF]at hs;subst hs;obtain⟨h1,h2⟩:=hk.append (P:=P) (GL:=GL) (.cells (cs.map D.toRow));exact⟨by rw[h2,DK],h1⟩
  ·cases hs
 |store a x n=>
  simp only[AI.step]at hs ⊢;split at hs
  ·rename_i r off ha;split at hs
   ·rename_i ds hr;simp only[hk.get (P:=P) (GL:=GL) hr (by simp)];split at hs
    ·rename_i e' sz xs hx;split at hs
     ·rename_i m;split at hs
      ·rename_i hc;simp only[qF]at hs;subst hs;obtain⟨h1,h2⟩:=hk.set (P:=P) (GL:=GL) (y:= .cells (ds.set off (.own e' sz xs))) hr (by simp);exact⟨by rw[if_pos hc,h2],h1⟩
      ·cases hs
     ·cases hs
    ·rename_i bb e' sz xs hx;split at hs
     ·rename_i m;split at hs
      ·rename_i hc;simp only[qF]at hs;subst hs;obtain⟨h1,h2⟩:=hk.set (P:=P) (GL:=GL) (y:= .cells (ds.set off (.pend bb e' sz xs))) hr (by simp);exact⟨by rw[if_pos hc,h2],h1⟩
      ·cases hs
     ·cases hs
    ·rename_i hne hne2;split at hs
     ·rename_i cs hc;split at hs
      ·rename_i hc2;simp only[qF]at hs;subst hs;obtain⟨h1,h2⟩:=hk.set (P:=P) (GL:=GL) (y:= .cells (AS ds off (cs.map D.toRow))) hr (by simp);exact⟨by simp only[hc,hc2,h2];simp[hc2],h1⟩
      ·cases hs
     ·cases hs
   ·cases hs
  ·cases hs
 |take d a=>
  simp only[AI.step]at hs ⊢;split at hs
  ·rename_i r off ha;split at hs
   ·rename_i ds hr;simp only[hk.get (P:=P) (GL:=GL) hr (by simp)];split at hs
    ·rename_i e' sz xs hx;simp only[qF]at hs;subst hs;obtain⟨h1,h2⟩:=hk.set (P:=P) (GL:=GL) (y:= .cells (ds.set off (.v (.list xs)))) hr (by simp);exact⟨by simp only[h2],h1⟩
    ·cases hs
   ·cases hs
  ·cases hs
 |app d x y e' sz by_=>
  simp only[AI.step]at hs ⊢;split at hs
  ·split at hs
   ·rename_i hc;simp only[qF]at hs;subst hs;exact⟨by rw[if_pos hc],hk⟩
   ·cases hs
  ·cases hs
 |appS d x y e' by_=>
  simp only[AI.step]at hs ⊢;split at hs
  ·split at hs
   ·rename_i hc;simp only[qF]at hs;subst hs;exact⟨by rw[if_pos hc],hk⟩
   ·cases hs
  ·cases hs
 |bsl d e' sz ps=>
  simp only[AI.step]at hs ⊢;split at hs
  ·split at hs
   ·rename_i hc;rw[if_pos hc];split at hs<;>(simp only[qF]at hs;subst hs;exact⟨rfl,hk⟩)
   ·cases hs
  ·cases hs
 |bsr d sz ps=>
  simp only[AI.step]at hs ⊢;split at hs
  ·rename_i cs hcs;simp only[qF]at hs;subst hs;obtain⟨h1,h2⟩:=hk.append (P:=P) (GL:=GL) (.cells cs);exact⟨by rw[h2,DK],h1⟩
  ·cases hs
 |s2b d x=>
  simp only[AI.step]at hs ⊢;split at hs
  ·simp only[qF]at hs;subst hs;exact⟨rfl,hk⟩
  ·cases hs
 |mksl d x z=>
  simp only[AI.step]at hs ⊢;split at hs
  ·rename_i k n hn;split at hs
   ·rename_i hc;simp only[qF]at hs;subst hs;obtain⟨h1,h2⟩:=hk.append (P:=P) (GL:=GL) (.cells (List.replicate n.toNat z));exact⟨by rw[if_pos hc,h2,DK],h1⟩
   ·cases hs
  ·cases hs
 |nilS d ne x=>cases hs
 |mkm d=>
  simp only[AI.step,qF]at hs ⊢;subst hs;obtain⟨h1,h2⟩:=hk.append (P:=P) (GL:=GL) (.map [] [] 0);exact⟨by rw[h2,DK],h1⟩
 |mput m k v st ks=>
  simp only[AI.step]at hs ⊢;split at hs
  ·rename_i r hm;split at hs
   ·rename_i es bs ck hr;simp only[hk.get (P:=P) (GL:=GL) hr (by simp)];split at hs
    ·rename_i kv vv hkv hvv;split at hs
     ·rename_i hko;rw[if_pos hko];split at hs
      ·simp only[qF]at hs;subst hs;obtain⟨h1,h2⟩:=hk.set (P:=P) (GL:=GL) (y:= .map (es++[(kv,vv)]) (bs++[ck]) (ck+1)) hr (by simp);exact⟨by rw[h2],h1⟩
      ·rename_i i hi;simp only[qF]at hs;subst hs;obtain⟨h1,h2⟩:=hk.set (P:=P) (GL:=GL) (y:= .map (es.set i (kv,vv)) bs ck) hr (by simp);exact⟨by rw[h2],h1⟩
      ·cases hs
     ·cases hs
    ·cases hs
   ·cases hs
  ·cases hs
 |ment d m k st ks=>
  simp only[AI.step]at hs ⊢;split at hs
  ·rename_i r hm;split at hs
   ·rename_i es bs ck hr;simp only[hk.get (P:=P) (GL:=GL) hr (by simp)];split at hs
    ·rename_i kv hkv;split at hs
     ·rename_i hko;rw[if_pos hko];split at hs
      ·rename_i i hi;split at hs
       ·simp only[qF]at hs;subst hs;exact⟨rfl,hk⟩
       ·cases hs
      ·cases hs
     ·cases hs
    ·cases hs
   ·cases hs
  ·cases hs
 |mest m b v=>
  simp only[AI.step]at hs ⊢;split at hs
  ·rename_i r hm;split at hs
   ·rename_i es bs ck hr;simp only[hk.get (P:=P) (GL:=GL) hr (by simp)];split at hs
    ·rename_i kk n vv hb hv;split at hs
     ·rename_i i hi;split at hs
      ·rename_i p hp;simp only[qF]at hs;subst hs;obtain⟨h1,h2⟩:=hk.set (P:=P) (GL:=GL) (y:= .map (es.set i (p.1,vv)) bs ck) hr (by simp);exact⟨by rw[h2],h1⟩
      ·cases hs
     ·cases hs
    ·cases hs
   ·cases hs
  ·cases hs
 |mdel d m k st ks=>
  simp only[AI.step]at hs ⊢;split at hs
  ·rename_i r hm;split at hs
   ·rename_i es bs ck hr;simp only[hk.get (P:=P) (GL:=GL) hr (by simp)];split at hs
    ·rename_i kv hkv;split at hs
     ·rename_i hko;rw[if_pos hko];split at hs
      ·simp only[qF]at hs;subst hs;exact⟨rfl,hk⟩
      ·rename_i i hi;simp only[qF]at hs;subst hs;obtain⟨h1,h2⟩:=hk.set (P:=P) (GL:=GL) (y:= .map (es.eraseIdx i) (bs.eraseIdx i) ck) hr (by simp);exact⟨by rw[h2],h1⟩
      ·cases hs
     ·cases hs
    ·cases hs
   ·cases hs
  ·cases hs
 |call d f args=>cases hs
 |callF d f args=>cases hs
 |callC d f args=>cases hs
 |callO d f q args=>cases hs
 |appR d x y e s b=>cases hs
 |frz d x s=>cases hs
 |callN d f args=>cases hs
 |appP d x y e s b=>cases hs
 |fin m ad p x sz=>
  simp only[AI.step]at hs ⊢;split at hs
  ·rename_i b s0 n y hp hx;split at hs
   ·rename_i b' e' s2 xs hf;split at hs
    ·rename_i hc;simp only[qF]at hs;subst hs;exact⟨by rw[if_pos hc],hk⟩
    ·cases hs
   ·rename_i hnp;split at hs
    ·rename_i r off ha;split at hs
     ·rename_i ds hr;split at hs
      ·rename_i b' e' s2 xs hd;split at hs
       ·rename_i hc;simp only[qF]at hs;subst hs;obtain⟨h1,h2⟩:=hk.set (P:=P) (GL:=GL) (y:= .cells (ds.set off (.own e' sz (xs++[y])))) hr (by simp);refine⟨?_,h1⟩;simp only[hk.get (P:=P) (GL:=GL) hr (by simp),hd,if_pos hc,h2]
       ·cases hs
      ·cases hs
     ·cases hs
    ·cases hs
  ·cases hs
 |mksz d x zs=>
  simp only[AI.step]at hs ⊢;split at hs
  ·rename_i k n hn;split at hs
   ·rename_i hc;simp only[qF]at hs;subst hs;obtain⟨h1,h2⟩:=hk.append (P:=P) (GL:=GL) (.cells (List.replicate n.toNat zs).flatten);exact⟨by rw[if_pos hc,h2,DK],h1⟩
   ·cases hs
  ·cases hs
 |cpy d x y sz=>
  simp only[AI.step]at hs ⊢;split at hs
  ·rename_i r n hx;split at hs
   ·rename_i ys hy;split at hs
    ·rename_i ds hr;simp only[hk.get (P:=P) (GL:=GL) hr (by simp)];split at hs
     ·rename_i hc;rw[if_pos hc];simp only[qF]at hs;subst hs;obtain⟨h1,h2⟩:=hk.set (P:=P) (GL:=GL) (y:= .cells ((ys.flatMap V.cells).map .v)) hr (by simp);exact⟨by rw[h2],h1⟩
     ·cases hs
    ·cases hs
   ·cases hs
  ·cases hs
end
section
structure Ev where
 F:Nat→List D→List Row→Lp→Option (List D×List Row×Lp)
 Pf:Nat→List V→Option (List V)
 C:AC→ES→Option (List (AExit×ES))
abbrev iM:=Nat→Option (Nat×AC×List AR)
def H6 {α β:Type} (f:α→Option (List β)):List α→Option (List β)
 |[]=>some []
 |x::xs=>match f x,H6 f xs with
  |some ys,some zs=>some (ys++zs)
  |_,_=>none
def Nt {α β:Type} (f:α→Option β):List α→Option (List β)
 |[]=>some []
 |x::xs=>match f x,Nt f xs with
  |some y,some zs=>some (y::zs)
  |_,_=>none
def M4 {α:Type} (eq:α→α→Bool):List α→Option α
 |[]=>none
 |x::xs=>if xs.all (eq x) then some x else none
theorem IS {α β:Type} {f:α→Option (List β)}:∀ {xs:List α} {ys:List β},H6 f xs=some ys→∀x∈xs,∃zs,f x=some zs∧∀z∈zs,z∈ys
 |[],ys,_,x,hx=>by simp at hx
 |x::xs,ys,h,y,hy=>by
  simp only[H6]at h;split at h
  ·rename_i asx bs ha hb;simp only[qF]at h;subst h;rcases qL.1 hy with rfl|hy
   ·exact⟨asx,ha,λz hz=>tV _ hz⟩
   ·obtain⟨zs,h1,h2⟩:=IS hb y hy;exact⟨zs,h1,λz hz=>tB _ (h2 z hz)⟩
  ·cases h
theorem JP {α β:Type} {f:α→Option β}:∀ {xs:List α} {ys:List β},Nt f xs=some ys→∀x∈xs,∃z,f x=some z∧z∈ys
 |[],ys,_,x,hx=>by simp at hx
 |x::xs,ys,h,y,hy=>by
  simp only[Nt]at h;split at h
  ·rename_i a bs ha hb;simp only[qF]at h;subst h;rcases qL.1 hy with rfl|hy
   ·exact⟨a,ha,by simp⟩
   ·obtain⟨z,h1,h2⟩:=JP hb y hy;exact⟨z,h1,by simp[h2]⟩
  ·cases h
theorem Ll {α β:Type} {f:α→Option β}:∀ {xs:List α} {ys:List β},Nt f xs=some ys→∀y∈ys,∃x∈xs,f x=some y
 |[],ys,h,y,hy=>by simp only[Nt,qF]at h;subst h;simp at hy
 |x::xs,ys,h,y,hy=>by
  simp only[Nt]at h;split at h
  ·rename_i a bs ha hb;simp only[qF]at h;subst h;rcases qL.1 hy with rfl|hy
   ·exact⟨x,by simp,ha⟩
   ·obtain⟨z,h1,h2⟩:=Ll hb y hy;exact⟨z,by simp[h1],h2⟩
  ·cases h
theorem Jw {α:Type} {eq:α→α→Bool} {xs:List α} {x:α} (h:M4 eq xs=some x):x∈xs∧∀y∈xs,y=x∨eq x y=true:=by
 cases xs with
 |nil=>simp[M4]at h
 |cons a xs=>
  simp only[M4]at h;split at h
  ·rename_i hall;simp only[qF]at h;subst h;refine⟨by simp,λy hy=>?_⟩;rcases qL.1 hy with rfl|hy
   ·exact .inl rfl
   ·exact .inr (qV.1 hall y hy)
  ·cases h
def Tm (t:Lp) (r:Nat):AExit→Bool×Lp
 | .normal=>(true,t.tag r .ready)
 | .ret=>(false,t.tag r (.done none))
 | .exit i=>(false,t.tag r (.done (some i)))
def oK (x y:Bool×List Row×Lp):Bool:=x.1==y.1&&Kx Row.beq x.2.1 y.2.1&&Lp.beq x.2.2 y.2.2
def oh (x y:List D×List Row×Lp):Bool:=D.beqs x.1 y.1&&Kx Row.beq x.2.1 y.2.1&&Lp.beq x.2.2 y.2.2
def iW (E:Ev) (r:Nat) (args:List D) (h:List Row) (t:Lp):Option (Bool×List Row×Lp):=
 match t.get r with
 |some (.ready,l)=>if args.length=l.ps.length then
   match E.C l.asg ⟨KT l.e l.ps args,h,t⟩with
   |some [(.normal,s1)]=>match s1.t.get r with
    |some (.ready,_)=>match E.C l.body ⟨s1.e,s1.h,s1.t.tag r .busy⟩with
     |some o2=>match Nt (λo=>match o.2.t.get r with
       |some (.busy,_)=>some ((Tm o.2.t r o.1).1,o.2.h,(Tm o.2.t r o.1).2)
       |_=>none) o2 with
      |some rs=>M4 oK rs
      |none=>none
     |none=>none
    |_=>none
   |_=>none
  else none
 |_=>none
def WB:List D→Option (List V)
 |[]=>some []
 | .v x::ds=>match WB ds with
  |some xs=>some (x::xs)
  |none=>none
 |_=>none
theorem QH:∀ {ds:List D} {vs:List V},WB ds=some vs→ds=vs.map .v
 |[],vs,h=>by simp only[WB,qF]at h;subst h;rfl
 |d::ds,vs,h=>by
  cases d<;>simp only[WB,reduceCtorEq]at h
  split at h
  ·rename_i xs hxs;simp only[qF]at h;subst h;simp only[qR,QH hxs]
  ·cases h
def KD (E:Ev) (f:Nat) (args:List D) (h:List Row) (t:Lp):Option (List D×List Row×Lp):=
 match WB args with
 |some vs=>match E.Pf f vs with
  |some rets=>some (rets.map .v,h,t)
  |none=>E.F f args h t
 |none=>E.F f args h t
def VH (E:Ev) (d:Option Nat) (f:Opd) (args:List Opd) (s:ES):Option (List ES):=
 match f.ev s.e with
 | .yld r=>(iW E r (Ar s.e args) s.h s.t).map λx=>[⟨CQ s.e d (.v (.bool x.1)),x.2.1,x.2.2⟩]
 | .meth fid fs=>(KD E fid (fs++Ar s.e args) s.h s.t).map λx=>[⟨CQ s.e d (Bj x.1),x.2.1,x.2.2⟩]
 |fd=>match Dt fd with
  |some (fid,caps)=>(KD E fid (Ar s.e args++caps) s.h s.t).map λx=>[⟨CQ s.e d (Bj x.1),x.2.1,x.2.2⟩]
  |none=>none
def cU (E:Ev) (i:AI) (s:ES):Option (List ES):=
 match i with
 | .call d f args=>VH E d f args s
 | .callF d f args=>VH E d f args s
 | .callC d f args=>VH E d f args s
 | .nilS d ne x=>match (x.ev s.e).copy with
  | .v (.list [])| .nil _ _=>some [⟨(d,.v (.bool (true != ne)))::s.e,s.h,s.t⟩,⟨(d,.v (.bool (false != ne)))::s.e,s.h,s.t⟩]
  | .v (.list (_::_))=>some [⟨(d,.v (.bool (false != ne)))::s.e,s.h,s.t⟩]
  |_=>none
 |i=>(i.step ⟨s.e,s.h⟩).map λs'=>[⟨s'.e,s'.h,s.t⟩]
def nv (E:Ev) (x:GI) (s:ES):Option (List ES):=
 match x.g with
 |none=>cU E x.i s
 |some (t,want)=>match AF s.e t with
  | .v (.bool b)=>if b=want then cU E x.i s else some [⟨CQ s.e x.i.dst (.tup []),s.h,s.t⟩]
  | .tup []=>some [⟨CQ s.e x.i.dst (.tup []),s.h,s.t⟩]
  |_=>none
def NK (E:Ev):List GI→ES→Option (List ES)
 |[],s=>some [s]
 |x::xs,s=>match nv E x s with
  |some ss=>H6 (NK E xs) ss
  |none=>none
def XS (E:Ev) (t:Lp) (fd:D) (args:List D) (h:List Row):Option (List D×List Row):=
 match (match fd with
  | .yld r=>(iW E r args h t).map λx=>([.v (.bool x.1)],x.2)
  | .meth fid fs=>KD E fid (fs++args) h t
  |fd=>match Dt fd with
   |some (fid,caps)=>KD E fid (args++caps) h t
   |none=>none:Option (List D×List Row×Lp))with
 |some x=>if Lp.beq t x.2.2 then some (x.1,x.2.1) else none
 |none=>none
def XR (E:Ev) (t:Lp) (i:AI) (s:St):Option St:=
 match i with
 | .callF d f args=>(XS E t (f.ev s.e) (Ar s.e args) s.h).map λx=>⟨CQ s.e d (Bj x.1),x.2⟩
 | .callC d f args=>match XS E t (f.ev s.e) (Ar s.e args) s.h with
  |some x=>if Kx Row.beq (x.2.take s.h.length) s.h then some ⟨CQ s.e d (Bj x.1),x.2⟩ else none
  |none=>none
 | .call d f args=>match (f.ev s.e).toV,IV s.e args with
  |some (.func fid caps),some vs=>(E.Pf fid (vs++caps)).map λrets=>⟨CQ s.e d (JG rets),s.h⟩
  |_,_=>none
 |i=>i.step s
def VG (E:Ev) (t0:Lp) (x:GI) (s:St):Option St:=
 match x.g with
 |none=>XR E t0 x.i s
 |some (t,want)=>match AF s.e t with
  | .v (.bool b)=>if b=want then XR E t0 x.i s else some ⟨CQ s.e x.i.dst (.tup []),s.h⟩
  | .tup []=>some ⟨CQ s.e x.i.dst (.tup []),s.h⟩
  |_=>none
def gG (E:Ev) (t0:Lp):List GI→St→Option St
 |[],s=>some s
 |x::xs,s=>match VG E t0 x s with
  |some s1=>gG E t0 xs s1
  |none=>none
def VF (E:Ev) (t0:Lp) (is:List GI):AT→St→Option (List St)
 | .done,s=>some [s]
 | .take i t,s=>match VG E t0 (is.getD i default) s with
  |some s1=>VF E t0 is t s1
  |none=>none
 | .pick c,s=>VF E t0 is c s
 | .alt i t r,s=>match VG E t0 (is.getD i default) s with
  |some s1=>match VF E t0 is t s1,VF E t0 is r s with
   |some a,some b=>some (a++b)
   |_,_=>none
  |none=>none
 | .none,_=>some []
def Zz (o s1:St):List (Nat×Nat):=s1.e.filterMap λp=>match p.2,AF o.e p.1 with
 | .ref a _,.ref b _=>some (b,a)
 | .sref a _,.sref b _=>some (b,a)
 | .mref a,.mref b=>some (b,a)
 |_,_=>none
def Rg (π:List (Nat×Nat)) (s:St):St:=⟨s.e.map λp=>(p.1,p.2.ren π),C6 π s.h⟩
def Ps (keep:List Nat) (a b:St):Bool:=D.beqs ((Bm a.e keep).map (·.2)) ((Bm b.e keep).map (·.2))&&Kx Row.beq a.h b.h
def WC (n0:Nat) (t:Lp) (keep:List Nat) (o s1:St):Bool:=
 Ps keep o s1||(t.isEmpty&&(let π:=Zz o s1;LY n0 o.h.length π&&M6 o.h&&Ps keep (Rg π o) s1))
def Gm (n0:Nat) (t:Lp) (keep:List Nat):List St→List St
 |[]=>[]
 |s1::ss=>s1::ss.filter λo=> !WC n0 t keep o s1
def KE (E:Ev) (ac:AC) (s:ES):Option (List (AExit×ES)):=
 match ac with
 | .skip=>some [(.normal,s)]
 | .reg ops keep=>(NK E ops s).map λss=>ss.map λs'=>(.normal,⟨Bm s'.e keep,s'.h,s'.t⟩)
 | .regD ops keep _=>(gG E s.t ops ⟨s.e,s.h⟩).map λs'=>[(.normal,⟨Bm s'.e keep,s'.h,s.t⟩)]
 | .regA ops keep _ t=>(VF E s.t ops t ⟨s.e,s.h⟩).map λss=>(Gm s.h.length s.t keep ss).map λs'=>(.normal,⟨Bm s'.e keep,s'.h,s.t⟩)
 | .regV _ _ _=>none
 | .seq a b=>match E.C a s with
  |some os=>H6 (λo=>match o.1 with| .normal=>E.C b o.2|e=>some [(e,o.2)]) os
  |none=>none
 | .cond x a b=>match x.ev s.e with
  | .v (.bool t)=>if t then E.C a s else E.C b s
  |_=>none
 | .block id c=>(E.C c s).map λos=>os.map λo=>match o.1 with| .exit id'=>if id'=id then (.normal,o.2) else o|_=>o
 | .loop c=>match E.C c s with
  |some os=>H6 (λo=>match o.1 with| .normal=>E.C (.loop c) o.2|e=>some [(e,o.2)]) os
  |none=>none
 | .never=>none
 | .exit id=>some [(.exit id,s)]
 | .ret=>some [(.ret,s)]
 | .rangeF q ps asg body=>match Dt (q.ev s.e)with
  |some (fid,caps)=>match E.F fid (.yld s.h.length::caps) (s.h++[.dead]) ((s.h.length,.ready,⟨L3 s.e,ps,asg,body⟩)::s.t)with
   |some (_,h',x::t')=>match x.2.1 with
    | .ready=>some [(.normal,⟨s.e,h',t'⟩)]
    | .busy=>none
    | .done none=>some [(.ret,⟨s.e,h',t'⟩)]
    | .done (some i)=>some [(.exit i,⟨s.e,h',t'⟩)]
   |_=>none
  |none=>none
abbrev QK:=Nat→List D→List Row→Option (List D×List Row)
def MQ (n:Nat) (x:List D×List Row×Lp):List D×List Row×Lp:=
 if D.lts n x.1&&(x.2.1.take n).all (Row.lt n) then (x.1,Pb n x.2.1,x.2.2) else x
def nx (T:iM) (Pr:QK) (E:Ev) (f:Nat) (args:List D) (h:List Row) (t:Lp):Option (List D×List Row×Lp):=
 match T f with
 |some (n,ac,rs)=>if args.length=n then
   match E.C ac ⟨Ab args,h,t⟩with
   |some os=>match Nt (λo=>match o.1 with
     | .exit _=>none
     |_=>(DS ⟨o.2.e,o.2.h⟩ rs).map λr=>MQ h.length (r,o.2.h,o.2.t)) os with
    |some xs=>M4 oh xs
    |none=>none
   |none=>none
  else none
 |none=>(Pr f args h).map λx=>(x.1,h++x.2,t)
def nu (T:iM) (E:Ev) (f:Nat) (vs:List V):Option (List V):=
 match T f with
 |some (n,ac,rs)=>if vs.length=n then
   match E.C ac ⟨AV vs,[],[]⟩with
   |some os=>match Nt (λo=>match o.1 with
     | .exit _=>none
     |_=>Bw ⟨o.2.e,o.2.h⟩ rs) os with
    |some xs=>M4 V.beqs xs
    |none=>none
   |none=>none
  else none
 |none=>none
def ev (T:iM) (Pr:QK):Nat→Ev
 |0=>⟨λ_ _ _ _=>none,λ_ _=>none,λ_ _=>none⟩
 |n+1=>⟨nx T Pr (ev T Pr n),nu T (ev T Pr n),KE (ev T Pr n)⟩
section
variable (P:Program) (GL:Ac)
def ES.real (s:ES):St:=⟨s.e,s.t.ins P GL s.h⟩
structure Snd (E:Ev):Prop where
 F:∀ {f args h t r},E.F f args h t=some r→OKT t h→FSp P GL f args (t.ins P GL h) r.1 (r.2.2.ins P GL r.2.1)∧t.kin r.2.2∧OKT r.2.2 r.2.1
 Pf:∀ {f vs rets},E.Pf f vs=some rets→PSp P GL f vs rets
 K:∀ {ac s os},E.C ac s=some os→OKT s.t s.h→∀o∈os,s.t.kin o.2.t∧OKT o.2.t o.2.h
 C:∀ {ac s os},E.C ac s=some os→OKT s.t s.h→awp P GL ac (λe s'=>∃o∈os,e=o.1∧s'=o.2.real P GL) (s.real P GL)
end
variable {h h':List Row} {args:List D} {f m n r:Nat} {s s':St} {e:CH} {Q:AExit→St→Prop}
section
variable {P:Program} {GL:Ac} {E:Ev} {T:iM} {Pr:QK}
theorem Nd (hb:Kx Row.beq h h'=true):h=h':=LC (λ_ _ h=>Row.beq_eq h) hb
theorem LG (t:Lp) (r:Nat) (e:AExit):t.kin (Tm t r e).2:=by cases e<;>exact Lp.kin_tag _ _ _
theorem NJ (hE:Snd P GL E) {t:Lp} {x:Bool×List Row×Lp} (he:iW E r args h t=some x) (hk:OKT t h):
  ZD P GL r args (t.ins P GL h) x.1 (x.2.2.ins P GL x.2.1)∧t.kin x.2.2∧OKT x.2.2 x.2.1:=by
 unfold iW at he;split at he
 ·rename_i l Dn;split at he
  ·rename_i hlen;split at he
   ·rename_i s1 h1;split at he
    ·rename_i l1 hget1;split at he
     ·rename_i o2 h2;split at he
      ·rename_i rs hrs;obtain⟨hmem,hall⟩:=Jw he;have hlt:r <h.length:=hk.lt (K7 t Dn);have hasg:=hE.C h1 hk;obtain⟨hk1,hok1⟩:=hE.K h1 hk (.normal,s1) (by simp);simp only at hk1 hok1;have hl1:l1=l:=(N6 hk1 Dn hget1).symm;subst hl1;have hokb:OKT (s1.t.tag r .busy) s1.h:=hok1.kin (Lp.kin_tag _ _ _);have hbody:=hE.C h2 hokb;have hK:=hE.K h2 hokb;have hkin:∀o∈o2,t.kin o.2.t∧OKT o.2.t o.2.h:=λo ho=>⟨(hk1.trans (Lp.kin_tag _ _ _)).trans (hK o ho).1,(hK o ho).2⟩;have hkx:t.kin x.2.2∧OKT x.2.2 x.2.1:=by
        obtain⟨o,ho,hz⟩:=Ll hrs x hmem;split at hz
        ·simp only[qF]at hz;subst hz;exact⟨(hkin o ho).1.trans (LG _ _ _),(hkin o ho).2.kin (LG _ _ _)⟩
        ·cases hz
       have hend:∀o∈o2,∃lb,o.2.t.get r=some (.busy,lb)∧lb=l1∧(Tm o.2.t r o.1).1=x.1∧o.2.h=x.2.1∧(Tm o.2.t r o.1).2=x.2.2:=by
        intro o ho;obtain⟨z,hz,hzm⟩:=JP hrs o ho;split at hz
        ·rename_i lb hgb;simp only[qF]at hz;subst hz;refine⟨lb,hgb,(N6 (hkin o ho).1 Dn hgb).symm,?_⟩;rcases hall _ hzm with rfl|heq
         ·exact⟨rfl,rfl,rfl⟩
         ·simp only[oK,qI,beq_iff_eq]at heq;exact⟨heq.1.1.symm,(Nd heq.1.2).symm,(Lp.beq_eq hkx.1 ((hkin o ho).1.trans (LG _ _ _)) heq.2).symm⟩
        ·cases hz
       refine⟨?_,hkx⟩;refine GX (JX t hlt Dn) hlen (AZ _ ?_ hasg);rintro e s' ⟨o,ho,rfl,rfl⟩;simp only[qO]at ho;subst ho;have hlt1:r <s1.h.length:=hok1.lt (K7 _ hget1);refine⟨rfl,JX _ hlt1 hget1,?_⟩;have e1:(s1.t.tag r .busy).ins P GL s1.h=(s1.t.ins P GL s1.h).set r (BF P GL .busy l1.e l1.ps l1.asg l1.body):=Nz _ hok1.nod hget1;simp only[ES.real,←e1];refine AZ _ ?_ hbody;rintro e s' ⟨o,ho,rfl,rfl⟩;obtain⟨lb,hgb,rfl,q1,q2,q3⟩:=hend o ho;have hok:=(hkin o ho).2;have hlt2:r <o.2.h.length:=hok.lt (K7 _ hgb);refine⟨JX _ hlt2 hgb,?_⟩;rw[←q1,←q2,←q3];cases o.1<;>exact⟨rfl,Nz _ hok.nod hgb⟩
      ·cases he
     ·cases he
    ·cases he
   ·cases he
  ·cases he
 ·cases he
theorem FI (hE:Snd P GL E) {t:Lp} {r:List D×List Row×Lp} (he:KD E f args h t=some r) (hk:OKT t h):
  FSp P GL f args (t.ins P GL h) r.1 (r.2.2.ins P GL r.2.1)∧t.kin r.2.2∧OKT r.2.2 r.2.1:=by
 unfold KD at he;split at he
 ·rename_i vs hvs;split at he
  ·rename_i rets hr;simp only[qF]at he;subst he;rw[QH hvs];exact⟨(hE.Pf hr).fsp _,Lp.kin.refl _,hk⟩
  ·exact hE.F he hk
 ·exact hE.F he hk
theorem Iu (hE:Snd P GL E) {d:Option Nat} {f:Opd} {args:List Opd} {s:ES} {os:List ES} (he:VH E d f args s=some os) (hk:OKT s.t s.h):
  (∀o∈os,s.t.kin o.t∧OKT o.t o.h)∧∀K:St→Prop,(∀o∈os,K (o.real P GL))→BZ P GL d f args K (s.real P GL):=by
 unfold VH at he;split at he
 ·rename_i r hf;simp only[qQ]at he;obtain⟨x,hx,rfl⟩:=he;obtain⟨h1,h2,h3⟩:=NJ hE hx hk;refine⟨λo ho=>by simp only[qO]at ho;subst ho;exact⟨h2,h3⟩,λK hK=>?_⟩;have hf':f.ev (s.real P GL).e= .yld r:=hf;simp only[BZ,hf'];have hK':=hK _ (qO.2 rfl);exact⟨x.1,_,h1,hK'⟩
 ·rename_i fid fs hf;simp only[qQ]at he;obtain⟨x,hx,rfl⟩:=he;obtain⟨h1,h2,h3⟩:=FI hE hx hk;refine⟨λo ho=>by simp only[qO]at ho;subst ho;exact⟨h2,h3⟩,λK hK=>?_⟩;have hf':f.ev (s.real P GL).e= .meth fid fs:=hf;simp only[BZ,hf'];have hK':=hK _ (qO.2 rfl);exact⟨x.1,_,h1,hK'⟩
 ·rename_i hny hnm;split at he
  ·rename_i fid caps hfn;simp only[qQ]at he;obtain⟨x,hx,rfl⟩:=he;obtain⟨h1,h2,h3⟩:=FI hE hx hk;refine⟨λo ho=>by simp only[qO]at ho;subst ho;exact⟨h2,h3⟩,λK hK=>?_⟩;simp only[BZ];split
   ·rename_i r hr;exact absurd hr (hny r)
   ·rename_i a b hr;exact absurd hr (hnm a b)
   ·have hfn':Dt (f.ev (s.real P GL).e)=some (fid,caps):=hfn;simp only[hfn'];have hK':=hK _ (qO.2 rfl);exact⟨x.1,_,h1,hK'⟩
  ·cases he
theorem NL (hE:Snd P GL E) {i:AI} {s:ES} {os:List ES} (he:cU E i s=some os) (hk:OKT s.t s.h):
  (∀o∈os,s.t.kin o.t∧OKT o.t o.h)∧∀K:St→Prop,(∀o∈os,K (o.real P GL))→Dg P GL i K (s.real P GL):=by
 by_cases hc:∃d f args,i= .call d f args∨i= .callF d f args∨i= .callC d f args
 ·obtain⟨d,f,args,rfl|rfl|rfl⟩:=hc
  ·exact Iu hE he hk
  ·exact Iu hE he hk
  ·exact Iu hE he hk
 ·by_cases hn:∃d ne x,i= .nilS d ne x
  ·obtain⟨d,ne,x,rfl⟩:=hn;simp only[cU]at he;have hx:∀(s':ES),(x.ev (ES.real P GL s').e)=x.ev s'.e:=λ_=>rfl;split at he<;>simp only[qF,reduceCtorEq]at he<;>subst he
   all_goals
    rename_i hcp;refine⟨λo ho=>?_,λK hK=>?_⟩
    ·simp only[qL,qn,or_false]at ho
     first
      |(rcases ho with rfl|rfl<;>exact⟨Lp.kin.refl _,hk⟩)
      |(subst ho;exact⟨Lp.kin.refl _,hk⟩)
    ·simp only[Dg,hx,hcp]
     first
      |(have h1:=hK _ (tG ..)
        have h2:=hK _ (sa _ (tG ..));exact⟨h1,h2⟩)
      |(have h1:=hK _ (tG ..)
        exact h1)
  ·have hs:cU E i s=(i.step ⟨s.e,s.h⟩).map λs'=>[⟨s'.e,s'.h,s.t⟩]:=by
    unfold cU;split
    ·exact absurd ⟨_,_,_,.inl rfl⟩ hc
    ·exact absurd ⟨_,_,_,.inr (.inl rfl)⟩ hc
    ·exact absurd ⟨_,_,_,.inr (.inr rfl)⟩ hc
    ·exact absurd ⟨_,_,_,rfl⟩ hn
    ·rfl
   rw[hs]at he;simp only[qQ]at he;obtain⟨s',hs',rfl⟩:=he;obtain⟨h1,h2⟩:=Mo (P:=P) (GL:=GL) hk hs';refine⟨λo ho=>by simp only[qO]at ho;subst ho;exact⟨Lp.kin.refl _,h2⟩,λK hK=>?_⟩;unfold Dg;split
   ·exact absurd ⟨_,_,_,.inl rfl⟩ hc
   ·exact absurd ⟨_,_,_,.inr (.inl rfl)⟩ hc
   ·exact absurd ⟨_,_,_,.inr (.inr rfl)⟩ hc
   ·cases hs'
   ·cases hs'
   ·cases hs'
   ·cases hs'
   ·cases hs'
   ·exact absurd ⟨_,_,_,rfl⟩ hn
   ·have hK':=hK _ (qO.2 rfl);simp only[ES.real,h1];exact hK'
theorem TA (hE:Snd P GL E) {x:GI} {s:ES} {os:List ES} (he:nv E x s=some os) (hk:OKT s.t s.h):
  (∀o∈os,s.t.kin o.t∧OKT o.t o.h)∧∀K:St→Prop,(∀o∈os,K (o.real P GL))→Iz P GL x K (s.real P GL):=by
 unfold nv at he;split at he
 ·rename_i hg;obtain⟨h1,h2⟩:=NL hE he hk;refine⟨h1,λK hK=>?_⟩;simp only[Iz,hg];exact h2 K hK
 ·rename_i t want hg;have skip:some [(⟨CQ s.e x.i.dst (.tup []),s.h,s.t⟩:ES)]=some os→(∀o∈os,s.t.kin o.t∧OKT o.t o.h)∧∀K:St→Prop,(∀o∈os,K (o.real P GL))→K ⟨CQ s.e x.i.dst (.tup []),s.t.ins P GL s.h⟩:=by
   intro h;simp only[qF]at h;subst h;exact⟨λo ho=>by simp only[qO]at ho;subst ho;exact⟨Lp.kin.refl _,hk⟩,λK hK=>by have hK':=hK _ (qO.2 rfl);exact hK'⟩
  have hfe:AF (s.real P GL).e t=AF s.e t:=rfl;split at he
  ·rename_i b hb;split at he
   ·rename_i hbw;obtain⟨h1,h2⟩:=NL hE he hk;refine⟨h1,λK hK=>?_⟩;simp only[Iz,hg,hfe,hb,hbw,if_true];exact h2 K hK
   ·rename_i hbw;obtain⟨h1,h2⟩:=skip he;refine⟨h1,λK hK=>?_⟩;simp only[Iz,hg,hfe,hb,hbw,if_false];exact h2 K hK
  ·rename_i hb;obtain⟨h1,h2⟩:=skip he;refine⟨h1,λK hK=>?_⟩;simp only[Iz,hg,hfe,hb];exact h2 K hK
  ·cases he
theorem Fv (hE:Snd P GL E):∀ {ops:List GI} {s:ES} {os:List ES},NK E ops s=some os→OKT s.t s.h→
  (∀o∈os,s.t.kin o.t∧OKT o.t o.h)∧∀K:St→Prop,(∀o∈os,K (o.real P GL))→Bd P GL ops K (s.real P GL)
 |[],s,os,he,hk=>by
  simp only[NK,qF]at he;subst he;exact⟨λo ho=>by simp only[qO]at ho;subst ho;exact⟨Lp.kin.refl _,hk⟩,λK hK=>hK _ (by simp)⟩
 |x::xs,s,os,he,hk=>by
  simp only[NK]at he;split at he
  ·rename_i ss hss;obtain⟨h1,h2⟩:=TA hE hss hk;refine⟨λo ho=>?_,λK hK=>?_⟩
   ·have:∃y∈ss,∃zs,NK E xs y=some zs∧o∈zs:=by
     clear h1 h2 hss;induction ss generalizing os with
     |nil=>simp only[H6,qF]at he;subst he;simp at ho
     |cons y ss ih=>
      simp only[H6]at he;split at he
      ·rename_i asx bs ha hb;simp only[qF]at he;subst he;rcases qW.1 ho with ho|ho
       ·exact⟨y,by simp,asx,ha,ho⟩
       ·obtain⟨y',hy',zs,q1,q2⟩:=ih _ hb ho;exact⟨y',by simp[hy'],zs,q1,q2⟩
      ·cases he
    obtain⟨y,hy,zs,q1,q2⟩:=this;obtain⟨r1,_⟩:=Fv hE q1 (h1 y hy).2;exact⟨(h1 y hy).1.trans (r1 o q2).1,(r1 o q2).2⟩
   ·refine h2 _ λy hy=>?_;obtain⟨zs,q1,q2⟩:=IS he y hy;exact(Fv hE q1 (h1 y hy).2).2 K λo ho=>hK o (q2 o ho)
  ·cases he
theorem KK {α β:Type} {f:α→Option (List β)}:∀ {xs:List α} {ys:List β},H6 f xs=some ys→∀y∈ys,∃x∈xs,∃zs,f x=some zs∧y∈zs
 |[],ys,h,y,hy=>by simp only[H6,qF]at h;subst h;simp at hy
 |x::xs,ys,h,y,hy=>by
  simp only[H6]at h;split at h
  ·rename_i asx bs ha hb;simp only[qF]at h;subst h;rcases qW.1 hy with hy|hy
   ·exact⟨x,by simp,asx,ha,hy⟩
   ·obtain⟨x',hx',zs,q1,q2⟩:=KK hb y hy;exact⟨x',by simp[hx'],zs,q1,q2⟩
  ·cases h
theorem Lv (hE:Snd P GL E) {i:AI} {t:Lp} (he:XR E t i ⟨e,h⟩=some s') (hk:OKT t h):KS P GL i ⟨e,t.ins P GL h⟩ ⟨s'.e,t.ins P GL s'.h⟩∧OKT t s'.h:=by
 unfold XR at he;have call:∀ {d:Option Nat} {f:Opd} {args:List Opd} {x:List D×List Row},XS E t (f.ev e) (Ar e args) h=some x→GV P GL (f.ev e) (Ar e args) (t.ins P GL h) x.1 (t.ins P GL x.2)∧OKT t x.2:=by
  intro d f args x hx;unfold XS at hx;split at hx
  ·rename_i y hy;split at hx
   ·rename_i hb;simp only[qF]at hx;subst hx;have fin:∀ {rets:List D} {z:List Row×Lp},GV P GL (f.ev e) (Ar e args) (t.ins P GL h) rets (z.2.ins P GL z.1)→t.kin z.2→OKT z.2 z.1→Lp.beq t z.2=true→
      GV P GL (f.ev e) (Ar e args) (t.ins P GL h) rets (t.ins P GL z.1)∧OKT t z.1:=by
     intro rets z hc hkin hok hb;have:=Lp.beq_eq (Lp.kin.refl t) hkin hb;rw[←this]at hc hok;exact⟨hc,hok⟩
    split at hy
    ·rename_i r hf;simp only[qQ]at hy;obtain⟨z,hz,rfl⟩:=hy;obtain⟨h1,h2,h3⟩:=NJ hE hz hk;have hf':f.ev e= .yld r:=hf;exact fin (z:=z.2) (by simp only[GV,hf'];exact⟨z.1,h1,rfl⟩) h2 h3 hb
    ·rename_i fid fs hf;obtain⟨h1,h2,h3⟩:=FI hE hy hk;have hf':f.ev e= .meth fid fs:=hf;exact fin (z:=y.2) (by simp only[GV,hf'];exact h1) h2 h3 hb
    ·rename_i hny hnm;split at hy
     ·rename_i fid caps hfn;obtain⟨h1,h2,h3⟩:=FI hE hy hk;refine fin (z:=y.2) ?_ h2 h3 hb;unfold GV;split
      ·rename_i r hr;exact absurd hr (hny r)
      ·rename_i a b hr;exact absurd hr (hnm a b)
      ·exact⟨fid,caps,hfn,h1⟩
     ·cases hy
   ·cases hx
  ·cases hx
 split at he
 ·rename_i d f args;simp only[qQ]at he;obtain⟨x,hx,rfl⟩:=he;obtain⟨h1,h2⟩:=call (d:=d) hx;exact⟨.inr (.inr (.inl ⟨d,f,args,x.1,_,.inl rfl,h1,rfl⟩)),h2⟩
 ·rename_i d f args;split at he
  ·rename_i x hx;split at he
   ·rename_i hb;simp only[qF]at he;subst he;obtain⟨h1,h2⟩:=call (d:=d) hx;refine⟨.inr (.inr (.inl ⟨d,f,args,x.1,_,.inr ⟨rfl,x.2.drop h.length,?_⟩,h1,rfl⟩)),h2⟩;have e1:x.2=h++x.2.drop h.length:=by
     have:=Nd hb;conv=>lhs;rw[←rJ h.length x.2,this]
    have e2:∀(l:List Row),Lp.ins P GL t (h++l)=Lp.ins P GL t h++l:=λl=>Hp t l λr hr=>hk.lt hr;show Lp.ins P GL t x.2=Lp.ins P GL t h++x.2.drop h.length;rw[←e2,←e1]
   ·cases he
  ·cases he
 ·rename_i d f args;split at he
  ·rename_i fid caps vs hf hv;simp only[qQ]at he;obtain⟨rets,hr,rfl⟩:=he;exact⟨.inr (.inl ⟨d,f,args,fid,caps,vs,rets,rfl,hf,hv,hE.Pf hr,rfl⟩),hk⟩
  ·cases he
 ·obtain⟨h1,h2⟩:=Mo (P:=P) (GL:=GL) hk he;exact⟨.inl h1,h2⟩
theorem It (hE:Snd P GL E) {x:GI} {t:Lp} (he:VG E t x ⟨e,h⟩=some s') (hk:OKT t h):BW P GL x ⟨e,t.ins P GL h⟩ ⟨s'.e,t.ins P GL s'.h⟩∧OKT t s'.h:=by
 unfold VG at he;split at he
 ·rename_i hg;simp only[BW,hg];exact Lv hE he hk
 ·rename_i tt want hg;split at he
  ·rename_i b hb;have hb':AF e tt= .v (.bool b):=hb;split at he
   ·rename_i hbw;simp only[BW,hg,hb',hbw,if_true];exact Lv hE he hk
   ·rename_i hbw;simp only[qF]at he;subst he;simp only[BW,hg,hb',hbw,if_false];exact⟨trivial,hk⟩
  ·rename_i hb;have hb':AF e tt= .tup []:=hb;simp only[qF]at he;subst he;simp only[BW,hg,hb'];exact⟨trivial,hk⟩
  ·cases he
theorem KC (hE:Snd P GL E) {t:Lp}:∀ {ops:List GI} {e:CH} {h:List Row} {s':St},gG E t ops ⟨e,h⟩=some s'→OKT t h→MR P GL ops ⟨e,t.ins P GL h⟩ ⟨s'.e,t.ins P GL s'.h⟩∧OKT t s'.h
 |[],e,h,s',he,hk=>by
  simp only[gG,qF]at he;subst he;exact⟨rfl,hk⟩
 |x::xs,e,h,s',he,hk=>by
  simp only[gG]at he;split at he
  ·rename_i s1 h1;obtain⟨q1,q2⟩:=It hE h1 hk;obtain⟨q3,q4⟩:=KC hE he q2;exact⟨⟨_,q1,q3⟩,q4⟩
  ·cases he
theorem KB (hE:Snd P GL E) {t:Lp} {is:List GI}:∀(tr:AT) {e:CH} {h:List Row} {os:List St},VF E t is tr ⟨e,h⟩=some os→OKT t h→
  (∀o∈os,OKT t o.h)∧∀K:St→Prop,(∀o∈os,K ⟨o.e,t.ins P GL o.h⟩)→tr.ok P GL is K ⟨e,t.ins P GL h⟩:=by
 intro tr;induction tr with
 |done=>
  intro e h os he hk;simp only[VF,qF]at he;subst he;exact⟨λo ho=>by simp only[qO]at ho;subst ho;exact hk,λK hK=>by have hK':=hK _ (qO.2 rfl);exact hK'⟩
 |take i tr ih=>
  intro e h os he hk;simp only[VF]at he;split at he
  ·rename_i s1 h1;obtain⟨q1,q2⟩:=It hE h1 hk;obtain⟨q3,q4⟩:=ih he q2;exact⟨q3,λK hK=>⟨_,q1,q4 K hK⟩⟩
  ·cases he
 |pick c ih=>intro e h os he hk;exact ih he hk
 |alt i tr r iht ihr=>
  intro e h os he hk;simp only[VF]at he;split at he
  ·rename_i s1 h1;obtain⟨q1,q2⟩:=It hE h1 hk;split at he
   ·rename_i a b ha hb;simp only[qF]at he;subst he;obtain⟨q3,q4⟩:=iht ha q2;obtain⟨q5,q6⟩:=ihr hb hk;refine⟨λo ho=>(qW.1 ho).elim (q3 o) (q5 o),λK hK=>⟨⟨_,q1,q4 K λo ho=>hK o (tV _ ho)⟩,q6 K λo ho=>hK o (tB _ ho)⟩⟩
   ·cases he
  ·cases he
 |none=>
  intro e h os he hk;simp only[VF,qF]at he;subst he;exact⟨by simp,λK _=>trivial⟩
theorem Qm {n0:Nat} {t:Lp} {keep:List Nat} {ss:List St} {o:St} (h:o∈Gm n0 t keep ss):o∈ss:=by
 cases ss with
 |nil=>exact h
 |cons s1 ss=>
  simp only[Gm,qL,r9]at h ⊢;rcases h with h|h
  ·exact .inl h
  ·exact .inr h.1
theorem M5:∀(e e':CH) (keep:List Nat),(Bm e keep).map (·.2)=(Bm e' keep).map (·.2)→Bm e keep=Bm e' keep
 |_,_,[],_=>rfl
 |e,e',n::ns,h=>by
  simp only[Bm,qR,List.cons.injEq]at h ⊢;exact⟨by rw[h.1],M5 e e' ns h.2⟩
theorem Lx {keep:List Nat} {a b:St} (h:Ps keep a b=true):Bm a.e keep=Bm b.e keep∧a.h=b.h:=by
 simp only[Ps,qI]at h;exact⟨M5 _ _ _ (D.beqs_eq h.1),Nd h.2⟩
theorem Es (π:List (Nat×Nat)):∀(e:CH) (n:Nat),AF (e.map λp=>(p.1,p.2.ren π)) n=(AF e n).ren π
 |[],n=>by simp only[rW,AF,D.ren]
 |p::e,n=>by
  simp only[qR,AF];by_cases h:p.1=n
  ·simp[h]
  ·rw[if_neg h,if_neg h,Es π e n]
theorem Nr {n0:Nat} {t:Lp} {keep:List Nat} {ss:List St} {o:St} (h:o∈ss):
  ∃s1∈Gm n0 t keep ss,∃s2,RJ n0 ⟨o.e,t.ins P GL o.h⟩ s2∧(⟨Bm s2.e keep,s2.h⟩:St)=ES.real P GL ⟨Bm s1.e keep,s1.h,t⟩:=by
 cases ss with
 |nil=>simp at h
 |cons s1 ss=>
  have own:∀o,o∈Gm n0 t keep (s1::ss)→∃s1'∈Gm n0 t keep (s1::ss),∃s2,RJ n0 ⟨o.e,t.ins P GL o.h⟩ s2∧(⟨Bm s2.e keep,s2.h⟩:St)=ES.real P GL ⟨Bm s1'.e keep,s1'.h,t⟩:=
   λo ho=>⟨o,ho,_,.inl rfl,rfl⟩
  rcases qL.1 h with rfl|h
  ·exact own _ (by simp[Gm])
  ·cases ha:WC n0 t keep o s1 with
   |false=>exact own o (by simp only[Gm,qL,r9];exact .inr ⟨h,by simp[ha]⟩)
   |true=>
    refine⟨s1,by simp[Gm],?_⟩;simp only[WC,sZ,qI]at ha;rcases ha with ha|⟨hte,⟨hp,hno⟩,he⟩
    ·obtain⟨h1,h2⟩:=Lx ha;exact⟨⟨o.e,t.ins P GL o.h⟩,.inl rfl,by simp only[ES.real,h1,h2]⟩
    ·have htn:t=[]:=by simpa using hte
     subst htn;obtain⟨h1,h2⟩:=Lx he;refine⟨Rg (Zz o s1) o,.inr ⟨Zz o s1,hp,hno,λn=>Es _ _ _,rfl⟩,?_⟩;simp only[ES.real,Lp.ins,h1,h2]
theorem gH (hE:Snd P GL E) {ac:AC} {s:ES} {os:List (AExit×ES)} (he:KE E ac s=some os) (hk:OKT s.t s.h):∀o∈os,s.t.kin o.2.t∧OKT o.2.t o.2.h:=by
 have here:∀(e:AExit),∀o∈[(e,s)],s.t.kin o.2.t∧OKT o.2.t o.2.h:=λe o ho=>by simp only[qO]at ho;subst ho;exact⟨Lp.kin.refl _,hk⟩
 cases ac with
 |skip=>simp only[KE,qF]at he;subst he;exact here _
 |reg ops keep=>
  simp only[KE,qQ]at he;obtain⟨ss,hs,rfl⟩:=he;intro o ho;obtain⟨y,hy,rfl⟩:=qX.1 ho;exact(Fv hE hs hk).1 y hy
 |regD ops keep cl=>
  simp only[KE,qQ]at he;obtain⟨s',hs,rfl⟩:=he;intro o ho;simp only[qO]at ho;subst ho;exact⟨Lp.kin.refl _,(KC hE hs hk).2⟩
 |regV ops keep cl=>simp[KE]at he
 |regA ops keep cl t=>
  simp only[KE,qQ]at he;obtain⟨ss,hs,rfl⟩:=he;intro o ho;obtain⟨y,hy,rfl⟩:=qX.1 ho;exact⟨Lp.kin.refl _,(KB hE t hs hk).1 y (Qm hy)⟩
 |seq a b=>
  simp only[KE]at he;split at he
  ·rename_i o1 h1;intro o ho;obtain⟨x,hx,zs,q1,q2⟩:=KK he o ho;have k1:=hE.K h1 hk x hx;split at q1
   ·have k2:=hE.K q1 k1.2 o q2;exact⟨k1.1.trans k2.1,k2.2⟩
   ·simp only[qF]at q1;subst q1;simp only[qO]at q2;subst q2;exact k1
  ·cases he
 |cond x a b=>
  simp only[KE]at he;split at he
  ·split at he
   ·exact hE.K he hk
   ·exact hE.K he hk
  ·cases he
 |block id c=>
  simp only[KE,qQ]at he;obtain⟨ss,hs,rfl⟩:=he;intro o ho;obtain⟨y,hy,rfl⟩:=qX.1 ho;have:=hE.K hs hk y hy;split
  ·split
   ·exact this
   ·exact this
  ·exact this
 |loop c=>
  simp only[KE]at he;split at he
  ·rename_i o1 h1;intro o ho;obtain⟨x,hx,zs,q1,q2⟩:=KK he o ho;have k1:=hE.K h1 hk x hx;split at q1
   ·have k2:=hE.K q1 k1.2 o q2;exact⟨k1.1.trans k2.1,k2.2⟩
   ·simp only[qF]at q1;subst q1;simp only[qO]at q2;subst q2;exact k1
  ·cases he
 |never=>cases he
 |exit id=>simp only[KE,qF]at he;subst he;exact here _
 |ret=>simp only[KE,qF]at he;subst he;exact here _
 |rangeF q ps asg body=>
  simp only[KE]at he;split at he
  ·rename_i fid caps hf;split at he
   ·rename_i rets h' x t' hF;have hk0:OKT ((s.h.length,Tag.ready,(⟨L3 s.e,ps,asg,body⟩:LD))::s.t) (s.h++[.dead]):=by
     obtain⟨h1,_⟩:=hk.append (P:=P) (GL:=GL) .dead;refine⟨λr hr=>?_,?_⟩
     ·simp only[Lp.has,qR,qL]at hr;rcases hr with rfl|hr
      ·simp
      ·exact h1.dead r hr
     ·rw[qR,sn];exact⟨λhh=>by have:=hk.lt hh;simp at this,hk.nod⟩
    obtain⟨_,k2,k3⟩:=hE.F hF hk0;have k4:s.t.kin t':=k2.2.2;have k5:OKT t' h':=⟨λr hr=>k3.dead r (by simp only[Lp.has,qR,qL];exact .inr hr),by have:=k3.nod;rw[qR,sn]at this;exact this.2⟩;intro o ho;split at he<;>simp only[qF,reduceCtorEq]at he<;>subst he<;>simp only[qO]at ho<;>subst ho<;>exact⟨k4,k5⟩
   ·cases he
  ·cases he
def LoopW (P:Program) (GL:Ac) (c:AC) (Q:AExit→St→Prop):Nat→St→Prop
 |0,_=>False
 |n+1,s=>awp P GL c (λe s'=>match e with| .normal=>LoopW P GL c Q n s'|e=>Q e s') s
theorem LoopW.step {c:AC} {Q:AExit→St→Prop}:∀ {n:Nat} {s:St},LoopW P GL c Q n s→LoopW P GL c Q (n+1) s
 |0,s,h=>h.elim
 |n+1,s,h=>by
  refine AZ c ?_ h;intro e s' h;cases e with
  |normal=>exact LoopW.step h
  |exit i=>exact h
  |ret=>exact h
theorem LoopW.le {c:AC} (h:LoopW P GL c Q n s) (hm:n≤m):LoopW P GL c Q m s:=by
 induction hm with
 |refl=>exact h
 |step _ ih=>exact ih.step
theorem LoopW.awp {c:AC} {Q:AExit→St→Prop} {n:Nat} {s:St} (h:LoopW P GL c Q n s):Go.Va.awp P GL (.loop c) Q s:=by
 refine⟨λm s=>LoopW P GL c Q m s,⟨n,h⟩,λm s h=>?_⟩;cases m with
 |zero=>exact h.elim
 |succ m=>
  refine AZ c ?_ h;intro e s' h;cases e with
  |normal=>exact⟨m,by omega,h⟩
  |exit i=>exact h
  |ret=>exact h
theorem NR {c:AC} (h:awp P GL (.loop c) Q s):∃n,LoopW P GL c Q n s:=by
 obtain⟨I,⟨m,hm⟩,h⟩:=h
 suffices ∀m s,I m s→LoopW P GL c Q (m+1) s from⟨_,this m s hm⟩
 intro m;induction m using Nat.strongRecOn with
 |_ m ih=>
  intro s hs;refine AZ c ?_ (h m s hs);intro e s' h;cases e with
  |normal=>obtain⟨m',hlt,hI⟩:=h;exact(ih m' hlt s' hI).le hlt
  |exit i=>exact h
  |ret=>exact h
theorem ST {α:Type} {p:Nat→α→Prop} (hp:∀n m x,n≤m→p n x→p m x):∀ {xs:List α},(∀x∈xs,∃n,p n x)→∃n,∀x∈xs,p n x
 |[],_=>⟨0,by simp⟩
 |x::xs,h=>by
  obtain⟨n,hn⟩:=h x (by simp);obtain⟨m,hm⟩:=ST hp (xs:=xs) λy hy=>h y (by simp[hy]);refine⟨max n m,λy hy=>?_⟩;rcases qL.1 hy with rfl|hy
  ·exact hp _ _ _ (Nat.le_max_left _ _) hn
  ·exact hp _ _ _ (Nat.le_max_right _ _) (hm y hy)
theorem TF (hE:Snd P GL E) {ac:AC} {s:ES} {os:List (AExit×ES)} (he:KE E ac s=some os) (hk:OKT s.t s.h):awp P GL ac (λe s'=>∃o∈os,e=o.1∧s'=o.2.real P GL) (s.real P GL):=by
 cases ac with
 |skip=>
  simp only[KE,qF]at he;subst he;exact⟨_,qO.2 rfl,rfl,rfl⟩
 |reg ops keep=>
  simp only[KE,qQ]at he;obtain⟨ss,hs,rfl⟩:=he;rw[AG];exact(Fv hE hs hk).2 _ λo ho=>⟨_,qX.2 ⟨o,ho,rfl⟩,rfl,rfl⟩
 |regD ops keep cl=>
  simp only[KE,qQ]at he;obtain⟨s',hs,rfl⟩:=he;exact⟨_,(KC hE hs hk).1,_,qO.2 rfl,rfl,rfl⟩
 |regV ops keep cl=>simp[KE]at he
 |regA ops keep cl t=>
  simp only[KE,qQ]at he;obtain⟨ss,hs,rfl⟩:=he;rw[CO];obtain⟨hok,hall⟩:=KB hE t hs hk;refine hall _ λo ho=>?_;obtain⟨s1,hs1,hr⟩:=Nr (P:=P) (GL:=GL) (n0:=s.h.length) (t:=s.t) (keep:=keep) ho;obtain⟨s2,hren,heq⟩:=hr;have hl:(s.real P GL).h.length=s.h.length:=DK _ _;rw[hl];exact⟨s2,hren,_,qX.2 ⟨s1,hs1,rfl⟩,rfl,heq⟩
 |seq a b=>
  simp only[KE]at he;split at he
  ·rename_i o1 h1;rw[AE];refine AZ _ ?_ (hE.C h1 hk);rintro e s' ⟨o,ho,rfl,rfl⟩;obtain⟨zs,q1,q2⟩:=IS he o ho;have hko:=(hE.K h1 hk o ho).2;split at q1
   ·rename_i hn
    try rw[hn]
    refine AZ _ ?_ (hE.C q1 hko);rintro e s' ⟨o',ho',r⟩;exact⟨o',q2 o' ho',r⟩
   ·rename_i hn;simp only[qF]at q1;subst q1;have:=q2 _ (qO.2 rfl);cases he1:o.1 with
    |normal=>exact absurd he1 hn
    |exit i=>exact⟨_,this,he1.symm▸rfl,rfl⟩
    |ret=>exact⟨_,this,he1.symm▸rfl,rfl⟩
  ·cases he
 |cond x a b=>
  simp only[KE]at he;rw[AL];have hx:x.ev (s.real P GL).e=x.ev s.e:=rfl;split at he
  ·rename_i t ht;rw[hx,ht];simp only[];split at he
   ·rename_i htt;rw[if_pos htt];exact hE.C he hk
   ·rename_i htt;rw[if_neg htt];exact hE.C he hk
  ·cases he
 |block id c=>
  simp only[KE,qQ]at he;obtain⟨ss,hs,rfl⟩:=he;rw[AU];refine AZ _ ?_ (hE.C hs hk);rintro e s' ⟨o,ho,rfl,rfl⟩;have hm:=List.mem_map_of_mem (f:=λo:AExit×ES=>match o.1 with| .exit id'=>if id'=id then ((.normal,o.2):AExit×ES) else o|_=>o) ho
  obtain⟨e,s'⟩:=o;cases e with
  |normal=>exact⟨_,hm,rfl,rfl⟩
  |ret=>exact⟨_,hm,rfl,rfl⟩
  |exit i=>
   simp only at hm ⊢;by_cases hi:i=id
   ·simp only[hi,if_true]at hm ⊢;exact⟨_,hm,rfl,rfl⟩
   ·simp only[hi,if_false]at hm ⊢;exact⟨_,hm,rfl,rfl⟩
 |loop c=>
  simp only[KE]at he;split at he
  ·rename_i o1 h1;have hb:∀o∈o1,∃n,(match o.1 with| .normal=>LoopW P GL c (λe s'=>∃o∈os,e=o.1∧s'=o.2.real P GL) n (o.2.real P GL)|e=>∃o'∈os,e=o'.1∧o.2.real P GL=o'.2.real P GL):=by
    intro o ho;obtain⟨zs,q1,q2⟩:=IS he o ho;have hko:=(hE.K h1 hk o ho).2;split at q1
    ·rename_i hn;refine NR (AZ _ ?_ (hE.C q1 hko));rintro e s' ⟨o',ho',r⟩;exact⟨o',q2 o' ho',r⟩
    ·rename_i hn;simp only[qF]at q1;subst q1;have:=q2 _ (qO.2 rfl);cases he1:o.1 with
     |normal=>exact absurd he1 hn
     |exit i=>exact⟨0,_,this,he1.symm▸rfl,rfl⟩
     |ret=>exact⟨0,_,this,he1.symm▸rfl,rfl⟩
   obtain⟨n,hn⟩:=ST (λn m x hnm h=>by
    cases hx:x.1 with
    |normal=>simp only[hx]at h ⊢;exact h.le hnm
    |exit i=>simp only[hx]at h ⊢;exact h
    |ret=>simp only[hx]at h ⊢;exact h) hb
   refine LoopW.awp (n:=n+1) (AZ _ ?_ (hE.C h1 hk));rintro e s' ⟨o,ho,rfl,rfl⟩;have:=hn o ho;cases he1:o.1 with
   |normal=>simp only[he1]at this ⊢;exact this
   |exit i=>simp only[he1]at this ⊢;exact this
   |ret=>simp only[he1]at this ⊢;exact this
  ·cases he
 |never=>cases he
 |exit id=>
  simp only[KE,qF]at he;subst he;exact⟨_,qO.2 rfl,rfl,rfl⟩
 |ret=>
  simp only[KE,qF]at he;subst he;exact⟨_,qO.2 rfl,rfl,rfl⟩
 |rangeF q ps asg body=>
  simp only[KE]at he;split at he
  ·rename_i fid caps hf;split at he
   ·rename_i rets h' x t' hF;obtain⟨h1,h2⟩:=hk.append (P:=P) (GL:=GL) .dead;have hnl:¬s.t.has s.h.length:=λhh=>by have:=hk.lt hh;simp at this
    have hk0:OKT ((s.h.length,Tag.ready,(⟨L3 s.e,ps,asg,body⟩:LD))::s.t) (s.h++[.dead]):=by
     refine⟨λr hr=>?_,?_⟩
     ·simp only[Lp.has,qR,qL]at hr;rcases hr with rfl|hr
      ·simp
      ·exact h1.dead r hr
     ·rw[qR,sn];exact⟨hnl,hk.nod⟩
    obtain⟨k1,k2,k3⟩:=hE.F hF hk0;have hx1:s.h.length=x.1:=k2.1;have hx2:(⟨L3 s.e,ps,asg,body⟩:LD)=x.2.2:=k2.2.1;have hl:(s.real P GL).h.length=s.h.length:=DK _ _;have e0:Lp.ins P GL ((s.h.length,Tag.ready,(⟨L3 s.e,ps,asg,body⟩:LD))::s.t) (s.h++[.dead])=(s.real P GL).h++[BF P GL .ready (L3 s.e) ps asg body]:=by
     simp only[Lp.ins,h2,ES.real];rw[sP _ _ (by rw[DK];exact qM _),DK,tX];rfl
    have e1:Lp.ins P GL (x::t') h'=(Lp.ins P GL t' h').set s.h.length (BF P GL x.2.1 (L3 s.e) ps asg body):=by
     simp only[Lp.ins,←hx1,←hx2]
    have hd:=k3.dead x.1 (by simp[Lp.has]);have hlt:s.h.length <h'.length:=by rw[hx1];exact(qK.1 hd).1
    have hnt:¬Lp.has t' s.h.length:=by
     have:=k3.nod;rw[qR,sn]at this;rw[hx1];exact this.1
    simp only[e0,e1]at k1;rw[MF];have hq:∀Q:AExit→St→Prop,EE Q ⟨s.e,Lp.ins P GL t' h'⟩ x.2.1→
      ∃fid caps rets h' tag,Dt (q.ev (s.real P GL).e)=some (fid,caps)∧FSp P GL fid (.yld (s.real P GL).h.length::caps) ((s.real P GL).h++[BF P GL .ready (L3 (s.real P GL).e) ps asg body]) rets h'∧
       h'[(s.real P GL).h.length]?=some (BF P GL tag (L3 (s.real P GL).e) ps asg body)∧EE Q ⟨(s.real P GL).e,h'.set (s.real P GL).h.length .dead⟩ tag:=by
     intro Q hQ;refine⟨fid,caps,rets,(Lp.ins P GL t' h').set s.h.length (BF P GL x.2.1 (L3 s.e) ps asg body),x.2.1,hf,?_,?_,?_⟩
     ·rw[hl];exact k1
     ·rw[hl,rA (by rw[DK];exact hlt)];rfl
     ·rw[hl,rI];have:(Lp.ins P GL t' h').set s.h.length .dead=Lp.ins P GL t' h':=HV (by rw[N0 t' hnt,hx1];exact hd);rw[this];exact hQ
    refine hq _ ?_;split at he<;>simp only[qF,reduceCtorEq]at he<;>subst he<;>rename_i hxt<;>rw[hxt]<;>exact⟨_,qO.2 rfl,rfl,rfl⟩
   ·cases he
  ·cases he
theorem QE {t:Lp} {e:CH} {h:List Row} (hk:OKT t h):∀ {rs:List AR} {xs:List D},DS ⟨e,h⟩ rs=some xs→DS ⟨e,t.ins P GL h⟩ rs=some xs
 |[],xs,hx=>hx
 |r::rs,xs,hx=>by
  simp only[DS]at hx ⊢;split at hx
  ·rename_i y ys hy hys;rw[QE hk hys];have:r.d ⟨e,t.ins P GL h⟩=some y:=by
    cases r with
    |t n=>exact hy
    |c n sz ag=>
     simp only[AR.d,sK]at hy ⊢;obtain⟨d,hd,hd2⟩:=hy;exact⟨d,OX hk hd,hd2⟩
   rw[this];exact hx
  ·cases hx
theorem LH {t:Lp} {x:List D×List Row×Lp} (hk:t.kin x.2.2) (hok:OKT x.2.2 x.2.1) (hn:∀r,t.has r→r <n):
  t.kin (MQ n x).2.2∧OKT (MQ n x).2.2 (MQ n x).2.1∧(FSp P GL f args h x.1 (x.2.2.ins P GL x.2.1)→FSp P GL f args h (MQ n x).1 ((MQ n x).2.2.ins P GL (MQ n x).2.1)):=by
 unfold MQ;split
 ·have hn':∀r,Lp.has x.2.2 r→r <n:=λr hr=>hn r (by simp only[Lp.has,hk.map];exact hr);obtain⟨h1,h2⟩:=hok.kill (P:=P) (GL:=GL) hn';exact⟨hk,h1,λhf=>by simp only[h2];exact hf.kill n⟩
 ·exact⟨hk,hok,id⟩
theorem TE (hT:∀f n ac rs,T f=some (n,ac,rs)→Cq P GL f n ac rs=true)
  (hP:∀f args h x,Pr f args h=some x→∀t,OKT t h→FSp P GL f args (t.ins P GL h) x.1 (t.ins P GL h++x.2)) (hE:Snd P GL E) {t:Lp} {r:List D×List Row×Lp} (he:nx T Pr E f args h t=some r) (hk:OKT t h):
  FSp P GL f args (t.ins P GL h) r.1 (r.2.2.ins P GL r.2.1)∧t.kin r.2.2∧OKT r.2.2 r.2.1:=by
 unfold nx at he;split at he
 ·rename_i n ac rs htb;split at he
  ·rename_i hlen;split at he
   ·rename_i os hos;split at he
    ·rename_i xs hxs;obtain⟨hmem,hall⟩:=Jw he;have hK:=hE.K hos hk;have hC:=hE.C hos hk;simp only at hK;have hn:∀r,t.has r→r <h.length:=λr hr=>hk.lt hr;have outs:∀o∈os,∃y,(∀i,o.1≠ .exit i)∧DS ⟨o.2.e,o.2.h⟩ rs=some y∧MQ h.length (y,o.2.h,o.2.t)∈xs:=by
      intro o ho;obtain⟨z,hz,hzm⟩:=JP hxs o ho;split at hz
      ·cases hz
      ·rename_i hne;simp only[qQ]at hz;obtain⟨y,hy,rfl⟩:=hz;exact⟨y,λi hi=>hne i hi,hy,hzm⟩
     have kinx:∀y∈xs,t.kin y.2.2∧OKT y.2.2 y.2.1:=by
      intro y hy;obtain⟨o,ho,hz⟩:=Ll hxs y hy;have hko:=hK o ho;split at hz
      ·cases hz
      ·simp only[qQ]at hz;obtain⟨z,_,rfl⟩:=hz;obtain⟨q1,q2,_⟩:=LH (P:=P) (GL:=GL) (f:=f) (args:=args) (h:=h) (n:=h.length) (x:=(z,o.2.h,o.2.t)) hko.1 hko.2 hn;exact⟨q1,q2⟩
     have same:∀y∈xs,y=r:=by
      intro y hy;rcases hall y hy with h|h
      ·exact h
      ·simp only[oh,qI]at h;exact(tF (D.beqs_eq h.1.1) (tF (Nd h.1.2) (Lp.beq_eq (kinx r hmem).1 (kinx y hy).1 h.2))).symm
     refine⟨?_,kinx r hmem⟩;refine Pi (hT f n ac rs htb) hlen (AZ _ ?_ hC);rintro e s' ⟨o,ho,rfl,rfl⟩;obtain⟨y,hne,hy,hym⟩:=outs o ho;have hok:=hK o ho;obtain⟨_,_,q3⟩:=LH (P:=P) (GL:=GL) (f:=f) (args:=args) (h:=t.ins P GL h) (n:=h.length) (x:=(y,o.2.h,o.2.t)) hok.1 hok.2 hn;refine⟨?_,y,QE hok.2 hy,λg w μ t' u' O hi=>?_⟩
     ·cases hoe:o.1 with
      |normal=>trivial
      |ret=>trivial
      |exit i=>exact absurd hoe (hne i)
     ·rw[←same _ hym];unfold MQ;split
      ·have hn':∀r,Lp.has o.2.t r→r <h.length:=λr hr=>hn r (by simp only[Lp.has,hok.1.map];exact hr);obtain⟨_,h2⟩:=hok.2.kill (P:=P) (GL:=GL) hn';refine⟨rfl,?_⟩;simp only[h2];exact hi.kill _
      ·exact⟨rfl,hi⟩
    ·cases he
   ·cases he
  ·cases he
 ·simp only[qQ]at he;obtain⟨x,hr,rfl⟩:=he;have hlt:∀r,t.has r→r <h.length:=λr hr=>hk.lt hr;refine⟨?_,Lp.kin.refl _,⟨λr hr=>?_,hk.nod⟩⟩
  ·have:=hP f args h x hr t hk;simp only[Hp t x.2 hlt];exact this
  ·rw[qe (hlt r hr)];exact hk.dead r hr
theorem S9 (hT:∀f n ac rs,T f=some (n,ac,rs)→Cq P GL f n ac rs=true) (hE:Snd P GL E) {vs rets:List V} (he:nu T E f vs=some rets):PSp P GL f vs rets:=by
 unfold nu at he;split at he
 ·rename_i n ac rs htb;split at he
  ·rename_i hlen;split at he
   ·rename_i os hos;split at he
    ·rename_i xs hxs;obtain⟨hmem,hall⟩:=Jw he;have hk:OKT ([]:Lp) ([]:List Row):=⟨λr hr=>by simp[Lp.has]at hr,by simp⟩;have hK:=hE.K hos hk;have hC:=hE.C hos hk;refine Gg (hT f n ac rs htb) hlen (AZ _ ?_ hC);rintro e s' ⟨o,ho,rfl,rfl⟩;obtain⟨z,hz,hzm⟩:=JP hxs o ho;have hzr:z=rets:=by
      rcases hall z hzm with h|h
      ·exact h
      ·exact(V.beqs_eq h).symm
     have ht:o.2.t=[]:=by
      have:=(hK o ho).1;simp only at this;cases h:o.2.t with
      |nil=>rfl
      |cons a b=>rw[h]at this;exact this.elim
     split at hz
     ·cases hz
     ·rename_i hne;refine⟨?_,?_⟩
      ·cases hoe:o.1 with
       |normal=>trivial
       |ret=>trivial
       |exit i=>exact absurd hoe (hne i)
      ·simp only[ES.real,ht,Lp.ins];rw[←hzr];exact hz
    ·cases he
   ·cases he
  ·cases he
 ·cases he
theorem Qx (hT:∀f n ac rs,T f=some (n,ac,rs)→Cq P GL f n ac rs=true)
  (hP:∀f args h x,Pr f args h=some x→∀t,OKT t h→FSp P GL f args (t.ins P GL h) x.1 (t.ins P GL h++x.2)):∀n,Snd P GL (ev T Pr n)
 |0=>by
  constructor
  ·intro f args h t r h;cases h
  ·intro f vs rets h;cases h
  ·intro ac s os h;cases h
  ·intro ac s os h;cases h
 |n+1=>by
  have ih:=Qx hT hP n
  constructor
  ·intro f args h t r he hk;exact TE hT hP ih he hk
  ·intro f vs rets he;exact S9 hT ih he
  ·intro ac s os he hk;exact gH ih he hk
  ·intro ac s os he hk;exact TF ih he hk
theorem GM (hT:∀f n ac rs,T f=some (n,ac,rs)→Cq P GL f n ac rs=true)
  (hP:∀f args h x,Pr f args h=some x→∀t,OKT t h→FSp P GL f args (t.ins P GL h) x.1 (t.ins P GL h++x.2)) {fuel:Nat} {vs rets:List V} (h:(ev T Pr fuel).Pf f vs=some rets):PSp P GL f vs rets:=(Qx hT hP fuel).Pf h
end
end
end Go.Va
set_option maxHeartbeats 4000000
namespace Go.Va
open Go.Proofs
abbrev TL:=List (Nat×Nat×AC×List AR)
noncomputable def U2:WG:=λf g=>bif Nat.beq f 59 then 0 else Hs f g
noncomputable def oT (f k:Nat):List GI:=Ph PG An U2 f iP iN k
noncomputable def lT (f:Nat):Nat→Nat→AC
 |0,_=> .never
 |n+1,k=>SF PG An U2 f (oT f) (lT f n) k
abbrev te (f:Nat) {n:Nat} {x:AC} {y:List AR} (_h1:gN f=n:=by conv=>lhs;reduce) (_h2:XN PG An U2 f (oT f) (lT f 9)=x:=by conv=>lhs;reduce) (_h3:gR f=y:=by conv=>lhs;reduce):Nat×Nat×AC×List AR:=(f,n,x,y)
noncomputable def ck (x:Nat×Nat×AC×List AR):Bool:=Cq Tryz.prog An x.1 x.2.1 x.2.2.1 x.2.2.2
noncomputable def ik:Nat→TL
 |0=>[te 13,te 17,te 20]
 |1=>[te 34,te 39,te 40,te 50,te 51,te 52,te 57,te 59,te 61]
 |2=>[te 86,te 87,te 88,te 89,te 90,te 91,te 92,te 95]
 |3=>[te 96,te 98,te 99,te 100,te 102,te 117,te 120,te 121,te 122]
 |4=>[te 128,te 129,te 130,te 131,te 132,te 133,te 137,te 138,te 151]
 |5=>[te 176,te 177,te 178,te 179,te 180,te 181,te 182,te 183,te 189,te 190]
 |6=>[te 192,te 193,te 194,te 208,te 209,te 210,te 216,te 217,te 219,te 221,te 223]
 |7=>[te 225,te 228,te 230,te 233,te 234,te 237,te 238,te 239,te 240,te 252]
 |8=>[te 270,te 271,te 272,te 277,te 279,te 284]
 |9=>[te 293,te 296,te 299,te 301,te 302,te 318]
 |10=>[te 321,te 323,te 324,te 327,te 328,te 340,te 349]
 |_=>[]
theorem ZP (k:Nat):(ik k).all ck=true:=by unfold ik;split<;>kernel_rfl
def PU (l:TL) (f:Nat):Option (Nat×AC×List AR):=
 match l with
 |[]=>none
 |x::l=>if x.1=f then some x.2 else PU l f
theorem PS {l:TL} (h:l.all ck=true):∀f n ac rs,PU l f=some (n,ac,rs)→Cq Tryz.prog An f n ac rs=true:=by
 induction l with
 |nil=>intro f n ac rs hl;cases hl
 |cons x l ih=>
  intro f n ac rs hl;rw[tS,qI]at h;simp only[PU]at hl;split at hl
  ·rename_i hx;simp only[qF]at hl;have:=h.1;rw[ck,hx,hl]at this;exact this
  ·exact ih h.2 f n ac rs hl
noncomputable def Tb:iM:=λf=>PU (ik (f/32)) f
theorem QJ:∀f n ac rs,Tb f=some (n,ac,rs)→Cq Tryz.prog An f n ac rs=true:=λf n ac rs h=>PS (ZP (f/32)) f n ac rs h
end Go.Va
namespace Go.Va
section
variable {s:St} {Q:AExit→St→Prop} {r:Nat} {h:List Row}
section
variable {P:Program} {GL:Ac}
theorem A5 {c:AC} {s1:St} (h:awp P GL c (λe s'=>match e with| .normal=>s'=s1|e=>Q e s') s) (h1:awp P GL (.loop c) Q s1):awp P GL (.loop c) Q s:=by
 obtain⟨n,hn⟩:=NR h1;refine LoopW.awp (n:=n+1) (AZ c ?_ h);intro e s' h;cases e with
 |normal=>subst h;exact hn
 |exit i=>exact h
 |ret=>exact h
theorem Aa {c:AC} (h:awp P GL c (λe s'=>match e with| .normal=>False|e=>Q e s') s):awp P GL (.loop c) Q s:=by
 refine LoopW.awp (n:=1) (AZ c ?_ h);intro e s' h;cases e with
 |normal=>exact h.elim
 |exit i=>exact h
 |ret=>exact h
theorem Aq {x y:Row} (hr:h[r]?=some y):(h.set r x)[r]?=some x:=rA (qK.1 hr).1
theorem Ja (h:List Row) (x:Row):(h++[x])[h.length]?=some x:=by simp
theorem Az {y:Row} (l:List Row) (hr:h[r]?=some y):(h++l)[r]?=some y:=by
 rw[qe (qK.1 hr).1];exact hr
theorem Di {y:Row} (hr:h[r]?=some y):r <h.length:=(qK.1 hr).1
theorem I8 {y x:Row} (l:List Row) (hr:h[r]?=some y):(h++l).set r x=h.set r x++l:=rp _ _ (Di hr)
end
end
open Go.Proofs
theorem lN (n:Int) (hn:i64 n):PX 193 [.int .i64 n] [.int .u64 (Fy n)]:=by
 refine BU 193 ?_;simp[At 193,awp,AA 193 0,AA 193 1,AX 193,AV];have e1:((2:Int)^min 1 IntKind.u64.bits)=2:=by decide
 have e2:((2:Int)^min 63 IntKind.i64.bits)=9223372036854775808:=by decide
 have e3:((2:Int)^IntKind.u64.bits)=18446744073709551616:=by decide
 simp only[e1,e2,e3,D9];unfold i64 at hn;unfold Fy;by_cases h0:n <0
 ·have q:n.fdiv 9223372036854775808= -1:=by rw[tY _ (by decide)];omega
  have a1:(n%18446744073709551616*2%18446744073709551616%18446744073709551616).toNat=(18446744073709551616+2*n).toNat:=by congr 1;omega
  have a2:(n.fdiv 9223372036854775808%18446744073709551616%18446744073709551616).toNat=2^64-1:=by rw[q];rfl
  rw[a1,a2,OW _ (by omega),if_pos h0];omega
 ·have q:n.fdiv 9223372036854775808=0:=by rw[tY _ (by decide)];omega
  have a1:(n%18446744073709551616*2%18446744073709551616%18446744073709551616).toNat=(2*n).toNat:=by congr 1;omega
  have a2:(n.fdiv 9223372036854775808%18446744073709551616%18446744073709551616).toNat=0:=by rw[q];rfl
  rw[a1,a2,Nat.xor_zero,if_neg h0];omega
theorem lH (n:Int) (hn:i64 n):PX 199 [.int .i64 n] [.int .u64 (Fy n)]:=by
 refine BU 199 ?_;unfold i64 at hn;unfold Fy;by_cases h0:n <0
 ·simp[At 199,awp,AA 199 0,AA 199 1,AA 199 2,AX 199,AV,h0];have a1:IntKind.i64.wrap (n+1)=n+1:=AQ;rw[a1,AQ (a:= -(n+1)) (by omega) (by omega)];simp only[D9];omega
 ·simp[At 199,awp,AA 199 0,AA 199 1,AA 199 3,AX 199,AV,h0];simp only[D9];omega
theorem Wt {n:Int}:IntKind.u8.wrap (((IntKind.u8.wrap n%2^IntKind.u8.bits).toNat ||| 128%2^IntKind.u8.bits:Nat):Int)=128+n%128:=by
 have e3:((2:Int)^IntKind.u8.bits)=256:=by decide
 have e4:(128%2^IntKind.u8.bits)=128:=by decide
 rw[e3,e4];have hm:(IntKind.u8.wrap n%256).toNat <256:=by rw[HS];omega
 rw[eU _ hm,HS,HS];omega
theorem nB (k:Nat):∀(n:Int) (h:List Row) (r:Nat) (xs:List Int),0≤n→n <128^(k+1)→n <18446744073709551616→h[r]?=some (wr xs)→xs.length+k≤2^46→
  ∃ys m,Ci k n=ys++[m]∧0≤m∧m <128∧
  awp Tryz.prog An (.loop (lG 192 0)) (λe s=>e= .exit 0∧s=⟨[(0,.ref r 0),(1,.v (.int .u64 m)),(5,.v (.bool false))],h.set r (wr (xs++ys))⟩) ⟨[(0,.ref r 0),(1,.v (.int .u64 n))],h⟩:=by
 induction k with
 |zero=>
  intro n h r xs h0 h1 h2 hr hl;refine⟨[],n,rfl,h0,by simpa using h1,?_⟩;have h3':(128:Int)^(0+1)=128:=by decide
  have h3:¬128≤n:=by omega
  refine Aa ?_;simp only[Zw,BA 192 0,AA 192 0];simp[h3,AJ,HV hr]
 |succ k ih=>
  intro n h r xs h0 h1 h2 hr hl;by_cases h3:128≤n
  ·have hr2:∀x,(h.set r x)[r]?=some x:=λx=>Aq hr;have hd0:0≤n/128:=by omega
   have hd1:n/128 <128^(k+1):=tZ (by decide) (by rw[←rN];exact h1);obtain⟨ys,m,e1,e2,e3,hw⟩:=ih (n/128) (h.set r (wr (xs++[128+n%128]))) r (xs++[128+n%128]) hd0 hd1 (by omega) (hr2 _) (by simp;omega);refine⟨(128+n%128)::ys,m,?_,e2,e3,?_⟩
   ·simp only[Ci,if_neg (show ¬n <128 by omega),e1,rz]
   ·refine A5 (s1:=⟨[(0,.ref r 0),(1,.v (.int .u64 (n/128)))],h.set r (wr (xs++[128+n%128]))⟩) ?_ ?_
    ·simp only[Zw,BA 192 0,AA 192 0];simp[h3,AB];have hroom:AK (xs.length+1) 1=true:=by simp[AK];omega
     have e5:((2:Int)^min 7 IntKind.u64.bits)=128:=by decide
     simp only[AA 192 2,AA 192 1];simp[hr,wr,hr2,V.cells,EG,BG,hroom,Wt,e5,tY]
    ·rw[rI]at hw;simpa using hw
  ·refine⟨[],n,by simp only[Ci,if_pos (show n <128 by omega)];rfl,h0,by omega,?_⟩;refine Aa ?_;simp only[Zw,BA 192 0,AA 192 0];simp[h3,AJ,HV hr]
theorem Wr (n:Int) (hn:u64 n) (h:List Row) (r:Nat) (xs:List Int) (hr:h[r]?=some (wr xs)) (hl:xs.length≤2^45):FX 192 [.ref r 0,.v (.int .u64 n)] h [] (h.set r (wr (xs++CY n))):=by
 refine Fn 192 ?_;unfold u64 at hn;have h128:(128:Int)^(9+1)=1180591620717411303424:=by decide
 obtain⟨ys,m,e1,e2,e3,hw⟩:=nB 9 n h r xs hn.1 (by omega) hn.2 hr (by omega);have hys:ys.length≤9:=by have:=IA 9 n;rw[e1]at this;simp at this;omega
 simp only[At 192,AE,AU,Ab];simp;refine Ei hw ?_;have hr2:∀x,(h.set r x)[r]?=some x:=λx=>Aq hr;have hroom:AK (xs.length+ys.length+1) 1=true:=by simp[AK];omega
 simp only[AG,AA 192 3];simp[wr,hr2,V.cells,EG,BG,hroom,Ky e2 (show m <256 by omega),AX 192,DS,CY,e1]
theorem Ua (a b:Int):PX 175 [.int .u64 a,.int .u64 b] [.int .u64 (HG a b)]:=by
 refine BU 175 ?_;simp[At 175,awp,AA 175 0,AA 175 1,AA 175 2,AX 175,AV];have h:=D8 (IntKind.u64.wrap ↑((a%2^IntKind.u64.bits).toNat ^^^ (b%2^IntKind.u64.bits).toNat)*11400714819323198485);have e:=D8 ((IntKind.u64.wrap (IntKind.u64.wrap ↑((a%2^IntKind.u64.bits).toNat ^^^ (b%2^IntKind.u64.bits).toNat)*11400714819323198485))/4294967296);rw[ta h.1,BM (a:=_/4294967296) (by omega) (by omega)];rfl
theorem Z4 (bs:List Int) (hb:∀b∈bs,0≤b∧b <256) (hl:bs.length≤2^40) (x:D) (k:Nat) (hk:8*k <bs.length):
  awp Tryz.prog An (.loop (lG 174 1)) (λe s=>e= .exit 2∧s=⟨[(0,.v (AH .u8 bs)),(3,x),(4,.v (.int .i64 (8*k:Nat))),(5,.v (.int .u64 (PZ ((bs.drop (8*k)).take 8)))),(6,.v (.int .i64 (8*k-1))),(21,.v (.bool false))],[]⟩)
   ⟨[(0,.v (AH .u8 bs)),(3,x),(4,.v (.int .i64 (8*k:Nat))),(5,.v (.int .u64 0)),(6,.v (.int .i64 ((min (8*k+8) bs.length:Nat)-1)))],[]⟩:=by
 have hm:8*k <min (8*k+8) bs.length:=by omega
 generalize hmm:min (8*k+8) bs.length=m at hm;have:=EQ (P:=Tryz.prog) (GL:=An) (c:=(lG 174 1)) (Q:=λe s=>e= .exit 2∧s=⟨[(0,.v (AH .u8 bs)),(3,x),(4,.v (.int .i64 (8*k:Nat))),(5,.v (.int .u64 (PZ ((bs.drop (8*k)).take 8)))),(6,.v (.int .i64 (8*k-1))),(21,.v (.bool false))],[]⟩) (m-8*k)
  (λj=>⟨[(0,.v (AH .u8 bs)),(3,x),(4,.v (.int .i64 (8*k:Nat))),(5,.v (.int .u64 (PZ ((bs.drop (m-j)).take j)))),(6,.v (.int .i64 ((m:Int)-j-1)))],[]⟩) ?_ 0 (rF _)
 ·simpa[PZ]using this
 intro j hj;simp only[Zw,BA 174 1,AA 174 7];simp[AH];by_cases h1:(8*(k:Int))≤(m:Int)-j-1
 ·rw[if_pos h1,AB];have hi:m-j-1 <bs.length:=by omega
  obtain⟨b0,hb0⟩:∃b0,bs[m-j-1]?=some b0:=⟨_,qH hi⟩;obtain⟨hb1,hb2⟩:=hb b0 (qJ hb0);have h2:1≤(m:Int)-j:=by omega
  have hd:bs.drop (m-(j+1))=b0::bs.drop (m-j):=by
   rw[show m-(j+1)=m-j-1 by omega,tu hi,show m-j-1+1=m-j by omega];rw[(qK.1 hb0).2]
  have hw:PZ ((bs.drop (m-(j+1))).take (j+1))=IntKind.u64.wrap (IntKind.u64.wrap (256*PZ ((bs.drop (m-j)).take j))+IntKind.u64.wrap b0):=by
   rw[hd,tb];have e:∀l,PZ (b0::l)=256*PZ l+b0:=λ_=>rfl;rw[e];obtain⟨q1,q2⟩:=Up bs hb (m-j) j (by omega);have q3:(256:Int)^j≤256^7:=SA (by omega);have q4:(256:Int)^7=72057594037927936:=by decide
   rw[BM hb1 (by omega),BM (a:=256*_) (by omega) (by omega),BM (by omega) (by omega)]
  simp only[AA 174 8,AA 174 9];simp[hb0,h2,V.cells];refine⟨by omega,?_⟩;exact⟨hw.symm,by rw[AQ];omega⟩
 ·rw[if_neg h1,AJ];have:m-8*k=j:=by omega
  subst this;simp;refine⟨?_,by omega,by omega⟩;rw[show m-(m-8*k)=8*k by omega];rcases qi (m-8*k) 8 with h|h
  ·have hm2:m=bs.length:=by omega
   subst hm2;rw[qw (by simp),qw (by simp;omega)]
  ·rw[show m-8*k=8 by omega]
theorem dv (bs:List Int) (hb:∀b∈bs,0≤b∧b <256) (hl:bs.length≤2^40):PX 174 [AH .u8 bs] [AH .u64 (BV bs)]:=by
 refine BU 174 ?_;simp only[At 174,AE,AG,AU,AA 174 0,AA 174 1,AA 174 2,AV];simp[AH];refine EQ ((bs.length+7)/8) (λk=>⟨[(0,.v (AH .u8 bs)),(3,.own 47 1 (((BV bs).take k).map (.int .u64))),(4,.v (.int .i64 (8*k:Nat)))],[]⟩) ?_ 0 (rF _);intro k hk;simp only[Zw,BA 174 0,AA 174 3];simp[AH];by_cases h1:8*(k:Int) <bs.length
 ·rw[if_pos h1,AB];simp only[AA 174 5,AA 174 6];simp;have hw:IntKind.i64.wrap (8*(k:Int)+8)=8*k+8:=AQ;have hw2:IntKind.i64.wrap ((if (bs.length:Int) <8*k+8 then (bs.length:Int) else 8*k+8)-1)=((min (8*k+8) bs.length:Nat)-1:Int):=by
   rw[AQ (by split<;>omega) (by split<;>omega)]
   split<;>omega
  rw[hw,hw2];have:=Z4 bs hb hl (.own 47 1 (((BV bs).take k).map (.int .u64))) k (by omega);simp[AH]at this;refine Ei this ?_;have hwk:(BV bs).take (k+1)=(BV bs).take k++[PZ ((bs.drop (8*k)).take 8)]:=by
   have hlt:k <(BV bs).length:=by simp[BV];omega
   rw[sQ hlt];simp[BV]
  have hr:AK (min k (BV bs).length+1) 8=true:=by
   simp only[AK,decide_eq_true_eq];have:min k (BV bs).length≤k:=Nat.min_le_left _ _;omega
  simp only[AA 174 10,AA 174 4];simp[BG,V.cells,hr,hw];refine⟨by omega,?_,by omega⟩;rw[←rE,←rE,hwk];simp
 ·rw[if_neg h1,AJ];have hk2:k=(bs.length+7)/8:=by omega
  simp[AA 174 11,AX 174,AD];rw[hk2];simp[BV];rw[qw (by simp)]
def Od (label:List Int) (l:List Int):Int:=
 HG (l.foldl (λs n=>HG s (IntKind.u64.wrap n)) (HG (HG ((BV label).foldl HG 0) label.length) l.length)) 0
theorem ef (lab:D) (l:V) (ws:List Int) (hl:ws.length≤2^40):
  awp Tryz.prog An (.loop (lG 84 0)) (λe s=>e= .exit 0∧s=⟨[(0,lab),(1,.v l),(5,.v (.int .u64 (ws.foldl HG 0))),(6,.v (AH .u64 ws)),(7,.v (.int .i64 ws.length)),(15,.v (.bool false))],[]⟩)
   ⟨[(0,lab),(1,.v l),(5,.v (.int .u64 0)),(6,.v (AH .u64 ws)),(7,.v (.int .i64 0))],[]⟩:=by
 refine EQ ws.length (λk=>⟨[(0,lab),(1,.v l),(5,.v (.int .u64 ((ws.take k).foldl HG 0))),(6,.v (AH .u64 ws)),(7,.v (.int .i64 k))],[]⟩) ?_ 0 (rF _);intro k hk;simp only[Zw,BA 84 0,AA 84 4];simp[AH];by_cases h1:k <ws.length
 ·have hx:ws[k]?=some ws[k]:=qH h1;have hw:=Bo k;rw[if_pos (by omega),AB];simp only[AA 84 5,AA 84 6];simp[hx,V.cells,Dt,D.norm,Ar,D.arg];have hp:=(Ua ((ws.take k).foldl HG 0) ws[k]).fsp [];refine⟨_,_,hp,?_⟩;refine⟨h1,⟨?_,hw⟩,rfl⟩;rw[sQ h1,sq];rfl
 ·have:k=ws.length:=by omega
  subst this;rw[if_neg (by omega),AJ];simp
theorem ed (l:List Int) (s0:Int) (hl:l.length≤2^40):
  awp Tryz.prog An (.loop (lG 84 1)) (λe s=>e= .exit 2∧s=⟨[(1,.v (AH .i64 l)),(5,.v (.int .u64 (l.foldl (λs n=>HG s (IntKind.u64.wrap n)) s0))),(8,.v (.int .i64 l.length)),(37,.v (.bool false))],[]⟩)
   ⟨[(1,.v (AH .i64 l)),(5,.v (.int .u64 s0)),(8,.v (.int .i64 0))],[]⟩:=by
 refine EQ l.length (λk=>⟨[(1,.v (AH .i64 l)),(5,.v (.int .u64 ((l.take k).foldl (λs n=>HG s (IntKind.u64.wrap n)) s0))),(8,.v (.int .i64 k))],[]⟩) ?_ 0 (rF _);intro k hk;simp only[Zw,BA 84 1,AA 84 10];simp[AH];by_cases h1:k <l.length
 ·have hx:l[k]?=some l[k]:=qH h1;have hw:=Bo k;rw[if_pos (by omega),AB];simp only[AA 84 11,AA 84 12];simp[hx,V.cells,Dt,D.norm,Ar,D.arg];have hp:=(Ua ((l.take k).foldl (λs n=>HG s (IntKind.u64.wrap n)) s0) (IntKind.u64.wrap l[k])).fsp [];refine⟨_,_,hp,?_⟩;refine⟨h1,⟨?_,hw⟩,rfl⟩;rw[sQ h1,sq];rfl
 ·have:k=l.length:=by omega
  subst this;rw[if_neg (by omega),AJ];simp
def CS (b:ByteArray):List Int:=b.data.toList.map λc=>(c.toNat:Int)
theorem jF (b:ByteArray) (l:List Int) (hb:b.size≤2^39) (hl:l.length≤2^40):PX 84 [.str b,AH .i64 l] [.int .u64 (Od (CS b) l)]:=by
 refine BU 84 ?_;have hbl:(CS b).length=b.size:=by simp[CS]
 have hw:=dv (CS b) (λx hx=>by
  simp only[CS,qX]at hx;obtain⟨c,_,rfl⟩:=hx;have:=c.toNat_lt;omega) (by omega)
 have hwl:(BV (CS b)).length≤2^40:=by simp[BV];omega
 simp only[At 84,AE,AG,AU,AA 84 0,AA 84 1,AA 84 2,AA 84 3,AV];simp[Dt,D.norm,Ar,D.arg];have e1:AH .u8 (CS b)= .list (b.data.toList.map λc=>V.int .u8 c.toNat):=by simp[AH,CS]
 rw[e1]at hw;have hp:=hw.fsp [];simp at hp;refine⟨_,_,hp,?_⟩;simp[Bj];refine Ei (ef (.v (.str b)) (AH .i64 l) (BV (CS b)) hwl) ?_;simp only[AA 84 7,AA 84 8,AA 84 9];simp[Dt,D.norm,Ar,D.arg,AH];have w1:IntKind.u64.wrap (b.size:Int)=b.size:=BM (by omega) (by omega);have w2:IntKind.u64.wrap (l.length:Int)=l.length:=BM (by omega) (by omega);rw[w1];refine⟨_,_,(Ua ((BV (CS b)).foldl HG 0) b.size).fsp [],?_⟩;simp[Bj,w2];refine⟨_,_,(Ua (HG ((BV (CS b)).foldl HG 0) b.size) l.length).fsp [],?_⟩;simp;have hl1:=ed l (HG (HG ((BV (CS b)).foldl HG 0) b.size) l.length) hl;simp only[AH]at hl1;refine Ei hl1 ?_;simp only[AA 84 13];simp[Dt,D.norm,Ar,D.arg];refine⟨_,_,(Ua _ 0).fsp [],?_⟩;simp[Bj,AD,AX 84,Od,hbl]
section
attribute [simp] Dt D.norm Ar D.arg Bj Aq Ja V.cells DS AR.d D.keep
@[simp] theorem aI (s:Nat):BG s []=true:=rfl
@[simp] theorem Ye (s:Nat) (x:V) (xs:List V):BG s (x::xs)=(x.cells.length==s):=rfl
@[simp] theorem aJ (k:IntKind) (l:List Int):BG 1 (l.map (V.int k))=true:=by cases l<;>rfl
variable {s:St} {Q:AExit→St→Prop}
theorem AM {P:Program} {GL:Ac} {c:AC} (n:Nat) (S:Nat→St) (hs:s=S 0)
  (h:∀k,k≤n→awp P GL c (λe s'=>match e with| .normal=>k <n∧s'=S (k+1)|e=>Q e s') (S k)):awp P GL (.loop c) Q s:=
 hs▸EQ n S h 0 (rF _)
variable {k:Nat}
theorem Av {α β:Type} {f:α→List β} {l:List α} (h:k <l.length):(l.take (k+1)).flatMap f=(l.take k).flatMap f++f l[k]:=by
 rw[sQ h,rP];simp
theorem MN (n:Int) (hn:i64 n) (h:List Row) (r:Nat) (xs:List Int) (hr:h[r]?=some (wr xs)) (hl:xs.length≤2^45):FX 98 [.ref r 0,.v (.int .i64 n)] h [] (h.set r (wr (xs++AN n))):=by
 refine Fn 98 ?_;simp[At 98,awp,AA 98 0,AX 98,Ab];refine⟨_,_,(lN n hn).fsp h,?_⟩;simp;exact⟨_,(Wr (Fy n) (HQ hn) h r xs hr hl)⟩
theorem lM (b:ByteArray) (hb:b.size≤2^40) (h:List Row) (r:Nat) (xs:List Int) (hr:h[r]?=some (wr xs)) (hl:xs.length≤2^45):FX 194 [.ref r 0,.v (.str b)] h [] (h.set r (wr (xs++AY (CS b)))):=by
 refine Fn 194 ?_;have hbl:(CS b).length=b.size:=by simp[CS]
 have w1:IntKind.u64.wrap (b.size:Int)=b.size:=BM (by omega) (by omega);simp[At 194,awp,AA 194 0,AA 194 1,AX 194,Ab,w1];refine⟨_,_,(Wr b.size ⟨by omega,by omega⟩ h r xs hr hl),?_⟩;have hu:=Aw b.size;have hroom:AK (xs.length+(CY b.size).length+b.size) 1=true:=by simp[AK];omega
 simp[Aq hr,wr,hroom,AY,hbl];simp[CS,tH]
theorem du (k:Nat):∀(n:Int) (h:List Row) (xs:List Int),0≤n→n <128^(k+1)→n <18446744073709551616→xs.length+k≤2^46→
  ∃ys m,Ci k n=ys++[m]∧0≤m∧m <128∧
  awp Tryz.prog An (.loop (lG 198 0)) (λe s=>e= .exit 0∧s=⟨[(0,.v (.int .u64 m)),(3,.own 5 1 ((xs++ys).map (.int .u8))),(5,.v (.bool false))],h⟩) ⟨[(0,.v (.int .u64 n)),(3,.own 5 1 (xs.map (.int .u8)))],h⟩:=by
 induction k with
 |zero=>
  intro n h xs h0 h1 h2 hl;refine⟨[],n,rfl,h0,by simpa using h1,?_⟩;have h3':(128:Int)^(0+1)=128:=by decide
  have h3:¬127 <n:=by omega
  refine Aa ?_;simp only[Zw,BA 198 0,AA 198 2];simp[h3,AJ]
 |succ k ih=>
  intro n h xs h0 h1 h2 hl;by_cases h3:127 <n
  ·have hd0:0≤n/128:=by omega
   have hd1:n/128 <128^(k+1):=tZ (by decide) (by rw[←rN];exact h1);obtain⟨ys,m,e1,e2,e3,hw⟩:=ih (n/128) h (xs++[128+n%128]) hd0 hd1 (by omega) (by simp;omega);refine⟨(128+n%128)::ys,m,?_,e2,e3,?_⟩
   ·simp only[Ci,if_neg (show ¬n <128 by omega),e1,rz]
   ·refine A5 (s1:=⟨[(0,.v (.int .u64 (n/128))),(3,.own 5 1 ((xs++[128+n%128]).map (.int .u8)))],h⟩) ?_ ?_
    ·simp only[Zw,BA 198 0,AA 198 2];simp[h3,AB];have hroom:AK (xs.length+1) 1=true:=by simp[AK];omega
     have w1:IntKind.u64.wrap (n/128)=n/128:=BM (by omega) (by omega);have w2:IntKind.u64.wrap (n%128)=n%128:=BM (by omega) (by omega);have w3:IntKind.u64.wrap (128+n%128)=128+n%128:=BM (by omega) (by omega);have w4:IntKind.u8.wrap (128+n%128)=128+n%128:=Ky (by omega) (by omega);simp only[AA 198 3,AA 198 4];simp[EG,hroom,ta h0,tx h0,w1,w3,w4]
    ·simpa using hw
  ·refine⟨[],n,by simp only[Ci,if_pos (show n <128 by omega)];rfl,h0,by omega,?_⟩;refine Aa ?_;simp only[Zw,BA 198 0,AA 198 2];simp[h3,AJ]
theorem Sn (n:Int) (hn:u64 n) (h:List Row):FX 198 [.v (.int .u64 n)] h [.own 5 1 ((CY n).map (.int .u8))] h:=by
 refine Fn 198 ?_;unfold u64 at hn;have h128:(128:Int)^(9+1)=1180591620717411303424:=by decide
 obtain⟨ys,m,e1,e2,e3,hw⟩:=du 9 n h [] hn.1 (by omega) hn.2 (by decide);have hys:ys.length≤9:=by have:=IA 9 n;rw[e1]at this;simp at this;omega
 simp only[At 198,AE,AU,AG,AA 198 0,AA 198 1,Ab];simp;simp at hw;refine Ei hw ?_;have hroom:AK (ys.length+1) 1=true:=by simp[AK];omega
 simp only[AA 198 5];simp[hroom,Ky e2 (show m <256 by omega),AX 198,CY,e1,AD]
theorem Fl (n:Int) (hn:i64 n) (h:List Row):FX 104 [.v (.int .i64 n)] h [.own 5 1 ((AN n).map (.int .u8))] h:=by
 refine Fn 104 ?_;simp[At 104,awp,AA 104 0,AA 104 1,AX 104,Ab];refine⟨_,_,(lH n hn).fsp h,?_⟩;simp;refine⟨_,(Sn (Fy n) (HQ hn) h),?_⟩;simp[AN]
theorem So (xs:List Int) (hb:xs.length≤2^45) (h:List Row):FX 105 [.v (AH .u8 xs)] h [.own 5 1 ((AY xs).map (.int .u8))] h:=by
 refine Fn 105 ?_;have w1:IntKind.u64.wrap (xs.length:Int)=xs.length:=BM (by omega) (by omega);simp[At 105,awp,AA 105 0,AA 105 1,AX 105,Ab,AH,w1];refine⟨_,_,(Sn xs.length ⟨by omega,by omega⟩ h),?_⟩;have hu:=Aw xs.length;have hroom:AK ((CY xs.length).length+xs.length) 1=true:=by simp[AK];omega
 simp[hroom,AY]
theorem Ws (l:List Int) (hi:∀n∈l,i64 n) (hb:l.length≤2^40) (h:List Row):FX 107 [.v (AH .i64 l)] h [.own 5 1 ((Ah l).map (.int .u8))] h:=by
 refine Fn 107 ?_;have w1:IntKind.u64.wrap (l.length:Int)=l.length:=BM (by omega) (by omega);simp only[At 107,AE,AU,AG,AA 107 0,AA 107 1,AA 107 2,Ab];simp[AH,w1];refine⟨_,_,(Sn l.length ⟨by omega,by omega⟩ h),?_⟩;have hu:=Aw l.length;simp;refine AM l.length (λk=>⟨[(0,.v (AH .i64 l)),(3,.own 5 1 ((CY l.length++(l.take k).flatMap AN).map (.int .u8))),(4,.v (.int .i64 k))],h⟩) (by simp[AH]) ?_;intro k hk;simp only[Zw,BA 107 0,AA 107 3];simp[AH];by_cases h1:k <l.length
 ·have hx:l[k]?=some l[k]:=qH h1;have hw:=Bo k;rw[if_pos (by omega),AB];simp only[AA 107 4,AA 107 5];simp[hx];refine⟨_,_,(Fl l[k] (hi _ (rl h1)) h),?_⟩;have hf:=Au (l.take k);have he:=AO l[k];have ht:(l.take k).length=k:=by simp;omega
  have hroom:AK ((CY l.length).length+((l.take k).flatMap AN).length+(AN l[k]).length) 1=true:=by simp[AK,-List.length_flatMap];omega
  simp[hroom,h1,hw,-List.length_flatMap];rw[Av h1];simp
 ·have:k=l.length:=by omega
  subst this;rw[if_neg (by omega),AJ];simp[AD,AA 107 6,AX 107,Ah]
theorem eI (xs:List Int) (hb:xs.length≤2^45):∀h,FX 117 [.v (AH .u8 xs)] h [.own 5 1 (xs.map (.int .u8))] h:=by
 intro h;refine Fn 117 ?_;have hroom:AK xs.length 1=true:=by simp[AK];omega
 cases xs with
 |nil=>simp[At 117,awp,AA 117 0,AA 117 1,AA 117 2,AA 117 3,AX 117,Ab,AH,AK]
 |cons x xs=>simp[At 117,awp,AA 117 0,AA 117 1,AA 117 2,AA 117 3,AX 117,Ab,AH]at hroom ⊢;simp[hroom]
theorem Sp (h:List Row) (r:Nat) (xs:List Int) (hr:h[r]?=some (wr xs)) (hl:xs.length≤2^45):FX 102 [.ref r 0] h [.own 5 1 (xs.map (.int .u8))] h:=by
 refine Fn 102 ?_;simp[At 102,awp,AA 102 0,AA 102 1,AX 102,Ab,hr,wr];refine⟨_,(eI xs hl h),?_⟩;simp
theorem Ub (l:List Int) (hi:∀n∈l,i64 n) (hb:l.length≤2^40) (h:List Row) (r:Nat) (xs:List Int) (hr:h[r]?=some (wr xs)) (hl:xs.length≤2^44):FX 100 [.ref r 0,.v (AH .i64 l)] h [] (h.set r (wr (xs++Ah l))):=by
 refine Fn 100 ?_;have w1:IntKind.u64.wrap (l.length:Int)=l.length:=BM (by omega) (by omega);simp only[At 100,AE,AU,AG,AA 100 0,AA 100 1,Ab];simp[AH,w1];refine⟨_,_,(Wr l.length ⟨by omega,by omega⟩ h r xs hr (by omega)),?_⟩;have hu:=Aw l.length
 try simp
 refine AM l.length (λk=>⟨[(0,.ref r 0),(11,.v (AH .i64 l)),(12,.v (.int .i64 l.length)),(13,.v (.int .i64 k))],h.set r (wr (xs++(CY l.length++(l.take k).flatMap AN)))⟩) (by simp[AH]) ?_;intro k hk;simp only[Zw,BA 100 0,AA 100 2];simp[AH];by_cases h1:k <l.length
 ·have hx:l[k]?=some l[k]:=qH h1;have hw:=Bo k;rw[if_pos (by omega),AB];simp only[AA 100 3,AA 100 4,AA 100 5];simp[hx];have hf:=Au (l.take k);have ht:(l.take k).length=k:=by simp;omega
  refine⟨_,_,(MN l[k] (hi _ (rl h1)) _ r (xs++(CY l.length++(l.take k).flatMap AN)) (Aq hr) (by simp only[qG];omega)),?_⟩;simp[h1,hw,Av h1]
 ·have:k=l.length:=by omega
  subst this;rw[if_neg (by omega),AJ];simp[AX 100,Ah]
end
theorem P9 (b:ByteArray):(CS b).length=b.size:=by simp[CS]
section
variable {b f m n r:Nat} {μ:List Nat} {u:Value} {d:D} {g:Gh} {args ds rets:List D} {h h':List Row}
section
variable {P:Program} {GL:Ac}
def Row.low (n:Nat):Row→Bool
 | .cells ds=>D.lts n ds
 | .map _ _ _=>true
 | .dead=>true
 | .obj _ _ _=>false
theorem Fd (h:n≤m):∀d:D,D.lt n d=true→D.lt m d=true:=by
 intro d;refine D.rec (motive_1:=λd=>D.lt n d=true→D.lt m d=true) (motive_2:=λl=>D.lts n l=true→D.lts m l=true) ?_ ?_ ?_ ?_ ?_ ?_ ?_ ?_ ?_ ?_ ?_ ?_ ?_ ?_ ?_ ?_ d
 all_goals simp only[D.lt,D.lts,decide_eq_true_eq,qI,implies_true,true_implies,imp_self]
 all_goals first
  |(intros;omega)
  |(intro a b iha ihb hab;exact⟨iha hab.1,ihb hab.2⟩)
  |(intros;assumption)
  |skip
theorem HT (h:μ[r]?=some b) (hr:r <n):(μ.take n)[r]?=some b:=by
 rw[qu,if_pos hr];exact h
theorem Ft {n:Nat}:∀ {ds:List D} {i:Nat} {d:D},D.lts n ds=true→ds[i]?=some d→D.lt n d=true
 |d::ds,i,x,h,hi=>by
  simp only[D.lts,qI]at h;cases i with
  |zero=>simp at hi;subst hi;exact h.1
  |succ i=>exact Ft h.2 (by simpa using hi)
theorem RepC.low (h:RepC g μ d u) (hl:D.lt n d=true):RepC g (μ.take n) d u:=by
 cases d<;>simp only[RepC]at h ⊢
 ·exact h
 ·obtain⟨b,hb,rfl⟩:=h;exact⟨b,HT hb (by simpa[D.lt]using hl),rfl⟩
theorem RepE.low {g:Gh} {w:World} {μ:List Nat} {n:Nat} {d:D} {u:Value} (h:RepE g w μ d u) (hl:D.lt n d=true):RepE g w (μ.take n) d u:=by
 cases d<;>simp only[RepE]at h ⊢ <;>try exact h
 ·obtain⟨b,hb,rfl⟩:=h;exact⟨b,HT hb (by simpa[D.lt]using hl),rfl⟩
 ·obtain⟨b,cap,hb,rfl,hn⟩:=h;exact⟨b,cap,HT hb (by simpa[D.lt]using hl),rfl,hn⟩
 ·obtain⟨b,hb,rfl⟩:=h;exact⟨b,HT hb (by simpa[D.lt]using hl),rfl⟩
 ·obtain⟨vs,rfl,h⟩:=h;exact⟨vs,rfl,h.1,λi x v hx hv=>(h.2 i x v hx hv).low (Ft (by simpa[D.lt]using hl) hx)⟩
 ·obtain⟨vs,rfl,h⟩:=h;exact⟨vs,rfl,h.1,λi x v hx hv=>(h.2 i x v hx hv).low (Ft (by simpa[D.lt]using hl) hx)⟩
 ·obtain⟨b,hb,rfl⟩:=h;exact⟨b,HT hb (by simpa[D.lt]using hl),rfl⟩
theorem RepG.low {g:Gh} {w:World} {μ:List Nat} {n:Nat} {d:D} {u:Value} (h:RepG g w μ d u) (hl:D.lt n d=true):RepG g w (μ.take n) d u:=by
 cases d<;>simp only[RepG]at h ⊢ <;>first
  |exact h.low hl
  |(obtain⟨vs,rfl,h,h1,h2⟩:=h
    exact⟨vs,rfl,⟨h.1,λi x v hx hv=>(h.2 i x v hx hv).low (Ft (by simpa[D.lt]using hl) hx)⟩,h1,h2⟩)
theorem RepD.low {g:Gh} {w:World} {μ:List Nat} {n:Nat} {d:D} {u:Value} (h:RepD g w μ d u) (hl:D.lt n d=true):RepD g w (μ.take n) d u:=by
 cases d<;>simp only[RepD]at h ⊢ <;>first
  |exact h.low hl
  |(obtain⟨vs,rfl,h⟩:=h
    exact⟨vs,rfl,h.1,λi x v hx hv=>(h.2 i x v hx hv).low (Ft (by simpa[D.lt]using hl) hx)⟩)
theorem Inv.low {g:Gh} {w:World} {μ:List Nat} {t:Nat→D} {u:Nat→Value} {h J:List Row} {O:Nat→Prop} (hi:Inv g w μ t u (h++J) O) (ht:∀n,D.lt h.length (t n)=true) (hh:∀row∈h,Row.low h.length row=true):
  Inv g w (μ.take h.length) t u h O:=by
 have hμl:(μ.take h.length).length=h.length:=by have:=hi.len;simp at this ⊢;omega
 have Dn:∀ {r b:Nat},(μ.take h.length)[r]?=some b→r <h.length∧μ[r]?=some b:=by
  intro r b hb;rw[qu]at hb;split at hb
  ·exact⟨‹_›,hb⟩
  ·cases hb
 have hblk:∀p b,Cl t u h w (μ.take h.length) p=some b→Cl t u (h++J) w μ p=some b:=by
  intro p b hp;cases p with
  |tmp n k=>exact hp
  |cell r k=>
   simp only[Cl]at hp ⊢;by_cases hr:r <h.length
   ·have e1:A9 (h++J) r k=A9 h r k:=by simp only[A9,qe hr]
    have e2:BK w (μ.take h.length) r k=BK w μ r k:=by simp only[BK,qu,if_pos hr]
    rw[e1,←e2];exact hp
   ·simp only[A9,rG (show h.length≤r by omega)]at hp;simp[Ae]at hp
 refine⟨hi.agree,hi.olt,λn=>(hi.rep n).low (ht n),hμl,?_,?_,?_,λp q b hp hq=>hi.uniq p q b (hblk p b hp) (hblk q b hq),?_⟩
 ·intro r row b hr hb;obtain⟨hlt,hb⟩:=Dn hb;have hrow:=hi.rows r row b (by rw[qe hlt];exact hr) hb;have hlow:=hh row (qJ hr);cases row with
  |cells ds=>
   obtain⟨vs,T,h1,h2,h3,h4⟩:=hrow;exact⟨vs,T,h1,⟨h2.1,λi x v hx hv=>(h2.2 i x v hx hv).low (Ft hlow hx)⟩,h3,h4⟩
  |map es st ck=>exact hrow
  |obj tag p m=>simp[Row.low]at hlow
  |dead=>exact hrow
 ·intro r r' b hr hr';exact hi.nod r r' b (Dn hr).2 (Dn hr').2
 ·intro b hb;exact hi.mo b (rK hb)
 ·intro p b hp;obtain⟨h1,h2⟩:=hi.sep p b (hblk p b hp);exact⟨λhm=>h1 (rK hm),h2⟩
theorem Z2 (h:D.lt n d=true) (k:Nat):D.lt n (IU .any d k)=true:=by
 simp only[IU];split
 ·exact h
 ·rfl
theorem JR {n:Nat}:∀ {ds:List D},(∀d∈ds,D.lt n d=true)→D.lts n ds=true
 |[],_=>rfl
 |d::ds,h=>by simp only[D.lts,qI];exact⟨h d (by simp),JR λx hx=>h x (by simp[hx])⟩
theorem Uo (h:∀d∈ds,D.lt n d=true):D.lt n (Bj ds)=true:=by
 match ds with
 |[]=>rfl
 |[x]=>exact h x (by simp)
 |x::y::r=>simp only[Bj,D.lt];exact JR h
theorem CW {ac:AC} {rs:List AR} (hk:Cq P GL f n ac rs=true) (hn:args.length=n) (hl:h.length≤h'.length)
  (hh:∀row∈h',Row.low h'.length row=true) (hr:∀d∈rets,D.lt h'.length d=true)
  (hw:awp P GL ac (λe s=>(match e with| .exit _=>False|_=>True)∧DS s rs=some rets∧∃J,s.h=h'++J) ⟨Ab args,h⟩):FSp P GL f args h rets h':=by
 refine J9 (Gy (rets:=rets) (h':=h') hk hn (AZ ac (λe s=>by
  rintro⟨h1,h2,J,h3⟩;refine⟨h1,rets,h2,λg w μ v O hi=>⟨g,μ.take h'.length,λμ0 hμ0 ⟨tl,hp⟩=>?_,?_,Chg.refl _ _ _⟩⟩
  ·subst hp;rw[List.take_append,qw (by omega)];exact rx _ _
  ·rw[h3]at hi;exact hi.low (Z2 (Uo hr)) hh) hw))
end
end
def Aj (a n:Int):Int:=if a <0 then (IntKind.i64.wrap (0-IntKind.i64.wrap (a+1))).tmod n else a.tmod n
theorem MW (a n:Int) (hn:n≠0):PX 11 [.int .i64 a,.int .i64 n] [.int .i64 (Aj a n)]:=by
 refine BU 11 ?_;unfold Aj;by_cases h1:a <0<;>simp[At 11,awp,AA 11 0,AA 11 1,AA 11 2,AA 11 3,AX 11,AV,h1,hn]
def Ai (l:List Int) (i n:Int):Int:=if i <0 then 0 else match l[i.toNat]? with|some x=>Aj x n|none=>0
theorem Rp (l:List Int) (i n:Int) (hn:n≠0):PX 47 [AH .i64 l,.int .i64 i,.int .i64 n] [.int .i64 (Ai l i n)]:=by
 refine BU 47 ?_;unfold Ai;by_cases h1:i <0
 ·simp[At 47,awp,AA 47 0,AA 47 1,AA 47 2,AX 47,AV,h1,AH]
 ·by_cases h2:(l.length:Int)≤i
  ·have:l[i.toNat]?=none:=by rw[List.getElem?_eq_none_iff];omega
   simp[At 47,awp,AA 47 0,AA 47 1,AA 47 2,AX 47,AV,h1,h2,AH,this]
  ·have hlt:i.toNat <l.length:=by omega
   have hx:l[i.toNat]?=some l[i.toNat]:=qH hlt;have h0:0≤i:=by omega
   simp[At 47,awp,AA 47 0,AA 47 1,AA 47 3,AX 47,AV,h1,h2,AH,hx,h0,V.cells,Dt,D.norm,Ar,D.arg];refine⟨_,⟨_,(MW l[i.toNat] n hn).fsp []⟩,?_⟩;simp[Bj]
section
def Fq (xs:List Int):Row:= .cells [.v (AH .u8 xs),.v (.int .i64 0)]
theorem Zg (xs:List Int) (hb:xs.length≤2^45) (h:List Row):FX 44 [.v (AH .u8 xs)] h [.ref h.length 0] (h++[Fq xs]):=by
 refine Fn 44 ?_;simp[At 44,awp,AA 44 0,AA 44 1,AX 44,Ab];refine⟨_,_,(eI xs hb h),?_⟩;simp[Fq,AH,AS,D.toRow]
theorem mJ (n:Int) (hn:i64 n):PX 118 [.int .u64 (Fy n)] [.int .i64 n]:=by
 refine BU 118 ?_;unfold i64 at hn;unfold Fy;have e1:((2:Int)^IntKind.u64.bits)=18446744073709551616:=by decide
 have e2:((2:Int)^IntKind.i64.bits)=18446744073709551616:=by decide
 have e3:((1:Int)%18446744073709551616).toNat=1:=by decide
 have e4:(2:Int)^min 1 IntKind.u64.bits=2:=by decide
 by_cases h0:n <0
 ·simp[At 118,awp,AA 118 0,AA 118 1,AX 118,AV,h0];have d1:(2* -(n+1)+1).fdiv (2^min 1 IntKind.u64.bits)= -(n+1):=by
   rw[e4,tY _ (by decide)];omega
  have d2:((2* -(n+1)+1)%18446744073709551616).toNat%2=1:=by omega
  rw[d1,e1,e2,e3,Nat.and_one_is_mod,d2,AQ (a:= -(n+1)) (by omega) (by omega)];have d3:IntKind.i64.wrap (-IntKind.i64.wrap (IntKind.u64.wrap ((1:Nat):Int)))= -1:=by decide
  rw[d3];have d4:((-1:Int)%18446744073709551616).toNat=2^64-1:=by decide
  rw[d4,OW _ (by omega)];have d5:((2^64-1-(-(n+1)%18446744073709551616).toNat:Nat):Int)=n+18446744073709551616:=by omega
  rw[d5];have:IntKind.i64.wrap (n+18446744073709551616)=n:=by
   unfold IntKind.wrap;simp only[IntKind.bits,IntKind.signed];have e5:((2:Int)^64)=18446744073709551616:=by decide
   simp only[e5];simp;omega
  exact this
 ·simp[At 118,awp,AA 118 0,AA 118 1,AX 118,AV,h0];have d1:(2*n).fdiv (2^min 1 IntKind.u64.bits)=n:=by
   rw[e4,tY _ (by decide)];omega
  have d2:((2*n)%18446744073709551616).toNat%2=0:=by omega
  rw[d1,e1,e2,e3,Nat.and_one_is_mod,d2,AQ (a:=n) (by omega) (by omega)];have d3:IntKind.i64.wrap (-IntKind.i64.wrap (IntKind.u64.wrap ((0:Nat):Int)))=0:=by decide
  rw[d3];have d4:((0:Int)%18446744073709551616).toNat=0:=by decide
  rw[d4,Nat.xor_zero,AQ];omega
theorem Wq (c:Int) (xs:List Int) (h:List Row) (r:Nat) (hr:h[r]?=some (Fq (c::xs))):FX 203 [.ref r 0] h [.v (.int .u8 c)] (h.set r (Fq xs)):=by
 refine Fn 203 ?_;have h1:¬((xs.length:Int)+1=0):=by omega
 simp[At 203,awp,AA 203 0,AA 203 1,AA 203 3,AA 203 5,AA 203 6,AA 203 7,AX 203,Ab,hr,Fq,AH,h1];simp[AS]
variable {c:Int}
theorem V8 (h0:0≤c) (h1:c <256):IntKind.u8.wrap (((c%2^IntKind.u8.bits).toNat &&& 2^IntKind.u8.bits-1-128%2^IntKind.u8.bits:Nat):Int)=c%128:=by
 have key:∀m:Fin 256,IntKind.u8.wrap ((((m.val:Int)%2^IntKind.u8.bits).toNat &&& 2^IntKind.u8.bits-1-128%2^IntKind.u8.bits:Nat):Int)=(m.val:Int)%128:=by decide+kernel
 have:=key ⟨c.toNat,by omega⟩;simpa only[tL h0]using this
variable {i:Nat}
theorem Zp {a b:Int} (h0:0≤a) (h1:a <2^i) (h2:0≤b) (h3:a+b*2^i <18446744073709551616):
  (a.toNat ||| (b*2^i).toNat:Nat)=(a+b*2^i).toNat:=by
 have e1:(b*2^i).toNat=2^i*b.toNat:=by
  obtain⟨m,rfl⟩:=Int.eq_ofNat_of_zero_le h2;have:((m:Int)*2^i)=((2^i*m:Nat):Int):=by push_cast;rw[rX]
  rw[this,qt,qt]
 have e2:a.toNat <2^i:=by
  have:((2^i:Nat):Int)=2^i:=by push_cast;rfl
  omega
 rw[e1,Nat.or_comm,←Nat.two_pow_add_eq_or_of_lt e2];have e3:((2^i*b.toNat:Nat):Int)=b*2^i:=by
  rw[←e1];exact tL (sS h2 (sE (sF (by decide))))
 omega
variable {r:Nat} {h:List Row} {Q:AExit→St→Prop}
theorem TZ {acc:Int} {xs:List Int} (hr:h[r]?=some (Fq (c::xs))) (hc:0≤c∧c <256) (hi:i≤9) (h9:¬(i=9∧1 <c)) (h0:¬(0 <i∧c=0))
  (ha:0≤acc∧acc <128^i) (hs:acc+(c%128)*128^i <18446744073709551616)
  (hret:c <128→Q .ret ⟨[(2,.v (.int .u64 (acc+c*128^i)))],h.set r (Fq xs)⟩)
  (hgo:128≤c→Q .normal ⟨[(0,.ref r 0),(3,.v (.int .u64 (acc+(c%128)*128^i))),(4,.v (.int .i64 (i+1)))],h.set r (Fq xs)⟩):
  awp Tryz.prog An (lG 119 0) Q ⟨[(0,.ref r 0),(3,.v (.int .u64 acc)),(4,.v (.int .i64 i))],h⟩:=by
 simp only[Zw,BA 119 0,AA 119 3];simp[hr,Fq,AH,AB];simp only[AA 119 5];simp;refine⟨_,_,(Wq c xs h r hr),?_⟩;have hj:i=9∧¬1 <c∧¬c=0∨i=0∨(0 <i∧¬i=9∧¬c=0):=by omega
 have a1:=V8 hc.1 hc.2;have a2:IntKind.u64.wrap (c%128)=c%128:=BM (by omega) (by omega);have a3:IntKind.i64.wrap (7*(i:Int))=7*i:=AQ;have a6:=Bo i;have e64:((2:Int)^IntKind.u64.bits)=18446744073709551616:=by decide
 have k3:0≤7*(i:Int):=by omega
 have Qi:(128:Int)^i=2^(7*i):=by rw[Int.pow_mul];rfl
 have hx0:0≤c%128*128^i:=sS (by omega) (sE (sF (by decide)));have a4:IntKind.u64.wrap (c%128*2^min (7*(i:Int)).toNat IntKind.u64.bits)=c%128*128^i:=by
  have:min (7*(i:Int)).toNat IntKind.u64.bits=7*i:=by
   have:(7*(i:Int)).toNat=7*i:=by omega
   rw[this];exact tR (by show 7*i≤64;omega)
  rw[this,←Qi,BM hx0 (by omega)]
 have a5:IntKind.u64.wrap (((acc%2^IntKind.u64.bits).toNat ||| (c%128*128^i%2^IntKind.u64.bits).toNat:Nat):Int)=acc+c%128*128^i:=by
  rw[e64,Int.emod_eq_of_lt ha.1 (by omega),Int.emod_eq_of_lt hx0 (by omega)];rw[Qi]at hs ⊢;rw[Zp ha.1 (by rw[←Qi];exact ha.2) (by omega) hs,tL (by rw[←Qi];omega),BM (by rw[←Qi];omega) hs]
 have tail:∀x:D,Bd Tryz.prog An (oG 119 8) (λs'=>Bd Tryz.prog An (oG 119 9) (λs'=>match (AF s'.e 47).copy with
   | .v (.bool t)=>if t=true then Bd Tryz.prog An (oG 119 10) (λs'=>Q .ret ⟨[(2,AF s'.e 2)],s'.h⟩) ⟨[(0,AF s'.e 0),(3,AF s'.e 3),(4,AF s'.e 4),(47,AF s'.e 47)],s'.h⟩
    else Bd Tryz.prog An (oG 119 4) (λs'=>Q .normal ⟨[(0,AF s'.e 0),(3,AF s'.e 3),(4,AF s'.e 4)],s'.h⟩) ⟨[(0,AF s'.e 0),(3,AF s'.e 3),(4,AF s'.e 4),(47,AF s'.e 47)],s'.h⟩
   |_=>False) ⟨[(0,AF s'.e 0),(3,AF s'.e 3),(4,AF s'.e 4),(5,AF s'.e 5)],s'.h⟩) ⟨[(0,.ref r 0),(3,.v (.int .u64 acc)),(4,.v (.int .i64 i)),(5,.v (.int .u8 c)),(28,x)],h.set r (Fq xs)⟩:=by
  intro x;simp only[AA 119 8];simp[a1,a2,a3,k3,a4,a5];simp only[AA 119 9];by_cases hl:c <128
  ·have hm:c%128=c:=by omega
   simp[hl,Aq hr,Fq,AH];simp only[AA 119 10];simp;rw[hm];exact hret hl
  ·simp[hl,Fq,AH];simp only[AA 119 4];simp[a6];exact hgo (by omega)
 rcases hj with ⟨j0,j1,j2⟩|j0|⟨j0,j1,j2⟩
 ·have k1:((i:Int)=9)=True:=eq_true (by omega);have k2:0 <i:=by omega
  simp only[AA 119 6];simp[k1,k2,j1,j2];exact tail _
 ·have k1:((i:Int)=9)=False:=eq_false (by omega);have k2:¬0 <i:=by omega
  simp only[AA 119 6];simp[k1,k2];exact tail _
 ·have k1:((i:Int)=9)=False:=eq_false (by omega);simp only[AA 119 6];simp[k1,j0,j2];exact tail _
theorem nI (k:Nat):∀(m acc:Int) (i:Nat) (h:List Row) (r:Nat) (rest:List Int),i+k=9→0≤acc→acc <128^i→0≤m→m <128^(k+1)→acc+m*128^i <18446744073709551616→(0 <i→0 <m)→
  h[r]?=some (Fq (Ci k m++rest))→
  awp Tryz.prog An (.loop (lG 119 0)) (λe s=>e= .ret∧s=⟨[(2,.v (.int .u64 (acc+m*128^i)))],h.set r (Fq rest)⟩) ⟨[(0,.ref r 0),(3,.v (.int .u64 acc)),(4,.v (.int .i64 i))],h⟩:=by
 induction k with
 |zero=>
  intro m acc i h r rest hik ha0 ha1 hm0 hm1 hs h0 hr;obtain rfl:i=9:=by omega
  have e9:(128:Int)^9=9223372036854775808:=by decide
  have e1:(128:Int)^(0+1)=128:=by decide
  rw[e9]at hs ha1;have hm2:m%128=m:=by omega
  refine Aa (TZ (c:=m) (xs:=rest) hr ⟨hm0,by omega⟩ (by omega) (by omega) (by have:=h0 (by omega);omega) ⟨ha0,by rw[e9];exact ha1⟩ (by rw[hm2,e9];exact hs) (λ_=>⟨rfl,rfl⟩) (λh=>by omega))
 |succ k ih=>
  intro m acc i h r rest hik ha0 ha1 hm0 hm1 hs h0 hr;have hp:(0:Int) <128^i:=sF (by decide);by_cases hl:m <128
  ·have hm2:m%128=m:=by omega
   rw[show Ci (k+1) m=[m] by simp[Ci,hl]]at hr;refine Aa (TZ (c:=m) (xs:=rest) hr ⟨hm0,by omega⟩ (by omega) (by omega) (λhh=>by have:=h0 hh.1;omega) ⟨ha0,ha1⟩ (by rw[hm2];exact hs) (λ_=>⟨rfl,rfl⟩) (λh=>by omega))
  ·rw[show Ci (k+1) m=(128+m%128)::Ci k (m/128) by simp[Ci,hl]]at hr;have hc:(128+m%128)%128=m%128:=by omega
   have hp1:(128:Int)^(i+1)=128^i*128:=rN ..;have hle:(m%128)*128^i≤m*128^i:=ry (by omega) (sE hp);have hsum:acc+(m%128)*128^i+(m/128)*128^(i+1)=acc+m*128^i:=by
    have:m*128^i=(m%128+128*(m/128))*128^i:=by rw[Int.emod_add_mul_ediv]
    rw[this,hp1,sM];have:m/128*(128^i*128)=128*(m/128)*128^i:=by
     rw[rX (128^i) 128,←sN,rX (m/128) 128]
    omega
   have hlt:acc+(m%128)*128^i <128^(i+1):=by
    have:(m%128)*128^i≤127*128^i:=ry (by omega) (sE hp);omega
   have hm1':m/128 <128^(k+1):=tZ (by decide) (by rw[←rN];exact hm1);have h2:=ih (m/128) (acc+(m%128)*128^i) (i+1) (h.set r (Fq (Ci k (m/128)++rest))) r rest (by omega) (Int.add_nonneg ha0 (sS (by omega) (sE hp))) hlt (by omega) hm1' (by rw[hsum];exact hs) (by omega) (Aq hr);rw[hsum,rI]at h2;refine A5 (s1:=⟨[(0,.ref r 0),(3,.v (.int .u64 (acc+(m%128)*128^i))),(4,.v (.int .i64 ((i+1:Nat):Int)))],h.set r (Fq (Ci k (m/128)++rest))⟩) ?_ h2;refine TZ (c:=128+m%128) hr ⟨by omega,by omega⟩ (by omega) (by omega) (by omega) ⟨ha0,ha1⟩ (by rw[hc];omega) (λh=>by omega) (λ_=>?_);rw[hc,rQ];rfl
theorem mH (n:Int) (hn:u64 n) (h:List Row) (r:Nat) (rest:List Int) (hr:h[r]?=some (Fq (CY n++rest))):FX 119 [.ref r 0] h [.v (.int .u64 n)] (h.set r (Fq rest)):=by
 refine Fn 119 ?_;unfold u64 at hn;have e10:(128:Int)^(9+1)=1180591620717411303424:=by decide
 have hw:=nI 9 n 0 0 h r rest (by omega) (by omega) (by decide) hn.1 (by omega) (by simpa using hn.2) (by omega) hr;simp only[At 119,AE,AU,AG,AA 119 0,AA 119 1,AA 119 2,Ab];simp;simp at hw;refine Ei hw ?_;simp[AX 119]
end
section
variable {xs:List V} {args ds:List D} {b f n r sz:Nat} {O:Nat→Prop} {h:List Row} {μ:List Nat} {w:World} {g:Gh}
section
variable {P:Program} {GL:Ac}
theorem Inv.frzRow {t:Nat→D} {u:Nat→Value} (hi:Inv g w μ t u h O)
  (hr:h[r]?=some (.cells ds)) (hb:μ[r]?=some b) (hxl:xs.length=n) (hxc:∀x∈xs,x.cells.length=sz) (hvs:D.vs? (ds.take (n*sz))=some (xs.flatMap V.cells)):
  ∃g',Inv g' w μ t u (h.set r .dead) O∧Chg (λz=>z=b) g w g' w∧∀cap,n≤cap→RepV g' (.list xs) (.slice (some ⟨b,0,none⟩) n cap):=by
 obtain⟨vs,T,hheap,hall,hone,hgn⟩:=hi.rows r _ b hr hb;have hcl:=QR hvs (hall.take (n*sz));obtain⟨ws,w1,w2,w3⟩:=QT hxc hcl (λu hu=>hone u (rK hu));have hwl:ws.length=n:=by rw[w1.1,hxl]
 let g':=g.put b 0 (vs.take (n*sz))
 have hgle:g.le g':=Gh.le_put _ λo _ _=>hgn o;have hchg:Chg (λz=>z=b) g w g' w:=⟨hgle,qM _,λ_ _ _=>rfl,λb' _ hb' o=>Gh.put_other hb' o,rfl,rfl⟩;have hag:∀b' o v,g'.m b' o=some v→w.cell? ⟨b',o,none⟩=some v:=by
  intro b' o v hv;by_cases hb':b'=b
  ·subst hb';rw[cell_of_row w b' o _ _ _ hheap];simp only[g',Gh.put]at hv;split at hv
   ·rename_i hc;simp only[sV]at hv;have h2:=hc.2.2;rw[qu]at hv;split at hv
    ·simpa using hv
    ·cases hv
   ·rw[hgn]at hv;cases hv
  ·simp only[g',Gh.put_other hb']at hv;exact hi.agree b' o v hv
 have hinv:=hi.setAny hr hb .dead hchg hag (Bc hheap) (λk ds d h=>by cases h);have hsz:∀i,i <n→((λi=>ws.getD i (.bool false)) i).cells.size=sz:=λi hi=>by
  have:i <ws.length:=by omega
  simp only[List.getD,qH this,qd];exact w3 _ (rl this)
 refine⟨g',hinv,hchg,λcap hcap=>?_⟩;rw[←hxl];refine RepV.list xs ⟨b,0,none⟩ cap sz (λi=>ws.getD i (.bool false)) rfl (by omega) (λi x hi=>?_) (λi hi=>⟨hsz i (by omega),λj v hj=>?_⟩)
 ·obtain⟨u,hu,hru⟩:=w1.get hi;simp only[List.getD,hu,qd];exact hru.mono hgle
 ·have hjs:j <sz:=by have:=(qK.1 hj).1;have:=hsz i (by omega);simp at *;omega
  have:=Gh.put_at g b 0 (vs.take (n*sz)) (i*sz+j) v (by
   rw[w2,N9,hwl,EK hsz (by omega) hjs];exact hj)
  simpa using this
theorem K8 {ac:AC} {rs:List AR} {ys:List V} (hk:Cq P GL f n ac rs=true) (hn:args.length=n)
  (hw:awp P GL ac (λe s=>(match e with| .exit _=>False|_=>True)∧∃(ds cs:List D) (i r m sz:Nat) (xs:List V),DS s rs=some [.agg ds]∧ds[i]?=some (.sref r m)∧s.h[r]?=some (.cells cs)∧xs.length=m∧(∀x∈xs,x.cells.length=sz)∧
   D.vs? (cs.take (m*sz))=some (xs.flatMap V.cells)∧ds.set i (.v (.list xs))=ys.map .v) ⟨Ab args,[]⟩):FSp P GL f args [] [.v (.agg ys)] []:=by
 refine J9 (Gy (rets:=[.v (.agg ys)]) (h':=[]) hk hn (AZ ac (λe s=>by
  rintro⟨h1,ds,cs,i,r,m,sz,xs,hres,hi,hr,hx,hxc,hvs,hys⟩;refine⟨h1,_,hres,λg w μ v O hinv=>?_⟩;have hrep:RepD g w μ (.agg ds) v:=hinv.rep 0;obtain⟨vs,rfl,ha,ho,hnn⟩:=hrep;obtain⟨u,hu,hru⟩:=ha.get hi;obtain⟨b,cap,hb,rfl,hnc⟩:=hru;obtain⟨g',hinv',hchg,hrv⟩:=hinv.frzRow hr hb hx hxc hvs;have hlen:ys.length=ds.length:=by have:=congrArg List.length hys;simpa using this.symm
  have hset:=hinv'.set (d:=0) (x:= .v (.agg ys)) (v:= .agg vs.toArray) (.agg' ⟨by rw[hlen];exact ha.1,λj y v hj hv=>?_⟩ ho) (λk=>CM _ _ _)
  ·have e1:(λn=>if 0=n then D.v (.agg ys) else IU .any (Bj [.agg ds]) n)=IU .any (Bj [.v (.agg ys)]):=by
    funext k;cases k<;>simp[IU,Bj]
   have e2:(λn=>if 0=n then Value.agg vs.toArray else IU (.bool false) (.agg vs.toArray) n)=IU (.bool false) (.agg vs.toArray):=by
    funext k;cases k<;>simp[IU]
   rw[e1,e2]at hset;refine⟨g',[],λμ0 hμ0 _=>by rw[rU hμ0];exact qP _,?_,hchg.mono λz (hz:z=b) ho=>hinv.mo b (qJ hb) (hz▸ho)⟩;exact Inv.low (h:=[]) hset (λk=>by cases k<;>rfl) (by simp)
  ·have hm:(ys.map D.v)[j]?=some (.v y):=by rw[qZ,hj];rfl
   rw[←hys,rY]at hm;by_cases hij:i=j
   ·subst hij;rw[if_pos rfl]at hm;split at hm
    ·simp only[qF,D.v.injEq]at hm;subst hm;rw[hu]at hv;simp only[qF]at hv;subst hv;exact hrv cap hnc
    ·cases hm
   ·rw[if_neg hij]at hm;exact RepV.mono hchg.le (ha.2 j _ v hm hv)) hw))
theorem Gf {args rets:List V} (hf:FSp P GL f (args.map .v) [] (rets.map .v) []):PSp P GL f args rets:=by
 refine⟨hf.1,λg w us hag hgl hall=>?_⟩;have hinv:Inv g w [] KL Mj [] (λb=>b <w.heap.size):=by
  refine⟨hag,λb hb=>hb,λn=>by simp[KL,RepD,RepG,RepE],rfl,λr row b hr=>by simp at hr,λr r' b hr=>by simp at hr,λb hb=>by simp at hb,λp q b hp=>?_,λp b hp=>?_⟩
  ·exfalso;cases p with
   |tmp n k=>cases k<;>simp[Cl,KL,Ak,Ae]at hp
   |cell r k=>simp[Cl,A9,Ae]at hp
  ·exfalso;cases p with
   |tmp n k=>cases k<;>simp[Cl,KL,Ak,Ae]at hp
   |cell r k=>simp[Cl,A9,Ae]at hp
 refine(hf.2 g w [] us _ hinv hgl ⟨by simpa using hall.1,λi x v hx hv=>?_⟩ (λi d v hd hv=>?_)).mono ?_
 ·simp only[qZ,qQ]at hx;obtain⟨y,hy,rfl⟩:=hx;exact hall.2 i y v hy hv
 ·simp only[qZ,qQ]at hd;obtain⟨y,_,rfl⟩:=hd;simp[Ae]
 ·rintro e w' ⟨v,g',μ',rfl,hi,hc,hμ⟩;obtain rfl:μ'=[]:=rU hi.len;have hr:=hi.rep 0;simp only[IU,if_true,Jt]at hr;exact⟨v,g',rfl,hr,⟨hc.le,hc.size,λb hb _=>hc.heap b hb (λh=>h hb),λb hb _=>hc.gh b hb (λh=>h hb),hc.os,hc.out⟩,hi.agree⟩
end
end
section
variable {f i k n:Nat} {K:St→Prop} {s:St} {bn:List Nat} {e:CH} {h':List Row}
section
variable {P:Program} {GL:Ac}
def cL (Ax:List (List Nat)) (n:Nat) (rem:List Nat):Prop:=∀j <n,j∉rem→∀i∈(Ax[j]?).getD [],i∉rem
theorem Ri {Ax:List (List Nat)} {rem:List Nat} (h:Wc Ax rem i=true):i∈rem∧∀j∈(Ax[i]?).getD [],j∉rem:=by
 simp only[Wc,qI,List.contains_iff_mem,qV,rV,←Bool.not_eq_true]at h;exact⟨h.1,λj hj=>by simpa using h.2 j hj⟩
theorem V5 {is:List GI} {Ax:List (List Nat)} (I:List Nat→St→Prop)
  (hstep:∀rem i s,i∈rem→(∀j∈(Ax[i]?).getD [],j∉rem)→(∀j <n,j∉rem→i∉(Ax[j]?).getD [])→I rem s→∃s1,BW P GL (is.getD i default) s s1∧I (rem.erase i) s1)
  (hfin:∀s,I [] s→K s):∀(t:AT) (rem:List Nat) (s:St),rem.Nodup→cL Ax n rem→t.chk is Ax rem=true→I rem s→t.ok P GL is K s:=by
 have down:∀rem i,rem.Nodup→cL Ax n rem→i∈rem→(∀j∈(Ax[i]?).getD [],j∉rem)→cL Ax n (rem.erase i):=by
  intro rem i hnd hd hi hdep j hj hjr k hk hkr;have hk2:k∈rem:=tW hkr;by_cases hji:j=i
  ·subst hji;exact hdep k hk hk2
  ·exact hd j hj (λhm=>hjr ((uI hji).2 hm)) k hk hk2
 intro t;induction t with
 |done=>
  intro rem s _ _ hc hi;simp only[AT.chk,List.isEmpty_iff]at hc;subst hc;exact hfin s hi
 |take i t ih=>
  intro rem s hnd hd hc hi;simp only[AT.chk,qI]at hc;obtain⟨h1,h2⟩:=Ri hc.1.1.1;obtain⟨s1,g1,g2⟩:=hstep rem i s h1 h2 (λj hj hjr hij=>hd j hj hjr i hij h1) hi;exact⟨s1,g1,ih _ _ (hnd.erase i) (down rem i hnd hd h1 h2) hc.2 g2⟩
 |pick c ih=>
  intro rem s hnd hd hc hi;simp only[AT.chk,qI]at hc;exact ih rem s hnd hd hc.2 hi
 |alt i t r iht ihr=>
  intro rem s hnd hd hc hi;simp only[AT.chk,qI]at hc;obtain⟨h1,h2⟩:=Ri hc.1.1.1;obtain⟨s1,g1,g2⟩:=hstep rem i s h1 h2 (λj hj hjr hij=>hd j hj hjr i hij h1) hi;exact⟨⟨s1,g1,iht _ _ (hnd.erase i) (down rem i hnd hd h1 h2) hc.1.2 g2⟩,ihr rem s hnd hd hc.2 hi⟩
 |none=>intro rem s _ _ _ _;trivial
def Cj (d:Nat→Bool) (i:Nat):Nat→Bool:=λj=>decide (j=i)||d j
theorem GU {is:List GI} {Ax:List (List Nat)} (I:(Nat→Bool)→St→Prop) {t:AT} (ht:t.chk is Ax (List.range n)=true)
  (hstep:∀d i s,i <n→d i=false→(∀j∈(Ax[i]?).getD [],d j=true)→(∀j <n,i∈(Ax[j]?).getD []→d j=false)→I d s→∃s1,BW P GL (is.getD i default) s s1∧I (Cj d i) s1)
  (hfin:∀d s,(∀j <n,d j=true)→I d s→K s) (h0:I (λj=>decide (n≤j)) s):t.ok P GL is K s:=by
 refine V5 (Ax:=Ax) (n:=n) (λrem s=>rem.Nodup∧(∀i∈rem,i <n)∧I (λj=>decide (j∉rem)) s) ?_ ?_ t (List.range n) s uK ?_ ht ⟨uK,λi hi=>qj.1 hi,?_⟩
 ·rintro rem i s hi hdep hup ⟨hnd,hlt,hI⟩;obtain⟨s1,g1,g2⟩:=hstep (λj=>decide (j∉rem)) i s (hlt i hi) (by simpa using hi) (λj hj=>by simpa using hdep j hj) (λj hj hij=>by
   have:j∈rem:=Classical.byContradiction λh=>hup j hj h hij;simpa using this) hI
  refine⟨s1,g1,hnd.erase i,λj hj=>hlt j (tW hj),?_⟩;have e:(λj=>decide (j∉rem.erase i))=Cj (λj=>decide (j∉rem)) i:=by
   funext j
   simp only[Cj,hnd.mem_erase_iff];by_cases h1:j=i<;>simp[h1]
  rw[e];exact g2
 ·rintro s ⟨_,_,hI⟩;exact hfin _ s (λj _=>by simp) hI
 ·intro j hj hjr i hi;exact absurd (qj.2 hj) hjr
 ·have e:(λj=>decide (j∉List.range n))=λj=>decide (n≤j):=by
   funext j;simp
  rw[e];exact h0
def EnvD (ns cs:List (Option Nat)) (bn:List Nat) (vs bv:Nat→D) (d:Nat→Bool) (e:CH):Prop:=
 (∀j k:Nat,ns[j]?=some (some k)→d j=true→(∀c:Nat,cs[j]?=some (some c)→d c=false)→AF e k=vs j)∧∀k∈bn,AF e k=bv k
def Uh (ns:List (Option Nat)) (bn:List Nat):Bool:=
 (List.range ns.length).all λj=>match ns[j]? with
  |some (some k)=> !bn.contains k&&(List.range ns.length).all λi=>i==j|| !(ns[i]?==some (some k))
  |_=>true
theorem K5 {ns:List (Option Nat)} (h:Uh ns bn=true) {j:Nat} (hj:ns[j]?=some (some k)):k∉bn∧∀i,ns[i]?=some (some k)→i=j:=by
 have hjl:j <ns.length:=(qK.1 hj).1;have:=qV.1 h j (qj.2 hjl);rw[hj]at this;simp only[qI,rV,qV,sZ,beq_iff_eq]at this;refine⟨λhm=>?_,λi hi=>?_⟩
 ·have h1:=this.1;simp at h1;exact h1 hm
 ·have hil:i <ns.length:=(qK.1 hi).1;rcases this.2 i (qj.2 hil)with h2|h2
  ·exact h2
  ·rw[hi]at h2;simp at h2
theorem EnvD.step {ns cs:List (Option Nat)} {vs bv:Nat→D} {d:Nat→Bool} {e1:CH} (hE:EnvD ns cs bn vs bv d e) (hok:Uh ns bn=true) (i:Nat)
  (hnew:∀k:Nat,ns[i]?=some (some k)→AF e1 k=vs i) (hold:∀k:Nat,ns[i]?≠some (some k)→(∀j:Nat,cs[j]?=some (some i)→ns[j]?≠some (some k))→AF e1 k=AF e k):EnvD ns cs bn vs bv (Cj d i) e1:=by
 refine⟨λj k hj hd hc=>?_,λk hk=>?_⟩
 ·by_cases hji:j=i
  ·subst hji;exact hnew k hj
  ·have hdj:d j=true:=by simpa[Cj,hji]using hd
   rw[hold k (λhi=>hji ((K5 hok hi).2 j hj)) (λj' hj' hk'=>?_)]
   ·refine hE.1 j k hj hdj λc hcc=>?_;have:=hc c hcc;simp only[Cj,Bool.or_eq_false_iff]at this;exact this.2
   ·have hjj:j=j':=(K5 hok hk').2 j hj;subst hjj;have:=hc i hj';simp[Cj]at this
 ·rw[hold k (λhi=>(K5 hok hi).1 hk) (λj' _ hk'=>(K5 hok hk').1 hk)];exact hE.2 k hk
theorem EnvD.push {ns cs:List (Option Nat)} {vs bv:Nat→D} {d:Nat→Bool} (hE:EnvD ns cs bn vs bv d e) (hok:Uh ns bn=true) (i k:Nat) {v:D} (hi:ns[i]?=some (some k)) (hv:vs i=v):
  EnvD ns cs bn vs bv (Cj d i) ((k,v)::e):=by
 refine hE.step hok i (λk' hk'=>?_) (λk' hk' _=>?_)
 ·rw[hi]at hk';simp only[qF]at hk';subst hk';show (if k=k then v else AF e k)=vs i;rw[if_pos rfl,hv]
 ·show (if k=k' then v else AF e k')=AF e k';rw[if_neg (λh=>hk' (by rw[hi,h]))]
theorem EnvD.last {ns cs:List (Option Nat)} {vs bv:Nat→D} {d:Nat→Bool} (hE:EnvD ns cs bn vs bv d e) (hok:Uh ns bn=true) (i j m:Nat) (hi:ns[i]?=some none) (hj:cs[j]?=some (some i)) (hm:ns[j]?=some (some m)):
  EnvD ns cs bn vs bv (Cj d i) ((m,.any)::e):=by
 refine hE.step hok i (λk' hk'=>?_) (λk' hk' hc=>?_)
 ·rw[hi]at hk';simp at hk'
 ·show (if m=k' then .any else AF e k')=AF e k';rw[if_neg (λh=>hc j hj (by rw[hm,h]))]
theorem Ay {is:List GI} {pi:PI} {v:D} {se:CH} {sh:List Row} (hx:is.getD i default=⟨none,.p k pi⟩) (hv:pi.val se sh=some v):BW P GL (is.getD i default) ⟨se,sh⟩ ⟨(k,v)::se,sh⟩:=by
 rw[hx];refine .inl ?_;show (pi.val se sh).map (λx=>(⟨(k,x)::se,sh⟩:St))=_;rw[hv];rfl
theorem Bs {is:List GI} {ai:AI} {s1:St} (hx:is.getD i default=⟨none,ai⟩) (hv:ai.step s=some s1):BW P GL (is.getD i default) s s1:=by
 rw[hx];exact .inl hv
theorem Bu {is:List GI} {args:List Opd} {r:D} {se:CH} {sh:List Row} (hx:is.getD i default=⟨none,.callF (some k) (.c (.v (.func f []))) args⟩) (hF:FSp P GL f (Ar se args) sh [r] h'):
  BW P GL (is.getD i default) ⟨se,sh⟩ ⟨(k,r)::se,h'⟩:=by
 rw[hx];exact .inr (.inr (.inl ⟨some k,_,args,[r],h',.inl rfl,⟨f,[],rfl,by simpa using hF⟩,rfl⟩))
end
end
structure HM where
 E:List ((Int×Int)×Int)
 st:List Nat
 ck:Nat
def Dn:List ((Int×Int)×Int)→Int×Int→Option Int
 |[],_=>none
 |x::E,k=>if x.1=k then some x.2 else Dn E k
def aD:List ((Int×Int)×Int)→Int×Int→Int→List ((Int×Int)×Int)
 |[],k,v=>[(k,v)]
 |x::E,k,v=>if x.1=k then (k,v)::E else x::aD E k v
def HM.get (m:HM) (k:Int×Int):Option Int:=Dn m.E k
def HM.set (m:HM) (k:Int×Int) (v:Int):HM:=
 if (m.get k).isSome then ⟨aD m.E k v,m.st,m.ck⟩ else ⟨aD m.E k v,m.st++[m.ck],m.ck+1⟩
def n9 (x:(Int×Int)×Int):V×V:=(.agg [.int .i64 x.1.1,.int .i64 x.1.2],.int .u64 x.2)
def HM.row (m:HM):Row:= .map (m.E.map n9) m.st m.ck
def KY (a b:Option Int):Option Int:=
 match a,b with
 |none,none=>none
 |a,b=>some (Od [98,108,111,99,107] [IntKind.i64.wrap (a.getD 0),IntKind.i64.wrap (b.getD 0)])
def bH (lf:Int→Option Int):Nat→Int→Option Int
 |0,n=>lf n
 |l+1,n=>KY (bH lf l (2*n)) (bH lf l (2*n+1))
def upd (lf:Int→Option Int) (k v:Int):Int→Option Int:=λx=>if x=k then some v else lf x
def Wg:Nat→Int→Int→Int→HM→HM
 |0,j,n,h,m=>m.set (j,n) h
 |f+1,j,n,h,m=>Wg f (j+1) (n/2) ((KY ((m.set (j,n) h).get (j,2*(n/2))) ((m.set (j,n) h).get (j,2*(n/2)+1))).getD 0) (m.set (j,n) h)
theorem SP (lf:Int→Option Int):∀(l:Nat) (n:Int),(bH lf l n).isSome=true↔∃k,n*2^l≤k∧k <(n+1)*2^l∧(lf k).isSome=true
 |0,n=>by
  simp only[bH,Int.pow_zero,Int.mul_one]
  constructor
  ·exact λh=>⟨n,by omega,by omega,h⟩
  ·rintro⟨k,h1,h2,h3⟩;have:k=n:=by omega
   subst this;exact h3
 |l+1,n=>by
  have hj:∀a b:Option Int,(KY a b).isSome=true↔a.isSome=true∨b.isSome=true:=by intro a b;cases a<;>cases b<;>simp[KY]
  simp only[bH,hj,SP lf l];have e1:n*2^(l+1)=2*n*2^l:=by rw[rN,rX (2^l) 2,←sN,rX n 2]
  have e2:(n+1)*2^(l+1)=(2*n+1+1)*2^l:=by rw[rN,rX (2^l) 2,←sN];congr 1;omega
  rw[e1,e2];have hpos:(0:Int) <2^l:=sF (by decide);have e3:(2*n+1)*2^l=2*n*2^l+2^l:=by rw[sM,tM]
  have e4:(2*n+1+1)*2^l=2*n*2^l+2^l+2^l:=by rw[sM,e3,tM]
  rw[e3,e4];generalize (2:Int)*n*2^l=A at*;generalize (2:Int)^l=p at*
  constructor
  ·rintro(⟨k,h1,h2,h3⟩|⟨k,h1,h2,h3⟩)<;>exact⟨k,by omega,by omega,h3⟩
  ·rintro⟨k,h1,h2,h3⟩;by_cases h4:k <A+p
   ·exact .inl ⟨k,h1,h4,h3⟩
   ·exact .inr ⟨k,by omega,h2,h3⟩
open Go.Proofs Go.Shelf Go.Maps Go.Sort
def Rb (l:List Int):List Int:=l.mergeSort (λx y=>decide (x≤y))
end Go.Va
