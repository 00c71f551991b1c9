/- Laws, part 3. No condition. -/
import Derived.Maps.RangeRun
import Derived.Lib.AppendStr
import Derived.Lib.ConvBytes
import Derived.Laws.MakeOwn
import Derived.Laws.OwnMore
import Derived.OrdersIn
import Derived.Laws.Cover3
import Derived.Test.YtbonllhdlmegeaaGreatDoorL02
set_option linter.all false
set_option maxRecDepth 100000
set_option maxHeartbeats 4000000
noncomputable section
namespace Go.Va
section
variable {P:Program} {GL:Globals} {N:Nat}
theorem src_list {g:Gh} {w:World} (hag:∀b o v,g.m b o=some v→w.cell? ⟨b,o,none⟩=some v) {ys:List V} {u:Value} (h:RepV g (.list ys) u) {s:Nat} (hs:0 <s) (hh:headOK s ys=true):
  ∃vy,Src P w s u ys.length (flat ys.length vy)∧(∀j y,ys[j]?=some y→RepV g y (vy j))∧(∀j,j <ys.length→(vy j).cells.size=s)∧∀j,j <ys.length→∀v∈(vy j).cells.toList,v.oneCell'=true:=by
 cases h with
 |lnil=>
  refine⟨λ_=> .bool true,⟨λw'=>by simp[Builtin.lenOf],by simp[Builtin.firstCells,flat],by simp[Builtin.firstCells,flat]⟩,by simp,by simp,by simp⟩
 |list _ a cap s' vs hsp hc hr hz=>
  have hss:0 <ys.length→s'=s:=by
   intro h0;have hx0:ys[0]?=some ys[0]:=List.getElem?_eq_getElem _;have h1:ys.head?=some ys[0]:=by rw[List.head?_eq_getElem?];exact hx0
   simp[headOK,h1]at hh;have h3:=(hr 0 _ hx0).cells.1.1;have h4:=(hz 0 h0).1;simp at h3;omega
  have hzz:∀j,j <ys.length→(vs j).cells.size=s:=λj hj=>by rw[←hss (by omega)];exact(hz j hj).1
  have hcells:∀w',(∀b o,w'.cell? ⟨b,o,none⟩=w.cell? ⟨b,o,none⟩)→(Builtin.firstCells s ys.length (.slice (some a) ys.length cap)).run P w'= .ok (flat ys.length vs).toArray w':=by
   intro w' hw';refine run_firstCells_some (P:=P) w' s ys.length a _ _ _ (flat_len hzz) λk v hv=>?_;rw[addr_add hsp,hw'];refine flat_at (f:=λo=>w.cell? ⟨a.block,o,none⟩) (o:=a.off) hs hzz (λj hj k v hv=>?_) k v hv;have h2:=(hz j hj).2;rw[hss (by omega)]at h2;exact hag _ _ v (h2 k v hv)
  refine⟨vs,⟨λw'=>by simp[Builtin.lenOf],hcells w λ_ _=>rfl,hcells w.drew λ_ _=>rfl⟩,hr,hzz,λj hj v hv=>?_⟩;have hj':ys[j]?=some ys[j]:=List.getElem?_eq_getElem hj;exact(hr j _ hj').cells.2 v hv
def elemIs (P:Program) (e s by_:Nat):Bool:=
 match P.info? e with
 |some i=>i.size==s&&i.bytes==by_&&decide (0 <s)&&(match i.zero with|some z=>z.cells.size==s|none=>false)
 |none=>false
theorem elemIs_inv {e s by_:Nat} (h:elemIs P e s by_=true):∃i z,P.info? e=some i∧i.size=s∧i.bytes=by_∧0 <i.size∧i.zero=some z∧z.cells.size=i.size:=by
 unfold elemIs at h;split at h
 ·rename_i i hi;simp only[Bool.and_eq_true,beq_iff_eq,decide_eq_true_eq]at h;obtain⟨⟨⟨rfl,rfl⟩,h0⟩,hz⟩:=h;split at hz
  ·rename_i z hzz;exact⟨i,z,hi,rfl,rfl,h0,hzz,by simpa using hz⟩
  ·cases hz
 ·cases h
def sliceIs (P:Program) (t e:Nat):Bool:=match P.underlying t with|some (.slice e')=>e==e'|_=>false
theorem sliceIs_inv {t e:Nat} (h:sliceIs P t e=true):P.underlying t=some (.slice e):=by
 unfold sliceIs at h;split at h
 ·rename_i e' he;have:e=e':=by simpa using h
  rw[this];exact he
 ·cases h
def baseOK (q:Opd):Bool:=match q with| .t _ mv=>mv| .c (.own _ _ [])=>true| .c (.nil _ _)=>true|_=>false
theorem base_mv {g:Gh} {w:World} {μ:List Nat} {s:St} {a:Act} {O:Nat→Prop} (hg:Gs GL N g w μ s a O) {x:Operand} {q:Opd} (hk:oe GL x q=true) (hb:baseOK q=true):
  ∀e' s' ys,q.ev s.e= .own e' s' ys→(∃m,q= .t m true)∨a.eval x= .slice none 0 0:=by
 intro e' s' ys hq;cases q with
 |t m mv=>
  simp only[baseOK]at hb;subst hb;exact .inl ⟨m,rfl⟩
 |c d=>
  simp only[Opd.ev]at hq;subst hq;cases x with
  |const v=>
   right
   rcases oe_const hk with hk|⟨cs,xs,rfl,hq⟩
   case inr=>cases hq
   unfold constD at hk;split at hk<;>first|rfl|(rename_i h _;cases h)|cases hk
   all_goals simp_all [Act.eval]
  |tmp n=>simp[oe]at hk
  |global n=>simp[oe]at hk
  |func f=>simp[oe]at hk
 |g n cs=>simp[Opd.ev]at hq
theorem app_ok {o:Oper} {d:Nat} {x y:Operand} {q r:Opd} {t t2 e s by_ e2:Nat} (ho:o.dst=some d) (hop:o.op= .call {callee:= .builtin .append,args:= #[x,y],argTypes:= #[t,t2]}) (hd:d <N)
  (hk:oe GL x q=true) (hk2:oe GL y r=true) (hb:baseOK q=true) (ht:sliceIs P t e=true) (ht2:sliceIs P t2 e2=true) (he:elemIs P e s by_=true):EffOK P GL N o (.app d q r e s by_):=by
 intro g w μ st st' a O hg hs;obtain⟨i,z,hi,rfl,rfl,h0,hz,hzs⟩:=elemIs_inv he;simp only[AI.step]at hs;split at hs
 ·rename_i xs ys hx hy;split at hs
  ·rename_i hcond;simp only[Option.some.injEq]at hs;subst hs;have hry:=toV_rep ((hg.gd P).ev hk2) hy;obtain⟨vy,h1,h2,h3,h4⟩:=src_list (P:=P) hg.inv.agree hry h0 hcond.1;obtain⟨v,w',g',hrun,hgs,hch⟩:=app_core hg (ty:=o.type) (sliceIs_inv ht) (sliceIs_inv ht2) (by simp) hi hz hzs h0 hk hx (base_mv hg hk hb) h1 h2 h3 h4 hcond.2 hd;exact⟨v,w',g',μ,.inl (by simp[execOp,hop,resolve,invoke,builtin,hrun]),by rw[ho];exact hgs,hch,List.prefix_refl _⟩
  ·cases hs
 ·cases hs
theorem src_str (w:World) (b:ByteArray):Src P w 1 (.string b) (b.data.toList.map λc=>V.int .u8 c.toNat).length (flat (b.data.toList.map λc=>V.int .u8 c.toNat).length λj=> .int .u8 ((b.data.toList[j]?.map (·.toNat)).getD 0:Nat)):=by
 have hfl:flat (b.data.toList.map λc=>V.int .u8 c.toNat).length (λj=>Value.int .u8 ((b.data.toList[j]?.map (·.toNat)).getD 0:Nat))=b.data.toList.map λc=>Value.int .u8 c.toNat:=by
  apply List.ext_getElem?;intro k;have hl:=flat_len (s:=1) (n:=(b.data.toList.map λc=>V.int .u8 c.toNat).length) (vs:=λj=>Value.int .u8 ((b.data.toList[j]?.map (·.toNat)).getD 0:Nat)) (λ_ _=>by simp[Value.cells]);by_cases hk:k <b.data.toList.length
  ·have:=flat_get (s:=1) (n:=(b.data.toList.map λc=>V.int .u8 c.toNat).length) (vs:=λj=>Value.int .u8 ((b.data.toList[j]?.map (·.toNat)).getD 0:Nat)) (λ_ _=>by simp[Value.cells]) (i:=k) (j:=0) (by simpa using hk) (by omega);simp only[Nat.mul_one,Nat.add_zero]at this;rw[this];simp[Value.cells,List.getElem?_eq_getElem hk]
  ·rw[List.getElem?_eq_none (by rw[hl];simp at hk ⊢;omega),List.getElem?_eq_none (by simp at hk ⊢;omega)]
 rw[hfl];have hx:∀w',(Builtin.firstCells 1 (b.data.toList.map λc=>V.int .u8 c.toNat).length (.string b)).run P w'= .ok (b.data.toList.map λc=>Value.int .u8 c.toNat).toArray w':=by
  intro w';have hsz:(b.data.toList.map λc=>V.int .u8 c.toNat).length=b.size:=by simp
  rw[hsz];simp only[Builtin.firstCells,Sem.run_pure]
  congr 1
  have:b.extract 0 b.size=b:=by simp
  rw[this];rw[←Array.toList_inj];simp
 exact⟨λw'=>by simp[Builtin.lenOf],hx w,hx w.drew⟩
theorem appS_ok {o:Oper} {d:Nat} {x y:Operand} {q r:Opd} {t t2 e by_:Nat} (ho:o.dst=some d) (hop:o.op= .call {callee:= .builtin .append,args:= #[x,y],argTypes:= #[t,t2]}) (hd:d <N)
  (hk:oe GL x q=true) (hk2:oe GL y r=true) (hb:baseOK q=true) (ht:sliceIs P t e=true) (ht2:isK P t2 (λ| .string=>true|_=>false)=true) (he:elemIs P e 1 by_=true):
  EffOK P GL N o (.appS d q r e by_):=by
 intro g w μ st st' a O hg hs;obtain⟨i,z,hi,hi1,rfl,h0,hz,hzs⟩:=elemIs_inv he;simp only[AI.step]at hs;split at hs
 ·rename_i xs b hx hy;split at hs
  ·rename_i hcond;simp only[Option.some.injEq]at hs;subst hs;have hry:=(hg.gd P).ev hk2;rw[hy]at hry;have hyv:=rep_str hry;have hsrc:=src_str (P:=P) w b;rw[←hi1]at hsrc hx;obtain⟨v,w',g',hrun,hgs,hch⟩:=app_core hg (ty:=o.type) (sliceIs_inv ht) (isK_string ht2) (by simp) hi hz hzs h0 hk hx (base_mv hg hk hb) hsrc
    (λj y hj=>by
     simp only[List.getElem?_map,Option.map_eq_some_iff]at hj;obtain⟨c,hc,rfl⟩:=hj;simp only[hc,Option.map_some,Option.getD_some];exact .int _ _)
    (λj _=>by rw[hi1];simp[Value.cells]) (λj _ v hv=>by simp[Value.cells]at hv;rw[hv];rfl) (by simpa using hcond) hd
   rw[hi1]at hgs;exact⟨v,w',g',μ,.inl (by simp[execOp,hop,resolve,invoke,builtin,hyv,hrun]),by rw[ho];exact hgs,hch,List.prefix_refl _⟩
  ·cases hs
 ·cases hs
theorem toVs_rep {g:Gh} {w:World} {μ:List Nat} {st:St} {a:Act} {h:List Row} {O:Nat→Prop} (hg:Gd P GL g w μ st.e a h O):∀ {ps:List Operand} {qs:List Opd} {vs:List V},zipOK (oe GL) ps qs=true→toVs st.e qs=some vs→
  All2 (RepV g) vs (ps.map a.eval)
 |[],[],vs,_,hv=>by simp only[toVs,Option.some.injEq]at hv;subst hv;exact .nil
 |p::ps,q::qs,vs,hk,hv=>by
  simp only[zipOK,Bool.and_eq_true]at hk;simp only[toVs]at hv;split at hv
  ·rename_i x xs hx hxs;simp only[Option.some.injEq]at hv;subst hv;exact .cons (toV_rep (hg.ev hk.1) hx) (toVs_rep hg hk.2 hxs)
  ·cases hv
 |[],_::_,_,hk,_=>by simp[zipOK]at hk
 |_::_,[],_,hk,_=>by simp[zipOK]at hk
theorem toCells_rep {g:Gh} {w:World} {μ:List Nat} {st:St} {a:Act} {h:List Row} {O:Nat→Prop} (hg:Gd P GL g w μ st.e a h O) {sz:Nat}:∀ {ps:List Operand} {qs:List Opd} {cs:List D},zipOK (oe GL) ps qs=true→toCells st.e sz qs=some cs→
  All2 (RepE g w μ) cs ((ps.map a.eval).flatMap λv=>v.cells.toList)∧(∀v∈(ps.map a.eval).flatMap λv=>v.cells.toList,v.oneCell'=true)∧
   (∀(i:Nat) z v,cs[i]?=some z→((ps.map a.eval).flatMap λv=>v.cells.toList)[i]?=some v→own1 z v=none)∧∀v∈ps.map a.eval,v.cells.size=sz
 |[],[],cs,_,hv=>by simp only[toCells,Option.some.injEq]at hv;subst hv;exact⟨.nil,by simp,by simp,by simp⟩
 |p::ps,q::qs,cs,hk,hv=>by
  simp only[zipOK,Bool.and_eq_true]at hk;simp only[toCells]at hv;split at hv
  ·rename_i c cs' hc hcs;split at hv
   ·rename_i hl;simp only[Option.some.injEq]at hv;subst hv;obtain⟨r1,r2,r3⟩:=cells_row (hg.ev hk.1).copy hc;obtain⟨k1,k2,k3,k4⟩:=toCells_rep hg hk.2 hcs;have hl1:(c.map D.toRow).length=(a.eval p).cells.toList.length:=r1.1.symm;refine⟨?_,?_,?_,?_⟩
    ·simp only[List.map_cons,List.flatMap_cons];exact r1.append k1
    ·intro v hv;simp only[List.map_cons,List.flatMap_cons,List.mem_append]at hv;rcases hv with hv|hv
     ·exact r2 v hv
     ·exact k2 v hv
    ·intro i z v hz hv;simp only[List.map_cons,List.flatMap_cons]at hv;by_cases hi:i <(c.map D.toRow).length
     ·rw[List.getElem?_append_left hi]at hz;rw[List.getElem?_append_left (hl1▸hi)]at hv;exact r3 i z v hz hv
     ·rw[List.getElem?_append_right (by omega)]at hz;rw[List.getElem?_append_right (by omega),←hl1]at hv;exact k3 _ z v hz hv
    ·intro v hv;simp only[List.map_cons,List.mem_cons]at hv;rcases hv with rfl|hv
     ·have:=r1.1;simp at this;omega
     ·exact k4 v hv
   ·cases hv
  ·cases hv
 |[],_::_,_,hk,_=>by simp[zipOK]at hk
 |_::_,[],_,hk,_=>by simp[zipOK]at hk
theorem zipOK_len {α β:Type} {f:α→β→Bool}:∀ {xs:List α} {ys:List β},zipOK f xs ys=true→xs.length=ys.length
 |[],[],_=>rfl
 |x::xs,y::ys,h=>by simp only[zipOK,Bool.and_eq_true]at h;simp[zipOK_len h.2]
 |[],_::_,h=>by simp[zipOK]at h
 |_::_,[],h=>by simp[zipOK]at h
def inOrder (GL:Globals):Nat→List (Nat×Operand)→List Opd→Bool
 |_,[],[]=>true
 |k,p::ps,q::qs=>p.1==k&&oe GL p.2 q&&inOrder GL (k+1) ps qs
 |_,_,_=>false
theorem inOrder_inv:∀ {k:Nat} {ps:List (Nat×Operand)} {qs:List Opd},inOrder GL k ps qs=true→zipOK (oe GL) (ps.map (·.2)) qs=true∧∀f:Operand→Value,ps.map (λp=>(p.1,f p.2))=((ps.map λp=>f p.2).zipIdx k).map λx=>(x.2,x.1)
 |_,[],[],_=>⟨rfl,λ_=>rfl⟩
 |k,p::ps,q::qs,h=>by
  simp only[inOrder,Bool.and_eq_true,beq_iff_eq]at h;obtain⟨⟨h1,h2⟩,h3⟩:=h;obtain⟨r1,r2⟩:=inOrder_inv h3;refine⟨by simp[zipOK,h2,r1],λf=>?_⟩;simp only[List.map_cons,List.zipIdx_cons,h1,r2 f]
 |_,[],_::_,h=>by simp[inOrder]at h
 |_,_::_,[],h=>by simp[inOrder]at h
theorem bsl_ok {o:Oper} {d t n e s by_:Nat} {ps:Array (Nat×Operand)} {qs:List Opd} (ho:o.dst=some d) (hop:o.op= .buildSlice t n ps) (hd:d <N) (ht:sliceIs P t e=true) (he:elemIs P e s by_=true)
  (hn:ps.toList.length=n) (hsm:n*s≤2^24) (hk:inOrder GL 0 ps.toList qs=true):EffOK P GL N o (.bsl d e s qs):=by
 intro g w μ st st' a O hg hs;obtain⟨i,z,hi,rfl,rfl,h0,hz,hzs⟩:=elemIs_inv he;obtain⟨k1,k2⟩:=inOrder_inv hk;simp only[AI.step]at hs;split at hs
 ·rename_i vs hvs;split at hs
  ·rename_i hall;have hrep:=toVs_rep (hg.gd P) k1 hvs;have hlen:vs.length=n:=by have:=hrep.1;simp at this;rw[←hn];simp;omega
   have hparts:(ps.map λp=>(p.1,a.eval p.2)).toList=(((ps.toList.map λp=>a.eval p.2)).zipIdx 0).map λx=>(x.2,x.1):=by
    rw[Array.toList_map];exact k2 a.eval
   have hmm:(ps.toList.map (·.2)).map a.eval=ps.toList.map λp=>a.eval p.2:=by simp
   rw[hmm]at hrep;have hpl:(ps.toList.map λp=>a.eval p.2).length=n:=by simpa using hn
   have hcell:∀(j:Nat) (v:Value) (x:V),(ps.toList.map λp=>a.eval p.2)[j]?=some v→vs[j]?=some x→v.cells.size=i.size:=by
    intro j v x hv hx;have h1:=(hrep.2 j x v hx hv).cells.1.1;have h2:=List.all_eq_true.1 hall x (List.mem_of_getElem? hx);simp at h1 h2;omega
   cases vs with
   |nil=>
    simp only[Option.some.injEq]at hs;subst hs;have hn0:n=0:=by simpa using hlen.symm
    subst hn0;have hp0:ps= #[]:=by rw[←Array.toList_inj];simpa using List.eq_nil_of_length_eq_zero hn
    subst hp0;have hch:=chg_alloc (λ_=>False) g w (.cells #[] e);refine⟨.slice (some ⟨w.heap.size,0,none⟩) 0 0,w.alloc (.cells #[] e),g,μ,.inl ?_,?_,hch.mono λ_ h=>h.elim,List.prefix_refl _⟩
    ·simp[execOp,hop,Instr.buildSlice,run_underlying (sliceIs_inv ht),sizeOf,typeInfo,hi,Instr.fill,newRow,show Array.range 0= #[] from rfl]
    ·rw[ho];have h2:Gs GL N g (w.alloc (.cells #[] e)) μ st a O:=⟨hg.inv.chg hch (agree_alloc hg.inv.agree _),hg.glob,hg.sz⟩;refine h2.set hd ⟨_,rfl,λx hx=>by cases hx;rfl⟩ λk=>by cases k<;>simp[ownAt,own1]
   |cons x0 xs0=>
    simp only[Option.some.injEq]at hs;subst hs;have hn0:0 <n:=by simp at hlen;omega
    let vv:Nat→Value:=λj=>((ps.toList.map λp=>a.eval p.2)[j]?).getD (.bool true)
    have hvz:∀j,j <n→(vv j).cells.size=i.size:=by
     intro j hj;have e1:(ps.toList.map λp=>a.eval p.2)[j]?=some (ps.toList.map λp=>a.eval p.2)[j]:=List.getElem?_eq_getElem (by omega);have e2:(x0::xs0)[j]?=some (x0::xs0)[j]:=List.getElem?_eq_getElem (by omega);simp only[vv,e1,Option.getD_some];exact hcell j _ _ e1 e2
    have hfl:((ps.toList.map λp=>a.eval p.2).flatMap λv=>v.cells.toList)=flat n vv:=by
     have:(ps.toList.map λp=>a.eval p.2)=(List.range n).map vv:=by
      apply List.ext_getElem?;intro j;by_cases hj:j <n
      ·have e1:(ps.toList.map λp=>a.eval p.2)[j]?=some (ps.toList.map λp=>a.eval p.2)[j]:=List.getElem?_eq_getElem (by omega);rw[e1,List.getElem?_map (l:=List.range n),List.getElem?_range hj];simp only[Option.map_some,vv,e1,Option.getD_some]
      ·rw[List.getElem?_eq_none (by omega),List.getElem?_eq_none (by simp;omega)]
     rw[this,flat,List.flatMap_map]
    have hfill:=Great.fill_whole h0 (ps.toList.map λp=>a.eval p.2) ((Array.range (n*i.size)).map (z.cells[· %z.cells.size]!)) (λv hv=>by
     obtain⟨j,hj,rfl⟩:=List.mem_iff_getElem.1 hv;have e1:(ps.toList.map λp=>a.eval p.2)[j]?=some (ps.toList.map λp=>a.eval p.2)[j]:=List.getElem?_eq_getElem hj;have e2:(x0::xs0)[j]?=some (x0::xs0)[j]:=List.getElem?_eq_getElem (by omega);exact hcell j _ _ e1 e2) (by rw[hpl];simp)
    rw[hfl,←hparts]at hfill;have hns:¬n*i.size>2^24:=by omega
    have hnp:¬n*i.size=0:=by
     intro h;rcases Nat.mul_eq_zero.1 h with h|h<;>omega
    have hrun:=run_buildSlice (P:=P) w t e n _ _ i z (sliceIs_inv ht) hi hz hns hnp hfill
    let w':=w.alloc (.cells (flat n vv).toArray e)
    let g':=g.put w.heap.size 0 (flat n vv)
    have hnone:∀o,g.m w.heap.size o=none:=λo=>Gh.lt_of hg.inv.agree (Nat.le_refl _) o;have hgle:g.le g':=Gh.le_put _ λo _ _=>hnone o;have hheap:w'.heap[w.heap.size]?=some (.cells (flat n vv).toArray e (0,0)):=heap_alloc_new w _;have hchg:Chg (λ_=>False) g w g' w':=⟨hgle,by simp[w'],λb hb _=>heap_alloc_old w _ b hb,λb hb _ o=>Gh.put_other (by omega) o,rfl,rfl⟩;have hfll:(flat n vv).length=n*i.size:=flat_len hvz;have hag:∀b o v,g'.m b o=some v→w'.cell? ⟨b,o,none⟩=some v:=by
     intro b o v hv;simp only[g',Gh.put]at hv;split at hv
     ·rename_i hc;obtain⟨rfl,_,hc2⟩:=hc;simp only[Nat.sub_zero]at hv;rw[cell_of_row w' w.heap.size o _ e (0,0) hheap];simpa using hv
     ·exact agree_alloc hg.inv.agree _ b o v hv
    have hown:RepOwn g' w' e i.size (x0::xs0) (.slice (some ⟨w.heap.size,0,none⟩) n n):=by
     refine .inr ⟨w.heap.size,n,_,vv,by rw[hlen],hn0,hheap,by omega,by simpa using hfll,?_,?_,?_⟩
     ·intro j x hx;have hj:=(List.getElem?_eq_some_iff.1 hx).1;have e1:(ps.toList.map λp=>a.eval p.2)[j]?=some (ps.toList.map λp=>a.eval p.2)[j]:=List.getElem?_eq_getElem (by omega);have:=hrep.2 j x _ hx e1;simp only[vv,e1,Option.getD_some];exact this.mono hgle
     ·intro j hj;have hjn:j <n:=by omega
      refine⟨hvz j hjn,λk v hv=>?_⟩;have hks:k <i.size:=by have:=hvz j hjn;have:=(List.getElem?_eq_some_iff.1 hv).1;simp at this;omega
      have:=Gh.put_at g w.heap.size 0 (flat n vv) (j*i.size+k) v (by rw[flat_get hvz hjn hks];exact hv);simpa using this
     ·intro o ho;simp only[g',Gh.put];rw[if_neg (by rw[hfll];rw[hlen]at ho;omega),hnone o]
    refine⟨.slice (some ⟨w.heap.size,0,none⟩) n n,w',g',μ,.inl ?_,⟨?_,hg.glob.mono hgle,by rw[put_size,hg.sz]⟩,hchg.mono λ_ h=>h.elim,List.prefix_refl _⟩
    ·simp[execOp,hop,hrun,w']
    ·rw[ho,put_get _ (hg.sz▸hd)];refine hg.inv.newOwn hchg hag hown (λh=>by simp at h) λb hb=>?_;simp only[own1]at hb;split at hb
     ·cases hb
     ·simp only[Option.some.injEq]at hb;omega
  ·cases hs
 ·cases hs
theorem bsr_ok {o:Oper} {d t n e s by_:Nat} {ps:Array (Nat×Operand)} {qs:List Opd} (ho:o.dst=some d) (hop:o.op= .buildSlice t n ps) (hd:d <N) (ht:sliceIs P t e=true) (he:elemIs P e s by_=true)
  (hn:ps.toList.length=n) (hn0:0 <n) (hsm:n*s≤2^24) (hk:inOrder GL 0 ps.toList qs=true):EffOK P GL N o (.bsr d s qs):=by
 intro g w μ st st' a O hg hs;obtain⟨i,z,hi,rfl,rfl,h0,hz,hzs⟩:=elemIs_inv he;obtain⟨k1,k2⟩:=inOrder_inv hk;simp only[AI.step]at hs;split at hs
 ·rename_i cs hcs;simp only[Option.some.injEq]at hs;subst hs;obtain⟨r1,r2,r3,r4⟩:=toCells_rep (hg.gd P) k1 hcs;have hmm:(ps.toList.map (·.2)).map a.eval=ps.toList.map λp=>a.eval p.2:=by simp
  rw[hmm]at r1 r2 r3 r4;have hparts:(ps.map λp=>(p.1,a.eval p.2)).toList=(((ps.toList.map λp=>a.eval p.2)).zipIdx 0).map λx=>(x.2,x.1):=by
   rw[Array.toList_map];exact k2 a.eval
  have hpl:(ps.toList.map λp=>a.eval p.2).length=n:=by simpa using hn
  have hql:qs.length=n:=by have:=zipOK_len k1;simp at this;rw[←this];simpa using hn
  have hfill:=Great.fill_whole h0 (ps.toList.map λp=>a.eval p.2) ((Array.range (n*i.size)).map (z.cells[· %z.cells.size]!)) r4 (by rw[hpl];simp);rw[←hparts]at hfill;have hns:¬n*i.size>2^24:=by omega
  have hnp:¬n*i.size=0:=by
   intro h;rcases Nat.mul_eq_zero.1 h with h|h<;>omega
  have hrun:=run_buildSlice (P:=P) w t e n _ _ i z (sliceIs_inv ht) hi hz hns hnp hfill;have hnew:=hg.inv.newRow (zs:=cs) e r1.p r2 r3;refine⟨.slice (some ⟨w.heap.size,0,none⟩) n n,w.alloc (.cells (((ps.toList.map λp=>a.eval p.2).flatMap λv=>v.cells.toList)).toArray e),g,μ++[w.heap.size],.inl (by simp[execOp,hop,hrun]),?_,chg_alloc _ g w _,List.prefix_append _ _⟩;rw[ho,hql];have hgn:Gs GL N g (w.alloc (.cells (((ps.toList.map λp=>a.eval p.2).flatMap λv=>v.cells.toList)).toArray e)) (μ++[w.heap.size]) ⟨st.e,st.h++[.cells cs]⟩ a O:=⟨hnew,hg.glob,hg.sz⟩;have hrd:RepD g (w.alloc (.cells (((ps.toList.map λp=>a.eval p.2).flatMap λv=>v.cells.toList)).toArray e)) (μ++[w.heap.size]) (.sref st.h.length n) (.slice (some ⟨w.heap.size,0,none⟩) n n):=⟨w.heap.size,n,by rw[←hg.inv.len];simp,rfl,Nat.le_refl _⟩;exact hgn.set hd hrd λk=>by cases k<;>simp[ownAt,own1]
 ·cases hs
end
abbrev anyT:Nat→D:=λ_=> .any
abbrev anyU:Nat→Value:=λ_=> .bool false
def D.norm (d:D):D:=match d.toV with|some x=> .v x|none=>d
def D.arg (d:D):D:=d.copy.norm
def argsOf (e:Env) (qs:List Opd):List D:=qs.map λq=>(q.ev e).arg
def fnOf (d:D):Option (Nat×List D):=
 match d.norm with
 | .v (.func f cs)=>some (f,cs.map .v)
 | .func f ds=>some (f,ds)
 |_=>none
theorem norm_of {d:D} {x:V} (h:d.toV=some x):d.norm= .v x:=by simp[D.norm,h]
theorem toV_copy {d:D} {x:V} (h:d.toV=some x):d.copy.toV=some x:=by
 cases d<;>first
  |exact h
  |(simp[D.toV,D.v?]at h;done)
theorem arg_of {d:D} {x:V} (h:d.toV=some x):d.arg= .v x:=norm_of (toV_copy h)
theorem fnOf_of {d:D} {f:Nat} {cs:List V} (h:d.toV=some (.func f cs)):fnOf d=some (f,cs.map .v):=by simp[fnOf,norm_of h]
theorem argsOf_of {e:Env}:∀ {qs:List Opd} {vs:List V},toVs e qs=some vs→argsOf e qs=vs.map .v
 |[],vs,h=>by simp only[toVs,Option.some.injEq]at h;subst h;rfl
 |q::qs,vs,h=>by
  simp only[toVs]at h;split at h
  ·rename_i x xs hx hxs;simp only[Option.some.injEq]at h;subst h;have:=argsOf_of hxs;simp only[argsOf]at this;simp only[argsOf,List.map_cons,arg_of hx,this]
  ·cases h
def retDs:List D→D
 |[x]=>x
 |xs=> .tup xs
section
variable {P:Program} {GL:Globals} {N:Nat} {g:Gh} {w:World} {μ:List Nat}
theorem RepD.norm {d:D} {u:Value} (h:RepD g w μ d u):RepD g w μ d.norm u:=by
 unfold D.norm;split
 ·rename_i x hx;exact toV_rep h hx
 ·exact h
theorem copyG {d:D} {u:Value} (h:RepD g w μ d u):RepG g w μ d.copy u:=by
 cases d<;>first
  |exact h
  |exact RepOwn.list h.1
  |trivial
theorem RepD.arg {d:D} {u:Value} (h:RepD g w μ d u):RepG g w μ d.arg u:=by
 unfold D.arg D.norm;split
 ·rename_i x hx;exact toV_rep h.copy hx
 ·exact copyG h
theorem own1_arg (d:D) (u:Value):own1 d.arg u=none:=by
 unfold D.arg D.norm;split
 ·simp[own1]
 ·exact own1_copy d u
def Tame (ds:List D) (us:List Value):Prop:=∀(i:Nat) d v,ds[i]?=some d→us[i]?=some v→own1 d v=none
theorem Tame.append {ds ds':List D} {us us':List Value} (hl:us.length=ds.length) (h:Tame ds us) (h':Tame ds' us'):Tame (ds++ds') (us++us'):=by
 intro i d v hd hv;by_cases hi:i <ds.length
 ·rw[List.getElem?_append_left hi]at hd;rw[List.getElem?_append_left (by omega)]at hv;exact h i d v hd hv
 ·rw[List.getElem?_append_right (by omega)]at hd;rw[List.getElem?_append_right (by omega),hl]at hv;exact h' _ d v hd hv
theorem argsOf_rep {st:St} {a:Act} {h:List Row} {O:Nat→Prop} (hg:Gd P GL g w μ st.e a h O):∀ {ps:List Operand} {qs:List Opd},zipOK (oe GL) ps qs=true→
  All2 (RepG g w μ) (argsOf st.e qs) (ps.map a.eval)∧Tame (argsOf st.e qs) (ps.map a.eval)
 |[],[],_=>⟨.nil,λi d v h=>by simp[argsOf]at h⟩
 |p::ps,q::qs,hk=>by
  simp only[zipOK,Bool.and_eq_true]at hk;obtain⟨h1,h2⟩:=argsOf_rep hg hk.2;refine⟨.cons (hg.ev hk.1).arg h1,λi d v hd hv=>?_⟩;cases i with
  |zero=>simp[argsOf]at hd;subst hd;exact own1_arg _ _
  |succ i=>exact h2 i d v (by simpa[argsOf]using hd) (by simpa using hv)
 |[],_::_,hk=>by simp[zipOK]at hk
 |_::_,[],hk=>by simp[zipOK]at hk
theorem fnOf_rep {d:D} {u:Value} (h:RepD g w μ d u) {f:Nat} {caps:List D} (hf:fnOf d=some (f,caps)):∃cvs:List Value,u= .func (.func f) #[] cvs.toArray∧All2 (RepG g w μ) caps cvs∧Tame caps cvs:=by
 have h:=h.norm;unfold fnOf at hf;generalize d.norm=d at h hf;split at hf
 ·rename_i f' cs;simp only[Option.some.injEq,Prod.mk.injEq]at hf;obtain⟨rfl,rfl⟩:=hf;cases h with
  |func _ _ vs hl hr=>
   refine⟨vs,rfl,All2.map_left (f:=D.v) (R:=RepV g) (λx y h=>h) ⟨hl,hr⟩,λi d v hd hv=>?_⟩;simp only[List.getElem?_map,Option.map_eq_some_iff]at hd;obtain⟨y,_,rfl⟩:=hd;simp[own1]
 ·rename_i f' ds;simp only[Option.some.injEq,Prod.mk.injEq]at hf;obtain⟨rfl,rfl⟩:=hf;obtain⟨vs,rfl,hall⟩:=h;refine⟨vs,rfl,hall.imp λd v h=>?_,λi d v hd hv=>?_⟩
  ·cases d<;>first|exact h|exact h.elim
  ·have:=hall.2 i d v hd hv;cases d<;>first|rfl|exact this.elim
 ·cases hf
end
section
variable {g:Gh} {w:World} {μ:List Nat} {t:Nat→D} {u:Nat→Value} {h:List Row} {O:Nat→Prop}
def Ocall (t:Nat→D) (u:Nat→Value) (O:Nat→Prop) (b:Nat):Prop:=O b∨∃n k,ownAt (t n) (u n) k=some b
theorem blk_any {h:List Row} {w:World} {μ:List Nat} {n k b:Nat}:¬blk anyT anyU h w μ (.tmp n k)=some b:=by
 cases k<;>simp[blk,ownAt,own1]
theorem Inv.call (hi:Inv g w μ t u h O):Inv g w μ anyT anyU h (Ocall t u O) where
 agree:=hi.agree
 olt:=λb hb=>by
  rcases hb with hb|⟨n,k,hb⟩
  ·exact hi.olt b hb
  ·exact hi.blk_lt (p:= .tmp n k) hb
 rep:=λn=>trivial
 len:=hi.len
 rows:=hi.rows
 nod:=hi.nod
 mo:=λb hb ho=>by
  rcases ho with ho|⟨n,k,ho⟩
  ·exact hi.mo b hb ho
  ·exact(hi.sep (.tmp n k) b ho).1 hb
 uniq:=λp q b hp hq=>by
  cases p with
  |tmp n k=>exact absurd hp blk_any
  |cell r k=>cases q with
   |tmp n k=>exact absurd hq blk_any
   |cell r' k'=>exact hi.uniq _ _ b hp hq
 sep:=λp b hp=>by
  cases p with
  |tmp n k=>exact absurd hp blk_any
  |cell r k=>
   obtain⟨h1,h2⟩:=hi.sep (.cell r k) b hp;refine⟨h1,λho=>?_⟩;rcases ho with ho|⟨n,k',ho⟩
   ·exact h2 ho
   ·have:=hi.uniq (.cell r k) (.tmp n k') b hp ho;cases this
theorem Inv.ret (hi:Inv g w μ t u h O) {g':Gh} {w':World} {μ':List Nat} {h':List Row} (hi':Inv g' w' μ' anyT anyU h' (Ocall t u O))
  (hc:Chg (λb=>¬Ocall t u O b) g w g' w') (hμ:μ <+: μ'):Inv g' w' μ' t u h' O where
 agree:=hi'.agree
 olt:=λb hb=>hi'.olt b (.inl hb)
 rep:=λn=>chg_tmp hi hc hμ n λk b hb hn=>hn (.inr ⟨n,k,hb⟩)
 len:=hi'.len
 rows:=hi'.rows
 nod:=hi'.nod
 mo:=λb hb ho=>hi'.mo b hb (.inl ho)
 uniq:=λp q b hp hq=>by
  cases p with
  |tmp n k=>cases q with
   |tmp n' k'=>exact hi.uniq (.tmp n k) (.tmp n' k') b hp hq
   |cell r' k'=>exact absurd (.inr ⟨n,k,hp⟩) (hi'.sep (.cell r' k') b hq).2
  |cell r k=>cases q with
   |tmp n' k'=>exact absurd (.inr ⟨n',k',hq⟩) (hi'.sep (.cell r k) b hp).2
   |cell r' k'=>exact hi'.uniq _ _ b hp hq
 sep:=λp b hp=>by
  cases p with
  |tmp n k=>exact⟨λhm=>hi'.mo b hm (.inr ⟨n,k,hp⟩),(hi.sep (.tmp n k) b hp).2⟩
  |cell r k=>
   obtain⟨h1,h2⟩:=hi'.sep (.cell r k) b hp;exact⟨h1,λho=>h2 (.inl ho)⟩
def at0 {α:Type} (z x:α):Nat→α:=λn=>if 0=n then x else z
theorem Inv.retV (hi:Inv g w μ t u h O) {g':Gh} {w':World} {μ':List Nat} {h':List Row} {x:D} {v:Value} (hi':Inv g' w' μ' (at0 .any x) (at0 (.bool false) v) h' (Ocall t u O))
  (hb:Inv g' w' μ' t u h' O) (d:Nat):Inv g' w' μ' (λn=>if d=n then x else t n) (λn=>if d=n then v else u n) h' O:=by
 have htd:∀k b,blk (λn=>if d=n then x else t n) (λn=>if d=n then v else u n) h' w' μ' (.tmp d k)=some b→blk (at0 .any x) (at0 (.bool false) v) h' w' μ' (.tmp 0 k)=some b:=by
  intro k b hb;simpa[blk,at0]using hb
 have htn:∀n k b,d≠n→blk (λn=>if d=n then x else t n) (λn=>if d=n then v else u n) h' w' μ' (.tmp n k)=some b→blk t u h' w' μ' (.tmp n k)=some b:=by
  intro n k b hn hb;simpa[blk,hn]using hb
 have hO:∀n k b,blk t u h' w' μ' (.tmp n k)=some b→Ocall t u O b:=λn k b hb=> .inr ⟨n,k,hb⟩;refine⟨hb.agree,hb.olt,λn=>?_,hb.len,hb.rows,hb.nod,hb.mo,?_,?_⟩
 ·by_cases hn:d=n
  ·simp only[hn,if_true];simpa[at0]using hi'.rep 0
  ·simp only[hn,if_false];exact hb.rep n
 ·intro p q b hp hq;cases p with
  |tmp n k=>
   cases q with
   |tmp n' k'=>
    by_cases hn:d=n
    ·subst hn;by_cases hn':d=n'
     ·subst hn';have:=hi'.uniq _ _ b (htd k b hp) (htd k' b hq);simp only[Pl.tmp.injEq,true_and]at this;rw[this]
     ·exact absurd (hO _ _ _ (htn n' k' b hn' hq)) (hi'.sep _ b (htd k b hp)).2
    ·by_cases hn':d=n'
     ·subst hn';exact absurd (hO _ _ _ (htn n k b hn hp)) (hi'.sep _ b (htd k' b hq)).2
     ·exact hb.uniq _ _ b (htn n k b hn hp) (htn n' k' b hn' hq)
   |cell r k'=>
    by_cases hn:d=n
    ·subst hn;have:=hi'.uniq (.tmp 0 k) (.cell r k') b (htd k b hp) hq;cases this
    ·exact hb.uniq _ _ b (htn n k b hn hp) hq
  |cell r k=>
   cases q with
   |tmp n' k'=>
    by_cases hn':d=n'
    ·subst hn';have:=hi'.uniq (.cell r k) (.tmp 0 k') b hp (htd k' b hq);cases this
    ·exact hb.uniq _ _ b hp (htn n' k' b hn' hq)
   |cell r' k'=>exact hb.uniq (.cell r k) (.cell r' k') b hp hq
 ·intro p b hp;cases p with
  |tmp n k=>
   by_cases hn:d=n
   ·subst hn;obtain⟨h1,h2⟩:=hi'.sep _ b (htd k b hp);exact⟨h1,λho=>h2 (.inl ho)⟩
   ·exact hb.sep _ b (htn n k b hn hp)
  |cell r k=>exact hb.sep (.cell r k) b hp
theorem Inv.enter (hi:Inv g w μ anyT anyU h O) (hr:∀n,RepD g w μ (t n) (u n)) (h0:∀n k,ownAt (t n) (u n) k=none):Inv g w μ t u h O where
 agree:=hi.agree
 olt:=hi.olt
 rep:=hr
 len:=hi.len
 rows:=hi.rows
 nod:=hi.nod
 mo:=hi.mo
 uniq:=λp q b hp hq=>by
  cases p with
  |tmp n k=>simp[blk,h0]at hp
  |cell r k=>cases q with
   |tmp n k=>simp[blk,h0]at hq
   |cell r' k'=>exact hi.uniq _ _ b hp hq
 sep:=λp b hp=>by
  cases p with
  |tmp n k=>simp[blk,h0]at hp
  |cell r k=>exact hi.sep (.cell r k) b hp
theorem Inv.leave (hi:Inv g w μ t u h O):Inv g w μ anyT anyU h O where
 agree:=hi.agree
 olt:=hi.olt
 rep:=λn=>trivial
 len:=hi.len
 rows:=hi.rows
 nod:=hi.nod
 mo:=hi.mo
 uniq:=λp q b hp hq=>by
  cases p with
  |tmp n k=>exact absurd hp blk_any
  |cell r k=>cases q with
   |tmp n k=>exact absurd hq blk_any
   |cell r' k'=>exact hi.uniq _ _ b hp hq
 sep:=λp b hp=>by
  cases p with
  |tmp n k=>exact absurd hp blk_any
  |cell r k=>exact hi.sep (.cell r k) b hp
end
section
variable {P:Program} {GL:Globals} {N:Nat}
def byteSl (P:Program) (t:Nat):Bool:=match P.underlying t with|some (.slice e)=>isK P e (λ| .int .u8=>true|_=>false)|_=>false
theorem isK_u8 {e:Nat} (hs:isK P e (λ| .int .u8=>true|_=>false)=true):P.underlying e=some (.int .u8):=by
 unfold isK at hs;split at hs
 ·rename_i d' hd2;cases d'<;>simp at hs
  rename_i k;cases k<;>simp at hs
  exact hd2
 ·cases hs
theorem bytesWorld_os (w:World) (e:TypeId) (s:ByteArray):(Lib.bytesWorld w e s).os=w.os:=by
 unfold Lib.bytesWorld World.freeze;split<;>rfl
theorem bytesWorld_out (w:World) (e:TypeId) (s:ByteArray):(Lib.bytesWorld w e s).output=w.output:=by
 unfold Lib.bytesWorld World.freeze;split<;>rfl
theorem s2b_ok {o:Oper} {d src dst:Nat} {x:Operand} {q:Opd} (ho:o.dst=some d) (hop:o.op= .convert src dst x) (hd:d <N) (hk:oe GL x q=true)
  (hs:isK P src (λ| .string=>true|_=>false)=true) (ht:byteSl P dst=true):EffOK P GL N o (.s2b d q):=by
 intro g w μ st st' a O hg hst;unfold byteSl at ht;split at ht
 ·rename_i e hu;have he:=isK_u8 ht;simp only[AI.step]at hst;split at hst
  ·rename_i b hb;simp only[Option.some.injEq]at hst;subst hst;have hr:=(hg.gd P).ev hk;rw[hb]at hr;have hxv:=rep_str hr;have hrun:=Lib.run_convert_string_bytes (P:=P) w src dst e b (isK_string hs) hu he
   let bs:List Value:=b.data.toList.map λc=> .int .u8 c.toNat
   let g':=g.put w.heap.size 0 bs
   have hnone:∀o,g.m w.heap.size o=none:=λo=>Gh.lt_of hg.inv.agree (Nat.le_refl _) o;have hgle:g.le g':=Gh.le_put _ λo _ _=>hnone o;have hch:Chg (λ_=>False) g w g' (Lib.bytesWorld w e b):=⟨hgle,by rw[Lib.bytesWorld_size];omega,λj hj _=>Lib.bytesWorld_at_old w e b j hj,λj hj _ o=>Gh.put_other (by omega) o,bytesWorld_os w e b,bytesWorld_out w e b⟩;have hag:∀j o v,g'.m j o=some v→(Lib.bytesWorld w e b).cell? ⟨j,o,none⟩=some v:=by
    intro j o v hv;simp only[g',Gh.put]at hv;split at hv
    ·rename_i hc;obtain⟨rfl,_,hc2⟩:=hc;simp only[Nat.sub_zero]at hv;have hlt:o <b.size:=by have:=(List.getElem?_eq_some_iff.1 hv).1;simpa[bs]using this
     rw[Lib.bytesWorld_cell w e b o hlt];simp only[bs,List.getElem?_map,Option.map_eq_some_iff]at hv;obtain⟨c,hc',rfl⟩:=hv;simp[List.getD,hc']
    ·have hj:j <w.heap.size:=by
      have:=hg.inv.agree j o v hv;rcases Nat.lt_or_ge j w.heap.size with h'|h'
      ·exact h'
      ·simp[World.cell?,Array.getElem?_eq_none h']at this
     rw[Lib.bytesWorld_old w e b _ hj];exact hg.inv.agree j o v hv
   have hg2:Gs GL N g' (Lib.bytesWorld w e b) μ st a O:=⟨hg.inv.chg hch hag,hg.glob.mono hgle,hg.sz⟩;refine⟨.slice (some ⟨w.heap.size,0,none⟩) b.size (grownCap w b.size 0 e),_,g',μ,.inl (by simp[execOp,hop,hxv,hrun]),?_,hch.mono λ_ h=>h.elim,List.prefix_refl _⟩;rw[ho];refine hg2.set hd ?_ λk=>own_v _ _ _;have hlen:(b.data.toList.map λc=>V.int .u8 c.toNat).length=b.size:=by simp
   have:=RepV.list (g:=g') (b.data.toList.map λc=>V.int .u8 c.toNat) ⟨w.heap.size,0,none⟩ (grownCap w b.size 0 e) 1 (λi=> .int .u8 ((b.data.toList.getD i 0).toNat:Int)) rfl
    (by rw[hlen];simp only[grownCap];exact Nat.le_add_right _ _) (λi x hx=>by
     simp only[List.getElem?_map,Option.map_eq_some_iff]at hx;obtain⟨c,hc,rfl⟩:=hx;simp only[List.getD,hc,Option.getD_some];exact .int _ _) (λi hi=>by
     rw[hlen]at hi;refine⟨by simp[Value.cells],λk v hv=>?_⟩;have hv':k=0∧v= .int .u8 ((b.data.toList.getD i 0).toNat:Int):=by
      cases k with
      |zero=>exact⟨rfl,by simpa only[Value.cells,List.getElem?_cons_zero,Option.some.injEq,eq_comm]using hv⟩
      |succ k=>simp[Value.cells]at hv
     obtain⟨rfl,rfl⟩:=hv';have hbi:bs[i]?=some (.int .u8 ((b.data.toList.getD i 0).toNat:Int)):=by
      have hi':i <b.data.toList.length:=by simpa using hi
      simp only[bs,List.getElem?_map,List.getElem?_eq_getElem hi',Option.map_some,List.getD,Option.getD_some]
     have:=Gh.put_at g w.heap.size 0 bs i _ hbi;simpa using this)
   rw[hlen]at this;exact this
  ·cases hst
 ·cases ht
theorem own_fin {g:Gh} {w:World} (hag0:∀b o v,g.m b o=some v→w.cell? ⟨b,o,none⟩=some v) {b cap e s:Nat} {xs:List V} (h:RepOwn g w e s xs (.slice (some ⟨b,0,none⟩) xs.length cap)) (hrm:xs.length+1≤cap) {y:V} {u:Value}
  (hr:RepV g y u) (hu:u.cells.size=s):
  ∃cur:Array Value,w.heap[b]?=some (.cells cur e (0,0))∧xs.length*s+u.cells.toList.length≤cur.size∧
   RepOwn (g.put b (xs.length*s) u.cells.toList) (w.setRow b (putL cur.toList (xs.length*s) u.cells.toList).toArray) e s (xs++[y]) (.slice (some ⟨b,0,none⟩) (xs.length+1) cap)∧
   Chg (λz=>z=b) g w (g.put b (xs.length*s) u.cells.toList) (w.setRow b (putL cur.toList (xs.length*s) u.cells.toList).toArray)∧
   ∀b' o v,(g.put b (xs.length*s) u.cells.toList).m b' o=some v→(w.setRow b (putL cur.toList (xs.length*s) u.cells.toList).toArray).cell? ⟨b',o,none⟩=some v:=by
 rcases h with ⟨a,h1,h2,_⟩|⟨b',cap',cur,vs,h1,hcap,hheap,hlc,hcs,hvr,hvz,hvn⟩
 ·simp only[Value.slice.injEq]at h1;omega
 simp only[Value.slice.injEq,Option.some.injEq,Addr.mk.injEq,true_and,and_true]at h1;obtain⟨rfl,rfl⟩:=h1;have hul:u.cells.toList.length=s:=by simpa using hu
 have hfit:xs.length*s+u.cells.toList.length≤cur.size:=by
  rw[hul,hcs];have:=Nat.mul_le_mul_right s hrm;rw[Nat.add_mul,Nat.one_mul]at this;exact this
 have hgle:g.le (g.put b (xs.length*s) u.cells.toList):=Gh.le_put _ λo h1 _=>hvn o h1;have hheap':(w.setRow b (putL cur.toList (xs.length*s) u.cells.toList).toArray).heap[b]?=some (.cells (putL cur.toList (xs.length*s) u.cells.toList).toArray e (0,0)):=setRow_heap w b _ _ _ _ hheap;have hchg:Chg (λz=>z=b) g w (g.put b (xs.length*s) u.cells.toList) (w.setRow b (putL cur.toList (xs.length*s) u.cells.toList).toArray):=
  ⟨hgle,by simp,λb' _ hb'=>setRow_other w b b' _ hb',λb' _ hb' o=>Gh.put_other hb' o,rfl,rfl⟩
 refine⟨cur,hheap,hfit,?_,hchg,?_⟩
 ·refine .inr ⟨b,cap,_,λj=>if j <xs.length then vs j else u,by rw[List.length_append];rfl,by omega,hheap',by rw[List.length_append];exact hrm,?_,?_,?_,?_⟩
  ·simp only[List.size_toArray];rw[putL_length _ _ _ (by simpa using hfit)];simpa using hcs
  ·intro j z hj;by_cases hlt:j <xs.length
   ·simp only[hlt,if_true];rw[List.getElem?_append_left hlt]at hj;exact(hvr j z hj).mono hgle
   ·simp only[hlt,if_false];rw[List.getElem?_append_right (by omega)]at hj;have hj0:j-xs.length=0:=by
     have:=(List.getElem?_eq_some_iff.1 hj).1;simp at this;omega
    rw[hj0]at hj;simp only[List.getElem?_cons_zero,Option.some.injEq]at hj;subst hj;exact hr.mono hgle
  ·intro j hj;rw[List.length_append]at hj;by_cases hlt:j <xs.length
   ·simp only[hlt,if_true];exact⟨(hvz j hlt).1,(hvz j hlt).2.mono hgle⟩
   ·simp only[hlt,if_false];have hj0:j=xs.length:=by simp at hj;omega
    subst hj0;exact⟨hu,Gh.put_at g b (xs.length*s) u.cells.toList⟩
  ·intro o ho;rw[List.length_append,List.length_singleton,Nat.add_mul,Nat.one_mul]at ho;simp only[Gh.put];rw[if_neg (by rw[hul];omega)];exact hvn o (by omega)
 ·intro b' o v hv;by_cases hb':b'=b
  ·subst hb';rw[cell_of_row _ b' o _ _ _ hheap',←Array.getElem?_toList,List.toList_toArray,putL_get _ _ _ (by simpa using hfit)];simp only[Gh.put]at hv;split at hv
   ·rename_i hc;rw[if_neg (by omega),if_pos hc.2.2];exact hv
   ·have hc1:o <xs.length*s:=by
     rcases Nat.lt_or_ge o (xs.length*s)with h|h
     ·exact h
     ·rw[hvn o h]at hv;cases hv
    rw[if_pos hc1];have:=hag0 b' o v hv;rw[cell_of_row w b' o _ _ _ hheap]at this;rw[Array.getElem?_toList];exact this
  ·simp only[Gh.put_other hb']at hv;rw[World.cell?_of_block (a:=⟨b',o,none⟩) (setRow_other w b b' _ hb')];exact hag0 b' o v hv
theorem fin_ok {o:Oper} {t m sz:Nat} {p x:Operand} {ad p' q:Opd} (ho:o.dst=none) (hop:o.op= .store t p x) (hm:m <N) (hp:oe GL p p'=true) (hk:oe GL x q=true) (hsz:sizeIs P t sz=true):
  EffOK P GL N o (.fin m ad p' q sz):=by
 intro g w μ s s' a O hg hs;simp only[AI.step]at hs;have hrp:=(hg.gd P).ev hp;have hrx:=(hg.gd P).ev hk;split at hs
 ·rename_i b s0 n y hc hy;rw[hc]at hrp;have hpv:0 <s0→a.eval p= .pointer (some ⟨b,n*s0,none⟩):=λh0=>by
   obtain⟨h1,_⟩|⟨_,h2⟩:=hrp
   ·omega
   ·exact h2
  have hry:=toV_rep hrx hy;have hrun:∀(cur:Array Value) (e:Nat),w.heap[b]?=some (.cells cur e (0,0))→n*s0+(a.eval x).cells.toList.length≤cur.size→(a.eval x).cells.size=sz→0 <s0→
    (execOp a.eval o).run P w= .ok .skip (w.setRow b (putL cur.toList (n*s0) (a.eval x).cells.toList).toArray):=by
   intro cur e hheap hfit hun h0;have hpv:=hpv h0;have hst:=run_storeCells_at P b (n*s0) e (a.eval x).cells.toList 0 cur w hheap (by simpa using hfit) (RepV.cells hry).2;simp only[Nat.add_zero]at hst;simp[execOp,hop,hpv,Instr.storeAt,Instr.sureAddr,storeVar,run_sizeOf hsz,hun,putL]at hst ⊢;simp[hst]
  have hul:y.cells.length=sz→(a.eval x).cells.size=sz:=λh=>by have:=(RepV.cells hry).1.1;simp at this;omega
  split at hs
  ·rename_i b' e s2 xs hfind;split at hs
   ·rename_i hcond;obtain⟨⟨rfl,rfl,rfl⟩,rfl,hyl,hpos⟩:=hcond;simp only[Option.some.injEq]at hs;subst hs;have hrm:=hg.inv.rep m;rw[hfind]at hrm;obtain⟨cap,hmv,hcap,hown⟩:=hrm;obtain⟨cur,hheap,hfit,hrep,hchg,hag⟩:=own_fin hg.inv.agree hown hcap hry (hul hyl);have hbo:own1 (find s.e m) (a.tmps.getD m undef)=some b':=by rw[hfind];rfl
    have hinv:=hg.inv.growOwn (d:=m) (n:=m) hbo hchg hag hrep (λh=>by simp at h) (by simp[own1];omega);refine⟨undef,_,_,μ,.inr ⟨hrun cur _ hheap hfit (hul hyl) hpos,rfl⟩,⟨?_,hg.glob.mono hchg.le,by rw[put_size,hg.sz]⟩,hchg.mono λz hz hO=>?_,List.prefix_refl _⟩
    ·rw[ho];refine Eq.mp ?_ hinv
     congr 1
     ·funext k
      by_cases hkm:m=k
      ·subst hkm;simp[find]
      ·simp[find,hkm]
     ·funext k
      by_cases hkm:m=k
      ·subst hkm;simp only[if_true];exact hmv.symm
      ·simp[hkm,Act.put]
    ·subst hz;exact(hg.inv.sep (.tmp m 0) z (by simp only[blk,hfind];rfl)).2 hO
   ·cases hs
  ·split at hs
   ·rename_i r off had;split at hs
    ·rename_i ds hr;split at hs
     ·rename_i b' e s2 xs hd;split at hs
      ·rename_i hcond;obtain⟨⟨rfl,rfl,rfl⟩,rfl,hyl,hpos⟩:=hcond;simp only[Option.some.injEq]at hs;subst hs;have hrl:r <μ.length:=by rw[hg.inv.len];exact(List.getElem?_eq_some_iff.1 hr).1
       obtain⟨br,hbr⟩:∃br,μ[r]?=some br:=⟨_,List.getElem?_eq_getElem hrl⟩;have hcell:=hg.inv.cell hr hbr hd;obtain⟨cap,hmv,hcap,hown⟩:=hcell;obtain⟨cur,hheap,hfit,hrep,hchg,hag⟩:=own_fin hg.inv.agree hown hcap hry (hul hyl);have hinv:=hg.inv.growCell (d0:= .own e s2 (xs++[y])) hr hbr hd rfl hchg hag (by rw[hmv];exact⟨hrep,λh=>by simp at h⟩) (λb2 hb2=>by
        rw[hmv]at hb2;simp only[own1]at hb2;split at hb2
        ·cases hb2
        ·simp only[Option.some.injEq]at hb2;exact hb2.symm)
       refine⟨undef,_,_,μ,.inr ⟨hrun cur _ hheap hfit (hul hyl) hpos,rfl⟩,⟨?_,hg.glob.mono hchg.le,by rw[put_size,hg.sz]⟩,hchg.mono λz hz hO=>?_,List.prefix_refl _⟩
       ·rw[ho];exact hinv
       ·subst hz;exact(hg.inv.sep (.cell r off) z (by simp only[blk,cellD,hr,hd,Option.getD_some];rfl)).2 hO
      ·cases hs
     ·cases hs
    ·cases hs
   ·cases hs
 ·cases hs
end
section
variable {P:Program} {GL:Globals} {N:Nat}
theorem mkm_ok {o:Oper} {d t:Nat} {rs:Option Operand} (ho:o.dst=some d) (hop:o.op= .makeMap t rs) (hrs:rs=none) (hd:d <N):EffOK P GL N o (.mkm d):=by
 intro g w μ s s' a O hg hs;simp only[AI.step,Option.some.injEq]at hs;subst hs;subst hrs;have hinv:=hg.inv.newAny (.map [] [] 0) (.map #[] 0) ⟨#[],heap_alloc_new w _,MapKept.stamped_empty 0,rfl,.nil,λo=>Gh.lt_of hg.inv.agree (Nat.le_refl _) o⟩ (λk ds d h=>by cases h);refine⟨.map (some w.heap.size),w.alloc (.map #[] 0),g,μ++[w.heap.size],.inl ?_,⟨?_,hg.glob,by rw[put_size,hg.sz]⟩,chg_alloc _ g w _,List.prefix_append _ _⟩
 ·simp[execOp,hop,Instr.makeMap]
 ·rw[ho,put_get _ (hg.sz▸hd)];refine hinv.set ⟨w.heap.size,?_,rfl⟩ λk=>by cases k<;>simp[ownAt,own1]
  rw[←hg.inv.len];simp
theorem mksl_ok {o:Oper} {d t e:Nat} {x c:Operand} {q:Opd} {z:D} (ho:o.dst=some d) (hop:o.op= .makeSlice t x c) (hd:d <N) (hxc:c=x) (hk:oe GL x q=true)
  (hu:P.underlying t=some (.slice e)) (hz:zeroIs P e [z]=true) (hsz:sizeIs P e 1=true) (hby:((P.info? e).map λi=>decide (i.bytes≤1048576))=some true):EffOK P GL N o (.mksl d q z):=by
 intro g w μ s s' a O hg hs;subst hxc;simp only[AI.step]at hs;have hr:=(hg.gd P).ev hk;split at hs
 ·rename_i k n hn;rw[hn]at hr;have hxv:=rep_int hr;split at hs
  ·rename_i hlt;simp only[Option.some.injEq]at hs;subst hs;unfold zeroIs at hz;split at hz
   ·rename_i zv hzz;cases hit:P.info? e with
    |none=>simp[hit]at hzz
    |some it=>
     have hz1:it.zero=some zv:=by simpa[hit]using hzz
     have hsz1:it.size=1:=by simpa[sizeIs,hit]using hsz
     have hby1:it.bytes≤1048576:=by simpa[hit]using hby
     obtain⟨r1,r2,r3⟩:=zip_rep_row (g:=g) (w:=w) (μ:=μ) hz;obtain⟨v0,hv0⟩:∃v0,zv.cells.toList=[v0]:=by
      have:=r1.1
      match hq:zv.cells.toList,this with
      |[v0],_=>exact⟨v0,rfl⟩
     rw[hv0]at r1 r2 r3;have hcell:zv.cells= #[v0]:=by rw[←Array.toList_inj,hv0]
     have hrep:=(All2.cons_iff.1 r1).1;have hrun:=run_make (P:=P) w t e it zv hu hit hz1 k k n n hlt.1 (Int.le_refl _) (by
      have h1:(it.bytes:Int)≤1048576:=by omega
      have h2:(it.bytes:Int)*n≤1048576*n:=Int.mul_le_mul_of_nonneg_right h1 hlt.1;omega) (by omega)
     have hmade:madeCells zv.cells (n.toNat*it.size)=(List.replicate n.toNat v0).toArray:=by
      rw[←Array.toList_inj,hcell,hsz1,Nat.mul_one,toList_madeCells_one]
     rw[hmade]at hrun;have hnew:=hg.inv.newRow (zs:=List.replicate n.toNat z) (vs:=List.replicate n.toNat v0) e
      ⟨by simp,λi x v hx hv=>by
       have h1:=(List.mem_replicate.1 (List.mem_of_getElem? hx)).2;have h2:=(List.mem_replicate.1 (List.mem_of_getElem? hv)).2;subst h1;subst h2;exact hrep⟩
      (λv hv=>by have:=(List.mem_replicate.1 hv).2;subst this;exact r2 _ (by simp))
      (λi x v hx hv=>by
       have h1:=(List.mem_replicate.1 (List.mem_of_getElem? hx)).2;have h2:=(List.mem_replicate.1 (List.mem_of_getElem? hv)).2;subst h1;subst h2;exact r3 0 _ _ rfl rfl)
     refine⟨.slice (some ⟨w.heap.size,0,none⟩) n.toNat n.toNat,w.alloc (.cells (List.replicate n.toNat v0).toArray e),g,μ++[w.heap.size],.inl (by simp[execOp,hop,hxv,hrun]),?_,chg_alloc _ g w _,List.prefix_append _ _⟩;rw[ho];have hgn:Gs GL N g (w.alloc (.cells (List.replicate n.toNat v0).toArray e)) (μ++[w.heap.size]) ⟨s.e,s.h++[.cells (List.replicate n.toNat z)]⟩ a O:=⟨hnew,hg.glob,hg.sz⟩;have hrd:RepD g (w.alloc (.cells (List.replicate n.toNat v0).toArray e)) (μ++[w.heap.size]) (.sref s.h.length n.toNat) (.slice (some ⟨w.heap.size,0,none⟩) n.toNat n.toNat):=⟨w.heap.size,n.toNat,by rw[←hg.inv.len];simp,rfl,Nat.le_refl _⟩;exact hgn.set hd hrd λk=>by cases k<;>simp[ownAt,own1]
   ·cases hz
  ·cases hs
 ·cases hs
theorem flat_rep_len {α:Type} (zs:List α) (n:Nat):(List.replicate n zs).flatten.length=n*zs.length:=by
 induction n with
 |zero=>simp
 |succ n ih=>rw[List.replicate_succ,List.flatten_cons,List.length_append,ih,Nat.succ_mul];omega
theorem flat_rep_get {α:Type} (zs:List α):∀(n i:Nat),i <n*zs.length→(List.replicate n zs).flatten[i]?=zs[i%zs.length]?
 |0,i,h=>by omega
 |n+1,i,h=>by
  rw[List.replicate_succ,List.flatten_cons];by_cases hi:i <zs.length
  ·rw[List.getElem?_append_left hi,Nat.mod_eq_of_lt hi]
  ·rw[Nat.succ_mul]at h;rw[List.getElem?_append_right (by omega),flat_rep_get zs n (i-zs.length) (by omega),←Nat.mod_eq_sub_mod (show zs.length≤i by omega)]
theorem mksz_ok {o:Oper} {d t e:Nat} {x c:Operand} {q:Opd} {zs:List D} (ho:o.dst=some d) (hop:o.op= .makeSlice t x c) (hd:d <N) (hxc:c=x) (hk:oe GL x q=true)
  (hu:P.underlying t=some (.slice e)) (hz:zeroIs P e zs=true) (hsz:sizeIs P e zs.length=true) (hby:((P.info? e).map λi=>decide (i.bytes≤1048576))=some true):EffOK P GL N o (.mksz d q zs):=by
 intro g w μ s s' a O hg hs;subst hxc;simp only[AI.step]at hs;have hr:=(hg.gd P).ev hk;split at hs
 ·rename_i k n hn;rw[hn]at hr;have hxv:=rep_int hr;split at hs
  ·rename_i hlt;simp only[Option.some.injEq]at hs;subst hs;unfold zeroIs at hz;split at hz
   ·rename_i zv hzz;cases hit:P.info? e with
    |none=>simp[hit]at hzz
    |some it=>
     have hz1:it.zero=some zv:=by simpa[hit]using hzz
     have hsz1:it.size=zs.length:=by simpa[sizeIs,hit]using hsz
     have hby1:it.bytes≤1048576:=by simpa[hit]using hby
     obtain⟨r1,r2,r3⟩:=zip_rep_row (g:=g) (w:=w) (μ:=μ) hz;have hzl:zv.cells.size=zs.length:=by have:=r1.1;simpa using this
     have hrun:=run_make (P:=P) w t e it zv hu hit hz1 k k n n hlt.1 (Int.le_refl _) (by
      have h1:(it.bytes:Int)≤1048576:=by omega
      have h2:(it.bytes:Int)*n≤1048576*n:=Int.mul_le_mul_of_nonneg_right h1 hlt.1;omega) (by omega)
     obtain⟨vs,hvs⟩:∃vs,vs=(madeCells zv.cells (n.toNat*it.size)).toList:=⟨_,rfl⟩;have hmade:madeCells zv.cells (n.toNat*it.size)=vs.toArray:=by rw[hvs]
     have hvl:vs.length=n.toNat*zs.length:=by rw[hvs,Array.length_toList,size_madeCells,hsz1]
     have hvg:∀i v,vs[i]?=some v→i <n.toNat*zs.length∧zv.cells.toList[i%zs.length]?=some v:=by
      intro i v hv;have hi:i <n.toNat*zs.length:=by rw[←hvl];exact(List.getElem?_eq_some_iff.1 hv).1
      refine⟨hi,?_⟩;have hpos:0 <zs.length:=by
       rcases Nat.eq_zero_or_pos zs.length with h0|h0
       ·rw[h0]at hi;omega
       ·exact h0
      have hm:i%zs.length <zv.cells.size:=by rw[hzl];exact Nat.mod_lt _ hpos
      rw[hvs,Array.getElem?_toList]at hv;unfold madeCells at hv;rw[Array.getElem?_map,Array.getElem?_range,if_pos (by rw[hsz1];exact hi)]at hv;simp only[Option.map_some,Option.some.injEq]at hv;rw[Array.getElem?_toList,Array.getElem?_eq_getElem hm,←hv]
      congr 1
      simp only[hzl];rw[getElem!_pos zv.cells (i%zs.length) hm]
     rw[hmade]at hrun;have hnew:=hg.inv.newRow (zs:=(List.replicate n.toNat zs).flatten) (vs:=vs) e
      ⟨Nat.le_of_eq (by rw[hvl,flat_rep_len]),λi x v hx hv=>by
       obtain⟨h1,h2⟩:=hvg i v hv;rw[flat_rep_get zs _ _ h1]at hx;exact r1.2 _ x v hx h2⟩
      (λv hv=>by
       obtain⟨i,hi⟩:=List.mem_iff_getElem?.1 hv;exact r2 v (List.mem_of_getElem? (hvg i v hi).2))
      (λi x v hx hv=>by
       obtain⟨h1,h2⟩:=hvg i v hv;rw[flat_rep_get zs _ _ h1]at hx;exact r3 _ x v hx h2)
     refine⟨.slice (some ⟨w.heap.size,0,none⟩) n.toNat n.toNat,w.alloc (.cells vs.toArray e),g,μ++[w.heap.size],.inl (by simp[execOp,hop,hxv,hrun]),?_,chg_alloc _ g w _,List.prefix_append _ _⟩;rw[ho];have hgn:Gs GL N g (w.alloc (.cells vs.toArray e)) (μ++[w.heap.size]) ⟨s.e,s.h++[.cells (List.replicate n.toNat zs).flatten]⟩ a O:=⟨hnew,hg.glob,hg.sz⟩;have hrd:RepD g (w.alloc (.cells vs.toArray e)) (μ++[w.heap.size]) (.sref s.h.length n.toNat) (.slice (some ⟨w.heap.size,0,none⟩) n.toNat n.toNat):=⟨w.heap.size,n.toNat,by rw[←hg.inv.len];simp,rfl,Nat.le_refl _⟩;exact hgn.set hd hrd λk=>by cases k<;>simp[ownAt,own1]
   ·cases hz
  ·cases hs
 ·cases hs
theorem flat_reps {g:Gh}:∀(ys:List V) (vy:Nat→Value),(∀(j:Nat) y,ys[j]?=some y→RepV g y (vy j))→All2 (RepV g) (ys.flatMap V.cells) (flat ys.length vy)
 |[],vy,_=> .nil
 |y::ys,vy,hvy=>by
  have e2:flat (y::ys).length vy=(vy 0).cells.toList++flat ys.length (λj=>vy (j+1)):=by simp[flat,List.range_succ_eq_map,List.flatMap_map]
  rw[e2,List.flatMap_cons];exact(hvy 0 y rfl).cells.1.append (flat_reps ys _ λj x hx=>hvy (j+1) x (by simpa using hx))
theorem cpy_ok {o:Oper} {d:Option Nat} {x y:Operand} {q r:Opd} {t t2 sz:Nat} (ho:o.dst=d) (hd:∀n,d=some n→n <N) (hop:o.op= .call {callee:= .builtin .copy,args:= #[x,y],argTypes:= #[t,t2]})
  (hk:oe GL x q=true) (hk2:oe GL y r=true) (ht:(match P.underlying t with|some (.slice e)=>sizeIs P e sz|_=>false)=true):EffOK P GL N o (.cpy d q r sz):=by
 intro g w μ s s' a O hg hs;simp only[AI.step]at hs;have hrx:=(hg.gd P).ev hk;have hry:=((hg.gd P).ev hk2).copy;split at ht
 ·rename_i e hu;split at hs
  ·rename_i rr n hq;rw[hq]at hrx;obtain⟨b,cap,hb,hxv,hn⟩:=hrx;split at hs
   ·rename_i ys hy;rw[hy]at hry;split at hs
    ·rename_i ds hr;split at hs
     ·rename_i hc;obtain⟨⟨hc1,hc2⟩,h0,hh⟩:=hc;simp only[Option.some.injEq]at hs;subst hs;obtain⟨vs,T,hheap,hall,hone,hgn⟩:=hg.inv.row hb hr;obtain⟨vy,h1,h2,h3,h4⟩:=src_list (P:=P) hg.inv.agree hry h0 hh;have hfl:(flat ys.length vy).length=n*sz:=by rw[flat_len h3,hc1]
      have h5:∀v∈flat ys.length vy,v.oneCell'=true:=by
       intro v hv;obtain⟨j,hj,hm⟩:=flat_mem hv;exact h4 j hj v hm
      have hst:=run_storeCells_at P b 0 T (flat ys.length vy) 0 vs.toArray w hheap (by have:=hall.1;simp[hfl];omega) h5;simp only[Nat.add_zero,Nat.zero_add,List.take_zero,List.nil_append]at hst;obtain⟨vs',hvs'⟩:∃vs',flat ys.length vy++vs.drop (flat ys.length vy).length=vs':=⟨_,rfl⟩;rw[hvs']at hst;have h6:∀v∈vs',v.oneCell'=true:=by
       intro v hv;rw[←hvs']at hv;rcases List.mem_append.1 hv with hv|hv
       ·exact h5 v hv
       ·exact hone v (List.mem_of_mem_drop hv)
      have hmin:min n n=n:=Nat.min_self n;have hrun:(execOp a.eval o).run P w= .ok (.value (goInt n)) (w.setRow b vs'.toArray):=by
       have hl:=h1.len w;have hcl:=h1.cells;rw[hc1]at hl hcl;simp[execOp,hop,resolve,invoke,builtin,hxv,Builtin.copy_,run_underlying hu,hl,run_sizeOf ht,hcl,hmin];rw[hc1]at hst;simp[hst,hc1]
      have hst2:=hg.inv.storeRow hr hb hheap ((ys.flatMap V.cells).map .v) vs' (hvs'▸(All2.map_left (f:=D.v) (R:=RepV g) (λx y h=>h) (flat_reps ys vy h2)).pre) h6 (λi z v hz hv=>by
       simp only[List.getElem?_map,Option.map_eq_some_iff]at hz;obtain⟨y,_,rfl⟩:=hz;exact .inl (by simp[own1]))
      have hch:Chg (λb=>¬O b) g w g (w.setRow b vs'.toArray):=(chg_setRow g w b _).mono (not_both O hg (List.mem_of_getElem? hb));refine⟨goInt n,_,g,μ,.inl hrun,?_,hch,List.prefix_refl _⟩;have hgs:Gs GL N g (w.setRow b vs'.toArray) μ ⟨s.e,s.h.set rr (.cells ((ys.flatMap V.cells).map .v))⟩ a O:=⟨hst2,hg.glob,hg.sz⟩;rw[ho];cases d with
      |none=>exact hgs
      |some d=>exact hgs.set (hd d rfl) (x:= .v (.int .i64 n)) (.int _ _) λk=>by cases k<;>simp[ownAt,own1]
     ·cases hs
    ·cases hs
   ·cases hs
  ·cases hs
 ·cases ht
theorem clr_ok {o:Oper} {d:Option Nat} {x:Operand} {q:Opd} {t e:Nat} {zs:List D} (ho:o.dst=d) (hd:∀n,d=some n→n <N) (hop:o.op= .call {callee:= .builtin .clear,args:= #[x],argTypes:= #[t]})
  (hk:oe GL x q=true) (hu:P.underlying t=some (.slice e)) (hz:zeroIs P e zs=true):EffOK P GL N o (.clr d q zs):=by
 intro g w μ s s' a O hg hs;simp only[AI.step]at hs;have hrx:=(hg.gd P).ev hk;split at hs
 ·rename_i rr n hq;rw[hq]at hrx;obtain⟨b,cap,hb,hxv,hn⟩:=hrx;split at hs
  ·rename_i ds hr;split at hs
   ·rename_i hc;obtain⟨h0,hle⟩:=hc;simp only[Option.some.injEq]at hs;subst hs;unfold zeroIs at hz;split at hz
    ·rename_i zv hzz;cases hit:P.info? e with
     |none=>simp[hit]at hzz
     |some it=>
      have hz1:it.zero=some zv:=by simpa[hit]using hzz
      obtain⟨r1,r2,r3⟩:=zip_rep_row (g:=g) (w:=w) (μ:=μ) hz;have hzl:zv.cells.size=zs.length:=by have:=r1.1;simpa using this
      obtain⟨vs,T,hheap,hall,hone,hgn⟩:=hg.inv.row hb hr;obtain⟨us,hus⟩:∃us,us=(Builtin.zeroCells zv.cells n).toList:=⟨_,rfl⟩;have hul:us.length=n*zs.length:=by rw[hus];simp[Builtin.zeroCells,hzl]
      have hug:∀i v,us[i]?=some v→i <n*zs.length∧zv.cells.toList[i%zs.length]?=some v:=by
       intro i v hv;have hi:i <n*zs.length:=by rw[←hul];exact(List.getElem?_eq_some_iff.1 hv).1
       refine⟨hi,?_⟩;have hpos:0 <zs.length:=by
        rcases Nat.eq_zero_or_pos zs.length with h0|h0
        ·rw[h0]at hi;omega
        ·exact h0
       have hm:i%zs.length <zv.cells.size:=by rw[hzl];exact Nat.mod_lt _ hpos
       rw[hus,Array.getElem?_toList]at hv;unfold Builtin.zeroCells at hv;rw[Array.getElem?_map,Array.getElem?_range,if_pos (by rw[hzl];exact hi)]at hv;simp only[Option.map_some,Option.some.injEq]at hv;rw[Array.getElem?_toList,Array.getElem?_eq_getElem hm,←hv]
       congr 1
       simp only[hzl];rw[getElem!_pos zv.cells (i%zs.length) hm]
      have hu1:∀v∈us,v.oneCell'=true:=λv hv=>by
       obtain⟨i,hi⟩:=List.mem_iff_getElem?.1 hv;exact r2 v (List.mem_of_getElem? (hug i v hi).2)
      have hrl:(List.replicate n zs).flatten.length=n*zs.length:=flat_rep_len zs n;have ha2:All2 (RepE g w μ) (List.replicate n zs).flatten us:=⟨by rw[hul,hrl],λi x v hx hv=>by
       obtain⟨h1,h2⟩:=hug i v hv;rw[flat_rep_get zs _ _ h1]at hx;exact r1.2 _ x v hx h2⟩
      have hvl:=hall.1;have hst:=run_storeCells_at P b 0 T us 0 vs.toArray w hheap (by simp;omega) hu1;simp only[Nat.add_zero,Nat.zero_add,List.take_zero,List.nil_append]at hst;have hpl:putL vs 0 us=us++vs.drop us.length:=by simp[putL]
      have hrun:(execOp a.eval o).run P w= .ok (.value (.tuple #[])) (w.setRow b (putL vs 0 us).toArray):=by
       obtain⟨m,rfl⟩:∃m,n=m+1:=⟨n-1,by omega⟩;rw[hus]at hst;simp[execOp,hop,resolve,invoke,builtin,hxv,Builtin.clear_,run_underlying hu,zeroValue,typeInfo,hit,hz1,hst,hus];simp[putL]
      have hst2:=hg.inv.storeRow hr hb hheap (putL ds 0 (List.replicate n zs).flatten) (putL vs 0 us) (hall.putL ha2 (by rw[hrl];omega)) (λv hv=>(putL_mem hv).elim (hone v) (hu1 v)) (λi z v hz hv=>by
       rw[putL_get _ _ _ (by rw[hrl];omega),hrl]at hz;rw[putL_get _ _ _ (by omega),hul]at hv;simp only[Nat.not_lt_zero,if_false,Nat.zero_add,Nat.sub_zero]at hz hv;by_cases c2:i <n*zs.length
       ·simp only[c2,if_true]at hz hv;obtain⟨h1,h2⟩:=hug i v hv;rw[flat_rep_get zs _ _ h1]at hz;exact .inl (r3 _ z v hz h2)
       ·simp only[c2,if_false]at hz hv;exact .inr ⟨hz,hv⟩)
      have hch:Chg (λb=>¬O b) g w g (w.setRow b (putL vs 0 us).toArray):=(chg_setRow g w b _).mono (not_both O hg (List.mem_of_getElem? hb));refine⟨.tuple #[],_,g,μ,.inl hrun,?_,hch,List.prefix_refl _⟩;have hgs:Gs GL N g (w.setRow b (putL vs 0 us).toArray) μ ⟨s.e,s.h.set rr (.cells (putL ds 0 (List.replicate n zs).flatten))⟩ a O:=⟨hst2,hg.glob,hg.sz⟩;rw[ho];cases d with
      |none=>exact hgs
      |some d=>exact hgs.set (hd d rfl) (x:= .tup []) (v:= .tuple #[]) ⟨[],rfl,.nil⟩ λk=>by simp[ownAt,own1]
    ·cases hz
   ·cases hs
  ·cases hs
 ·cases hs
theorem heap_put {w:World} {b:Nat} {o o':Obj} (hb:w.heap[b]?=some o) (g:Gh) (hg:∀o,g.m b o=none) (hag:∀b o v,g.m b o=some v→w.cell? ⟨b,o,none⟩=some v):
  ({w with heap:=w.heap.setIfInBounds b o'}:World).heap[b]?=some o'∧Chg (λx=>x=b) g w g {w with heap:=w.heap.setIfInBounds b o'}∧
  ∀b' o v,g.m b' o=some v→({w with heap:=w.heap.setIfInBounds b o'}:World).cell? ⟨b',o,none⟩=some v:=by
 have h:=MapKept.heap_set (o':=o') hb;refine⟨h.1,⟨Gh.le.refl g,by simp,λb' _ hne=>h.2 b' hne,λ_ _ _ _=>rfl,rfl,rfl⟩,λb' o v hv=>?_⟩;by_cases hbb:b'=b
 ·subst hbb;rw[hg o]at hv;cases hv
 ·rw[World.cell?_of_block (a:=⟨b',o,none⟩) (h.2 b' hbb)];exact hag b' o v hv
theorem map_eraseIdx' {α β:Type} (f:α→β):∀(l:List α) (i:Nat),(l.eraseIdx i).map f=(l.map f).eraseIdx i
 |[],_=>by simp
 |x::l,0=>by simp
 |x::l,i+1=>by simp[map_eraseIdx' f l i]
theorem born_modify (ents:Array MapEntry) (j:Nat) (f:MapEntry→MapEntry) (hf:∀e,(f e).born=e.born):(ents.modify j f).toList.map (·.born)=ents.toList.map (·.born):=by
 apply List.ext_getElem?;intro i;simp only[List.getElem?_map,Array.getElem?_toList,Array.getElem?_modify];by_cases hij:j=i
 ·subst hij;cases ents[j]?<;>simp[hf]
 ·simp[hij]
theorem mput_ok {o:Oper} {t:Nat} {x k v:Operand} {m' k' v':Opd} {st:Bool} {ks:List Nat} (ho:o.dst=none) (hop:o.op= .mapUpdate t x k v∨o.op= .insert t x k v)
  (ht:(match P.underlying t with|some (.map kt _)=>keyIs P kt st ks|_=>false)=true) (hm:oe GL x m'=true) (hk:oe GL k k'=true) (hv:oe GL v v'=true):EffOK P GL N o (.mput m' k' v' st ks):=by
 intro g w μ s s' a O hg hs;simp only[AI.step]at hs;have hrm:=(hg.gd P).ev hm;have hrk:=(hg.gd P).ev hk;have hrv:=(hg.gd P).ev hv;split at ht
 ·rename_i kt el hu;split at hs
  ·rename_i r hmv;rw[hmv]at hrm;obtain⟨b,hb,hxv⟩:=hrm;have hbm:=List.mem_of_getElem? hb;split at hs
   ·rename_i es bs clock hr;obtain⟨ents,hheap,hst,hbs,hall,hgn⟩:=mapRow hg.inv hr hb;have hget:=MapKept.run_getObj_map (P:=P) hheap;split at hs
    ·rename_i kv vv hkv hvv;have hkr:=toV_rep hrk hkv;have hvr:=toV_rep hrv hvv;split at hs
     ·rename_i hko;have hck:=λe=>run_chkKey (P:=P) (w:=w) hkr ht hko e;split at hs
      ·rename_i hf;simp only[Option.some.injEq]at hs;subst hs;have hfk:=findKey_run (P:=P) (w:=w) hkr ht hko hall hf;have hno:=(find_run (P:=P) (w:=w) hkr ht hko hall hf).2.2 rfl;obtain⟨p1,p2,p3⟩:=heap_put (o':= .map (ents.push {key:=a.eval k,val:=a.eval v,born:=clock}) (clock+1)) hheap g hgn hg.inv.agree;refine⟨undef,_,g,μ,.inr ⟨?_,rfl⟩,⟨?_,hg.glob,by rw[put_size,hg.sz]⟩,p2.mono (not_both O hg hbm),List.prefix_refl _⟩
       ·rcases hop with hop|hop<;>simp[execOp,hop,hxv,Instr.mapUpdate,run_underlying hu,hget,hck,hfk,MapKept.run_setObj_map _ hheap,Result.andThen]
       ·rw[ho];refine hg.inv.setAny hr hb (.map (es++[(kv,vv)]) (bs++[clock]) (clock+1)) p2 p3 ⟨_,p1,MapKept.stamped_push hst hno,by simp[hbs],?_,hgn⟩ (λk ds d h=>by cases h);simp only[Array.toList_push];exact hall.append (.cons ⟨hkr,hvr⟩ .nil)
      ·rename_i j hf;simp only[Option.some.injEq]at hs;subst hs;have hfk:=findKey_run (P:=P) (w:=w) hkr ht hko hall hf;obtain⟨e,he,hek⟩:=(find_run (P:=P) (w:=w) hkr ht hko hall hf).2.1 j rfl;simp only[Option.bind_some,he,Option.map_some]at hfk;have hej:ents[j]?=some e:=by simpa using he
       have hsb:(Instr.keyThatStays (a.eval k) (a.eval k)).run P w= .ok (a.eval k) w:=by
        have:=(key_same hkr hkr hko hko (b:=true) (by
         simp only[keyOK,Bool.and_eq_true]at hko;cases h2:V.eqL ks kv.cells kv.cells with
         |none=>simp[h2]at hko
         |some b=>cases b<;>simp[h2]at hko ⊢)).2 9999
        simp[Instr.keyThatStays,this]
       obtain⟨p1,p2,p3⟩:=heap_put (o':= .map (ents.modify j λe=>{e with key:=a.eval k,val:=a.eval v}) clock) hheap g hgn hg.inv.agree;refine⟨undef,_,g,μ,.inr ⟨?_,rfl⟩,⟨?_,hg.glob,by rw[put_size,hg.sz]⟩,p2.mono (not_both O hg hbm),List.prefix_refl _⟩
       ·rcases hop with hop|hop<;>simp[execOp,hop,hxv,Instr.mapUpdate,run_underlying hu,hget,hck,hfk,hej,hek,hsb,MapKept.run_setObj_map _ hheap,Result.andThen]
       ·rw[ho];refine hg.inv.setAny hr hb (.map (es.set j (kv,vv)) bs clock) p2 p3 ⟨_,p1,MapKept.stamped_modify hst _ _ (λ_ _=>rfl) (λe' _ he'=>?_),?_,?_,hgn⟩ (λk ds d h=>by cases h)
        ·rw[hej]at he';cases he';exact hek.symm
        ·rw[←hbs];exact born_modify _ _ _ λ_=>rfl
        ·have hset:(ents.modify j λe=>{e with key:=a.eval k,val:=a.eval v}).toList=ents.toList.set j {e with key:=a.eval k,val:=a.eval v}:=by
          apply List.ext_getElem?;intro i;simp only[Array.getElem?_toList,Array.getElem?_modify,List.getElem?_set];by_cases hij:j=i
          ·subst hij;obtain⟨hlt,heq⟩:=Array.getElem?_eq_some_iff.1 hej;simp[hlt,heq]
          ·simp[hij]
         rw[hset];exact hall.set ⟨hkr,hvr⟩
      ·cases hs
     ·cases hs
    ·cases hs
   ·cases hs
  ·cases hs
 ·cases ht
theorem set_self {α:Type} {l:List α} {r:Nat} {x:α} (h:l[r]?=some x):l.set r x=l:=by
 apply List.ext_getElem?;intro i;rw[List.getElem?_set];by_cases hi:r=i
 ·subst hi;have:=(List.getElem?_eq_some_iff.1 h).1;simp[this,h];exact((List.getElem?_eq_some_iff.1 h).2).symm
 ·simp[hi]
theorem eraseIdx_all2 {α β:Type} {R:α→β→Prop} {xs:List α} {ys:List β} (h:All2 R xs ys) (i:Nat):All2 R (xs.eraseIdx i) (ys.eraseIdx i):=by
 induction xs generalizing ys i with
 |nil=>
  have:=List.eq_nil_of_length_eq_zero h.1;subst this;simpa using (All2.nil:All2 R [] [])
 |cons x xs ih=>
  cases ys with
  |nil=>simp[All2]at h
  |cons y ys=>
   rw[All2.cons_iff]at h;cases i with
   |zero=>simpa using h.2
   |succ i=>simp only[List.eraseIdx_cons_succ];exact .cons h.1 (ih h.2 i)
theorem mdel_ok {o:Oper} {d:Option Nat} {t t2:Nat} {x k:Operand} {m' k':Opd} {st:Bool} {ks:List Nat} (ho:o.dst=d) (hd:∀n,d=some n→n <N) (hop:o.op= .call {callee:= .builtin .delete,args:= #[x,k],argTypes:= #[t,t2]})
  (ht:(match P.underlying t with|some (.map kt _)=>keyIs P kt st ks|_=>false)=true) (hm:oe GL x m'=true) (hk:oe GL k k'=true):EffOK P GL N o (.mdel d m' k' st ks):=by
 intro g w μ s s' a O hg hs;simp only[AI.step]at hs;have hrm:=(hg.gd P).ev hm;have hrk:=(hg.gd P).ev hk;have fin:∀ {g':Gh} {w':World} {h':List Row},Gs GL N g' w' μ ⟨s.e,h'⟩ a O→Gs GL N g' w' μ ⟨setO s.e d (.tup []),h'⟩ (a.put o.dst (.tuple #[])) O:=by
  intro g' w' h' hgs;rw[ho];cases d with
  |none=>exact⟨hgs.inv,hgs.glob,by rw[put_size,hgs.sz]⟩
  |some n=>exact hgs.set (hd n rfl) ⟨[],rfl,.nil⟩ λk=>by simp[ownAt,own1]
 split at ht
 ·rename_i kt el hu;split at hs
  ·rename_i r hmv;rw[hmv]at hrm;obtain⟨b,hb,hxv⟩:=hrm;have hbm:=List.mem_of_getElem? hb;split at hs
   ·rename_i es bs clock hr;obtain⟨ents,hheap,hst,hbs,hall,hgn⟩:=mapRow hg.inv hr hb;have hget:=MapKept.run_getObj_map (P:=P) hheap;split at hs
    ·rename_i kv hkv;have hkr:=toV_rep hrk hkv;split at hs
     ·rename_i hko;have hck:=λe=>run_chkKey (P:=P) (w:=w) hkr ht hko e;split at hs
      ·rename_i hf;simp only[Option.some.injEq]at hs;subst hs;have hfk:=findKey_run (P:=P) (w:=w) hkr ht hko hall hf;obtain⟨p1,p2,p3⟩:=heap_put (o':= .map ents clock) hheap g hgn hg.inv.agree;refine⟨.tuple #[],_,g,μ,.inl ?_,fin ⟨?_,hg.glob,hg.sz⟩,p2.mono (not_both O hg hbm),List.prefix_refl _⟩
       ·simp[execOp,hop,hxv,resolve,invoke,builtin,Builtin.delete_,run_underlying hu,hget,hck,hfk,MapKept.run_setObj_map _ hheap,Result.andThen]
       ·have:=hg.inv.setAny hr hb (.map es bs clock) p2 p3 ⟨_,p1,hst,hbs,hall,hgn⟩ (λk ds d h=>by cases h)
        rwa [set_self hr]at this
      ·rename_i j hf;simp only[Option.some.injEq]at hs;subst hs;have hfk:=findKey_run (P:=P) (w:=w) hkr ht hko hall hf;obtain⟨e,he,hek⟩:=(find_run (P:=P) (w:=w) hkr ht hko hall hf).2.1 j rfl;simp only[Option.bind_some,he,Option.map_some]at hfk;obtain⟨p1,p2,p3⟩:=heap_put (o':= .map (ents.eraseIdxIfInBounds j) clock) hheap g hgn hg.inv.agree;refine⟨.tuple #[],_,g,μ,.inl ?_,fin ⟨?_,hg.glob,hg.sz⟩,p2.mono (not_both O hg hbm),List.prefix_refl _⟩
       ·simp[execOp,hop,hxv,resolve,invoke,builtin,Builtin.delete_,run_underlying hu,hget,hck,hfk,MapKept.run_setObj_map _ hheap,Result.andThen]
       ·refine hg.inv.setAny hr hb (.map (es.eraseIdx j) (bs.eraseIdx j) clock) p2 p3 ⟨_,p1,MapKept.stamped_erase hst j,?_,?_,hgn⟩ (λk ds d h=>by cases h)
        all_goals
         have hj:j <ents.size:=by have:=(List.getElem?_eq_some_iff.1 he).1;simpa using this
         have:(ents.eraseIdxIfInBounds j).toList=ents.toList.eraseIdx j:=by simp[Array.eraseIdxIfInBounds,hj]
        ·rw[this,←hbs,map_eraseIdx']
        ·rw[this];exact eraseIdx_all2 hall j
      ·cases hs
     ·cases hs
    ·cases hs
   ·cases hs
  ·cases hs
 ·cases ht
theorem ment_ok {o:Oper} {d t:Nat} {x k:Operand} {m' k':Opd} {st:Bool} {ks:List Nat} (ho:o.dst=some d) (hd:d <N) (hop:o.op= .mapEntry t x k)
  (ht:(match P.underlying t with|some (.map kt _)=>keyIs P kt st ks|_=>false)=true) (hm:oe GL x m'=true) (hk:oe GL k k'=true):EffOK P GL N o (.ment d m' k' st ks):=by
 intro g w μ s s' a O hg hs;simp only[AI.step]at hs;have hrm:=(hg.gd P).ev hm;have hrk:=(hg.gd P).ev hk;split at ht
 ·rename_i kt el hu;split at hs
  ·rename_i r hmv;rw[hmv]at hrm;obtain⟨b,hb,hxv⟩:=hrm;have hbm:=List.mem_of_getElem? hb;split at hs
   ·rename_i es bs clock hr;obtain⟨ents,hheap,hst,hbs,hall,hgn⟩:=mapRow hg.inv hr hb;have hget:=MapKept.run_getObj_map (P:=P) hheap;split at hs
    ·rename_i kv hkv;have hkr:=toV_rep hrk hkv;split at hs
     ·rename_i hko;have hck:=λe=>run_chkKey (P:=P) (w:=w) hkr ht hko e;split at hs
      ·rename_i j hf;split at hs
       ·rename_i p n hp hn;simp only[Option.some.injEq]at hs;subst hs;have hfk:=findKey_run (P:=P) (w:=w) hkr ht hko hall hf;obtain⟨e,he,hek⟩:=(find_run (P:=P) (w:=w) hkr ht hko hall hf).2.1 j rfl;simp only[Option.bind_some,he,Option.map_some]at hfk;have hej:ents[j]?=some e:=by simpa using he
        have hsb:(Instr.keyThatStays (a.eval k) (a.eval k)).run P w= .ok (a.eval k) w:=by
         have:=(key_same hkr hkr hko hko (b:=true) (by
          simp only[keyOK,Bool.and_eq_true]at hko;cases h2:V.eqL ks kv.cells kv.cells with
          |none=>simp[h2]at hko
          |some b=>cases b<;>simp[h2]at hko ⊢)).2 9999
         simp[Instr.keyThatStays,this]
        have hborn:e.born=n:=by
         have:bs[j]?=some e.born:=by rw[←hbs];simp[hej]
         rw[hn]at this;simpa using this.symm
        have hval:RepV g p.2 e.val:=(hall.2 j p e hp he).2;have hsame:ents.modify j (λe=>{e with key:=a.eval k})=ents:=by
         apply Array.ext_getElem?;intro i;rw[Array.getElem?_modify];by_cases hij:j=i
         ·subst hij;simp[hej,←hek]
         ·simp[hij]
        obtain⟨p1,p2,p3⟩:=heap_put (o':= .map ents clock) hheap g hgn hg.inv.agree;refine⟨.tuple #[e.val,.int .i64 n],_,g,μ,.inl ?_,?_,p2.mono (not_both O hg hbm),List.prefix_refl _⟩
        ·simp[execOp,hop,hxv,Instr.mapEntry,run_underlying hu,hget,hck,hfk,hej,hek,hsb,hsame,MapKept.run_setObj_map _ hheap,Result.andThen,goInt,hborn]
        ·have h1:=hg.inv.setAny hr hb (.map es bs clock) p2 p3 ⟨_,p1,hst,hbs,hall,hgn⟩ (λk ds d h=>by cases h);rw[set_self hr]at h1;rw[ho];have hgs:Gs GL N g {w with heap:=w.heap.setIfInBounds b (.map ents clock)} μ s a O:=⟨h1,hg.glob,hg.sz⟩;refine hgs.set hd (x:= .tup [.v p.2,.v (.int .i64 n)]) ⟨[e.val,.int .i64 n],rfl,.cons hval (.cons (.int _ _) .nil)⟩ λk=>?_;simp only[ownAt,List.toList_toArray];cases k with
         |zero=>rfl
         |succ k=>cases k with
          |zero=>rfl
          |succ k=>simp[own1]
       ·cases hs
      ·cases hs
     ·cases hs
    ·cases hs
   ·cases hs
  ·cases hs
 ·cases ht
theorem mest_ok {o:Oper} {t:Nat} {x b0 v:Operand} {m' b' v':Opd} (ho:o.dst=none) (hop:o.op= .entryStore t x b0 v) (hm:oe GL x m'=true) (hk:oe GL b0 b'=true) (hv:oe GL v v'=true):
  EffOK P GL N o (.mest m' b' v'):=by
 intro g w μ s s' a O hg hs;simp only[AI.step]at hs;have hrm:=(hg.gd P).ev hm;have hrk:=(hg.gd P).ev hk;have hrv:=(hg.gd P).ev hv;split at hs
 ·rename_i r hmv;rw[hmv]at hrm;obtain⟨b,hb,hxv⟩:=hrm;have hbm:=List.mem_of_getElem? hb;split at hs
  ·rename_i es bs clock hr;obtain⟨ents,hheap,hst,hbs,hall,hgn⟩:=mapRow hg.inv hr hb;have hget:=MapKept.run_getObj_map (P:=P) hheap;split at hs
   ·rename_i kk n vv hbv hvv;rw[hbv]at hrk;have hbi:=rep_int hrk;have hvr:=toV_rep hrv hvv;split at hs
    ·rename_i j hj;split at hs
     ·rename_i p hp;simp only[Option.some.injEq]at hs;subst hs;have hidx:ents.findIdx? (λe=>(e.born:Int)==n)=some j:=by
       rw[←hbs,List.findIdx?_map]at hj;have:ents=ents.toList.toArray:=by simp
       rw[this,List.findIdx?_toArray];exact hj
      obtain⟨p1,p2,p3⟩:=heap_put (o':= .map (ents.modify j λe=>{e with val:=a.eval v}) clock) hheap g hgn hg.inv.agree;obtain⟨e,he,hep⟩:=hall.get hp;have hej:ents[j]?=some e:=by simpa using he
      refine⟨undef,_,g,μ,.inr ⟨?_,rfl⟩,⟨?_,hg.glob,by rw[put_size,hg.sz]⟩,p2.mono (not_both O hg hbm),List.prefix_refl _⟩
      ·simp[execOp,hop,hxv,hbi,Instr.entryStore,hget,asInt,asIntOf,hidx,MapKept.run_setObj_map _ hheap,Result.andThen]
      ·rw[ho];refine hg.inv.setAny hr hb (.map (es.set j (p.1,vv)) bs clock) p2 p3 ⟨_,p1,MapKept.stamped_modify hst _ _ (λ_ _=>rfl) (λe' _ he'=>rfl),?_,?_,hgn⟩ (λk ds d h=>by cases h)
       ·rw[←hbs];exact born_modify _ _ _ λ_=>rfl
       ·have hset:(ents.modify j λe=>{e with val:=a.eval v}).toList=ents.toList.set j {e with val:=a.eval v}:=by
         apply List.ext_getElem?;intro i;simp only[Array.getElem?_toList,Array.getElem?_modify,List.getElem?_set];by_cases hij:j=i
         ·subst hij;obtain⟨hlt,heq⟩:=Array.getElem?_eq_some_iff.1 hej;simp[hlt,heq]
         ·simp[hij]
        rw[hset];exact hall.set ⟨hep.1,hvr⟩
     ·cases hs
    ·cases hs
   ·cases hs
  ·cases hs
 ·cases hs
end
section
def rnm:List (Nat×Nat)→Nat→Nat
 |[],r=>r
 |p::π,r=>if p.1=r then p.2 else rnm π r
def flip (π:List (Nat×Nat)):List (Nat×Nat):=π.map λp=>(p.2,p.1)
mutual
def D.ren (π:List (Nat×Nat)):D→D
 | .ref r o=> .ref (rnm π r) o
 | .sref r n=> .sref (rnm π r) n
 | .mref r=> .mref (rnm π r)
 | .yld r=> .yld (rnm π r)
 | .agg ds=> .agg (D.rens π ds)
 | .tup ds=> .tup (D.rens π ds)
 | .func f ds=> .func f (D.rens π ds)
 | .meth f ds=> .meth f (D.rens π ds)
 | .v x=> .v x
 | .any=> .any
 | .nil e s=> .nil e s
 | .own e s xs=> .own e s xs
 | .pend b e s xs=> .pend b e s xs
 | .pptr b s n=> .pptr b s n
def D.rens (π:List (Nat×Nat)):List D→List D
 |[]=>[]
 |d::ds=>D.ren π d::D.rens π ds
end
theorem rens_map (π:List (Nat×Nat)):∀ds:List D,D.rens π ds=ds.map (D.ren π)
 |[]=>rfl
 |d::ds=>by simp only[D.rens,List.map_cons,rens_map π ds]
def Row.ren (π:List (Nat×Nat)):Row→Row
 | .cells ds=> .cells (D.rens π ds)
 |x=>x
def permOK (n0 len:Nat) (π:List (Nat×Nat)):Bool:=
 (List.range len).all λr=>decide (rnm π r <len)&&decide (rnm (flip π) r <len)&&rnm (flip π) (rnm π r)==r&&rnm π (rnm (flip π) r)==r&&(decide (n0≤r)||rnm (flip π) r==r)
def Row.isObj:Row→Bool
 | .obj _ _ _=>true
 |_=>false
def noObj (h:List Row):Bool:=h.all λr=> !r.isObj
def renRows (π:List (Nat×Nat)) (h:List Row):List Row:=(List.range h.length).map λi=>((h[rnm (flip π) i]?).getD .dead).ren π
def renμ (π:List (Nat×Nat)) (μ:List Nat):List Nat:=(List.range μ.length).map λi=>(μ[rnm (flip π) i]?).getD 0
def RenS (n0:Nat) (s s2:St):Prop:=
 s2=s∨∃π,permOK n0 s.h.length π=true∧noObj s.h=true∧(∀n,find s2.e n=(find s.e n).ren π)∧s2.h=renRows π s.h
section
variable {g:Gh} {w:World} {μ:List Nat} {π:List (Nat×Nat)}
theorem RepC.ren {μ':List Nat} (hπ:∀r b,μ[r]?=some b→μ'[rnm π r]?=some b) {d:D} {u:Value} (h:RepC g μ d u):RepC g μ' (d.ren π) u:=by
 cases d<;>simp only[RepC,D.ren]at h ⊢
 ·exact h
 ·obtain⟨b,hb,rfl⟩:=h;exact⟨b,hπ _ _ hb,rfl⟩
theorem RepE.ren {μ':List Nat} (hπ:∀r b,μ[r]?=some b→μ'[rnm π r]?=some b) {d:D} {u:Value} (h:RepE g w μ d u):RepE g w μ' (d.ren π) u:=by
 cases d<;>simp only[RepE,D.ren]at h ⊢
 ·exact h
 ·exact h
 ·exact h
 ·obtain⟨b,hb,rfl⟩:=h;exact⟨b,hπ _ _ hb,rfl⟩
 ·obtain⟨b,cap,hb,rfl,hn⟩:=h;exact⟨b,cap,hπ _ _ hb,rfl,hn⟩
 ·obtain⟨b,hb,rfl⟩:=h;exact⟨b,hπ _ _ hb,rfl⟩
 ·obtain⟨vs,rfl,h⟩:=h;refine⟨vs,rfl,?_⟩;rw[rens_map];exact All2.map_left (λx y hx=>RepC.ren hπ hx) h
 ·obtain⟨vs,rfl,h⟩:=h;refine⟨vs,rfl,?_⟩;rw[rens_map];exact All2.map_left (λx y hx=>RepC.ren hπ hx) h
 ·obtain⟨b,hb,rfl⟩:=h;exact⟨b,hπ _ _ hb,rfl⟩
 ·exact h
 ·exact h
theorem own1_ren (d:D) (v:Value):own1 (d.ren π) v=own1 d v:=by cases d<;>simp only[D.ren]<;>simp only[own1]
theorem RepG.ren {μ':List Nat} (hπ:∀r b,μ[r]?=some b→μ'[rnm π r]?=some b) {d:D} {u:Value} (h:RepG g w μ d u):RepG g w μ' (d.ren π) u:=by
 have key:RepE g w μ d u→RepE g w μ' (d.ren π) u:=λh=>RepE.ren hπ h;cases d with
 |agg ds=>
  obtain⟨vs,rfl,ha,h1,h2⟩:=h;simp only[D.ren];refine⟨vs,rfl,?_,h1,λd hd v=>?_⟩
  ·rw[rens_map];exact All2.map_left (λx y hx=>RepE.ren hπ hx) ha
  ·rw[rens_map,List.mem_map]at hd;obtain⟨d',hd',rfl⟩:=hd;rw[own1_ren];exact h2 d' hd' v
 |_=>simp only[D.ren]at key ⊢;exact key h
theorem RepD.ren {μ':List Nat} (hπ:∀r b,μ[r]?=some b→μ'[rnm π r]?=some b) {d:D} {u:Value} (h:RepD g w μ d u):RepD g w μ' (d.ren π) u:=by
 have key:RepG g w μ d u→RepG g w μ' (d.ren π) u:=λh=>RepG.ren hπ h;cases d with
 |tup ds=>
  obtain⟨vs,rfl,ha⟩:=h;simp only[D.ren];refine⟨vs,rfl,?_⟩;rw[rens_map];exact All2.map_left (λx y hx=>RepG.ren hπ hx) ha
 |_=>simp only[D.ren]at key ⊢;exact key h
theorem ownAt_ren (d:D) (v:Value) (k:Nat):ownAt (d.ren π) v k=ownAt d v k:=by
 cases d with
 |tup ds=>
  have e:∀v:Value,own1 ((ds.map (D.ren π))[k]?.getD .any) v=own1 (ds[k]?.getD .any) v:=by
   intro v;simp only[List.getElem?_map];cases ds[k]? with
   |none=>rfl
   |some d=>simp[own1_ren]
  have e2:∀(ds:List D) (v:Value),own1 (.tup ds) v=none:=λ_ _=>rfl;simp only[D.ren,rens_map];cases v<;>cases k<;>simp only[ownAt,e,e2]
 |_=>cases k<;>simp only[D.ren,ownAt,own1]
theorem Inv.ren {t t':Nat→D} {u:Nat→Value} {h:List Row} {O:Nat→Prop} {n0:Nat} (hi:Inv g w μ t u h O) (hp:permOK n0 h.length π=true) (ho:noObj h=true) (ht:∀n,t' n=(t n).ren π):
  Inv g w (renμ π μ) t' u (renRows π h) O:=by
 have hlen:μ.length=h.length:=hi.len;have hp':∀r,r <h.length→rnm π r <h.length∧rnm (flip π) r <h.length∧rnm (flip π) (rnm π r)=r∧rnm π (rnm (flip π) r)=r:=by
  intro r hr;have:=List.all_eq_true.1 hp r (List.mem_range.2 hr);simp only[Bool.and_eq_true,decide_eq_true_eq,beq_iff_eq]at this;exact⟨this.1.1.1.1,this.1.1.1.2,this.1.1.2,this.1.2⟩
 have hμ:∀r b,(renμ π μ)[r]?=some b↔r <h.length∧μ[rnm (flip π) r]?=some b:=by
  intro r b;simp only[renμ,List.getElem?_map];by_cases hr:r <h.length
  ·have:(List.range μ.length)[r]?=some r:=List.getElem?_range (by omega);have hlt:=(hp' r hr).2.1;have e1:μ[rnm (flip π) r]?=some μ[rnm (flip π) r]:=List.getElem?_eq_getElem (by omega);simp only[this,Option.map_some,e1,Option.getD_some,hr,true_and]
  ·have:(List.range μ.length)[r]?=none:=by simp;omega
   simp[this,hr]
 have hh:∀r row,(renRows π h)[r]?=some row↔r <h.length∧∃row0,h[rnm (flip π) r]?=some row0∧row=row0.ren π:=by
  intro r row;simp only[renRows,List.getElem?_map];by_cases hr:r <h.length
  ·have:(List.range h.length)[r]?=some r:=List.getElem?_range hr;have hlt:=(hp' r hr).2.1;have e1:h[rnm (flip π) r]?=some h[rnm (flip π) r]:=List.getElem?_eq_getElem hlt;simp only[this,Option.map_some,e1,Option.getD_some,hr,true_and,Option.some.injEq];exact⟨λh=>⟨_,rfl,h.symm⟩,λ⟨x,hx,hr⟩=>by rw[hr,hx]⟩
  ·have:(List.range h.length)[r]?=none:=by simp;omega
   simp[this,hr]
 have hπ:∀r b,μ[r]?=some b→(renμ π μ)[rnm π r]?=some b:=by
  intro r b hb;have hr:r <h.length:=by have:=(List.getElem?_eq_some_iff.1 hb).1;omega
  rw[hμ];exact⟨(hp' r hr).1,by rw[(hp' r hr).2.2.1];exact hb⟩
 have hcellU:∀r k,r <h.length→cellU w (renμ π μ) r k=cellU w μ (rnm (flip π) r) k:=by
  intro r k hr;simp only[cellU];have hlt:=(hp' r hr).2.1;have e1:μ[rnm (flip π) r]?=some μ[rnm (flip π) r]:=List.getElem?_eq_getElem (by omega);rw[(hμ r _).2 ⟨hr,e1⟩,e1]
 have hcellD:∀r k v,r <h.length→own1 (cellD (renRows π h) r k) v=own1 (cellD h (rnm (flip π) r) k) v:=by
  intro r k v hr;have hlt:=(hp' r hr).2.1;have e1:h[rnm (flip π) r]?=some h[rnm (flip π) r]:=List.getElem?_eq_getElem hlt;simp only[cellD,(hh r _).2 ⟨hr,_,e1,rfl⟩,e1];cases h[rnm (flip π) r]with
  |cells ds=>
   simp only[Row.ren,rens_map,List.getElem?_map];cases ds[k]? with
   |none=>rfl
   |some d=>simp[own1_ren]
  |_=>rfl
 have hout:∀r k v,¬r <h.length→own1 (cellD (renRows π h) r k) v=none:=by
  intro r k v hr;have:(renRows π h)[r]?=none:=by simp[renRows];omega
  simp[cellD,this,own1]
 have hblk:∀p b,blk t' u (renRows π h) w (renμ π μ) p=some b→blk t u h w μ (match p with| .tmp n k=> .tmp n k| .cell r k=> .cell (rnm (flip π) r) k)=some b:=by
  intro p b hb;cases p with
  |tmp n k=>simp only[blk,ht,ownAt_ren]at hb ⊢;exact hb
  |cell r k=>
   simp only[blk]at hb ⊢;by_cases hr:r <h.length
   ·rw[hcellD r k _ hr,hcellU r k hr]at hb;exact hb
   ·rw[hout r k _ hr]at hb;cases hb
 have hblt:∀r k b,blk t' u (renRows π h) w (renμ π μ) (.cell r k)=some b→r <h.length:=by
  intro r k b hb;by_cases hr:r <h.length
  ·exact hr
  ·simp only[blk,hout r k _ hr]at hb;cases hb
 have hmem:∀b,b∈renμ π μ→b∈μ:=by
  intro b hb;obtain⟨r,hr⟩:=List.mem_iff_getElem?.1 hb;exact List.mem_of_getElem? ((hμ r b).1 hr).2
 refine⟨hi.agree,hi.olt,λn=>by rw[ht];exact(hi.rep n).ren hπ,by simp[renμ,renRows,hlen],?_,?_,λb hb=>hi.mo b (hmem b hb),?_,λp b hb=>⟨λhm=>(hi.sep _ b (hblk p b hb)).1 (hmem b hm),(hi.sep _ b (hblk p b hb)).2⟩⟩
 ·intro r row b hr hb;obtain⟨_,row0,hr0,rfl⟩:=(hh r row).1 hr;have hb0:=((hμ r b).1 hb).2;have:=hi.rows _ row0 b hr0 hb0;cases row0 with
  |cells ds=>
   obtain⟨vs,T,h1,h2,h3,h4⟩:=this;exact⟨vs,T,h1,by rw[rens_map];exact AllP.map_left (λx y hx=>RepE.ren hπ hx) h2,h3,h4⟩
  |map es st ck=>exact this
  |obj tag p m=>
   have:=List.all_eq_true.1 ho _ (List.mem_of_getElem? hr0);simp[Row.isObj]at this
  |dead=>exact this
 ·intro r r' b hb hb';obtain⟨hr,h1⟩:=(hμ r b).1 hb;obtain⟨hr',h2⟩:=(hμ r' b).1 hb';have:=hi.nod _ _ b h1 h2;rw[←(hp' r hr).2.2.2,←(hp' r' hr').2.2.2,this]
 ·intro p q b hp hq;have h1:=hblk p b hp;have h2:=hblk q b hq;have:=hi.uniq _ _ b h1 h2;cases p with
  |tmp n k=>cases q with
   |tmp n' k'=>exact this
   |cell r' k'=>cases this
  |cell r k=>cases q with
   |tmp n' k'=>cases this
   |cell r' k'=>
    simp only[Pl.cell.injEq]at this;have hr:=hblt r k b hp;have hr':=hblt r' k' b hq;rw[←(hp' r hr).2.2.2,←(hp' r' hr').2.2.2,this.1,this.2]
end
section
variable {GL:Globals} {N:Nat}
theorem Gs.ren {g:Gh} {w:World} {μ:List Nat} {s s2:St} {a:Act} {O:Nat→Prop} {n0:Nat} (hg:Gs GL N g w μ s a O) (hr:RenS n0 s s2):∃μ2,Gs GL N g w μ2 s2 a O∧∀μ0:List Nat,μ0.length≤n0→μ0 <+: μ→μ0 <+: μ2:=by
 rcases hr with rfl|⟨π,hp,ho,he,hh⟩
 ·exact⟨μ,hg,λ_ _ h=>h⟩
 ·refine⟨renμ π μ,⟨?_,hg.glob,hg.sz⟩,λμ0 hl hpre=>?_⟩
  ·rw[hh];exact hg.inv.ren hp ho he
  ·have hlen:μ.length=s.h.length:=hg.inv.len;rw[List.prefix_iff_eq_take];apply List.ext_getElem?;intro i;rw[List.getElem?_take];by_cases hi:i <μ0.length
   ·rw[if_pos hi];have h1:μ0[i]?=some μ0[i]:=List.getElem?_eq_getElem hi;have h2:μ[i]?=some μ0[i]:=pre_get hpre h1;have hi2:i <s.h.length:=by have:=(List.getElem?_eq_some_iff.1 h2).1;omega
    have:=List.all_eq_true.1 hp i (List.mem_range.2 hi2);simp only[Bool.and_eq_true,Bool.or_eq_true,decide_eq_true_eq,beq_iff_eq]at this;have h3:rnm (flip π) i=i:=by
     rcases this.2 with h|h
     ·omega
     ·exact h
    simp only[renμ,List.getElem?_map,List.getElem?_range (show i <μ.length by omega),Option.map_some,h3,h2,Option.getD_some,h1]
   ·rw[if_neg hi,List.getElem?_eq_none (by omega)]
end
end
inductive AExit where
 |normal
 |exit (id:Nat)
 |ret
structure GI where
 g:Option (Nat×Bool)
 i:AI
 deriving Inhabited
def okF (P:Program) (f:Nat):Bool:=
 match P.funcs[f]? with
 |some fn=>fn.body.isSome&& !(fn.name== "runtime.NumGoroutine")
 |none=>false
def retD:List V→D
 |[x]=> .v x
 |xs=> .tup (xs.map .v)
def Agree (g:Gh) (w:World):Prop:=∀b o v,g.m b o=some v→w.cell? ⟨b,o,none⟩=some v
def PSp (P:Program) (GL:Globals) (f:Nat) (args rets:List V):Prop:=
 okF P f=true∧∀(g:Gh) (w:World) (us:List Value),Agree g w→GlobOK GL g→All2 (RepV g) args us→
  Calls P f us.toArray w λe w'=>∃v g',e= .returned v∧RepD g' w' [] (retD rets) v∧Chg (λ_=>False) g w g' w'∧Agree g' w'
def WF (r:Option Nat):Fence:={Fence.wide with round:=r}
def YSp (P:Program) (GL:Globals) (r:Nat) (args:List D) (h:List Row) (b:Bool) (h':List Row):Prop:=
 ∀(g:Gh) (w:World) (μ:List Nat) (us:List Value) (O:Nat→Prop),Inv g w μ anyT anyU h O→GlobOK GL g→All2 (RepG g w μ) args us→Tame args us→∀bl,μ[r]?=some bl→
  ∃fn tmps asg body,(Instr.yield bl us.toArray).run P w= .ok (.round bl fn tmps asg body) w∧
   RoundIn (WF none) 0 P bl fn tmps asg body w λe w'=>∃g' μ',e= .returned (.bool b)∧Inv g' w' μ' anyT anyU h' O∧Chg (λb=>¬O b) g w g' w'∧μ <+: μ'
def FSp (P:Program) (GL:Globals) (f:Nat) (args:List D) (h:List Row) (rets:List D) (h':List Row):Prop:=
 okF P f=true∧∀(g:Gh) (w:World) (μ:List Nat) (us:List Value) (O:Nat→Prop),Inv g w μ anyT anyU h O→GlobOK GL g→All2 (RepG g w μ) args us→Tame args us→
  Calls P f us.toArray w λe w'=>∃v g' μ',e= .returned v∧Inv g' w' μ' (at0 .any (retDs rets)) (at0 (.bool false) v) h' O∧Chg (λb=>¬O b) g w g' w'∧μ <+: μ'
def atL {α:Type} (z:α) (l:List α):Nat→α:=λn=>(l[n]?).getD z
def OSp (P:Program) (GL:Globals) (f:Nat) (args rets:List D):Prop:=
 okF P f=true∧∀(g:Gh) (w:World) (μ:List Nat) (us:List Value) (O:Nat→Prop) (h:List Row),us.length=args.length→Inv g w μ (atL .any args) (atL undef us) h O→GlobOK GL g→
  Calls P f us.toArray w λe w'=>∃v g' μ',e= .returned v∧Inv g' w' μ' (at0 .any (retDs rets)) (at0 (.bool false) v) h O∧Chg (λb=>¬O b) g w g' w'∧μ <+: μ'
def AI.dst:AI→Option Nat
 | .p d _| .mv d _| .alloc d _| .box d _| .take d _| .app d _ _ _ _ _| .appS d _ _ _ _| .bsl d _ _ _| .s2b d _| .nilS d _ _| .mkm d| .mksl d _ _| .ment d _ _ _ _=>some d
 | .mdel d _ _ _ _=>d
 | .mput _ _ _ _ _=>none
 | .mest _ _ _=>none
 | .store _ _ _=>none
 | .call d _ _=>d
 | .callF d _ _=>d
 | .callC d _ _=>d
 | .callO d _ _ _=>d
 | .appR d _ _ _ _ _| .frz d _ _=>some d
 | .mksz d _ _=>some d
 | .cpy d _ _ _=>d
 | .clr d _ _=>d
 | .callN d _ _=>d
 | .appP d _ _ _ _ _=>some d
 | .itr _ d _=>some d
 | .fin _ _ _ _ _=>none
 | .bsr d _ _=>some d
def Opd.moved:Opd→Bool
 | .t _ b=>b
 |_=>false
def itP (q c:Nat) (seen:List Nat):Gh→List Nat→Obj→Prop:=λ_ μ o=>∃b,μ[q]?=some b∧o= .mapIter (some b) c seen.toArray c
def itR (q c:Nat) (seen:List Nat):Row:= .obj .ready (itP q c seen) (λ_ _ _ _ _ _ hμ h=>by
 obtain⟨b,hb,rfl⟩:=h;obtain⟨tl,rfl⟩:=hμ;exact⟨b,by rw[List.getElem?_append_left (List.getElem?_eq_some_iff.1 hb).1];exact hb,rfl⟩)
def itN:Row:= .obj .ready (λ_ _ o=>o= .mapIter none 0 #[] 0) (λ_ _ _ _ _ _ _ h=>h)
section
variable (P:Program) (GL:Globals)
def awpCall (d:Option Nat) (f:Opd) (args:List Opd) (K:St→Prop) (s:St):Prop:=
 match f.ev s.e with
 | .yld r=>∃b h',YSp P GL r (argsOf s.e args) s.h b h'∧K ⟨setO s.e d (.v (.bool b)),h'⟩
 | .meth fid fs=>∃rets h',FSp P GL fid (fs++argsOf s.e args) s.h rets h'∧K ⟨setO s.e d (retDs rets),h'⟩
 |fd=>match fnOf fd with
  |some (fid,caps)=>∃rets h',FSp P GL fid (argsOf s.e args++caps) s.h rets h'∧K ⟨setO s.e d (retDs rets),h'⟩
  |none=>False
def awpI (i:AI) (K:St→Prop) (s:St):Prop:=
 match i with
 | .call d f args=>awpCall P GL d f args K s
 | .callF d f args=>awpCall P GL d f args K s
 | .callC d f args=>awpCall P GL d f args K s
 | .callO d f q args=>∃fid rets,fnOf (f.ev s.e)=some (fid,[])∧OSp P GL fid (q.ev s.e::argsOf s.e args) rets∧K ⟨setO (q.clear s.e) d (retDs rets),s.h⟩
 | .appP d x y e sz by_=>match ownOf e sz (x.ev s.e),(y.ev s.e).toV with
  |some xs,some (.list [z])=>z.cells.length=sz∧roomy (xs.length+1) by_=true∧∀b,K ⟨(d,.pend b e sz xs)::x.clear s.e,s.h⟩
  |_,_=>False
 | .itr k d x=>match k with
  |0=>match x.ev s.e with
   | .mref q=>match s.h[q]? with
    |some (.map _ _ ck)=>K ⟨(d,.ref s.h.length 0)::s.e,s.h++[itR q ck []]⟩
    |_=>False
   | .v .nilm=>K ⟨(d,.ref s.h.length 0)::s.e,s.h++[itN]⟩
   |_=>False
  |1=>(∃r,x.ev s.e= .ref r 0∧s.h[r]?=some itN∧K ⟨(d,.tup [.v (.bool false)])::s.e,s.h⟩)∨∃r q c seen es st,x.ev s.e= .ref r 0∧s.h[r]?=some (itR q c seen)∧s.h[q]?=some (.map es st c)∧((∀y∈st,y∈seen)→K ⟨(d,.tup [.v (.bool false)])::s.e,s.h⟩)∧
    ∀(i:Nat) y kv,st[i]?=some y→es[i]?=some kv→y∉seen→K ⟨(d,.tup [.v (.bool true),.v kv.1,.v kv.2])::s.e,s.h.set r (itR q c (seen++[y]))⟩
  |2=>∃r q c seen es st,∃(i:Nat) (y:Nat) (kv:V×V),x.ev s.e= .ref r 0∧s.h[r]?=some (itR q c (seen++[y]))∧s.h[q]?=some (.map es st c)∧st[i]?=some y∧es[i]?=some kv∧
    K ⟨(d,.tup [.v kv.1,.v kv.2])::s.e,s.h⟩
  |_=>False
 | .callN d f args=>∃fid rets h',fnOf (f.ev s.e)=some (fid,[])∧FSp P GL fid (args.map λq=>(q.ev s.e).copy) s.h rets h'∧K ⟨setO s.e d (retDs rets),h'⟩
 | .appR d x y e sz by_=>match x.ev s.e,(y.ev s.e).toV with
  | .nil _ _,some (.list ys)=>headOK sz ys=true∧roomy ys.length by_=true∧(x.moved=true∧K ⟨(d,.own e sz ys)::x.clear s.e,s.h⟩∨if ys.isEmpty=true then K ⟨(d,.nil e sz)::s.e,s.h⟩ else
    K ⟨(d,.sref s.h.length ys.length)::s.e,s.h++[.cells ((ys.flatMap V.cells).map .v)]⟩)
  | .own e' s' [],some (.list ys)=>headOK sz ys=true∧roomy ys.length by_=true∧((e'=e∧s'=sz∧K ⟨(d,.own e sz ys)::x.clear s.e,s.h⟩)∨NoGrow e'∧if ys.isEmpty=true then K ⟨(d,.nil e sz)::s.e,s.h⟩ else
    K ⟨(d,.sref s.h.length ys.length)::s.e,s.h++[.cells ((ys.flatMap V.cells).map .v)]⟩)
  | .v (.list xs),some (.list [])=>K ⟨(d,.v (.list xs))::s.e,s.h⟩
  |_,_=>False
 | .frz d x sz=>match x.ev s.e with
  | .nil _ _=>K ⟨(d,.v (.list []))::s.e,s.h⟩
  | .v (.list xs)=>K ⟨(d,.v (.list xs))::s.e,s.h⟩
  | .sref r n=>match s.h[r]? with
   |some (.cells ds)=>0 <sz∧∃xs:List V,xs.length=n∧(∀x∈xs,x.cells.length=sz)∧D.vs? (ds.take (n*sz))=some (xs.flatMap V.cells)∧K ⟨(d,.v (.list xs))::s.e,s.h.set r .dead⟩
   |_=>False
  |_=>False
 | .nilS d ne x=>match (x.ev s.e).copy with
  | .v (.list [])| .nil _ _=>K ⟨(d,.v (.bool (true != ne)))::s.e,s.h⟩∧K ⟨(d,.v (.bool (false != ne)))::s.e,s.h⟩
  | .v (.list (_::_))=>K ⟨(d,.v (.bool (false != ne)))::s.e,s.h⟩
  |_=>False
 |i=>match i.step s with
  |some s'=>K s'
  |none=>False
def awpG (x:GI) (K:St→Prop) (s:St):Prop:=
 match x.g with
 |none=>awpI P GL x.i K s
 |some (t,want)=>match find s.e t with
  | .v (.bool b)=>if b=want then awpI P GL x.i K s else K ⟨setO s.e x.i.dst (.tup []),s.h⟩
  | .tup []=>K ⟨setO s.e x.i.dst (.tup []),s.h⟩
  |_=>False
def awpOps:List GI→(St→Prop)→St→Prop
 |[],K,s=>K s
 |x::rest,K,s=>awpG P GL x (awpOps rest K) s
def normE (e:Env):List Nat→Env
 |[]=>[]
 |n::ns=>(n,findF e n)::normE e ns
end
def chkI (P:Program) (GL:Globals) (N:Nat) (o:Oper) (ai:AI):Bool:=
 match ai with
 | .p d i=>o.dst==some d&&decide (d <N)&&chkP P GL o.op i
 | .mv d q=>o.dst==some d&&decide (d <N)&&movable q&&(match o.op with| .move x=>oe GL x q| .assign x=>oe GL x q|_=>false)
 | .alloc d zs=>o.dst==some d&&decide (d <N)&&(match o.op with| .alloc t=>zeroIs P t zs|_=>false)
 | .box d q=>o.dst==some d&&decide (d <N)&&(match o.op with| .box _ x=>oe GL x q|_=>false)
 | .store p q n=>o.dst==none&&(match o.op with| .store t p' x=>oe GL p' p&&oe GL x q&&sizeIs P t n|_=>false)
 | .take d p=>o.dst==some d&&decide (d <N)&&(match o.op with| .load t p'=>oe GL p' p&&isK P t (λ| .slice _=>true|_=>false)|_=>false)
 | .app d q r e s by_=>o.dst==some d&&decide (d <N)&&(match o.op with
  | .call {callee:= .builtin .append,args,argTypes}=>two2 args.toList (λx y=>oe GL x q&&oe GL y r)&&baseOK q&&
    two2 argTypes.toList (λt t2=>sliceIs P t e&&isK P t2 (λ| .slice _=>true|_=>false))&&elemIs P e s by_
  |_=>false)
 | .appS d q r e by_=>o.dst==some d&&decide (d <N)&&(match o.op with
  | .call {callee:= .builtin .append,args,argTypes}=>two2 args.toList (λx y=>oe GL x q&&oe GL y r)&&baseOK q&&
    two2 argTypes.toList (λt t2=>sliceIs P t e&&isK P t2 (λ| .string=>true|_=>false))&&elemIs P e 1 by_
  |_=>false)
 | .bsl d e s qs=>o.dst==some d&&decide (d <N)&&(match o.op with
  | .buildSlice t n ps=>sliceIs P t e&&(match P.info? e with|some i=>elemIs P e s i.bytes|none=>false)&&ps.toList.length==n&&decide (n*s≤2^24)&&inOrder GL 0 ps.toList qs
  |_=>false)
 | .bsr d s qs=>o.dst==some d&&decide (d <N)&&(match o.op with
  | .buildSlice t n ps=>(match P.underlying t with|some (.slice e)=>(match P.info? e with|some i=>sliceIs P t e&&elemIs P e s i.bytes|none=>false)|_=>false)&&ps.toList.length==n&&decide (0 <n)&&decide (n*s≤2^24)&&inOrder GL 0 ps.toList qs
  |_=>false)
 | .s2b d q=>o.dst==some d&&decide (d <N)&&(match o.op with| .convert s t x=>isK P s (λ| .string=>true|_=>false)&&byteSl P t&&oe GL x q|_=>false)
 | .mkm d=>o.dst==some d&&decide (d <N)&&(match o.op with| .makeMap _ none=>true|_=>false)
 | .mksl d q z=>o.dst==some d&&decide (d <N)&&(match o.op with
  | .makeSlice t x c=>(match x,c with| .tmp a,.tmp b=>a==b|_,_=>false)&&oe GL x q&&(match P.underlying t with|some (.slice e)=>zeroIs P e [z]&&sizeIs P e 1&&((P.info? e).map λi=>decide (i.bytes≤1048576))==some true|_=>false)
  |_=>false)
 | .mput m k v st ks=>o.dst==none&&(match o.op with| .mapUpdate t x i y=>(match P.underlying t with|some (.map kt _)=>keyIs P kt st ks|_=>false)&&oe GL x m&&oe GL i k&&oe GL y v| .insert t x i y=>(match P.underlying t with|some (.map kt _)=>keyIs P kt st ks|_=>false)&&oe GL x m&&oe GL i k&&oe GL y v|_=>false)
 | .ment d m k st ks=>o.dst==some d&&decide (d <N)&&(match o.op with| .mapEntry t x i=>(match P.underlying t with|some (.map kt _)=>keyIs P kt st ks|_=>false)&&oe GL x m&&oe GL i k|_=>false)
 | .mest m b v=>o.dst==none&&(match o.op with| .entryStore _ x i y=>oe GL x m&&oe GL i b&&oe GL y v|_=>false)
 | .mdel d m k st ks=>o.dst==d&&(match d with|some d=>decide (d <N)|none=>true)&&(match o.op with
  | .call {callee:= .builtin .delete,args,argTypes}=>two2 args.toList (λx y=>oe GL x m&&oe GL y k)&&two2 argTypes.toList (λt _=>match P.underlying t with|some (.map kt _)=>keyIs P kt st ks|_=>false)
  |_=>false)
 | .nilS d ne q=>o.dst==some d&&decide (d <N)&&(match o.op with| .binOp op t x y _=>(op==if ne then .neq else .eql)&&(match y with| .const (.slice none 0 0)=>true|_=>false)&&isK P t (λ| .slice _=>true|_=>false)&&oe GL x q|_=>false)
 | .call d f args=>(match o.op with
  | .call {callee:= .value f',args:=asx,..}=>o.dst==d&&(match d with|some d=>decide (d <N)|none=>true)&&oe GL f' f&&zipOK (oe GL) asx.toList args
  |_=>false)
 | .callF d f args=>(match o.op with
  | .call {callee:= .value f',args:=asx,..}=>o.dst==d&&(match d with|some d=>decide (d <N)|none=>true)&&oe GL f' f&&zipOK (oe GL) asx.toList args
  |_=>false)
 | .callC d f args=>(match o.op with
  | .call {callee:= .value f',args:=asx,..}=>o.dst==d&&(match d with|some d=>decide (d <N)|none=>true)&&oe GL f' f&&zipOK (oe GL) asx.toList args
  |_=>false)
 | .callO d f q args=>(match o.op with
  | .call {callee:= .value f',args:=asx,..}=>o.dst==d&&(match d with|some d=>decide (d <N)|none=>true)&&oe GL f' f&&zipOK (oe GL) asx.toList (q::args)&&baseOK q
  |_=>false)
 | .appR d q r e s by_=>o.dst==some d&&decide (d <N)&&(match o.op with
  | .call {callee:= .builtin .append,args,argTypes}=>two2 args.toList (λx y=>oe GL x q&&oe GL y r)&&
    two2 argTypes.toList (λt t2=>sliceIs P t e&&isK P t2 (λ| .slice _=>true|_=>false))&&elemIs P e s by_&&((P.info? e).bind (·.zero)).any (λz=>z.cells.toList.all Value.oneCell')
  |_=>false)
 | .frz d q _=>o.dst==some d&&decide (d <N)&&(match o.op with| .move x=>oe GL x q| .assign x=>oe GL x q|_=>false)
 | .appP d q r e s by_=>o.dst==some d&&decide (d <N)&&(match o.op with
  | .call {callee:= .builtin .append,args,argTypes}=>two2 args.toList (λx y=>oe GL x q&&oe GL y r)&&baseOK q&&
    two2 argTypes.toList (λt t2=>sliceIs P t e&&isK P t2 (λ| .slice _=>true|_=>false))&&elemIs P e s by_
  |_=>false)
 | .itr k d q=>o.dst==some d&&decide (d <N)&&(match o.op,k with
  | .range t x,0=>isK P t (λ| .map _ _=>true|_=>false)&&oe GL x q
  | .next x false,1=>oe GL x q
  | .entry x,2=>oe GL x q
  |_,_=>false)
 | .fin m _ p q sz=>o.dst==none&&decide (m <N)&&(match o.op with| .store t p' x=>oe GL p' p&&oe GL x q&&sizeIs P t sz|_=>false)
 | .callN d f args=>(match o.op with
  | .call {callee:= .value f',args:=asx,..}=>o.dst==d&&(match d with|some d=>decide (d <N)|none=>true)&&oe GL f' f&&zipOK (oe GL) asx.toList args
  |_=>false)
 | .mksz d q zs=>o.dst==some d&&decide (d <N)&&(match o.op with
  | .makeSlice t x c=>(match x,c with| .tmp a,.tmp b=>a==b|_,_=>false)&&oe GL x q&&(match P.underlying t with|some (.slice e)=>zeroIs P e zs&&sizeIs P e zs.length&&((P.info? e).map λi=>decide (i.bytes≤1048576))==some true|_=>false)
  |_=>false)
 | .clr d q zs=>o.dst==d&&(match d with|some d=>decide (d <N)|none=>true)&&(match o.op with
  | .call {callee:= .builtin .clear,args,argTypes}=>one1 args.toList (λx=>oe GL x q)&&one1 argTypes.toList (λt=>match P.underlying t with|some (.slice e)=>zeroIs P e zs|_=>false)
  |_=>false)
 | .cpy d q r sz=>o.dst==d&&(match d with|some d=>decide (d <N)|none=>true)&&(match o.op with
  | .call {callee:= .builtin .copy,args,argTypes}=>two2 args.toList (λx y=>oe GL x q&&oe GL y r)&&two2 argTypes.toList (λt _=>match P.underlying t with|some (.slice e)=>sizeIs P e sz|_=>false)
  |_=>false)
def chkG (P:Program) (GL:Globals) (N:Nat) (ops:Array Oper) (i:Nat) (x:GI):Bool:=
 match ops[i]? with
 |none=>false
 |some o=>(match o.guard,x.g with
  |none,none=>true
  |some (j,want),some (t,want')=>(ops[j]?).bind (·.dst)==some t&&want==want'&&x.i.dst==o.dst
  |_,_=>false)&&chkI P GL N o x.i
theorem callsIn_wf {r:Option Nat} {n:Nat} {P:Program} {f:FuncId} {args:Array Value} {w:World} {R:Ending→World→Prop} (h:Calls P f args w R):CallsIn (WF r) n P f args w R:=
 (callsIn_wide (n:=n)).2 h
theorem find_norm (e:Env):∀(ns:List Nat) (n:Nat),find (normE e ns) n=if n∈ns then find e n else .any
 |[],n=>by simp[normE,find]
 |m::ns,n=>by
  simp only[normE,find,findF_eq];by_cases h:m=n
  ·simp[h]
  ·rw[if_neg h,find_norm e ns n];simp[Ne.symm h]
section
variable {P:Program} {GL:Globals} {N:Nat} {r:Option Nat}
theorem Gs.norm {g:Gh} {w:World} {μ:List Nat} {s:St} {a:Act} {O:Nat→Prop} (hg:Gs GL N g w μ s a O) (ns:List Nat):Gs GL N g w μ ⟨normE s.e ns,s.h⟩ a O where
 inv:=hg.inv.weaken _ λn=>by
  rw[find_norm];by_cases h:n∈ns
  ·exact .inl (by simp[h])
  ·exact .inr ⟨λv _=>by simp[h,RepD,RepG,RepE],λv k=>by simp only[h,if_false];cases k<;>simp[ownAt,own1]⟩
 glob:=hg.glob
 sz:=hg.sz
theorem eff_ok {o:Oper} {ai:AI} (h:chkI P GL N o ai=true) (hc:∀d f args,ai≠ .call d f args) (hc2:∀d ne x,ai≠ .nilS d ne x) (hc3:∀d f args,ai≠ .callF d f args∧ai≠ .callC d f args) (hc4:∀d f q args,ai≠ .callO d f q args) (hc5:∀d x y e s b,ai≠ .appR d x y e s b∧ai≠ .frz d x s) (hc7:∀d f args,ai≠ .callN d f args) (hc8:∀d x y e s b,ai≠ .appP d x y e s b∧ai≠ .itr e d x):EffOK P GL N o ai∧∀c,o.op≠ .defer c:=by
 cases ai with
 |p d i=>
  simp only[chkI,Bool.and_eq_true,beq_iff_eq,decide_eq_true_eq]at h;refine⟨p_ok h.1.1 h.1.2 h.2,λc hc=>?_⟩;rw[hc]at h;simp[chkP]at h
 |mv d q=>
  simp only[chkI,Bool.and_eq_true,beq_iff_eq,decide_eq_true_eq]at h;obtain⟨⟨⟨h1,h2⟩,h3⟩,h4⟩:=h;split at h4
  ·rename_i x hx;exact⟨mv_ok h1 (.inl hx) h2 h4 h3,λc hc=>by rw[hx]at hc;cases hc⟩
  ·rename_i x hx;exact⟨mv_ok h1 (.inr hx) h2 h4 h3,λc hc=>by rw[hx]at hc;cases hc⟩
  ·cases h4
 |alloc d zs=>
  simp only[chkI,Bool.and_eq_true,beq_iff_eq,decide_eq_true_eq]at h;obtain⟨⟨h1,h2⟩,h4⟩:=h;split at h4
  ·rename_i t hx;exact⟨alloc_ok h1 hx h2 h4,λc hc=>by rw[hx]at hc;cases hc⟩
  ·cases h4
 |box d q=>
  simp only[chkI,Bool.and_eq_true,beq_iff_eq,decide_eq_true_eq]at h;obtain⟨⟨h1,h2⟩,h4⟩:=h;split at h4
  ·rename_i t x hx;exact⟨box_ok h1 hx h2 h4,λc hc=>by rw[hx]at hc;cases hc⟩
  ·cases h4
 |store p q n=>
  simp only[chkI,Bool.and_eq_true,beq_iff_eq]at h;obtain⟨h1,h4⟩:=h;split at h4
  ·rename_i t p' x hx;simp only[Bool.and_eq_true]at h4;exact⟨store_ok h1 hx h4.1.1 h4.1.2 h4.2,λc hc=>by rw[hx]at hc;cases hc⟩
  ·cases h4
 |take d p=>
  simp only[chkI,Bool.and_eq_true,beq_iff_eq,decide_eq_true_eq]at h;obtain⟨⟨h1,h2⟩,h4⟩:=h;split at h4
  ·rename_i t p' hx;simp only[Bool.and_eq_true]at h4;obtain⟨el,hel⟩:=isK_slice h4.2;exact⟨take_ok h1 hx h2 h4.1 hel,λc hc=>by rw[hx]at hc;cases hc⟩
  ·cases h4
 |app d q r e s by_=>
  simp only[chkI,Bool.and_eq_true,beq_iff_eq,decide_eq_true_eq]at h;obtain⟨⟨h1,h2⟩,h4⟩:=h;split at h4
  ·rename_i asx ts hx;simp only[Bool.and_eq_true]at h4;obtain⟨⟨⟨k1,k2⟩,k3⟩,k4⟩:=h4;obtain⟨x,y,rfl,j1⟩:=two_arr k1;obtain⟨t,t2,rfl,j3⟩:=two_arr k3;simp only[Bool.and_eq_true]at j1 j3;obtain⟨e2,he2⟩:=isK_slice j3.2;exact⟨app_ok h1 hx h2 j1.1 j1.2 k2 j3.1 (e2:=e2) (by simp[sliceIs,he2]) k4,λc hc=>by rw[hx]at hc;cases hc⟩
  ·cases h4
 |appS d q r e by_=>
  simp only[chkI,Bool.and_eq_true,beq_iff_eq,decide_eq_true_eq]at h;obtain⟨⟨h1,h2⟩,h4⟩:=h;split at h4
  ·rename_i asx ts hx;simp only[Bool.and_eq_true]at h4;obtain⟨⟨⟨k1,k2⟩,k3⟩,k4⟩:=h4;obtain⟨x,y,rfl,j1⟩:=two_arr k1;obtain⟨t,t2,rfl,j3⟩:=two_arr k3;simp only[Bool.and_eq_true]at j1 j3;exact⟨appS_ok h1 hx h2 j1.1 j1.2 k2 j3.1 j3.2 k4,λc hc=>by rw[hx]at hc;cases hc⟩
  ·cases h4
 |bsl d e s qs=>
  simp only[chkI,Bool.and_eq_true,beq_iff_eq,decide_eq_true_eq]at h;obtain⟨⟨h1,h2⟩,h4⟩:=h;split at h4
  ·rename_i t n ps hx;simp only[Bool.and_eq_true,beq_iff_eq,decide_eq_true_eq]at h4;obtain⟨⟨⟨⟨k1,k2⟩,k3⟩,k4⟩,k5⟩:=h4;split at k2
   ·exact⟨bsl_ok h1 hx h2 k1 k2 k3 k4 k5,λc hc=>by rw[hx]at hc;cases hc⟩
   ·cases k2
  ·cases h4
 |bsr d s qs=>
  simp only[chkI,Bool.and_eq_true,beq_iff_eq,decide_eq_true_eq]at h;obtain⟨⟨h1,h2⟩,h4⟩:=h;split at h4
  ·rename_i t n ps hx;simp only[Bool.and_eq_true,beq_iff_eq,decide_eq_true_eq]at h4;obtain⟨⟨⟨⟨k1,k2⟩,k3⟩,k4⟩,k5⟩:=h4;split at k1
   ·split at k1
    ·simp only[Bool.and_eq_true]at k1;exact⟨bsr_ok h1 hx h2 k1.1 k1.2 k2 k3 k4 k5,λc hc=>by rw[hx]at hc;cases hc⟩
    ·cases k1
   ·cases k1
  ·cases h4
 |s2b d x=>
  simp only[chkI,Bool.and_eq_true,beq_iff_eq,decide_eq_true_eq]at h;obtain⟨⟨h1,h2⟩,h4⟩:=h;split at h4
  ·rename_i s t x hx;simp only[Bool.and_eq_true]at h4;exact⟨s2b_ok h1 hx h2 h4.2 h4.1.1 h4.1.2,λc hc=>by rw[hx]at hc;cases hc⟩
  ·cases h4
 |mkm d=>
  simp only[chkI,Bool.and_eq_true,beq_iff_eq,decide_eq_true_eq]at h;obtain⟨⟨h1,h2⟩,h4⟩:=h;split at h4
  ·rename_i t hx;exact⟨mkm_ok h1 hx rfl h2,λc hc=>by rw[hx]at hc;cases hc⟩
  ·cases h4
 |mksl d q z=>
  simp only[chkI,Bool.and_eq_true,beq_iff_eq,decide_eq_true_eq]at h;obtain⟨⟨h1,h2⟩,h4⟩:=h;split at h4
  ·rename_i t x c hx;simp only[Bool.and_eq_true]at h4;obtain⟨⟨k1,k2⟩,k3⟩:=h4;split at k1
   ·rename_i a b;have hab:b=a:=(beq_iff_eq.1 k1).symm;split at k3
    ·rename_i e hu;simp only[Bool.and_eq_true,beq_iff_eq]at k3;exact⟨mksl_ok h1 hx h2 (by rw[hab]) k2 hu k3.1.1 k3.1.2 k3.2,λc hc=>by rw[hx]at hc;cases hc⟩
    ·cases k3
   ·cases k1
  ·cases h4
 |mput m k v st ks=>
  simp only[chkI,Bool.and_eq_true,beq_iff_eq]at h;obtain⟨h1,h4⟩:=h;split at h4
  ·rename_i t x i y hx;simp only[Bool.and_eq_true]at h4;exact⟨mput_ok h1 (.inl hx) h4.1.1.1 h4.1.1.2 h4.1.2 h4.2,λc hc=>by rw[hx]at hc;cases hc⟩
  ·rename_i t x i y hx;simp only[Bool.and_eq_true]at h4;exact⟨mput_ok h1 (.inr hx) h4.1.1.1 h4.1.1.2 h4.1.2 h4.2,λc hc=>by rw[hx]at hc;cases hc⟩
  ·cases h4
 |ment d m k st ks=>
  simp only[chkI,Bool.and_eq_true,beq_iff_eq,decide_eq_true_eq]at h;obtain⟨⟨h1,h2⟩,h4⟩:=h;split at h4
  ·rename_i t x i hx;simp only[Bool.and_eq_true]at h4;exact⟨ment_ok h1 h2 hx h4.1.1 h4.1.2 h4.2,λc hc=>by rw[hx]at hc;cases hc⟩
  ·cases h4
 |mest m b v=>
  simp only[chkI,Bool.and_eq_true,beq_iff_eq]at h;obtain⟨h1,h4⟩:=h;split at h4
  ·rename_i t x i y hx;simp only[Bool.and_eq_true]at h4;exact⟨mest_ok h1 hx h4.1.1 h4.1.2 h4.2,λc hc=>by rw[hx]at hc;cases hc⟩
  ·cases h4
 |mdel d m k st ks=>
  simp only[chkI,Bool.and_eq_true,beq_iff_eq]at h;obtain⟨⟨h1,h2⟩,h4⟩:=h;split at h4
  ·rename_i asx ts hx;simp only[Bool.and_eq_true]at h4;obtain⟨x,y,rfl,j1⟩:=two_arr h4.1;obtain⟨t,t2,rfl,j3⟩:=two_arr h4.2;simp only[Bool.and_eq_true]at j1;exact⟨mdel_ok h1 (λn hn=>by subst hn;simpa using h2) hx j3 j1.1 j1.2,λc hc=>by rw[hx]at hc;cases hc⟩
  ·cases h4
 |nilS d ne x=>exact absurd rfl (hc2 d ne x)
 |call d f args=>exact absurd rfl (hc d f args)
 |callF d f args=>exact absurd rfl (hc3 d f args).1
 |callC d f args=>exact absurd rfl (hc3 d f args).2
 |callO d f q args=>exact absurd rfl (hc4 d f q args)
 |appR d x y e s b=>exact absurd rfl (hc5 d x y e s b).1
 |frz d x s=>exact absurd rfl (hc5 d x x 0 s 0).2
 |callN d f args=>exact absurd rfl (hc7 d f args)
 |appP d x y e s b=>exact absurd rfl (hc8 d x y e s b).1
 |itr k d x=>exact absurd rfl (hc8 d x x k 0 0).2
 |fin m ad p q sz=>
  simp only[chkI,Bool.and_eq_true,beq_iff_eq,decide_eq_true_eq]at h;obtain⟨⟨h1,h2⟩,h4⟩:=h;split at h4
  ·rename_i t p' x hx;simp only[Bool.and_eq_true]at h4;exact⟨fin_ok h1 hx h2 h4.1.1 h4.1.2 h4.2,λc hc=>by rw[hx]at hc;cases hc⟩
  ·cases h4
 |mksz d q zs=>
  simp only[chkI,Bool.and_eq_true,beq_iff_eq,decide_eq_true_eq]at h;obtain⟨⟨h1,h2⟩,h4⟩:=h;split at h4
  ·rename_i t x c hx;simp only[Bool.and_eq_true]at h4;obtain⟨⟨k1,k2⟩,k3⟩:=h4;split at k1
   ·rename_i a b;have hab:b=a:=(beq_iff_eq.1 k1).symm;split at k3
    ·rename_i e hu;simp only[Bool.and_eq_true,beq_iff_eq]at k3;exact⟨mksz_ok h1 hx h2 (by rw[hab]) k2 hu k3.1.1 k3.1.2 k3.2,λc hc=>by rw[hx]at hc;cases hc⟩
    ·cases k3
   ·cases k1
  ·cases h4
 |clr d q zs=>
  simp only[chkI,Bool.and_eq_true,beq_iff_eq]at h;obtain⟨⟨h1,h2⟩,h4⟩:=h;split at h4
  ·rename_i asx ts hx;simp only[Bool.and_eq_true]at h4;obtain⟨x,rfl,j1⟩:=one_arr h4.1;obtain⟨t,rfl,j3⟩:=one_arr h4.2;split at j3
   ·rename_i e hu;exact⟨clr_ok h1 (λn hn=>by subst hn;simpa using h2) hx j1 hu j3,λc hc=>by rw[hx]at hc;cases hc⟩
   ·cases j3
  ·cases h4
 |cpy d q r sz=>
  simp only[chkI,Bool.and_eq_true,beq_iff_eq]at h;obtain⟨⟨h1,h2⟩,h4⟩:=h;split at h4
  ·rename_i asx ts hx;simp only[Bool.and_eq_true]at h4;obtain⟨x,y,rfl,j1⟩:=two_arr h4.1;obtain⟨t,t2,rfl,j3⟩:=two_arr h4.2;simp only[Bool.and_eq_true]at j1;exact⟨cpy_ok h1 (λn hn=>by subst hn;simpa using h2) hx j1.1 j1.2 j3,λc hc=>by rw[hx]at hc;cases hc⟩
  ·cases h4
def ExOK:AExit→Exit→Prop
 | .normal,.normal=>True
 | .exit i,.exit j=>i=j
 | .ret,.ret=>True
 |_,_=>False
def After (GL:Globals) (N:Nat) (Q:St→Prop) (g:Gh) (w:World) (μ:List Nat) (a:Act) (O:Nat→Prop) (a':Act) (w':World):Prop:=
 ∃s' g' μ',Q s'∧Gs GL N g' w' μ' s' a' O∧Chg (λb=>¬O b) g w g' w'∧μ <+: μ'∧a'.defers=a.defers
theorem After.trans {Q:St→Prop} {g:Gh} {w:World} {μ:List Nat} {a:Act} {O:Nat→Prop} {g1:Gh} {w1:World} {μ1:List Nat} {a1:Act} {a2:Act} {w2:World}
  (hc:Chg (λb=>¬O b) g w g1 w1) (hμ:μ <+: μ1) (hd:a1.defers=a.defers) (h:After GL N Q g1 w1 μ1 a1 O a2 w2):After GL N Q g w μ a O a2 w2:=by
 obtain⟨s',g',μ',hq,hg,hc',hμ',hd'⟩:=h;exact⟨s',g',μ',hq,hg,hc.trans hc',hμ.trans hμ',hd'.trans hd⟩
theorem put_defers (a:Act) (d:Option Nat) (v:Value):(a.put d v).defers=a.defers:=by cases d<;>rfl
theorem retD_rep {g:Gh} {w:World} {μ:List Nat} {rets:List V} {v:Value} (h:RepD g w [] (retD rets) v):RepD g w μ (retD rets) v∧∀k,ownAt (retD rets) v k=none:=by
 unfold retD at h ⊢;split
 ·rename_i x;exact⟨h,λk=>own_v _ _ _⟩
 ·rename_i hne;split at h
  ·rename_i x;exact absurd rfl (hne x)
  ·obtain⟨vs,rfl,ha⟩:=h;refine⟨⟨vs,rfl,ha.1,λi x v hx hv=>?_⟩,λk=>?_⟩
   ·have:=ha.2 i x v hx hv;simp only[List.getElem?_map,Option.map_eq_some_iff]at hx;obtain⟨y,_,rfl⟩:=hx;exact this
   ·simp only[ownAt];cases hk:(rets.map D.v)[k]? with
    |none=>simp[own1]
    |some d=>
     simp only[List.getElem?_map,Option.map_eq_some_iff]at hk;obtain⟨y,_,rfl⟩:=hk;simp[own1]
theorem repC_args {g:Gh} {w:World} {μ:List Nat} {caps:List D} {vs:List Value} (h:All2 (RepC g μ) caps vs):All2 (RepG g w μ) caps vs∧Tame caps vs:=by
 refine⟨h.imp λd v h=>?_,λi d v hd hv=>?_⟩
 ·cases d<;>first|exact h|exact h.elim
 ·have:=h.2 i d v hd hv;cases d<;>first|rfl|exact this.elim
theorem Gs.setR {g:Gh} {w:World} {μ:List Nat} {s:St} {a:Act} {O:Nat→Prop} (h:Gs GL N g w μ s a O) {d:Nat} (hd:d <N) {x:D} {v:Value}
  (hi:Inv g w μ (λn=>if d=n then x else find s.e n) (λn=>if d=n then v else a.tmps.getD n undef) s.h O):Gs GL N g w μ ⟨(d,x)::s.e,s.h⟩ (a.put (some d) v) O where
 inv:=by rw[put_get v (h.sz▸hd)];exact hi
 glob:=h.glob
 sz:=by rw[put_size,h.sz]
theorem awpI_sound0 {o:Oper} {ai:AI} (hc3:∀d f args,ai≠ .callF d f args∧ai≠ .callC d f args) (hc4:∀d f q args,ai≠ .callO d f q args) (hc5:∀d x y e s b,ai≠ .appR d x y e s b∧ai≠ .frz d x s) (hc7:∀d f args,ai≠ .callN d f args) (hc8:∀d x y e s b,ai≠ .appP d x y e s b∧ai≠ .itr e d x) (hk:chkI P GL N o ai=true) {K:St→Prop} {g:Gh} {w:World} {μ:List Nat} {s:St} {a:Act} {O:Nat→Prop} (hg:Gs GL N g w μ s a O)
  (h:awpI P GL ai K s) {next:Act→World→Prop} {Q:Exit→Act→World→Prop}
  (hn:∀s' g' w' μ' a',K s'→Gs GL N g' w' μ' s' a' O→Chg (λb=>¬O b) g w g' w'→μ <+: μ'→a'.defers=a.defers→next a' w'):o.wpIn (WF r) 0 P a w next Q:=by
 refine⟨λ_ _=>trivial,?_⟩;by_cases hc2:∃d ne x,ai= .nilS d ne x
 ·obtain⟨d,ne,q,rfl⟩:=hc2;simp only[chkI,Bool.and_eq_true,beq_iff_eq,decide_eq_true_eq]at hk;obtain⟨⟨hdst,hdN⟩,h4⟩:=hk;split at h4
  ·rename_i op t x y s' hop;simp only[Bool.and_eq_true]at h4;obtain⟨⟨⟨hb,hy⟩,ht⟩,hx⟩:=h4;rw[Oper.semAt_eq _ _ _ (λc hc=>by rw[hop]at hc;cases hc)];obtain⟨el,hu⟩:=isK_slice ht;split at hy
   ·have hr:=((hg.gd P).ev hx).copy;have fin:∀(b:Bool),(execOp a.eval o).run P w= .ok (.value (.bool b)) w→K ⟨(d,.v (.bool b))::s.e,s.h⟩→Oper.uponIn (WF r) 0 P o a next Q ((execOp a.eval o).run P w):=by
     intro b hrun hK;rw[hrun];refine hn _ g w μ _ hK ?_ (Chg.refl _ _ _) (List.prefix_refl _) (put_defers _ _ _);rw[hdst];exact hg.set hdN (.bool b) λk=>own_v _ _ _
    have hrun:∀(ad:Option Addr) (n c:Nat),a.eval x= .slice ad n c→(execOp a.eval o).run P w= .ok (.value (.bool (ad.isNone != ne))) w:=by
     intro ad n c hv;have hg:(eqGuard op t x (.const (.slice none 0 0)) (.slice ad n c) (.slice none 0 0)).run P w= .ok () w:=eqGuard_skip ⟨by simp,by simp⟩;have heq:=run_equal_slice_nil (P:=P) w t el ad n c hu;have hev:a.eval (.const (.slice none 0 0))= .slice none 0 0:=rfl;have:=beq_binop hb;subst this;cases ne<;>simp[execOp,hop,hv,hev,binOp,heq]at hg ⊢ <;>simp[hg,heq]
    simp only[awpI]at h;split at h
    ·rename_i hc;rw[hc]at hr;have hr':RepV g (.list []) (a.eval x):=hr;generalize hv:a.eval x=u at hr';cases hr' with
     |lnil=>exact fin _ (hrun none 0 0 hv) h.1
     |list _ ad cap _ _ hs=>exact fin _ (hrun (some ad) _ cap hv) h.2
    ·rename_i hc;rw[hc]at hr;obtain⟨ad,hv,_⟩:=hr;cases ad with
     |none=>exact fin _ (hrun none 0 0 hv) h.1
     |some ad=>exact fin _ (hrun (some ad) 0 0 hv) h.2
    ·rename_i y ys hc;rw[hc]at hr;have hr':RepV g (.list (y::ys)) (a.eval x):=hr;generalize hv:a.eval x=u at hr';cases hr' with
     |list _ ad cap _ _ hs=>exact fin _ (hrun (some ad) _ cap hv) h
    ·exact h.elim
   ·cases hy
  ·cases h4
 by_cases hc:∀d f args,ai≠ .call d f args
 ·obtain⟨heff,hnd⟩:=eff_ok hk hc (λd ne x h=>hc2 ⟨d,ne,x,h⟩) hc3 hc4 hc5 hc7 hc8;rw[Oper.semAt_eq _ _ _ hnd];have h':∃s',ai.step s=some s'∧K s':=by
   unfold awpI at h;split at h
   ·exact absurd rfl (hc _ _ _)
   ·exact absurd rfl (hc3 _ _ _).1
   ·exact absurd rfl (hc3 _ _ _).2
   ·exact absurd rfl (hc4 _ _ _ _)
   ·exact absurd rfl (hc8 _ _ _ _ _ _).1
   ·exact absurd rfl (hc8 _ _ default _ 0 0).2
   ·exact absurd rfl (hc7 _ _ _)
   ·exact absurd rfl (hc5 _ _ _ _ _ _).1
   ·exact absurd rfl (hc5 _ _ default 0 _ 0).2
   ·exact absurd ⟨_,_,_,rfl⟩ hc2
   ·split at h
    ·rename_i s' hs;exact⟨s',hs,h⟩
    ·exact h.elim
  obtain⟨s',hs,hK⟩:=h';obtain⟨v,w',g',μ',hrun,hgs,hch,hμ⟩:=heff hg hs;rcases hrun with hrun|⟨hrun,rfl⟩
  ·rw[hrun];exact hn s' g' w' μ' _ hK hgs hch hμ (put_defers _ _ _)
  ·rw[hrun];exact hn s' g' w' μ' _ hK hgs hch hμ (put_defers _ _ _)
 ·have:∃d f args,ai= .call d f args:=by
   cases ai<;>first|exact⟨_,_,_,rfl⟩|exact absurd (λ_ _ _ h=>by cases h) hc
  obtain⟨d,f,args,rfl⟩:=this;have h:(∃r b h',f.ev s.e= .yld r∧YSp P GL r (argsOf s.e args) s.h b h'∧K ⟨setO s.e d (.v (.bool b)),h'⟩)∨
    (∃fid fs rets h',f.ev s.e= .meth fid fs∧FSp P GL fid (fs++argsOf s.e args) s.h rets h'∧K ⟨setO s.e d (retDs rets),h'⟩)∨
    ∃fid caps rets h',fnOf (f.ev s.e)=some (fid,caps)∧FSp P GL fid (argsOf s.e args++caps) s.h rets h'∧K ⟨setO s.e d (retDs rets),h'⟩:=by
   simp only[awpI,awpCall]at h;split at h
   ·rename_i r hf;obtain⟨b,h',h1,h2⟩:=h;exact .inl ⟨r,b,h',hf,h1,h2⟩
   ·rename_i fid fs hf;obtain⟨rets,h',h1,h2⟩:=h;exact .inr (.inl ⟨fid,fs,rets,h',hf,h1,h2⟩)
   ·split at h
    ·rename_i fid caps hf;obtain⟨rets,h',h1,h2⟩:=h;exact .inr (.inr ⟨fid,caps,rets,h',hf,h1,h2⟩)
    ·exact h.elim
  rcases h with ⟨rr,yb,h',hf,hsp,hK⟩|⟨fid,fs,rets,h',hf,⟨hok,hsp⟩,hK⟩|h
  ·simp only[chkI]at hk;split at hk
   ·rename_i f' asx ts hop;simp only[Bool.and_eq_true,beq_iff_eq]at hk;obtain⟨⟨⟨hdst,hdN⟩,hkf⟩,hka⟩:=hk;rw[Oper.semAt_eq _ _ _ (λc hc=>by rw[hop]at hc;cases hc)];have hrf:=(hg.gd P).ev hkf;rw[hf]at hrf;obtain⟨bl,hbl,hcv⟩:=hrf;obtain⟨har,hat⟩:=argsOf_rep (hg.gd P) hka;obtain⟨fn,tmps,asg,body,hy,hround⟩:=hsp g w μ _ _ hg.inv.call hg.glob har hat bl hbl;have hrun:(execOp a.eval o).run P w= .ok (.round bl fn tmps asg body) w:=by
     have h2:asx.map a.eval=(asx.toList.map a.eval).toArray:=by rw[←Array.toList_inj];simp
     simp[execOp,hop,resolve,hcv,Deferred.ofValue,invoke,h2,hy]
    rw[hrun,Oper.uponIn_round];refine⟨(λh=>by simp[WF,Fence.wide]at h),?_⟩;refine RoundIn.mono (F:=WF r) (show RoundIn (WF r) 0 P bl fn tmps asg body w _ from hround) ?_;rintro e w' ⟨g',μ',rfl,hinv,hch,hμ⟩;have hgs:Gs GL N g' w' μ' ⟨s.e,h'⟩ a O:=⟨hg.inv.ret hinv hch hμ,hg.glob.mono hch.le,hg.sz⟩;refine hn ⟨setO s.e d (.v (.bool yb)),h'⟩ g' w' μ' _ hK ?_ (hch.mono λ_ h ho=>h (.inl ho)) hμ (put_defers _ _ _);rw[hdst];cases d with
    |none=>exact⟨hgs.inv,hgs.glob,by rw[put_size,hgs.sz]⟩
    |some d=>exact hgs.set (by simpa using hdN) (.bool yb) λk=>own_v _ _ _
   ·cases hk
  ·simp only[chkI]at hk;split at hk
   ·rename_i f' asx ts hop;simp only[Bool.and_eq_true,beq_iff_eq]at hk;obtain⟨⟨⟨hdst,hdN⟩,hkf⟩,hka⟩:=hk;rw[Oper.semAt_eq _ _ _ (λc hc=>by rw[hop]at hc;cases hc)];have hrf:=(hg.gd P).ev hkf;rw[hf]at hrf;obtain⟨cvs,hcv,hcr0⟩:=hrf;obtain⟨hcr,hct⟩:=repC_args (w:=w) hcr0;obtain⟨har,hat⟩:=argsOf_rep (hg.gd P) hka;have hall:=hcr.append har;have htm:=hct.append hcr.1 hat;have hcall:=hsp g w μ _ _ hg.inv.call hg.glob hall htm;have hrun:(execOp a.eval o).run P w= .ok (.enter fid (cvs++asx.toList.map a.eval).toArray) w:=by
     unfold okF at hok;split at hok
     ·rename_i fn hfn;simp only[Bool.and_eq_true,Bool.not_eq_true']at hok;have h1:¬fn.body=none:=by cases hb:fn.body<;>simp_all
      have h3:¬fn.name= "runtime.NumGoroutine" :=by simpa using hok.2
      have h2:(cvs.toArray++asx.map a.eval)=(cvs++asx.toList.map a.eval).toArray:=by
       rw[←Array.toList_inj];simp
      simp[execOp,hop,resolve,hcv,Deferred.ofValue,invoke,callFunc,hfn,h3,h1,h2]
     ·cases hok
    rw[hrun,Oper.uponIn_enter];refine⟨(λh=>by simp[WF,Fence.wide]at h),callsIn_wf ?_⟩;refine hcall.mono ?_;rintro e w' ⟨v,g',μ',rfl,hinv,hch,hμ⟩;have hgs:Gs GL N g' w' μ' ⟨s.e,h'⟩ a O:=⟨hg.inv.ret hinv.leave hch hμ,hg.glob.mono hch.le,hg.sz⟩;refine hn ⟨setO s.e d (retDs rets),h'⟩ g' w' μ' _ hK ?_ (hch.mono λ_ h ho=>h (.inl ho)) hμ (put_defers _ _ _);rw[hdst];cases d with
    |none=>exact⟨hgs.inv,hgs.glob,by rw[put_size,hgs.sz]⟩
    |some d=>exact hgs.setR (by simpa using hdN) (hg.inv.retV hinv hgs.inv d)
   ·cases hk
  obtain⟨fid,caps,rets,h',hf,⟨hok,hsp⟩,hK⟩:=h;simp only[chkI]at hk;split at hk
  ·rename_i f' asx ts hop;simp only[Bool.and_eq_true,beq_iff_eq]at hk;obtain⟨⟨⟨hdst,hdN⟩,hkf⟩,hka⟩:=hk;rw[Oper.semAt_eq _ _ _ (λc hc=>by rw[hop]at hc;cases hc)];obtain⟨cvs,hcv,hcr,hct⟩:=fnOf_rep ((hg.gd P).ev hkf) hf;obtain⟨har,hat⟩:=argsOf_rep (hg.gd P) hka;have hall:=har.append hcr;have htm:=hat.append har.1 hct;have hcall:=hsp g w μ _ _ hg.inv.call hg.glob hall htm;have hrun:(execOp a.eval o).run P w= .ok (.enter fid (asx.toList.map a.eval++cvs).toArray) w:=by
    unfold okF at hok;split at hok
    ·rename_i fn hfn;simp only[Bool.and_eq_true,Bool.not_eq_true']at hok;have h1:¬fn.body=none:=by cases hb:fn.body<;>simp_all
     have h3:¬fn.name= "runtime.NumGoroutine" :=by simpa using hok.2
     have h2:(asx.map a.eval++cvs.toArray)=(asx.toList.map a.eval++cvs).toArray:=by
      rw[←Array.toList_inj];simp
     simp[execOp,hop,resolve,hcv,Deferred.ofValue,invoke,callFunc,hfn,h3,h1,h2]
    ·cases hok
   rw[hrun,Oper.uponIn_enter];refine⟨(λh=>by simp[WF,Fence.wide]at h),callsIn_wf ?_⟩;refine hcall.mono ?_;rintro e w' ⟨v,g',μ',rfl,hinv,hch,hμ⟩;have hgs:Gs GL N g' w' μ' ⟨s.e,h'⟩ a O:=⟨hg.inv.ret hinv.leave hch hμ,hg.glob.mono hch.le,hg.sz⟩;refine hn ⟨setO s.e d (retDs rets),h'⟩ g' w' μ' _ hK ?_ (hch.mono λ_ h ho=>h (.inl ho)) hμ (put_defers _ _ _);rw[hdst];cases d with
   |none=>exact⟨hgs.inv,hgs.glob,by rw[put_size,hgs.sz]⟩
   |some d=>exact hgs.setR (by simpa using hdN) (hg.inv.retV hinv hgs.inv d)
  ·cases hk
theorem Inv.callO {g:Gh} {w:World} {μ:List Nat} {t t':Nat→D} {u:Nat→Value} {h:List Row} {O:Nat→Prop} (hi:Inv g w μ t u h O) (ht:∀n k b,ownAt (t' n) (u n) k=some b→ownAt (t n) (u n) k=some b)
  {x:D} {v:Value} {ds:List D} {us:List Value} (hx:RepD g w μ x v) (hall:All2 (RepG g w μ) ds us) (htm:Tame ds us)
  (hown:∀k b,ownAt x v k=some b→∃m,ownAt (t m) (u m) k=some b∧∀v k,ownAt (t' m) v k=none):
  Inv g w μ (atL .any (x::ds)) (atL undef (v::us)) h (Ocall t' u O):=by
 have tail:∀n k,ownAt (atL .any (x::ds) (n+1)) (atL undef (v::us) (n+1)) k=none:=by
  intro n k;simp only[atL,List.getElem?_cons_succ];cases hd:ds[n]? with
  |none=>cases k<;>simp[ownAt,own1]
  |some d=>
   obtain⟨y,hy,hr⟩:=hall.get hd;rw[hy];exact ownAt_of1 hr (htm n d y hd hy) k
 have head:∀k b,blk (atL .any (x::ds)) (atL undef (v::us)) h w μ (.tmp 0 k)=some b→∃m,blk t u h w μ (.tmp m k)=some b∧∀v k,ownAt (t' m) v k=none:=λk b hb=>hown k b hb;refine⟨hi.agree,λb hb=>?_,λn=>?_,hi.len,hi.rows,hi.nod,λb hb ho=>?_,λp q b hp hq=>?_,λp b hp=>?_⟩
 ·rcases hb with hb|⟨n,k,hb⟩
  ·exact hi.olt b hb
  ·exact hi.blk_lt (p:= .tmp n k) (ht n k b hb)
 ·cases n with
  |zero=>exact hx
  |succ n=>
   simp only[atL,List.getElem?_cons_succ];cases hd:ds[n]? with
   |none=>simp[RepD,RepG,RepE]
   |some d=>
    obtain⟨y,hy,hr⟩:=hall.get hd;rw[hy];exact hr.toD
 ·rcases ho with ho|⟨n,k,ho⟩
  ·exact hi.mo b hb ho
  ·exact(hi.sep (.tmp n k) b (ht n k b ho)).1 hb
 ·cases p with
  |tmp n k=>
   cases n with
   |succ n=>have hp':ownAt _ _ k=some b:=hp;rw[tail n k]at hp';cases hp'
   |zero=>
    obtain⟨m,hm,_⟩:=head k b hp;cases q with
    |tmp n' k'=>
     cases n' with
     |succ n'=>have hq':ownAt _ _ k'=some b:=hq;rw[tail n' k']at hq';cases hq'
     |zero=>
      obtain⟨m',hm',_⟩:=head k' b hq;have:=hi.uniq _ _ b hm hm';cases this;rfl
    |cell r' k'=>have:=hi.uniq _ (.cell r' k') b hm hq;cases this
  |cell r k=>
   cases q with
   |tmp n' k'=>
    cases n' with
    |succ n'=>have hq':ownAt _ _ k'=some b:=hq;rw[tail n' k']at hq';cases hq'
    |zero=>
     obtain⟨m',hm',_⟩:=head k' b hq;have:=hi.uniq (.cell r k) _ b hp hm';cases this
   |cell r' k'=>exact hi.uniq (.cell r k) (.cell r' k') b hp hq
 ·cases p with
  |tmp n k=>
   cases n with
   |succ n=>have hp':ownAt _ _ k=some b:=hp;rw[tail n k]at hp';cases hp'
   |zero=>
    obtain⟨m,hm,hma⟩:=head k b hp;refine⟨(hi.sep _ b hm).1,λho=>?_⟩;rcases ho with ho|⟨n',k',ho⟩
    ·exact(hi.sep _ b hm).2 ho
    ·have:=hi.uniq _ (.tmp n' k') b hm (ht n' k' b ho);cases this;rw[hma]at ho;cases ho
  |cell r k=>
   obtain⟨h1,h2⟩:=hi.sep (.cell r k) b hp;refine⟨h1,λho=>?_⟩;rcases ho with ho|⟨n',k',ho⟩
   ·exact h2 ho
   ·have:=hi.uniq (.cell r k) (.tmp n' k') b hp (ht n' k' b ho);cases this
theorem callO_sound {o:Oper} {d:Option Nat} {f q:Opd} {args:List Opd} (hk:chkI P GL N o (.callO d f q args)=true) {K:St→Prop} {g:Gh} {w:World} {μ:List Nat} {s:St} {a:Act} {O:Nat→Prop} (hg:Gs GL N g w μ s a O)
  (h:awpI P GL (.callO d f q args) K s) {next:Act→World→Prop} {Q:Exit→Act→World→Prop}
  (hn:∀s' g' w' μ' a',K s'→Gs GL N g' w' μ' s' a' O→Chg (λb=>¬O b) g w g' w'→μ <+: μ'→a'.defers=a.defers→next a' w'):o.wpIn (WF r) 0 P a w next Q:=by
 refine⟨λ_ _=>trivial,?_⟩;simp only[chkI]at hk;split at hk
 ·rename_i f' asx ts hop;simp only[Bool.and_eq_true,beq_iff_eq]at hk;obtain⟨⟨⟨⟨hdst,hdN⟩,hkf⟩,hka⟩,hb⟩:=hk;obtain⟨fid,rets,hf,⟨hok,hsp⟩,hK⟩:=h;rw[Oper.semAt_eq _ _ _ (λc hc=>by rw[hop]at hc;cases hc)];obtain⟨cvs,hcv,hcr,_⟩:=fnOf_rep ((hg.gd P).ev hkf) hf;have hcv0:cvs=[]:=List.eq_nil_of_length_eq_zero (by have:=hcr.1;simpa using this);subst hcv0;obtain⟨x,as',has⟩:∃x as',asx.toList=x::as':=by
   cases h:asx.toList with
   |nil=>rw[h]at hka;simp[zipOK]at hka
   |cons x as'=>exact⟨x,as',rfl⟩
  rw[has]at hka;simp only[zipOK,Bool.and_eq_true]at hka;obtain⟨hkx,hka⟩:=hka;have hrx:=(hg.gd P).ev hkx;obtain⟨har,hat⟩:=argsOf_rep (hg.gd P) hka;have hclear:(find (q.clear s.e)=find s.e∧∀k b,ownAt (q.ev s.e) (a.eval x) k=some b→False)∨∃m,q= .t m true∧find (q.clear s.e)=λn=>if m=n then (find s.e m).copy else find s.e n:=by
   cases q with
   |t m mv=>cases mv with
    |false=>simp[baseOK]at hb
    |true=>exact .inr ⟨m,rfl,by simp only[Opd.clear,findF_eq];rfl⟩
   |c d=>
    refine .inl ⟨rfl,λk b hkb=>?_⟩;cases x with
    |const v=>
     rcases oe_const hkx with hkx|⟨cs,xs,rfl,rfl⟩
     case inr=>cases k<;>simp[Opd.ev,Act.eval,ownAt,own1]at hkb
     unfold constD at hkx;split at hkx<;>first|(cases k<;>simp[Opd.ev,Act.eval,ownAt,own1]at hkb;done)|(rename_i h _;cases h)|cases hkx
     all_goals (cases k<;>simp_all [Opd.ev,Act.eval,ownAt,own1])
    |tmp n=>simp[oe]at hkx
    |global n=>simp[oe]at hkx
    |func f=>cases k<;>cases d<;>first|(simp[Opd.ev,Act.eval,ownAt,own1]at hkb;done)|(simp[baseOK]at hb;done)
   |g n cs=>simp[baseOK]at hb
  have hInvC:Inv g w μ (find (q.clear s.e)) (λn=>a.tmps.getD n undef) s.h O:=by
   rcases hclear with ⟨h,_⟩|⟨m,_,h⟩
   ·rw[h];exact hg.inv
   ·rw[h];refine hg.inv.weaken _ λn=>?_;by_cases hn:m=n
    ·subst hn;exact .inr ⟨λv h=>by simpa using RepD.copy h,λv k=>by simpa using copy_tame _ v k⟩
    ·exact .inl (by simp[hn])
  have hin:=hg.inv.callO (t':=find (q.clear s.e)) (ds:=argsOf s.e args) (us:=as'.map a.eval) (x:=q.ev s.e) (v:=a.eval x) (λn k b hb=>by
    rcases hclear with ⟨h,_⟩|⟨m,_,h⟩
    ·rw[h]at hb;exact hb
    ·rw[h]at hb;by_cases hn:m=n
     ·subst hn;simp only[if_true,copy_tame]at hb;cases hb
     ·simpa[hn]using hb) hrx har hat (λk b hkb=>by
    rcases hclear with ⟨_,h⟩|⟨m,rfl,h⟩
    ·exact(h k b hkb).elim
    ·refine⟨m,?_,λv k=>by rw[h];simp[copy_tame]⟩;cases x with
     |tmp n=>
      simp only[oe,beq_iff_eq]at hkx;subst hkx;simpa[Opd.ev,Act.eval]using hkb
     |const v=>simp[oe]at hkx
     |global n=>simp[oe]at hkx
     |func f=>simp[oe]at hkx)
  have hcall:=hsp g w μ (a.eval x::as'.map a.eval) _ s.h (by simp[har.1.symm,argsOf]at *;have:=har.1;simpa[argsOf]using this) hin hg.glob;have hrun:(execOp a.eval o).run P w= .ok (.enter fid (a.eval x::as'.map a.eval).toArray) w:=by
   unfold okF at hok;split at hok
   ·rename_i fn hfn;simp only[Bool.and_eq_true,Bool.not_eq_true']at hok;have h1:¬fn.body=none:=by cases hb:fn.body<;>simp_all
    have h3:¬fn.name= "runtime.NumGoroutine" :=by simpa using hok.2
    have h2:asx.map a.eval=(a.eval x::as'.map a.eval).toArray:=by
     rw[←Array.toList_inj];simp[has]
    simp[execOp,hop,resolve,hcv,Deferred.ofValue,invoke,callFunc,hfn,h3,h1,h2]
   ·cases hok
  rw[hrun,Oper.uponIn_enter];refine⟨(λh=>by simp[WF,Fence.wide]at h),callsIn_wf ?_⟩;refine hcall.mono ?_;rintro e w' ⟨v,g',μ',rfl,hinv,hch,hμ⟩;have hgs:Gs GL N g' w' μ' ⟨q.clear s.e,s.h⟩ a O:=⟨hInvC.ret hinv.leave hch hμ,hg.glob.mono hch.le,hg.sz⟩;refine hn ⟨setO (q.clear s.e) d (retDs rets),s.h⟩ g' w' μ' _ hK ?_ (hch.mono λ_ h ho=>h (.inl ho)) hμ (put_defers _ _ _);rw[hdst];cases d with
  |none=>exact⟨hgs.inv,hgs.glob,by rw[put_size,hgs.sz]⟩
  |some d=>exact hgs.setR (by simpa using hdN) (hInvC.retV hinv hgs.inv d)
 ·cases hk
theorem copyArgs_rep {st:St} {a:Act} {h:List Row} {O:Nat→Prop} {g:Gh} {w:World} {μ:List Nat} (hg:Gd P GL g w μ st.e a h O):∀ {ps:List Operand} {qs:List Opd},zipOK (oe GL) ps qs=true→
  All2 (RepG g w μ) (qs.map λq=>(q.ev st.e).copy) (ps.map a.eval)∧Tame (qs.map λq=>(q.ev st.e).copy) (ps.map a.eval)
 |[],[],_=>⟨.nil,λi d v h=>by simp at h⟩
 |[],_::_,h=>by simp[zipOK]at h
 |_::_,[],h=>by simp[zipOK]at h
 |p::ps,q::qs,h=>by
  simp only[zipOK,Bool.and_eq_true]at h;obtain⟨h1,h2⟩:=copyArgs_rep hg h.2;refine⟨.cons (copyG (hg.ev h.1)) h1,λi d v hd hv=>?_⟩
  match i with
  |0=>
   simp only[List.map_cons,List.getElem?_cons_zero,Option.some.injEq]at hd hv;subst hd;subst hv;exact own1_copy _ _
  |i+1=>exact h2 i d v (by simpa using hd) (by simpa using hv)
theorem appP_sound {o:Oper} {d:Nat} {q y':Opd} {e sz by_:Nat} (hk:chkI P GL N o (.appP d q y' e sz by_)=true) {K:St→Prop} {g:Gh} {w:World} {μ:List Nat} {s:St} {a:Act} {O:Nat→Prop} (hg:Gs GL N g w μ s a O)
  (h:awpI P GL (.appP d q y' e sz by_) K s) {next:Act→World→Prop} {Q:Exit→Act→World→Prop}
  (hn:∀s' g' w' μ' a',K s'→Gs GL N g' w' μ' s' a' O→Chg (λb=>¬O b) g w g' w'→μ <+: μ'→a'.defers=a.defers→next a' w'):o.wpIn (WF r) 0 P a w next Q:=by
 refine⟨λ_ _=>trivial,?_⟩;simp only[chkI,Bool.and_eq_true,beq_iff_eq,decide_eq_true_eq]at hk;obtain⟨⟨hdst,hdN⟩,h4⟩:=hk;split at h4
 ·rename_i asx ts hop;simp only[Bool.and_eq_true]at h4;obtain⟨⟨⟨k1,k2⟩,k3⟩,k4⟩:=h4;obtain⟨x,y,rfl,j1⟩:=two_arr k1;obtain⟨t,t2,rfl,j3⟩:=two_arr k3;simp only[Bool.and_eq_true]at j1 j3;obtain⟨e2,he2⟩:=isK_slice j3.2;obtain⟨i,z,hi,rfl,rfl,h0,hz,hzs⟩:=elemIs_inv k4;rw[Oper.semAt_eq _ _ _ (λc hc=>by rw[hop]at hc;cases hc)];simp only[awpI]at h;split at h
  ·rename_i xs zv hx hy;obtain⟨hzl,hroom,hK⟩:=h;have hry:=toV_rep ((hg.gd P).ev j1.2) hy;obtain⟨vy,h1,h2,h3,h3'⟩:=src_list (P:=P) hg.inv.agree hry h0 (by simp[headOK,hzl]);obtain⟨v,w',g',b,hrun,hgs,hch⟩:=appP_core hg (ty:=o.type) (sliceIs_inv j3.1) he2 (by simp) hi hz hzs h0 j1.1 hx (base_mv hg j1.1 k2) h1 h3 h3' hroom hdN;have hrun2:(execOp a.eval o).run P w= .ok (.value v) w':=by simp[execOp,hop,resolve,invoke,builtin,hrun]
   rw[hrun2];refine hn _ g' w' μ _ (hK b) ?_ hch (List.prefix_refl _) (put_defers _ _ _);rw[hdst];exact hgs
  ·exact h.elim
 ·cases h4
theorem callN_sound {o:Oper} {d:Option Nat} {f:Opd} {args:List Opd} (hk:chkI P GL N o (.callN d f args)=true) {K:St→Prop} {g:Gh} {w:World} {μ:List Nat} {s:St} {a:Act} {O:Nat→Prop} (hg:Gs GL N g w μ s a O)
  (h:awpI P GL (.callN d f args) K s) {next:Act→World→Prop} {Q:Exit→Act→World→Prop}
  (hn:∀s' g' w' μ' a',K s'→Gs GL N g' w' μ' s' a' O→Chg (λb=>¬O b) g w g' w'→μ <+: μ'→a'.defers=a.defers→next a' w'):o.wpIn (WF r) 0 P a w next Q:=by
 refine⟨λ_ _=>trivial,?_⟩;obtain⟨fid,rets,h',hf,⟨hok,hsp⟩,hK⟩:=h;simp only[chkI]at hk;split at hk
 ·rename_i f' asx ts hop;simp only[Bool.and_eq_true,beq_iff_eq]at hk;obtain⟨⟨⟨hdst,hdN⟩,hkf⟩,hka⟩:=hk;rw[Oper.semAt_eq _ _ _ (λc hc=>by rw[hop]at hc;cases hc)];obtain⟨cvs,hcv,hcr,hct⟩:=fnOf_rep ((hg.gd P).ev hkf) hf;obtain rfl:cvs=[]:=by have:=hcr.1;simpa using this
  obtain⟨har,hat⟩:=copyArgs_rep (hg.gd P) hka;have hcall:=hsp g w μ _ _ hg.inv.call hg.glob har hat;have hrun:(execOp a.eval o).run P w= .ok (.enter fid (asx.toList.map a.eval).toArray) w:=by
   unfold okF at hok;split at hok
   ·rename_i fn hfn;simp only[Bool.and_eq_true,Bool.not_eq_true']at hok;have h1:¬fn.body=none:=by cases hb:fn.body<;>simp_all
    have h3:¬fn.name= "runtime.NumGoroutine" :=by simpa using hok.2
    have h2:asx.map a.eval=(asx.toList.map a.eval).toArray:=by
     rw[←Array.toList_inj];simp
    simp[execOp,hop,resolve,hcv,Deferred.ofValue,invoke,callFunc,hfn,h3,h1,h2]
   ·cases hok
  rw[hrun,Oper.uponIn_enter];refine⟨(λh=>by simp[WF,Fence.wide]at h),callsIn_wf ?_⟩;refine hcall.mono ?_;rintro e w' ⟨v,g',μ',rfl,hinv,hch,hμ⟩;have hgs:Gs GL N g' w' μ' ⟨s.e,h'⟩ a O:=⟨hg.inv.ret hinv.leave hch hμ,hg.glob.mono hch.le,hg.sz⟩;refine hn ⟨setO s.e d (retDs rets),h'⟩ g' w' μ' _ hK ?_ (hch.mono λ_ h ho=>h (.inl ho)) hμ (put_defers _ _ _);rw[hdst];cases d with
  |none=>exact⟨hgs.inv,hgs.glob,by rw[put_size,hgs.sz]⟩
  |some d=>exact hgs.setR (by simpa using hdN) (hg.inv.retV hinv hgs.inv d)
 ·cases hk
theorem unflat {g:Gh} {sz:Nat}:∀ {xs:List V} {us:List Value},(∀x∈xs,x.cells.length=sz)→All2 (RepV g) (xs.flatMap V.cells) us→(∀u∈us,u.oneCell'=true)→
  ∃vs:List Value,All2 (RepV g) xs vs∧us=vs.flatMap (λv=>v.cells.toList)∧∀v∈vs,v.cells.size=sz
 |[],us,_,h,_=>by
  have:=h.1;simp at this;subst this;exact⟨[],.nil,rfl,by simp⟩
 |x::xs,us,hx,h,h1=>by
  rw[List.flatMap_cons]at h;have hxl:=hx x (by simp);have ha:All2 (RepV g) x.cells (us.take sz):=by
   have:=h.take sz
   rwa [List.take_append_of_le_length (by omega),List.take_of_length_le (by omega)]at this
  have hb:All2 (RepV g) (xs.flatMap V.cells) (us.drop sz):=by
   have:=h.drop sz
   rwa [←hxl,List.drop_left,hxl]at this
  obtain⟨vs,h2,h3,h4⟩:=unflat (λy hy=>hx y (by simp[hy])) hb (λu hu=>h1 u (List.mem_of_mem_drop hu));have ho:∀u∈us.take sz,u.oneCell'=true:=λu hu=>h1 u (List.mem_of_mem_take hu);have hlt:(us.take sz).length=sz:=by rw[ha.1,hxl]
  obtain⟨v,hv1,hv2⟩:∃v,RepV g x v∧v.cells.toList=us.take sz:=by
   generalize us.take sz=ut at ha ho;have one:x.cells=[x]→∃v,RepV g x v∧v.cells.toList=ut:=by
    intro hc;rw[hc]at ha;obtain⟨u,rfl⟩:∃u,ut=[u]:=by
     match ut,ha.1 with
     |[u],_=>exact⟨u,rfl⟩
    exact⟨u,(All2.cons_iff.1 ha).1,by rw[cells_of_one (ho u (by simp))]⟩
   cases x with
   |agg cs=>exact⟨.agg ut.toArray,.agg' ha ho,by simp[Value.cells]⟩
   |_=>exact one rfl
  refine⟨v::vs,.cons hv1 h2,by rw[List.flatMap_cons,hv2,←h3,List.take_append_drop],λy hy=>?_⟩;rcases List.mem_cons.1 hy with rfl|hy
  ·rw[←hlt,←hv2];simp
  ·exact h4 y hy
theorem nil_list {g:Gh} {u:Value} (h:∃a:Option Addr,u= .slice a 0 0∧∀x,a=some x→x.spot=none):RepV g (.list []) u:=by
 obtain⟨a,rfl,hs⟩:=h;cases a with
 |none=>exact .lnil
 |some a=>exact .list [] a 0 0 (λ_=> .bool false) (hs a rfl) (Nat.le_refl _) (by simp) (by simp)
theorem vs_len:∀ {ds:List D} {xs:List V},D.vs? ds=some xs→xs.length=ds.length
 |[],xs,h=>by simp only[D.vs?,Option.some.injEq]at h;subst h;rfl
 |d::ds,xs,h=>by
  simp only[D.vs?]at h;split at h
  ·rename_i x xs' hx hxs;simp only[Option.some.injEq]at h;subst h;simp[vs_len hxs]
  ·cases h
theorem flatMap_len {sz:Nat}:∀ {xs:List V},(∀x∈xs,x.cells.length=sz)→(xs.flatMap V.cells).length=xs.length*sz
 |[],_=>by simp
 |x::xs,h=>by
  rw[List.flatMap_cons,List.length_append,flatMap_len λy hy=>h y (by simp[hy]),h x (by simp),List.length_cons,Nat.succ_mul];omega
theorem vs_rep {g:Gh} {w:World} {μ:List Nat}:∀ {ds:List D} {xs:List V} {us:List Value},D.vs? ds=some xs→All2 (RepE g w μ) ds us→All2 (RepV g) xs us
 |[],xs,us,h,ha=>by simp only[D.vs?,Option.some.injEq]at h;subst h;exact⟨by simpa using ha.1,λi x v h=>by simp at h⟩
 |d::ds,xs,us,h,ha=>by
  obtain⟨u,us',rfl⟩:∃u us',us=u::us':=by
   match us,ha.1 with
   |u::us',_=>exact⟨u,us',rfl⟩
  obtain⟨h1,h2⟩:=All2.cons_iff.1 ha;simp only[D.vs?]at h;split at h
  ·rename_i x xs' hx hxs;simp only[Option.some.injEq]at h;subst h;refine .cons ?_ (vs_rep hxs h2);cases d<;>simp only[D.v?,Option.some.injEq,reduceCtorEq]at hx<;>subst hx
   ·exact h1
   ·exact nil_list h1
   ·exact RepOwn.list h1.1
  ·cases h
theorem flat_vs:∀(vs:List Value),vs.flatMap (λv=>v.cells.toList)=flat vs.length λi=>vs.getD i (.bool false)
 |[]=>rfl
 |v::vs=>by
  have e2:flat (v::vs).length (λi=>(v::vs).getD i (.bool false))=v.cells.toList++flat vs.length (λi=>vs.getD i (.bool false)):=by simp[flat,List.range_succ_eq_map,List.flatMap_map]
  rw[e2,List.flatMap_cons,flat_vs vs]
theorem mem_zeroCells {z:Array Value} {n:Nat} {v:Value} (h:v∈(Builtin.zeroCells z n).toList):v∈z.toList:=by
 simp[Builtin.zeroCells]at h;obtain⟨i,hi,rfl⟩:=h;have h0:0 <z.size:=by
  rcases Nat.eq_zero_or_pos z.size with h|h
  ·rw[h]at hi;omega
  ·exact h
 have hm:=Nat.mod_lt i h0;simp[hm]
theorem frz_sound {o:Oper} {d:Nat} {q:Opd} {sz:Nat} (hk:chkI P GL N o (.frz d q sz)=true) {K:St→Prop} {g:Gh} {w:World} {μ:List Nat} {s:St} {a:Act} {O:Nat→Prop} (hg:Gs GL N g w μ s a O)
  (h:awpI P GL (.frz d q sz) K s) {next:Act→World→Prop} {Q:Exit→Act→World→Prop}
  (hn:∀s' g' w' μ' a',K s'→Gs GL N g' w' μ' s' a' O→Chg (λb=>¬O b) g w g' w'→μ <+: μ'→a'.defers=a.defers→next a' w'):o.wpIn (WF r) 0 P a w next Q:=by
 refine⟨λ_ _=>trivial,?_⟩;simp only[chkI,Bool.and_eq_true,beq_iff_eq,decide_eq_true_eq]at hk;obtain⟨⟨hdst,hdN⟩,h4⟩:=hk;obtain⟨x,hop,hx⟩:∃x,(o.op= .move x∨o.op= .assign x)∧oe GL x q=true:=by
  split at h4
  ·rename_i x hop;exact⟨x,.inl hop,h4⟩
  ·rename_i x hop;exact⟨x,.inr hop,h4⟩
  ·cases h4
 have hrun:(execOp a.eval o).run P w= .ok (.value (a.eval x)) w:=by rcases hop with hop|hop<;>simp[execOp,hop]
 rw[Oper.semAt_eq _ _ _ (λc hc=>by rcases hop with hop|hop<;>rw[hop]at hc<;>cases hc),hrun]
 have hr:=(hg.gd P).ev hx;simp only[awpI]at h;split at h
 ·rename_i e' s' hq;rw[hq]at hr;obtain⟨ad,hv,hsp⟩:=hr;refine hn _ g w μ _ h ?_ (Chg.refl _ _ _) (List.prefix_refl _) (put_defers _ _ _);rw[hdst,hv];exact hg.set hdN (nil_list ⟨ad,rfl,hsp⟩) λk=>own_v _ _ _
 ·rename_i ys hq;rw[hq]at hr;refine hn _ g w μ _ h ?_ (Chg.refl _ _ _) (List.prefix_refl _) (put_defers _ _ _);rw[hdst];exact hg.set hdN hr λk=>own_v _ _ _
 ·rename_i r n hq;rw[hq]at hr;obtain⟨b,cap,hb,hv,hnc⟩:=hr;split at h
  ·rename_i ds hrow;obtain⟨h0,xs,hxl,hxc,hvs,hK⟩:=h;obtain⟨vs,T,hheap,hall,hone,hgn⟩:=hg.inv.rows r _ b hrow hb;have hle:n*sz≤ds.length:=by
    have e1:=vs_len hvs;rw[flatMap_len hxc,hxl,List.length_take]at e1;omega
   have hcl:=vs_rep hvs (hall.take hle);obtain⟨ws,w1,w2,w3⟩:=unflat hxc hcl (λu hu=>hone u (List.mem_of_mem_take hu));have hwl:ws.length=n:=by rw[w1.1,hxl]
   let g':=g.put b 0 (vs.take (n*sz))
   have hgle:g.le g':=Gh.le_put _ λo _ _=>hgn o;have hchg:Chg (λz=>z=b) g w g' w:=⟨hgle,Nat.le_refl _,λ_ _ _=>rfl,λb' _ hb' o=>Gh.put_other hb' o,rfl,rfl⟩;have hag:∀b' o v,g'.m b' o=some v→w.cell? ⟨b',o,none⟩=some v:=by
    intro b' o v hv;by_cases hb':b'=b
    ·subst hb';rw[cell_of_row w b' o _ _ _ hheap];simp only[g',Gh.put]at hv;split at hv
     ·rename_i hc;simp only[Nat.sub_zero]at hv;have h2:=hc.2.2;rw[List.getElem?_take]at hv;split at hv
      ·simpa using hv
      ·cases hv
     ·rw[hgn]at hv;cases hv
    ·simp only[g',Gh.put_other hb']at hv;exact hg.inv.agree b' o v hv
   have hinv:=hg.inv.setAny hrow hb .dead hchg hag (lt_of_heap hheap) (λk ds d h=>by cases h);have hgs:Gs GL N g' w μ ⟨s.e,s.h.set r .dead⟩ a O:=⟨hinv,hg.glob.mono hgle,hg.sz⟩;have hsz:∀i,i <n→((λi=>ws.getD i (.bool false)) i).cells.size=sz:=λi hi=>by
    have:i <ws.length:=by omega
    simp only[List.getD,List.getElem?_eq_getElem this,Option.getD_some];exact w3 _ (List.getElem_mem this)
   refine hn _ g' w μ _ hK ?_ (hchg.mono λz (hz:z=b) ho=>hg.inv.mo b (List.mem_of_getElem? hb) (hz▸ho)) (List.prefix_refl _) (put_defers _ _ _);rw[hdst,hv];refine hgs.set hdN (x:= .v (.list xs)) ?_ λk=>own_v _ _ _;rw[←hxl];refine RepV.list xs ⟨b,0,none⟩ cap sz (λi=>ws.getD i (.bool false)) rfl (by omega) (λi x hi=>?_) (λi hi=>⟨hsz i (by omega),λj v hj=>?_⟩)
   ·obtain⟨u,hu,hru⟩:=w1.get hi;simp only[List.getD,hu,Option.getD_some];exact hru.mono hgle
   ·have hjs:j <sz:=by have:=(List.getElem?_eq_some_iff.1 hj).1;have:=hsz i (by omega);simp at *;omega
    have:=Gh.put_at g b 0 (vs.take (n*sz)) (i*sz+j) v (by
     rw[w2,flat_vs,hwl,flat_get hsz (by omega) hjs];exact hj)
    simpa using this
  ·exact h.elim
 ·exact h.elim
theorem isK_map {t:Nat} (h:isK P t (λ| .map _ _=>true|_=>false)=true):∃k e,P.underlying t=some (.map k e):=by
 unfold isK at h;split at h
 ·rename_i d hd;cases d<;>simp_all
 ·cases h
theorem tup_own {d:List V} {vs:Array Value} (k:Nat):ownAt (.tup (d.map .v)) (.tuple vs) k=none:=by
 simp only[ownAt,List.getElem?_map];cases d[k]?<;>rfl
theorem itr_sound {o:Oper} {k d:Nat} {q:Opd} (hk:chkI P GL N o (.itr k d q)=true) {K:St→Prop} {g:Gh} {w:World} {μ:List Nat} {s:St} {a:Act} {O:Nat→Prop} (hg:Gs GL N g w μ s a O)
  (h:awpI P GL (.itr k d q) K s) {next:Act→World→Prop} {Q:Exit→Act→World→Prop}
  (hn:∀s' g' w' μ' a',K s'→Gs GL N g' w' μ' s' a' O→Chg (λb=>¬O b) g w g' w'→μ <+: μ'→a'.defers=a.defers→next a' w'):o.wpIn (WF r) 0 P a w next Q:=by
 refine⟨λ_ _=>trivial,?_⟩;simp only[chkI,Bool.and_eq_true,beq_iff_eq,decide_eq_true_eq]at hk;obtain⟨⟨hdst,hdN⟩,h4⟩:=hk;split at h4
 ·rename_i t x hop;simp only[Bool.and_eq_true]at h4;have hr:=(hg.gd P).ev h4.2;rw[Oper.semAt_eq _ _ _ (λc hc=>by rw[hop]at hc;cases hc)];simp only[awpI]at h;split at h
  ·rename_i q' hq;rw[hq]at hr;obtain⟨b,hb,hv⟩:=hr;split at h
   ·rename_i es st ck hrow;obtain⟨ents,hheap,hst,hborn,hall,hgn⟩:=hg.inv.rows q' _ b hrow hb;obtain⟨kt,et,hu⟩:=isK_map h4.1;have hrun:=run_range_map (P:=P) w t kt et b ents ck hu hheap;have hrun2:(execOp a.eval o).run P w= .ok (.value (.pointer (some ⟨w.heap.size,0,none⟩))) (w.alloc (.mapIter (some b) ck #[] ck)):=by simp[execOp,hop,hv,hrun]
    rw[hrun2];have hinv:=hg.inv.newAny (itR q' ck []) (.mapIter (some b) ck #[] ck) ⟨_,heap_alloc_new w _,⟨b,by rw[List.getElem?_append_left (List.getElem?_eq_some_iff.1 hb).1];exact hb,rfl⟩,λo=>Gh.lt_of hg.inv.agree (Nat.le_refl _) o⟩ (λk ds d h=>by cases h);refine hn _ g _ (μ++[w.heap.size]) _ h ?_ (chg_alloc _ g w _) (List.prefix_append _ _) (put_defers _ _ _);rw[hdst];have hgn:Gs GL N g (w.alloc (.mapIter (some b) ck #[] ck)) (μ++[w.heap.size]) ⟨s.e,s.h++[itR q' ck []]⟩ a O:=⟨hinv,hg.glob,hg.sz⟩;exact hgn.set hdN (x:= .ref s.h.length 0) ⟨w.heap.size,by rw[←hg.inv.len];simp,rfl⟩ λk=>own_ref _ _ _ _
   ·exact h.elim
  ·rename_i hq;rw[hq]at hr;have hv:a.eval x= .map none:=by
    have hr:RepV g .nilm (a.eval x):=hr;generalize a.eval x=u at hr;cases hr;rfl
   obtain⟨kt,et,hu⟩:=isK_map h4.1;have hrun:=run_range_nilMap (P:=P) w t kt et hu;have hrun2:(execOp a.eval o).run P w= .ok (.value (.pointer (some ⟨w.heap.size,0,none⟩))) (w.alloc (.mapIter none 0 #[] 0)):=by simp[execOp,hop,hv,hrun]
   rw[hrun2];have hinv:=hg.inv.newAny itN (.mapIter none 0 #[] 0) ⟨_,heap_alloc_new w _,rfl,λo=>Gh.lt_of hg.inv.agree (Nat.le_refl _) o⟩ (λk ds d h=>by cases h);refine hn _ g _ (μ++[w.heap.size]) _ h ?_ (chg_alloc _ g w _) (List.prefix_append _ _) (put_defers _ _ _);rw[hdst];have hgn:Gs GL N g (w.alloc (.mapIter none 0 #[] 0)) (μ++[w.heap.size]) ⟨s.e,s.h++[itN]⟩ a O:=⟨hinv,hg.glob,hg.sz⟩;exact hgn.set hdN (x:= .ref s.h.length 0) ⟨w.heap.size,by rw[←hg.inv.len];simp,rfl⟩ λk=>own_ref _ _ _ _
  ·exact h.elim
 ·rename_i x hop;have hr:=(hg.gd P).ev h4;rw[Oper.semAt_eq _ _ _ (λc hc=>by rw[hop]at hc;cases hc)];simp only[awpI]at h;rcases h with ⟨r0,hx,hrr,hK⟩|⟨r0,q0,c,seen,es,st,hx,hrr,hqq,hfin,hstep⟩
  ·rw[hx]at hr;obtain⟨b,hb,hv⟩:=hr;obtain⟨o',hheap,rfl,hgn⟩:=hg.inv.rows r0 _ b hrr hb;have hrun:(Instr.next (.pointer (some ⟨b,0,none⟩)) false o.type).run P w= .ok (.tuple #[.bool false]) w:=by
    simp only[Instr.next,getObj,Sem.run_bind,Sem.run,hheap,Result.andThen];rfl
   have hrun2:(execOp a.eval o).run P w= .ok (.value (.tuple #[.bool false])) w:=by simp[execOp,hop,hv,hrun]
   rw[hrun2];refine hn _ g w μ _ hK ?_ (Chg.refl _ _ _) (List.prefix_refl _) (put_defers _ _ _);rw[hdst];exact hg.set hdN (x:= .tup [.v (.bool false)]) (v:= .tuple #[.bool false]) ⟨[.bool false],rfl,.cons (RepV.bool false) .nil⟩ λk=>tup_own (d:=[.bool false]) k
  rw[hx]at hr;obtain⟨b,hb,hv⟩:=hr;obtain⟨o',hheap,⟨bm,hbm,rfl⟩,hgn⟩:=hg.inv.rows r0 _ b hrr hb;obtain⟨ents,hmb,hst,hborn,hall,hgn2⟩:=hg.inv.rows q0 _ bm hqq hbm;rcases run_next_at (P:=P) w o.type b bm c c seen.toArray ents c hheap hmb hst.1 (Nat.le_refl _)with ⟨h0,hrun⟩|⟨e,he,w1,hw1,hrun⟩
  ·have hrun2:(execOp a.eval o).run P w= .ok (.value (.tuple #[.bool false])) w:=by simp[execOp,hop,hv,hrun]
   rw[hrun2];refine hn _ g w μ _ (hfin λy hy=>?_) ?_ (Chg.refl _ _ _) (List.prefix_refl _) (put_defers _ _ _)
   ·rw[←hborn]at hy;obtain⟨e,he,rfl⟩:=List.mem_map.1 hy;refine Classical.byContradiction λhns=>?_;have hm:e∈(leftOf ents seen.toArray).toList:=by simp[leftOf,hns];simpa using he
    have:0 <(leftOf ents seen.toArray).size:=by
     rw[←Array.length_toList];exact List.length_pos_of_mem hm
    omega
   ·rw[hdst];exact hg.set hdN (x:= .tup [.v (.bool false)]) (v:= .tuple #[.bool false]) ⟨[.bool false],rfl,.cons (RepV.bool false) .nil⟩ λk=>tup_own (d:=[.bool false]) k
  ·have hrun2:(execOp a.eval o).run P w= .ok (.value (.tuple #[.bool true,e.key,e.val])) (ChangeMaps.setBlock w1 b (.mapIter (some bm) c (seen.toArray.push e.born) c)):=by simp[execOp,hop,hv,hrun]
   rw[hrun2];have he2:e∈ents.toList∧e.born∉seen:=by simpa[leftOf]using he
   obtain⟨i,hi⟩:=List.mem_iff_getElem?.1 he2.1;have hil:i <ents.toList.length:=(List.getElem?_eq_some_iff.1 hi).1;have hsi:st[i]?=some e.born:=by rw[←hborn,List.getElem?_map,hi];rfl
   obtain⟨kv,hkv⟩:∃kv,es[i]?=some kv:=⟨_,List.getElem?_eq_getElem (by rw[←hall.1];exact hil)⟩;have hrep:=hall.2 i kv e hkv hi;have hw:Inv g w1 μ (find s.e) (λn=>a.tmps.getD n undef) s.h O∧w1.heap[b]?=some (.mapIter (some bm) c seen.toArray c)∧Chg (λb=>¬O b) g w g w1:=by
    rcases hw1 with rfl|rfl
    ·exact⟨hg.inv,hheap,Chg.refl _ _ _⟩
    ·exact⟨hg.inv.chg ⟨Gh.le.refl g,Nat.le_refl _,λ_ _ _=>rfl,λ_ _ _ _=>rfl,rfl,rfl⟩ hg.inv.agree,hheap,⟨Gh.le.refl g,Nat.le_refl _,λ_ _ _=>rfl,λ_ _ _ _=>rfl,rfl,rfl⟩⟩
   obtain⟨hinv1,hheap1,hch1⟩:=hw;have hp:=heap_put (o':= .mapIter (some bm) c (seen.toArray.push e.born) c) hheap1 g hgn hinv1.agree;have hinv:=hinv1.setAny hrr hb (itR q0 c (seen++[e.born])) hp.2.1 hp.2.2 ⟨_,hp.1,⟨bm,hbm,by simp⟩,hgn⟩ (λk ds d h=>by cases h);refine hn _ g (ChangeMaps.setBlock w1 b (.mapIter (some bm) c (seen.toArray.push e.born) c)) μ _ (hstep i e.born kv hsi hkv he2.2) ?_ (hch1.trans (hp.2.1.mono λz (hz:z=b) ho=>hg.inv.mo b (List.mem_of_getElem? hb) (hz▸ho))) (List.prefix_refl _) (put_defers _ _ _);rw[hdst];have hgs:Gs GL N g (ChangeMaps.setBlock w1 b (.mapIter (some bm) c (seen.toArray.push e.born) c)) μ ⟨s.e,s.h.set r0 (itR q0 c (seen++[e.born]))⟩ a O:=⟨hinv,hg.glob,hg.sz⟩;exact hgs.set hdN (x:= .tup [.v (.bool true),.v kv.1,.v kv.2]) (v:= .tuple #[.bool true,e.key,e.val]) ⟨[.bool true,e.key,e.val],rfl,.cons (RepV.bool true) (.cons hrep.1 (.cons hrep.2 .nil))⟩ λk=>tup_own (d:=[.bool true,kv.1,kv.2]) k
 ·rename_i x hop;have hr:=(hg.gd P).ev h4;rw[Oper.semAt_eq _ _ _ (λc hc=>by rw[hop]at hc;cases hc)];simp only[awpI]at h;obtain⟨r0,q0,c,seen,es,st,i,y,kv,hx,hrr,hqq,hy,hkv,hK⟩:=h;rw[hx]at hr;obtain⟨b,hb,hv⟩:=hr;obtain⟨o',hheap,⟨bm,hbm,rfl⟩,hgn⟩:=hg.inv.rows r0 _ b hrr hb;obtain⟨ents,hmb,hst,hborn,hall,hgn2⟩:=hg.inv.rows q0 _ bm hqq hbm;rw[←hborn,List.getElem?_map,Option.map_eq_some_iff]at hy;obtain⟨e,he,rfl⟩:=hy;have hrep:=hall.2 i kv e hkv he;have hrun:=run_entry_at (P:=P) w b bm c seen.toArray ents c e (by rw[hheap];simp) hmb (List.mem_of_getElem? he) hst.2.1;have hrun2:(execOp a.eval o).run P w= .ok (.value (.tuple #[e.key,e.val])) w:=by simp[execOp,hop,hv,hrun]
  rw[hrun2];refine hn _ g w μ _ hK ?_ (Chg.refl _ _ _) (List.prefix_refl _) (put_defers _ _ _);rw[hdst];exact hg.set hdN (x:= .tup [.v kv.1,.v kv.2]) (v:= .tuple #[e.key,e.val]) ⟨[e.key,e.val],rfl,.cons hrep.1 (.cons hrep.2 .nil)⟩ λk=>tup_own (d:=[kv.1,kv.2]) k
 ·cases h4
theorem appR_sound0 {o:Oper} {d:Nat} {q y':Opd} {e sz by_:Nat} (hk:chkI P GL N o (.appR d q y' e sz by_)=true) {K:St→Prop} {g:Gh} {w:World} {μ:List Nat} {s:St} {a:Act} {O:Nat→Prop} (hg:Gs GL N g w μ s a O)
  (h:awpI P GL (.appR d q y' e sz by_) K s) (hno:∀e' s',q.ev s.e= .own e' s' []∨(q.moved=true∧q.ev s.e= .nil e' s')→¬awpI P GL (.app d q y' e sz by_) K s) {next:Act→World→Prop} {Q:Exit→Act→World→Prop}
  (hn:∀s' g' w' μ' a',K s'→Gs GL N g' w' μ' s' a' O→Chg (λb=>¬O b) g w g' w'→μ <+: μ'→a'.defers=a.defers→next a' w'):o.wpIn (WF r) 0 P a w next Q:=by
 refine⟨λ_ _=>trivial,?_⟩;simp only[chkI,Bool.and_eq_true,beq_iff_eq,decide_eq_true_eq]at hk;obtain⟨⟨hdst,hdN⟩,h4⟩:=hk;split at h4
 ·rename_i asx ts hop;simp only[Bool.and_eq_true]at h4;obtain⟨⟨⟨k1,k3⟩,k4⟩,k5⟩:=h4;obtain⟨x,y,rfl,j1⟩:=two_arr k1;obtain⟨t,t2,rfl,j3⟩:=two_arr k3;simp only[Bool.and_eq_true]at j1 j3;obtain⟨e2,he2⟩:=isK_slice j3.2;obtain⟨i,z,hi,rfl,rfl,h0,hz,hzs⟩:=elemIs_inv k4;have hz1:∀v∈z.cells.toList,v.oneCell'=true:=by
   rw[hi]at k5;simp only[Option.bind_some,hz,Option.any_some]at k5;exact List.all_eq_true.1 k5
  have ht:=sliceIs_inv j3.1;rw[Oper.semAt_eq _ _ _ (λc hc=>by rw[hop]at hc;cases hc)];by_cases hv:∃xs,q.ev s.e= .v (.list xs)∧(y'.ev s.e).toV=some (.list [])
  ·obtain⟨xs,hq,hy⟩:=hv;have hrq:=(hg.gd P).ev j1.1;rw[hq]at hrq;have hrv:RepV g (.list xs) (a.eval x):=hrq;obtain⟨base,len,cap,hev,hcap⟩:∃base len cap,a.eval x= .slice base len cap∧len≤cap:=by
    generalize a.eval x=u at hrv;cases hrv with
    |lnil=>exact⟨_,_,_,rfl,Nat.le_refl _⟩
    |list _ ad cap s vs hs hc hr hz=>exact⟨_,_,_,rfl,hc⟩
   have hry:=toV_rep ((hg.gd P).ev j1.2) hy;obtain⟨vy,h1,_⟩:=src_list (P:=P) hg.inv.agree hry h0 (by simp[headOK]);have hrun:=run_app_same (ty:=o.type) ht he2 (by simp) hi h1 rfl base len cap hcap;have:(execOp a.eval o).run P w= .ok (.value (.slice base len cap)) w:=by simp[execOp,hop,resolve,invoke,builtin,hev,hrun]
   rw[this];simp only[awpI,hq,hy]at h;refine hn _ g w μ _ h ?_ (Chg.refl _ _ _) (List.prefix_refl _) (put_defers _ _ _);rw[hdst];exact hg.set hdN (x:= .v (.list xs)) (hev▸hrv) λk=>own_v _ _ _
  simp only[awpI]at h;obtain⟨base,ys,hev,hsp,hy,hh,hroom,h⟩:∃(base:Option Addr) (ys:List V),a.eval x= .slice base 0 0∧(∀x,base=some x→x.spot=none)∧(y'.ev s.e).toV=some (.list ys)∧headOK i.size ys=true∧roomy ys.length i.bytes=true∧
    if ys.isEmpty=true then K ⟨(d,.nil e i.size)::s.e,s.h⟩ else K ⟨(d,.sref s.h.length ys.length)::s.e,s.h++[.cells ((ys.flatMap V.cells).map .v)]⟩:=by
   have hrq:=(hg.gd P).ev j1.1;split at h
   ·rename_i e' s' ys hq hy;rw[hq]at hrq;obtain⟨base,hev,hsp⟩:=hrq;obtain⟨hh,hroom,h⟩:=h;refine⟨base,ys,hev,hsp,hy,hh,hroom,h.resolve_left λ⟨hm,hK⟩=>hno e' s' (.inr ⟨hm,hq⟩) ?_⟩;simp[awpI,AI.step,hq,ownOf,hy,hh,hroom];exact hK
   ·rename_i e' s' ys hq hy;rw[hq]at hrq;obtain⟨hh,hroom,h⟩:=h;obtain⟨⟨base,hev,_,hsp⟩|⟨b,cap,cur,vs,hev,hcap,_⟩,hne⟩:=hrq
    ·refine⟨base,ys,hev,hsp,hy,hh,hroom,(h.resolve_left λ⟨he,hs,hK⟩=>hno e' s' (.inl hq) ?_).2⟩;subst he hs;simp[awpI,AI.step,hq,ownOf,hy,hh,hroom];exact hK
    ·have h:=h.resolve_left λ⟨he,hs,hK⟩=>hno e' s' (.inl hq) (by
      subst he hs;simp[awpI,AI.step,hq,ownOf,hy,hh,hroom];exact hK)
     obtain⟨a',ha'⟩:=hne rfl h.1;rw[hev]at ha';simp at ha';omega
   ·rename_i xs hq hy;exact absurd ⟨xs,hq,hy⟩ hv
   ·exact h.elim
  have hry:=toV_rep ((hg.gd P).ev j1.2) hy;obtain⟨vy,h1,h2,h3,h3'⟩:=src_list (P:=P) hg.inv.agree hry h0 hh;by_cases hy0:ys=[]
  ·subst hy0;simp only[List.isEmpty_nil,if_true]at h;have hrun:=run_app_same (ty:=o.type) ht he2 (by simp) hi h1 rfl base 0 0 (Nat.le_refl _);have:(execOp a.eval o).run P w= .ok (.value (.slice base 0 0)) w:=by simp[execOp,hop,resolve,invoke,builtin,hev,hrun]
   rw[this];refine hn _ g w μ _ h ?_ (Chg.refl _ _ _) (List.prefix_refl _) (put_defers _ _ _);rw[hdst];exact hg.set hdN (x:= .nil e i.size) ⟨base,rfl,hsp⟩ λk=>by cases k<;>cases base<;>simp[ownAt,own1]
  ·have hpos:0 <ys.length:=List.length_pos_iff.2 hy0;rw[if_neg (by simpa using hy0)]at h;obtain⟨hf63,hfit⟩:=grown_fits hroom hpos;have hrun:=run_app_grow (ty:=o.type) (base:=base) (len:=0) (cap:=0) (olds:=[]) ht he2 (by simp) hi hz h1 (λw' _=>by cases base<;>simp[Builtin.firstCells,loadCells,loadCellsFrom]) (by omega) (by simpa using hf63) (by simpa using hfit)
   simp only[Nat.zero_add]at hrun;have hge:=grownCap_ge w ys.length 0 e
   let zs:=Builtin.zeroCells z.cells (grownCap w ys.length 0 e-ys.length)
   let ob:Obj:= .cells ((#[]:Array Value)++(flat ys.length vy).toArray++zs) e
   have hzsm:∀v∈zs.toList,v.oneCell'=true:=by
    intro v hv;exact hz1 v (mem_zeroCells hv)
   have hdr:Inv g w.drew μ (find s.e) (λn=>a.tmps.getD n undef) s.h O:=hg.inv.chg ⟨Gh.le.refl g,Nat.le_refl _,λ_ _ _=>rfl,λ_ _ _ _=>rfl,rfl,rfl⟩ hg.inv.agree;have hnone:∀o,g.m w.heap.size o=none:=λo=>Gh.lt_of hg.inv.agree (Nat.le_refl _) o;have hob:(w.drew.alloc ob).heap[w.heap.size]?=some (.cells ((flat ys.length vy++zs.toList).toArray) e (0,0)):=by
    have:=heap_alloc_new w.drew ob;have e1:(#[]:Array Value)++(flat ys.length vy).toArray++zs=(flat ys.length vy++zs.toList).toArray:=by rw[←Array.toList_inj];simp
    rw[←e1];exact this
   have hfl:All2 (RepV g) (ys.flatMap V.cells) (flat ys.length vy):=by
    have:∀(ys:List V) (vy:Nat→Value),(∀(j:Nat) y,ys[j]?=some y→RepV g y (vy j))→All2 (RepV g) (ys.flatMap V.cells) (flat ys.length vy):=by
     intro ys;induction ys with
     |nil=>intro vy _;exact .nil
     |cons y ys ih=>
      intro vy hvy;have e2:flat (y::ys).length vy=(vy 0).cells.toList++flat ys.length (λj=>vy (j+1)):=by simp[flat,List.range_succ_eq_map,List.flatMap_map]
      rw[e2,List.flatMap_cons];exact(hvy 0 y rfl).cells.1.append (ih _ λj x hx=>hvy (j+1) x (by simpa using hx))
    exact this ys vy h2
   have hcl:AllP (RepE g (w.drew.alloc ob) (μ++[w.heap.size])) ((ys.flatMap V.cells).map .v) (flat ys.length vy++zs.toList):=
    (All2.map_left (f:=D.v) (R:=RepV g) (λx y h=>h) hfl).pre
   have hone:∀v∈flat ys.length vy++zs.toList,v.oneCell'=true:=by
    intro v hv;rcases List.mem_append.1 hv with hv|hv
    ·obtain⟨j,hj,hm⟩:=flat_mem hv;exact h3' j hj v hm
    ·exact hzsm v hv
   have hrow:RowOK g (w.drew.alloc ob) (μ++[w.drew.heap.size]) w.drew.heap.size (.cells ((ys.flatMap V.cells).map .v)):=⟨_,e,hob,hcl,hone,hnone⟩;have hinv:=hdr.newAny (.cells ((ys.flatMap V.cells).map .v)) ob hrow (λk ds d hd hk=>by
    simp only[Row.cells.injEq]at hd;subst hd;have hm:=List.mem_of_getElem? hk;obtain⟨y,_,rfl⟩:=List.mem_map.1 hm;simp[own1])
   have hrun2:(execOp a.eval o).run P w= .ok (.value (.slice (some ⟨w.heap.size,0,none⟩) ys.length (grownCap w ys.length 0 e))) (w.drew.alloc ob):=by
    simp[execOp,hop,resolve,invoke,builtin,hev,hrun,ob,zs]
   rw[hrun2];have hdw:Chg (λb=>¬O b) g w g w.drew:=⟨Gh.le.refl g,Nat.le_refl _,λ_ _ _=>rfl,λ_ _ _ _=>rfl,rfl,rfl⟩;have hch:Chg (λb=>¬O b) g w g (w.drew.alloc ob):=hdw.trans (chg_alloc (λb=>¬O b) g w.drew ob);refine hn _ g (w.drew.alloc ob) (μ++[w.heap.size]) _ h ?_ hch (List.prefix_append _ _) (put_defers _ _ _);rw[hdst];have hgn:Gs GL N g (w.drew.alloc ob) (μ++[w.heap.size]) ⟨s.e,s.h++[.cells ((ys.flatMap V.cells).map .v)]⟩ a O:=⟨hinv,hg.glob,hg.sz⟩;exact hgn.set hdN (x:= .sref s.h.length ys.length) ⟨w.heap.size,_,by rw[←hg.inv.len];simp,rfl,hge⟩ λk=>by cases k<;>simp[ownAt,own1]
 ·cases h4
theorem base_own {q:Opd} {en:Env} {e s:Nat} (h:q.ev en= .own e s []):baseOK q=true:=by
 cases q with
 |t n mv=>
  cases mv with
  |true=>rfl
  |false=>simp only[Opd.ev,findF_eq]at h;cases hf:find en n<;>rw[hf]at h<;>cases h
 |c d=>simp only[Opd.ev]at h;subst h;rfl
 |g n cs=>cases h
theorem appR_sound {o:Oper} {d:Nat} {q y':Opd} {e sz by_:Nat} (hk:chkI P GL N o (.appR d q y' e sz by_)=true) {K:St→Prop} {g:Gh} {w:World} {μ:List Nat} {s:St} {a:Act} {O:Nat→Prop} (hg:Gs GL N g w μ s a O)
  (h:awpI P GL (.appR d q y' e sz by_) K s) {next:Act→World→Prop} {Q:Exit→Act→World→Prop}
  (hn:∀s' g' w' μ' a',K s'→Gs GL N g' w' μ' s' a' O→Chg (λb=>¬O b) g w g' w'→μ <+: μ'→a'.defers=a.defers→next a' w'):o.wpIn (WF r) 0 P a w next Q:=by
 by_cases hyes:∃e' s',(q.ev s.e= .own e' s' []∨(q.moved=true∧q.ev s.e= .nil e' s'))∧awpI P GL (.app d q y' e sz by_) K s
 ·obtain⟨e',s',hq,hy⟩:=hyes;refine awpI_sound0 (ai:= .app d q y' e sz by_) (λ_ _ _=>⟨(λh=>by cases h),(λh=>by cases h)⟩) (λ_ _ _ _ h=>by cases h) (λ_ _ _ _ _ _=>⟨(λh=>by cases h),(λh=>by cases h)⟩) (λ_ _ _ h=>by cases h) (λ_ _ _ _ _ _=>⟨(λh=>by cases h),(λh=>by cases h)⟩) ?_ hg hy hn;have hb:baseOK q=true:=by
   rcases hq with hq|⟨hm,_⟩
   ·exact base_own hq
   ·cases q with
    |t n mv=>cases mv with
     |true=>rfl
     |false=>cases hm
    |c d=>cases hm
    |g n cs=>cases hm
  simp only[chkI]at hk ⊢;split at hk
  ·simp only[Bool.and_eq_true]at hk ⊢;exact⟨hk.1,⟨⟨⟨hk.2.1.1.1,hb⟩,hk.2.1.1.2⟩,hk.2.1.2⟩⟩
  ·simp at hk
 ·exact appR_sound0 hk hg h (λe' s' hq hy=>hyes ⟨e',s',hq,hy⟩) hn
theorem awpI_sound {o:Oper} {ai:AI} (hk:chkI P GL N o ai=true) {K:St→Prop} {g:Gh} {w:World} {μ:List Nat} {s:St} {a:Act} {O:Nat→Prop} (hg:Gs GL N g w μ s a O)
  (h:awpI P GL ai K s) {next:Act→World→Prop} {Q:Exit→Act→World→Prop}
  (hn:∀s' g' w' μ' a',K s'→Gs GL N g' w' μ' s' a' O→Chg (λb=>¬O b) g w g' w'→μ <+: μ'→a'.defers=a.defers→next a' w'):o.wpIn (WF r) 0 P a w next Q:=by
 by_cases hc4:∃d f q args,ai= .callO d f q args
 ·obtain⟨d,f,q,args,rfl⟩:=hc4;exact callO_sound hk hg h hn
 have hc4:∀d f q args,ai≠ .callO d f q args:=λd f q args h=>hc4 ⟨d,f,q,args,h⟩;by_cases hc5:∃d x y e s b,ai= .appR d x y e s b
 ·obtain⟨d,x,y,e,s,b,rfl⟩:=hc5;exact appR_sound hk hg h hn
 by_cases hc6:∃d x s,ai= .frz d x s
 ·obtain⟨d,x,s,rfl⟩:=hc6;exact frz_sound hk hg h hn
 have hc5:∀d x y e s b,ai≠ .appR d x y e s b∧ai≠ .frz d x s:=λd x y e s b=>⟨λh=>hc5 ⟨d,x,y,e,s,b,h⟩,λh=>hc6 ⟨d,x,s,h⟩⟩;by_cases hc7:∃d f args,ai= .callN d f args
 ·obtain⟨d,f,args,rfl⟩:=hc7;exact callN_sound hk hg h hn
 have hc7:∀d f args,ai≠ .callN d f args:=λd f args h=>hc7 ⟨d,f,args,h⟩;by_cases hc8:∃d x y e s b,ai= .appP d x y e s b
 ·obtain⟨d,x,y,e,s,b,rfl⟩:=hc8;exact appP_sound hk hg h hn
 by_cases hc9:∃k d x,ai= .itr k d x
 ·obtain⟨k,d,x,rfl⟩:=hc9;exact itr_sound hk hg h hn
 have hc8:∀d x y e s b,ai≠ .appP d x y e s b∧ai≠ .itr e d x:=λd x y e s b=>⟨λh=>hc8 ⟨d,x,y,e,s,b,h⟩,λh=>hc9 ⟨e,d,x,h⟩⟩;by_cases hc:∃d f args,ai= .callF d f args
 ·obtain⟨d,f,args,rfl⟩:=hc;exact awpI_sound0 (ai:= .call d f args) (λ_ _ _=>⟨(λh=>by cases h),(λh=>by cases h)⟩) (λ_ _ _ _ h=>by cases h) (λ_ _ _ _ _ _=>⟨(λh=>by cases h),(λh=>by cases h)⟩) (λ_ _ _ h=>by cases h) (λ_ _ _ _ _ _=>⟨(λh=>by cases h),(λh=>by cases h)⟩) hk hg h hn
 ·by_cases hc2:∃d f args,ai= .callC d f args
  ·obtain⟨d,f,args,rfl⟩:=hc2;exact awpI_sound0 (ai:= .call d f args) (λ_ _ _=>⟨(λh=>by cases h),(λh=>by cases h)⟩) (λ_ _ _ _ h=>by cases h) (λ_ _ _ _ _ _=>⟨(λh=>by cases h),(λh=>by cases h)⟩) (λ_ _ _ h=>by cases h) (λ_ _ _ _ _ _=>⟨(λh=>by cases h),(λh=>by cases h)⟩) hk hg h hn
  ·exact awpI_sound0 (λd f args=>⟨λh=>hc ⟨d,f,args,h⟩,λh=>hc2 ⟨d,f,args,h⟩⟩) hc4 hc5 hc7 hc8 hk hg h hn
theorem awpG_sound {ops:Array Oper} {i:Nat} {x:GI} (hk1:chkG P GL N ops i x=true) {K:St→Prop} {g:Gh} {w:World} {μ:List Nat} {s:St} {a:Act} {O:Nat→Prop} (hg:Gs GL N g w μ s a O)
  (h:awpG P GL x K s) {next:Act→World→Prop} {Q:Exit→Act→World→Prop}
  (hn:∀s' g' w' μ' a',K s'→Gs GL N g' w' μ' s' a' O→Chg (λb=>¬O b) g w g' w'→μ <+: μ'→a'.defers=a.defers→next a' w'):wpOpIn (WF r) 0 P ops Q i next a w:=by
 unfold chkG at hk1;split at hk1
 ·cases hk1
 ·rename_i o ho;simp only[Bool.and_eq_true]at hk1;obtain⟨hgd,hki⟩:=hk1;simp only[wpOpIn,ho];have go:awpI P GL x.i K s→o.wpIn (WF r) 0 P a w next Q:=λh=>awpI_sound hki hg h hn;cases hog:o.guard with
  |none=>
   cases hxg:x.g with
   |none=>
    simp only[awpG,hxg]at h;rw[if_pos (by simp[Region.wanted,hog])];exact go h
   |some p=>simp[hog,hxg]at hgd
  |some p=>
   obtain⟨j,want⟩:=p;cases hxg:x.g with
   |none=>simp[hog,hxg]at hgd
   |some p'=>
    obtain⟨t,want'⟩:=p';simp only[hog,hxg,Bool.and_eq_true,beq_iff_eq]at hgd;obtain⟨⟨hj,rfl⟩,hdst⟩:=hgd;simp only[awpG,hxg]at h;have hrt:=hg.inv.rep t;have skip:K ⟨setO s.e x.i.dst (.tup []),s.h⟩→next (a.put o.dst undef) w:=λh2=>by
     refine hn _ g w μ _ h2 ?_ (Chg.refl _ _ _) (List.prefix_refl _) (put_defers _ _ _);rw[←hdst];cases hd:x.i.dst with
     |none=>exact⟨hg.inv,hg.glob,by rw[put_size,hg.sz]⟩
     |some d=>
      have hdN:d <N:=by
       have:∀(ai:AI),chkI P GL N o ai=true→ai.dst=some d→d <N:=by
        intro ai hk hd;cases ai<;>simp only[AI.dst,Option.some.injEq,reduceCtorEq]at hd<;>(try subst hd)<;>simp only[chkI,Bool.and_eq_true,decide_eq_true_eq]at hk
        all_goals first
         |exact hk.1.2
         |exact hk.1.1.2
         |(cases hk;done)
         |(split at hk
           ·simp only[Bool.and_eq_true,beq_iff_eq,decide_eq_true_eq]at hk;first|exact hk.1.1.2|exact hk.1.1.1.2
           ·cases hk)
       exact this x.i hki hd
      exact hg.set hdN (x:= .tup []) (v:=undef) ⟨[],rfl,.nil⟩ λk=>by simp[ownAt,undef,own1]
    split at h
    ·rename_i b hb;rw[hb]at hrt;have hv:=rep_bool hrt;have hy:yielded ops a.tmps j=some b:=by
      have h2:a.tmps[t]?=some (.bool b):=by
       cases hq:a.tmps[t]? with
       |none=>simp[hq,undef]at hv
       |some u=>simpa[hq]using hv
      simp[yielded,hj,h2]
     by_cases hbw:b=want
     ·subst hbw;simp only[if_true]at h;rw[if_pos (by simp[Region.wanted,hog,hy])];exact go h
     ·simp only[hbw,if_false]at h;rw[if_neg (by simp[Region.wanted,hog,hy,hbw])];exact⟨λ_ _=>trivial,skip h⟩
    ·rename_i hb;rw[hb]at hrt;obtain⟨us,hv,hall⟩:=hrt;have hu:us=[]:=List.eq_nil_of_length_eq_zero hall.1;subst hu;have hy:yielded ops a.tmps j=none:=by
      have h2:∀b,a.tmps[t]?≠some (.bool b):=by
       intro b hb';simp[hb']at hv
      unfold yielded;rw[hj];show (match a.tmps[t]? with|some (.bool b)=>some b|_=>none)=none
      split
      ·rename_i b hb';exact absurd hb' (h2 b)
      ·rfl
     rw[if_neg (by simp[Region.wanted,hog,hy])];exact⟨λ_ _=>trivial,skip h⟩
    ·exact h.elim
theorem awpOps_sound {ops:Array Oper} {Q:Exit→Act→World→Prop}:∀(l:List Nat) (is:List GI) {K:St→Prop} {g:Gh} {w:World} {μ:List Nat} {s:St} {a:Act} {O:Nat→Prop},
  zipOK (chkG P GL N ops) l is=true→Gs GL N g w μ s a O→awpOps P GL is K s→(∀a' w',After GL N K g w μ a O a' w'→Q .normal a' w')→wpOpsIn (WF r) 0 P ops Q l a w
 |[],[],K,g,w,μ,s,a,O,_,hg,h,hq=>by
  simp only[wpOpsIn];exact hq a w ⟨s,g,μ,h,hg,Chg.refl _ _ _,List.prefix_refl _,rfl⟩
 |[],_::_,_,_,_,_,_,_,_,hk,_,_,_=>by simp[zipOK]at hk
 |_::_,[],_,_,_,_,_,_,_,hk,_,_,_=>by simp[zipOK]at hk
 |i::l,x::is,K,g,w,μ,s,a,O,hk,hg,h,hq=>by
  simp only[zipOK,Bool.and_eq_true]at hk;rw[wpOpsIn_cons];exact awpG_sound hk.1 hg h λs' g' w' μ' a' hK hgs hch hμ hd=>awpOps_sound l is hk.2 hgs hK λa2 w2 h2=>hq a2 w2 (h2.trans hch hμ hd)
theorem retDs_map (rets:List V):retDs (rets.map .v)=retD rets:=by
 match rets with
 |[]=>rfl
 |[x]=>rfl
 |x::y::r=>rfl
theorem PSp.fsp {f:Nat} {args rets:List V} (hp:PSp P GL f args rets) (h:List Row):FSp P GL f (args.map .v) h (rets.map .v) h:=by
 refine⟨hp.1,λg w μ us O hinv hgl hall _=>(hp.2 g w us hinv.agree hgl ⟨by simpa using hall.1,λi x v hx hv=>hall.2 i (.v x) v (by simp[hx]) hv⟩).mono ?_⟩;rintro e w' ⟨v,g',rfl,hrep,hch,hag⟩;obtain⟨h1,h2⟩:=retD_rep (μ:=μ) hrep;rw[retDs_map];exact⟨v,g',μ,rfl,(hinv.chg hch hag).set (d:=0) h1 h2,hch.mono λ_ h=>h.elim,List.prefix_refl _⟩
end
def Opd.rd:Opd→List Nat
 | .t n _=>[n]
 |_=>[]
def Opd.wr:Opd→List Nat
 | .t n true=>[n]
 |_=>[]
def Opd.rds:List Opd→List Nat
 |[]=>[]
 |x::xs=>x.rd++Opd.rds xs
def Opd.rdo:Option Opd→List Nat
 |some x=>x.rd
 |none=>[]
def PI.rd:PI→List Nat
 | .pick c a b=>c.rd++(a.rd++b.rd)
 | .build _ ps=>Opd.rds (ps.map (·.2.2))
 | .load a _ _=>a.rd
 | .nilc x=>x.rd
 | .bin _ x y=>x.rd++y.rd
 | .eqB _ x y=>x.rd++y.rd
 | .eqA _ _ x y=>x.rd++y.rd
 | .eqP _ x y=>x.rd++y.rd
 | .not x=>x.rd
 | .neg x=>x.rd
 | .inv x=>x.rd
 | .cint _ x=>x.rd
 | .faddr x _ _=>x.rd
 | .fld x _ _ _=>x.rd
 | .iaddr x i _=>x.rd++i.rd
 | .iaddrA x i _ _=>x.rd++i.rd
 | .iaddrP x i _=>x.rd++i.rd
 | .idxS x i=>x.rd++i.rd
 | .slc x lo hi _=>x.rd++(Opd.rdo lo++Opd.rdo hi)
 | .slcS x lo hi=>x.rd++(Opd.rdo lo++Opd.rdo hi)
 | .slc0 x _ _=>x.rd
 | .ext x _=>x.rd
 | .mkf _ caps=>Opd.rds caps
 | .mkme _ caps=>Opd.rds caps
 | .idxA x i _ _ _=>x.rd++i.rd
 | .alen x=>x.rd
 | .lenS x=>x.rd
 | .b2s x=>x.rd
 | .look m k _ _ _ _ _=>m.rd++k.rd
 | .mlen m=>m.rd
 | .minmax _ x y=>x.rd++y.rd
inductive Kd where
 |n|r|a|w|t
 deriving DecidableEq
def AI.kd:AI→Kd
 | .p _ (.load _ _ _)=> .r
 | .p _ (.look _ _ _ _ _ _ _)=> .r
 | .p _ (.mlen _)=> .r
 | .alloc _ _| .box _ _| .mkm _| .mksl _ _ _| .mksz _ _ _| .bsr _ _ _| .callC _ _ _=> .a
 | .take _ _=> .t
 | .store _ _ _| .mput _ _ _ _ _| .mdel _ _ _ _ _| .callF _ _ _| .mest _ _ _| .ment _ _ _ _ _| .cpy _ _ _ _| .clr _ _ _| .fin _ _ _ _ _=> .w
 |_=> .n
def AI.rd:AI→List Nat
 | .p _ i=>i.rd
 | .mv _ x=>x.rd
 | .alloc _ _=>[]
 | .box _ x=>x.rd
 | .store a x _=>a.rd++x.rd
 | .take _ a=>a.rd
 | .app _ x y _ _ _=>x.rd++y.rd
 | .appS _ x y _ _=>x.rd++y.rd
 | .bsl _ _ _ ps| .bsr _ _ ps=>Opd.rds ps
 | .s2b _ x=>x.rd
 | .nilS _ _ x=>x.rd
 | .mkm _=>[]
 | .mksl _ x _=>x.rd
 | .mput m k v _ _=>m.rd++(k.rd++v.rd)
 | .ment _ m k _ _=>m.rd++k.rd
 | .mest m b v=>m.rd++(b.rd++v.rd)
 | .mdel _ m k _ _=>m.rd++k.rd
 | .call _ f args=>f.rd++Opd.rds args
 | .callF _ f args=>f.rd++Opd.rds args
 | .callC _ f args=>f.rd++Opd.rds args
 | .callO _ f q args=>f.rd++(q.rd++Opd.rds args)
 | .appR _ x y _ _ _=>x.rd++y.rd
 | .frz _ x _=>x.rd
 | .mksz _ x _=>x.rd
 | .callN _ f args=>f.rd++Opd.rds args
 | .appP _ x y _ _ _=>x.rd++y.rd
 | .fin m ad pp x _=>[m]++(ad.rd++(pp.rd++x.rd))
 | .cpy _ x y _=>x.rd++y.rd
 | .clr _ x _=>x.rd
 | .itr _ _ x=>x.rd
def AI.wr:AI→List Nat
 | .p d _| .alloc d _| .box d _| .take d _| .bsl d _ _ _| .s2b d _| .nilS d _ _| .mkm d| .mksl d _ _| .bsr d _ _| .ment d _ _ _ _=>[d]
 | .mput _ _ _ _ _=>[]
 | .mest _ _ _=>[]
 | .mdel d _ _ _ _=>d.toList
 | .mv d x| .app d x _ _ _ _| .appS d x _ _ _=>d::x.wr
 | .store _ x _=>x.wr
 | .call d _ _=>d.toList
 | .callF d _ _=>d.toList
 | .callC d _ _=>d.toList
 | .callO d _ q _=>d.toList++q.wr
 | .appR d _ _ _ _ _| .frz d _ _=>[d]
 | .mksz d _ _=>[d]
 | .callN d _ _=>d.toList
 | .appP d x _ _ _ _=>d::x.wr
 | .fin m _ _ _ _=>[m]
 | .cpy d _ _ _=>d.toList
 | .clr d _ _=>d.toList
 | .itr _ d _=>[d]
def GI.rd (x:GI):List Nat:=(match x.g with|some (t,_)=>[t]|none=>[])++x.i.rd
def GI.wr (x:GI):List Nat:=x.i.dst.toList++x.i.wr
def Same (e e2:Env) (l:List Nat):Prop:=∀n∈l,find e2 n=find e n
theorem Same.left {e e2:Env} {a b:List Nat} (h:Same e e2 (a++b)):Same e e2 a:=λn hn=>h n (List.mem_append_left _ hn)
theorem Same.right {e e2:Env} {a b:List Nat} (h:Same e e2 (a++b)):Same e e2 b:=λn hn=>h n (List.mem_append_right _ hn)
theorem Same.ev {e e2:Env} {x:Opd} (h:Same e e2 x.rd):x.ev e2=x.ev e:=by
 cases x with
 |t n mv=>simp[Opd.ev,h n (by simp[Opd.rd])]
 |c d=>rfl
 |g n cs=>rfl
theorem Same.toCells {e e2:Env} {sz:Nat}:∀ {xs:List Opd},Same e e2 (Opd.rds xs)→Go.Va.toCells e2 sz xs=Go.Va.toCells e sz xs
 |[],_=>rfl
 |x::xs,h=>by simp only[Go.Va.toCells,Same.ev (Same.left h),Same.toCells (Same.right h)]
theorem Same.toVs {e e2:Env}:∀ {xs:List Opd},Same e e2 (Opd.rds xs)→Go.Va.toVs e2 xs=Go.Va.toVs e xs
 |[],_=>rfl
 |x::xs,h=>by simp only[Go.Va.toVs,Same.ev (Same.left h),Same.toVs (Same.right h)]
theorem Same.argsOf {e e2:Env}:∀ {xs:List Opd},Same e e2 (Opd.rds xs)→Go.Va.argsOf e2 xs=Go.Va.argsOf e xs
 |[],_=>rfl
 |x::xs,h=>by
  have:=Same.argsOf (Same.right h);simp only[Go.Va.argsOf]at this ⊢;simp only[List.map_cons,Same.ev (Same.left h),this]
theorem Same.caps {e e2:Env}:∀ {xs:List Opd},Same e e2 (Opd.rds xs)→capsOf e2 xs=capsOf e xs
 |[],_=>rfl
 |x::xs,h=>by simp only[capsOf,Same.ev (Same.left h),Same.caps (Same.right h)]
theorem Same.fill {e e2:Env}:∀ {ps:List (Nat×Nat×Opd)} {cs:List D},Same e e2 (Opd.rds (ps.map (·.2.2)))→fillD e2 cs ps=fillD e cs ps
 |[],_,_=>rfl
 |(o,n,x)::ps,cs,h=>by
  have h1:Same e e2 x.rd:=Same.left h;have h2:Same e e2 (Opd.rds (ps.map (·.2.2))):=Same.right h;simp only[fillD,h1.ev];split
  ·split
   ·exact Same.fill h2
   ·rfl
  ·rfl
theorem Same.opt {e e2:Env} {x:Option Opd} (h:Same e e2 (Opd.rdo x)):x.map (·.ev e2)=x.map (·.ev e):=by
 cases x with
 |none=>rfl
 |some x=>simp[Same.ev (x:=x) h]
def PI.kd:PI→Kd
 | .load _ _ _=> .r
 | .look _ _ _ _ _ _ _=> .r
 | .mlen _=> .r
 |_=> .n
def LoadEq (h h2:List Row):Prop:=h2.length=h.length∧∀r:Nat,h2[r]?=h[r]?∨∃ds es:List D,h[r]?=some (.cells ds)∧h2[r]?=some (.cells es)∧es.map D.copy=ds.map D.copy
theorem LoadEq.symm {h h2:List Row} (hq:LoadEq h h2):LoadEq h2 h:=⟨hq.1.symm,λr=>(hq.2 r).elim (λh=> .inl h.symm) λ⟨ds,es,h1,h2,h3⟩=> .inr ⟨es,ds,h2,h1,h3.symm⟩⟩
theorem LoadEq.take {h:List Row} {r off e sz:Nat} {ds:List D} {xs:List V} (hr:h[r]?=some (.cells ds)) (hd:ds[off]?=some (.own e sz xs)):LoadEq h (h.set r (.cells (ds.set off (.v (.list xs))))):=by
 refine⟨by simp,λi=>?_⟩;by_cases hi:r=i
 ·subst hi;refine .inr ⟨ds,_,hr,List.getElem?_set_self (List.getElem?_eq_some_iff.1 hr).1,?_⟩;apply List.ext_getElem?;intro j;rw[List.getElem?_map,List.getElem?_map,List.getElem?_set];by_cases hj:off=j
  ·subst hj;have:=(List.getElem?_eq_some_iff.1 hd).1;rw[if_pos rfl,if_pos this,hd];rfl
  ·rw[if_neg hj]
 ·exact .inl (List.getElem?_set_ne hi)
theorem dpart_same {ds es:List D} (h:es.map D.copy=ds.map D.copy) (off n:Nat) (ag:Bool):D.part es off n ag=D.part ds off n ag:=by
 have hl:es.length=ds.length:=by have:=congrArg List.length h;simpa using this
 unfold D.part;rw[hl];split
 ·cases ag with
  |true=>
   simp only[if_true,Option.some.injEq,D.agg.injEq];rw[List.map_take,List.map_drop,h,←List.map_drop,←List.map_take]
  |false=>
   simp only[Bool.false_eq_true,if_false];rw[←List.getElem?_map,h,List.getElem?_map]
 ·rfl
theorem PI.val_same {e:Env} {h h2:List Row} (hq:LoadEq h h2) {i:PI} {x:D} (hv:i.val e h=some x):i.val e h2=some x:=by
 have hmap:∀(r:Nat) es bs ck,h[r]?=some (.map es bs ck)→h2[r]?=some (.map es bs ck):=λr es bs ck hr=>by
  rcases hq.2 r with h|⟨ds,_,h1,_⟩
  ·rw[h];exact hr
  ·rw[h1]at hr;cases hr
 cases i<;>try exact hv
 ·rename_i a n ag;simp only[PI.val]at hv ⊢;split at hv
  ·exact hv
  ·rename_i r off ha;split at hv
   ·rename_i ds hr;rcases hq.2 r with h|⟨ds',es,h1,h2,h3⟩
    ·rw[h,hr];exact hv
    ·rw[hr]at h1;simp only[Option.some.injEq,Row.cells.injEq]at h1;subst h1;simp only[h2,dpart_same h3];exact hv
   ·cases hv
  ·cases hv
 ·rename_i m k st ks zs ag ok;simp only[PI.val]at hv ⊢;split at hv
  ·split at hv
   ·rename_i hok;rw[if_pos hok];split at hv
    ·rename_i z hz;split at hv
     ·exact hv
     ·rename_i r ha;split at hv
      ·rename_i es bs ck hr;simp only[hmap r es bs ck hr];exact hv
      ·cases hv
     ·cases hv
    ·cases hv
   ·cases hv
  ·cases hv
 ·rename_i m;simp only[PI.val]at hv ⊢;split at hv
  ·exact hv
  ·rename_i r ha;split at hv
   ·rename_i es bs ck hr;simp only[hmap r es bs ck hr];exact hv
   ·cases hv
  ·cases hv
theorem PI.val_congr {e e2:Env} {h:List Row} {i:PI} (hs:Same e e2 i.rd):i.val e2 h=i.val e h:=by
 cases i with
 |pick c a b=>simp only[PI.val,(Same.left hs).ev,(Same.left (Same.right hs)).ev,(Same.right (Same.right hs)).ev]
 |build zs ps=>simp only[PI.val,Same.fill hs]
 |load a n ag=>simp only[PI.val,Same.ev (x:=a) hs]
 |nilc x=>simp only[PI.val,Same.ev (x:=x) hs]
 |bin op x y=>simp only[PI.val,(Same.left hs).ev,(Same.right hs).ev]
 |eqB ne x y=>simp only[PI.val,(Same.left hs).ev,(Same.right hs).ev]
 |eqA ne ks x y=>simp only[PI.val,(Same.left hs).ev,(Same.right hs).ev]
 |eqP ne x y=>simp only[PI.val,(Same.left hs).ev,(Same.right hs).ev]
 |not x=>simp only[PI.val,Same.ev (x:=x) hs]
 |neg x=>simp only[PI.val,Same.ev (x:=x) hs]
 |inv x=>simp only[PI.val,Same.ev (x:=x) hs]
 |cint k x=>simp only[PI.val,Same.ev (x:=x) hs]
 |faddr x o n=>simp only[PI.val,Same.ev (x:=x) hs]
 |fld x o n ag=>simp only[PI.val,Same.ev (x:=x) hs]
 |iaddr x i s=>simp only[PI.val,(Same.left hs).ev,(Same.right hs).ev]
 |iaddrP x i s=>simp only[PI.val,(Same.left hs).ev,(Same.right hs).ev]
 |iaddrA x i l s=>simp only[PI.val,(Same.left hs).ev,(Same.right hs).ev]
 |idxS x i=>simp only[PI.val,(Same.left hs).ev,(Same.right hs).ev]
 |slc x lo hi s=>simp only[PI.val,(Same.left hs).ev,Same.opt (Same.left (Same.right hs)),Same.opt (Same.right (Same.right hs))]
 |slcS x lo hi=>simp only[PI.val,(Same.left hs).ev,Same.opt (Same.left (Same.right hs)),Same.opt (Same.right (Same.right hs))]
 |slc0 x el s=>simp only[PI.val,Same.ev (x:=x) hs]
 |ext x i=>
  cases x with
  |t n mv=>simp only[PI.val,findF_eq,hs n (by simp[PI.rd,Opd.rd])]
  |c d=>rfl
  |g n cs=>rfl
 |mkf f caps=>simp only[PI.val,Same.caps hs]
 |mkme f caps=>simp only[PI.val,Same.caps hs]
 |idxA x i n s ag=>simp only[PI.val,(Same.left hs).ev,(Same.right hs).ev]
 |alen x=>simp only[PI.val,Same.ev (x:=x) hs]
 |lenS x=>simp only[PI.val,Same.ev (x:=x) hs]
 |look m k st ks zs ag ok=>simp only[PI.val,(Same.left hs).ev,(Same.right hs).ev]
 |mlen m=>simp only[PI.val,Same.ev (x:=m) hs]
 |b2s x=>simp only[PI.val,Same.ev (x:=x) hs]
 |minmax mx x y=>simp only[PI.val,(Same.left hs).ev,(Same.right hs).ev]
theorem PI.val_heap {e:Env} {h h2:List Row} {i:PI} (hk:i.kd= .n):i.val e h2=i.val e h:=by
 cases i<;>first|rfl|cases hk
theorem PI.val_grow {e:Env} {h t:List Row} {i:PI} {x:D} (hv:i.val e h=some x):i.val e (h++t)=some x:=by
 cases hk:i.kd with
 |n=>rw[PI.val_heap (h2:=h++t) hk];exact hv
 |r=>
  cases i with
  |load a n ag=>
   simp only[PI.val]at hv ⊢;split at hv
   ·exact hv
   ·rename_i r off ha;split at hv
    ·rename_i ds hr;have:(h++t)[r]?=some (.cells ds):=by rw[List.getElem?_append_left (List.getElem?_eq_some_iff.1 hr).1];exact hr
     simp only[this];exact hv
    ·cases hv
   ·cases hv
  |look m k st ks zs ag ok=>
   simp only[PI.val]at hv ⊢;split at hv
   ·split at hv
    ·rename_i hok;rw[if_pos hok];split at hv
     ·rename_i z hz;split at hv
      ·exact hv
      ·rename_i r ha;split at hv
       ·rename_i es bs ck hr;have:(h++t)[r]?=some (.map es bs ck):=by rw[List.getElem?_append_left (List.getElem?_eq_some_iff.1 hr).1];exact hr
        simp only[this];exact hv
       ·cases hv
      ·cases hv
     ·cases hv
    ·cases hv
   ·cases hv
  |mlen m=>
   simp only[PI.val]at hv ⊢;split at hv
   ·exact hv
   ·rename_i r ha;split at hv
    ·rename_i es bs ck hr;have:(h++t)[r]?=some (.map es bs ck):=by rw[List.getElem?_append_left (List.getElem?_eq_some_iff.1 hr).1];exact hr
     simp only[this];exact hv
    ·cases hv
   ·cases hv
  |_=>cases hk
 |a=>cases i<;>cases hk
 |w=>cases i<;>cases hk
 |t=>cases i<;>cases hk
end Go.Va
