/- Laws that ExtractBytes leans on, part 1. No condition of its own. -/
import Derived.CallsIn
import Derived.Laws.AppendOwn
import Derived.Laws.Cells
import Derived.MapKept
import Derived.Laws.Panics
import Derived.Laws.StructEq
import Derived.Laws.IdiomStrings
import Derived.WideKeyRuns
set_option linter.all false
set_option maxRecDepth 100000
set_option maxHeartbeats 4000000
noncomputable section
namespace Go.Va
section
def qF:=@Option.some.injEq
def qG:=@List.length_append
def qH:=@List.getElem?_eq_getElem
def qI:=@Bool.and_eq_true
def qJ:=@List.mem_of_getElem?
def qK:=@List.getElem?_eq_some_iff
def qL:=@List.mem_cons
def qM:=@Nat.le_refl
def qN:=@List.flatMap_cons
def qO:=@List.mem_singleton
def qP:=@List.prefix_refl
def qQ:=@Option.map_eq_some_iff
def qR:=@List.map_cons
def qT:=@List.length_cons
def qU:=@List.length_flatMap
def qV:=@List.all_eq_true
def qW:=@List.mem_append
def qX:=@List.mem_map
def qY:=@Bool.false_eq_true
def qZ:=@List.getElem?_map
def qc:=@List.take_add_one
def qd:=@Option.getD_some
def qe:=@List.getElem?_append_left
def qf:=@Array.getD_eq_getD_getElem?
def qg:=@List.append_assoc
def qh:=@List.map_append
def qi:=@Nat.lt_or_ge
def qj:=@List.mem_range
def ql:=@List.getElem?_append_right
def qm:=@List.take_length
def qn:=@List.not_mem_nil
def qo:=@Nat.le_trans
def qp:=@Option.bind_some
def qq:=@Option.map_some
def qr:=@List.length_map
def qt:=@Int.toNat_natCast
def qu:=@List.getElem?_take
def qv:=@List.length_take
def qw:=@List.take_of_length_le
def qz:=@List.getElem?_set_ne
def rA:=@List.getElem?_set_self
def rC:=@Bool.true_and
def rD:=@List.length_set
def rE:=@List.map_take
def rF:=@Nat.zero_le
def rG:=@List.getElem?_eq_none
def rH:=@Array.getElem?_setIfInBounds
def rI:=@List.set_set
def rJ:=@List.take_append_drop
def rK:=@List.mem_of_mem_take
def rM:=@List.mem_flatMap
def rN:=@Int.pow_succ
def rO:=@Nat.add_mul
def rP:=@List.flatMap_append
def rQ:=@Int.natCast_add
def rT:=@List.length_filter_le
def rU:=@List.eq_nil_of_length_eq_zero
def rV:=@Bool.not_eq_true'
def rW:=@List.map_nil
def rX:=@Int.mul_comm
def rY:=@List.getElem?_set
def ra:=@List.length_nil
def rb:=@Array.getElem?_toList
def re:=@Option.some.inj
def rh:=@List.mem_of_mem_drop
def ri:=@Array.toList_inj
def rj:=@List.ext_getElem?
def rl:=@List.getElem_mem
def rm:=@List.getElem?_drop
def rn:=@List.mem_or_eq_of_mem_set
def ro:=@List.map_drop
def rp:=@List.set_append_left
def rq:=@List.sum_cons
def rt:=@Nat.zero_add
def rx:=@List.prefix_append
def ry:=@Int.mul_le_mul_of_nonneg_right
def rz:=@List.cons_append
def r9:=@List.mem_filter
def sD:=@List.any_eq_false
def sE:=@Int.le_of_lt
def sF:=@Int.pow_pos
def sG:=@List.range_succ
def sH:=@List.getElem?_range
def sI:=@List.append_nil
def sJ:=@List.pairwise_append
def sK:=@Option.bind_eq_some_iff
def sL:=@Bool.eq_iff_iff
def sM:=@Int.add_mul
def sN:=@Int.mul_assoc
def sO:=@List.mem_iff_getElem
def sP:=@List.set_append_right
def sQ:=@List.take_succ_eq_append_getElem
def sR:=@List.length_filterMap_le
def sS:=@Int.mul_nonneg
def sT:=@List.any_eq_true
def sU:=@List.getElem?_cons_succ
def sV:=@Nat.sub_zero
def sW:=@Prod.mk.injEq
def sX:=@List.nil_append
def sY:=@Array.getElem?_eq_some_iff
def sZ:=@Bool.or_eq_true
def sa:=@List.mem_cons_of_mem
def sb:=@Int.natCast_pow
def sc:=@List.foldl_cons
def sd:=@Nat.add_zero
def sf:=@Nat.mul_le_mul_right
def sg:=@List.size_toArray
def si:=@List.mem_replicate
def sj:=@List.mem_iff_getElem?
def sk:=@List.take_append_of_le_length
def sn:=@List.nodup_cons
def so:=@Nat.pow_le_pow_right
def sq:=@List.foldl_append
def sr:=@List.flatMap_nil
def su:=@List.filter_append
def sw:=@List.toList_toArray
def s9:=@List.set_eq_take_append_cons_drop
def tA:=@Nat.succ_mul
def tB:=@List.mem_append_right
def tC:=@List.rel_of_pairwise_cons
def tD:=@List.pairwise_lt_range
def tE:=@Bool.false_and
def tF:=@Prod.ext
def tG:=@List.mem_cons_self
def tH:=@Function.comp_def
def tI:=@Int.tmod_lt_of_pos
def tJ:=@List.getElem?_of_mem
def tK:=@Int.natCast_one
def tL:=@Int.toNat_of_nonneg
def tM:=@Int.one_mul
def tN:=@List.singleton_append
def tO:=@List.forall_mem_cons
def tP:=@Nat.lt_of_lt_of_le
def tQ:=@Array.getElem?_eq_none
def tR:=@Nat.min_eq_left
def tS:=@List.all_cons
def tT:=@List.getElem?_cons_zero
def tU:=@List.flatMap_map
def tV:=@List.mem_append_left
def tW:=@List.mem_of_mem_erase
def tX:=@Nat.sub_self
def tY:=@Int.fdiv_eq_ediv_of_nonneg
def tZ:=@Int.ediv_lt_of_lt_mul
def ta:=@Int.tdiv_eq_ediv_of_nonneg
def tb:=@List.take_succ_cons
def td:=@Nat.mul_succ
def tf:=@Nat.mul_le_mul_left
def tg:=@List.length_range
def ti:=@List.findIdx?_eq_none_iff
def tj:=@List.zipIdx_cons
def tk:=@Nat.eq_zero_or_pos
def tm:=@List.range_succ_eq_map
def tn:=@List.drop_eq_nil_iff
def tq:=@Array.getElem?_modify
def tu:=@List.drop_eq_getElem_cons
def tx:=@Int.tmod_eq_emod_of_nonneg
def tz:=@Bool.false_ne_true
def t5:=@List.length_eq_zero_iff
def t6:=@List.findIdx?_cons
def t7:=@Bool.exists_bool
def t8:=@List.getD_eq_getElem?_getD
def t9:=@Int.tmod_nonneg
def uA:=@List.filter_cons
def uB:=@List.set_getElem_self
def uC:=@List.length_singleton
def uD:=@List.replicate_succ
def uE:=@Array.length_toList
def uF:=@List.eq_nil_iff_forall_not_mem
def uG:=@List.Sublist.append_left
def uH:=@List.sublist_cons_self
def uI:=@List.mem_erase_of_ne
def uJ:=@List.length_erase_of_mem
def uK:=@List.nodup_range
def uL:=@List.map_map
def uM:=@List.map_congr_left
def uN:=@Bool.and_true
def uO:=@List.filter_nil
def uQ:=@List.mergeSort_perm
inductive V where
 |int (k:IntKind) (n:Int)
 |bool (b:Bool)
 |str (s:ByteArray)
 |list (xs:List V)
 |agg (cs:List V)
 |ptr (cs:List V)
 |nilp
 |func (f:Nat) (caps:List V)
 |nilf
 |nilm
 deriving Inhabited
inductive D where
 |v (x:V)
 |any
 |nil (e s:Nat)
 |own (e s:Nat) (xs:List V)
 |agg (ds:List D)
 |tup (ds:List D)
 |ref (r off:Nat)
 |sref (r n:Nat)
 |mref (r:Nat)
 |func (f:Nat) (caps:List D)
 |meth (f:Nat) (caps:List D)
 |yld (r:Nat)
 |pend (b e s:Nat) (xs:List V)
 |pptr (b s n:Nat)
 deriving Inhabited
def V.cells:V→List V
 | .agg cs=>cs
 |x=>[x]
structure Gh where
 m:Nat→Nat→Option Value
def Gh.at (g:Gh) (b o:Nat) (cs:List Value):Prop:=∀i v,cs[i]?=some v→g.m b (o+i)=some v
def Gh.le (g g':Gh):Prop:=∀b o v,g.m b o=some v→g'.m b o=some v
theorem Gh.le.refl (g:Gh):g.le g:=λ_ _ _ h=>h
theorem Gh.le.trans {a b c:Gh} (h:a.le b) (h':b.le c):a.le c:=λ_ _ _ x=>h' _ _ _ (h _ _ _ x)
variable {b:Nat} {g g':Gh}
theorem Gh.at.mono (h:g.le g') {o:Nat} {cs:List Value} (ha:g.at b o cs):g'.at b o cs:=λi v hv=>h _ _ _ (ha i v hv)
inductive Tag where
 |ready
 |busy
 |done (e:Option Nat)
 deriving Inhabited,DecidableEq
inductive Row where
 |cells (ds:List D)
 |map (es:List (V×V)) (st:List Nat) (ck:Nat)
 |obj (tag:Tag) (p:Gh→List Nat→Obj→Prop) (mono:∀g g' μ μ' o,g.le g'→μ <+: μ'→p g μ o→p g' μ' o)
 |dead
 deriving Inhabited
inductive RepV (g:Gh):V→Value→Prop
 |int (k:IntKind) (n:Int):RepV g (.int k n) (.int k n)
 |bool (b:Bool):RepV g (.bool b) (.bool b)
 |str (s:ByteArray):RepV g (.str s) (.string s)
 |lnil:RepV g (.list []) (.slice none 0 0)
 |list (xs:List V) (a:Addr) (cap s:Nat) (vs:Nat→Value) (hs:a.spot=none) (hc:xs.length≤cap)
   (hr:∀i x,xs[i]?=some x→RepV g x (vs i)) (hz:∀i,i <xs.length→(vs i).cells.size=s∧g.at a.block (a.off+i*s) (vs i).cells.toList):
   RepV g (.list xs) (.slice (some a) xs.length cap)
 |agg (cs:List V) (vs:List Value) (hl:vs.length=cs.length) (hr:∀(i:Nat) x v,cs[i]?=some x→vs[i]?=some v→RepV g x v) (h1:∀v∈vs,v.oneCell'=true):
   RepV g (.agg cs) (.agg vs.toArray)
 |ptr (cs:List V) (a:Addr) (vs:List Value) (hs:a.spot=none) (hl:vs.length=cs.length) (hr:∀(i:Nat) x v,cs[i]?=some x→vs[i]?=some v→RepV g x v)
   (h1:∀v∈vs,v.oneCell'=true) (ha:g.at a.block a.off vs):RepV g (.ptr cs) (.pointer (some a))
 |nilp:RepV g .nilp (.pointer none)
 |func (f:Nat) (caps:List V) (vs:List Value) (hl:vs.length=caps.length) (hr:∀(i:Nat) x v,caps[i]?=some x→vs[i]?=some v→RepV g x v):
   RepV g (.func f caps) (.func (.func f) #[] vs.toArray)
 |nilf:RepV g .nilf .nilFunc
 |nilm:RepV g .nilm (.map none)
theorem RepV.mono {g g':Gh} (h:g.le g') {x:V} {v:Value} (hr:RepV g x v):RepV g' x v:=by
 induction hr with
 |int=>exact .int _ _
 |bool=>exact .bool _
 |str=>exact .str _
 |lnil=>exact .lnil
 |list xs a cap s vs hs hc _ hz ih=>exact .list xs a cap s vs hs hc ih λi hi=>⟨(hz i hi).1,(hz i hi).2.mono h⟩
 |agg cs vs hl _ h1 ih=>exact .agg cs vs hl ih h1
 |ptr cs a vs hs hl _ h1 ha ih=>exact .ptr cs a vs hs hl ih h1 (ha.mono h)
 |nilp=>exact .nilp
 |func f caps vs hl _ ih=>exact .func f caps vs hl ih
 |nilf=>exact .nilf
 |nilm=>exact .nilm
def All2 {α β:Type} (R:α→β→Prop) (xs:List α) (ys:List β):Prop:=
 ys.length=xs.length∧∀(i:Nat) x y,xs[i]?=some x→ys[i]?=some y→R x y
theorem All2.nil {α β:Type} {R:α→β→Prop}:All2 R [] []:=⟨rfl,λi x y h=>by simp at h⟩
theorem All2.cons {α β:Type} {R:α→β→Prop} {x:α} {y:β} {xs:List α} {ys:List β} (h:R x y) (hs:All2 R xs ys):All2 R (x::xs) (y::ys):=by
 refine⟨by simp[hs.1],λi a b ha hb=>?_⟩;cases i with
 |zero=>simp at ha hb;subst ha;subst hb;exact h
 |succ i=>exact hs.2 i a b (by simpa using ha) (by simpa using hb)
theorem All2.cons_iff {α β:Type} {R:α→β→Prop} {x:α} {y:β} {xs:List α} {ys:List β}:All2 R (x::xs) (y::ys)↔R x y∧All2 R xs ys:=by
 constructor
 ·intro h;refine⟨h.2 0 x y rfl rfl,by simpa using h.1,λi a b ha hb=>h.2 (i+1) a b (by simpa using ha) (by simpa using hb)⟩
 ·exact λ⟨h,hs⟩=> .cons h hs
theorem All2.imp {α β:Type} {R S:α→β→Prop} (f:∀x y,R x y→S x y) {xs:List α} {ys:List β} (h:All2 R xs ys):All2 S xs ys:=
 ⟨h.1,λi x y hx hy=>f _ _ (h.2 i x y hx hy)⟩
theorem All2.append {α β:Type} {R:α→β→Prop} {xs:List α} {ys:List β} {xs':List α} {ys':List β} (h:All2 R xs ys) (h':All2 R xs' ys'):All2 R (xs++xs') (ys++ys'):=by
 refine⟨by simp[h.1,h'.1],λi a b ha hb=>?_⟩;by_cases hi:i <xs.length
 ·rw[qe hi]at ha;rw[qe (h.1▸hi)]at hb;exact h.2 i a b ha hb
 ·rw[ql (by omega)]at ha;rw[ql (by have:=h.1;omega),h.1]at hb;exact h'.2 _ a b ha hb
theorem All2.take {α β:Type} {R:α→β→Prop} {xs:List α} {ys:List β} (h:All2 R xs ys) (n:Nat):All2 R (xs.take n) (ys.take n):=by
 refine⟨by simp[h.1],λi a b ha hb=>?_⟩;rw[qu]at ha hb;split at ha<;>simp_all
 exact h.2 i a b ha hb
theorem All2.drop {α β:Type} {R:α→β→Prop} {xs:List α} {ys:List β} (h:All2 R xs ys) (n:Nat):All2 R (xs.drop n) (ys.drop n):=by
 refine⟨by simp[h.1],λi a b ha hb=>?_⟩;rw[rm]at ha hb;exact h.2 _ a b ha hb
variable {i:Nat}
theorem All2.get {α β:Type} {R:α→β→Prop} {xs:List α} {ys:List β} (h:All2 R xs ys) {x:α} (hx:xs[i]?=some x):∃y,ys[i]?=some y∧R x y:=by
 have hi:i <xs.length:=(qK.1 hx).1;have hy:ys[i]?=some (ys[i]'(h.1▸hi)):=qH _;exact⟨_,hy,h.2 i x _ hx hy⟩
theorem All2.set {α β:Type} {R:α→β→Prop} {xs:List α} {ys:List β} (h:All2 R xs ys) {i:Nat} {x:α} {y:β} (hxy:R x y):All2 R (xs.set i x) (ys.set i y):=by
 refine⟨by simp[h.1],λj a b ha hb=>?_⟩;rw[rY]at ha hb;by_cases hij:i=j
 ·subst hij;by_cases hi:i <xs.length
  ·have hi':i <ys.length:=h.1▸hi;simp[hi,hi']at ha hb;subst ha;subst hb;exact hxy
  ·simp[hi]at ha
 ·simp[hij]at ha hb;exact h.2 j a b ha hb
variable {vs:List Value} {cs:List V}
theorem RepV.agg' (h:All2 (RepV g) cs vs) (h1:∀v∈vs,v.oneCell'=true):RepV g (.agg cs) (.agg vs.toArray):= .agg cs vs h.1 h.2 h1
variable {v:Value}
theorem RepV.agg_inv (h:RepV g (.agg cs) v):∃vs:List Value,v= .agg vs.toArray∧All2 (RepV g) cs vs∧∀v∈vs,v.oneCell'=true:=by
 cases h with
 |agg _ vs hl hr h1=>exact⟨vs,rfl,⟨hl,hr⟩,h1⟩
theorem Gx (h:v.oneCell'=true):v.cells= #[v]:=by cases v<;>simp_all [Value.oneCell',Value.cells]
theorem RepV.cells {g:Gh} {x:V} {v:Value} (h:RepV g x v):All2 (RepV g) x.cells v.cells.toList∧∀u∈v.cells.toList,u.oneCell'=true:=by
 cases h with
 |agg cs vs hl hr h1=>simpa[V.cells,Value.cells]using ⟨⟨hl,hr⟩,h1⟩
 |int k n=>exact⟨.cons (.int k n) .nil,by simp[Value.cells,Value.oneCell']⟩
 |bool b=>exact⟨.cons (.bool b) .nil,by simp[Value.cells,Value.oneCell']⟩
 |str s=>exact⟨.cons (.str s) .nil,by simp[Value.cells,Value.oneCell']⟩
 |lnil=>exact⟨.cons .lnil .nil,by simp[Value.cells,Value.oneCell']⟩
 |list xs a cap s vs hs hc hr hz=>exact⟨.cons (.list xs a cap s vs hs hc hr hz) .nil,by simp[Value.cells,Value.oneCell']⟩
 |ptr cs a vs hs hl hr h1 ha=>exact⟨.cons (.ptr cs a vs hs hl hr h1 ha) .nil,by simp[Value.cells,Value.oneCell']⟩
 |nilp=>exact⟨.cons .nilp .nil,by simp[Value.cells,Value.oneCell']⟩
 |func f caps vs hl hr=>exact⟨.cons (.func f caps vs hl hr) .nil,by simp[Value.cells,Value.oneCell']⟩
 |nilf=>exact⟨.cons .nilf .nil,by simp[Value.cells,Value.oneCell']⟩
 |nilm=>exact⟨.cons .nilm .nil,by simp[Value.cells,Value.oneCell']⟩
def Ae:D→Value→Option Nat
 | .own _ _ _,.slice (some a) _ cap=>if cap=0 then none else some a.block
 | .pend b _ _ _,_=>some b
 |_,_=>none
def Ak:D→Value→Nat→Option Nat
 | .tup ds,.tuple vs,k=>Ae (ds[k]?.getD .any) (vs.toList[k]?.getD (.bool false))
 |d,v,0=>Ae d v
 |_,_,_=>none
def RepOwn (g:Gh) (w:World) (e s:Nat) (xs:List V) (v:Value):Prop:=
 (∃a:Option Addr,v= .slice a 0 0∧xs=[]∧(∀x,a=some x→x.spot=none))∨
 ∃b cap cur,∃vs:Nat→Value,v= .slice (some ⟨b,0,none⟩) xs.length cap∧0 <cap∧w.heap[b]?=some (.cells cur e (0,0))∧xs.length≤cap∧cur.size=cap*s∧
  (∀i x,xs[i]?=some x→RepV g x (vs i))∧(∀i,i <xs.length→(vs i).cells.size=s∧g.at b (i*s) (vs i).cells.toList)∧
  (∀o,xs.length*s≤o→g.m b o=none)
def D.copy:D→D
 | .own _ _ xs=> .v (.list xs)
 | .tup _=> .any
 | .pend _ _ _ _=> .any
 |d=>d
def D.v?:D→Option V
 | .v x=>some x
 | .own _ _ xs=>some (.list xs)
 | .nil _ _=>some (.list [])
 |_=>none
def D.vs?:List D→Option (List V)
 |[]=>some []
 |d::ds=>match d.v?,D.vs? ds with
  |some x,some xs=>some (x::xs)
  |_,_=>none
def D.toV:D→Option V
 | .agg ds=>(D.vs? ds).map .agg
 | .func f caps=>(D.vs? caps).map (.func f)
 |d=>d.v?
end
section
def RepC (g:Gh) (μ:List Nat):D→Value→Prop
 | .v x,u=>RepV g x u
 | .ref r off,u=>∃b,μ[r]?=some b∧u= .pointer (some ⟨b,off,none⟩)
 |_,_=>False
def RepE (g:Gh) (w:World) (μ:List Nat):D→Value→Prop
 | .v x,u=>RepV g x u
 | .any,_=>True
 | .nil _ _,u=>∃a:Option Addr,u= .slice a 0 0∧∀x,a=some x→x.spot=none
 | .own e s xs,u=>RepOwn g w e s xs u∧(xs=[]→e≠84→∃a,u= .slice a 0 0)
 | .ref r off,u=>∃b,μ[r]?=some b∧u= .pointer (some ⟨b,off,none⟩)
 | .sref r n,u=>∃b cap,μ[r]?=some b∧u= .slice (some ⟨b,0,none⟩) n cap∧n≤cap
 | .mref r,u=>∃b,μ[r]?=some b∧u= .map (some b)
 | .func f caps,u=>∃vs:List Value,u= .func (.func f) #[] vs.toArray∧All2 (RepC g μ) caps vs
 | .meth f caps,u=>∃vs:List Value,u= .func (.func f) vs.toArray #[]∧All2 (RepC g μ) caps vs
 | .yld r,u=>∃b,μ[r]?=some b∧u= .func (.yield b) #[] #[]
 | .pend b e s xs,u=>∃cap,u= .slice (some ⟨b,0,none⟩) (xs.length+1) cap∧xs.length+1≤cap∧RepOwn g w e s xs (.slice (some ⟨b,0,none⟩) xs.length cap)
 | .pptr b s n,u=>(s=0∧∃cap,u= .slice (some ⟨b,0,none⟩) (n+1) cap)∨(0 <s∧u= .pointer (some ⟨b,n*s,none⟩))
 |_,_=>False
def RepG (g:Gh) (w:World) (μ:List Nat):D→Value→Prop
 | .agg ds,u=>∃vs:List Value,u= .agg vs.toArray∧All2 (RepE g w μ) ds vs∧(∀v∈vs,v.oneCell'=true)∧∀d∈ds,∀v,Ae d v=none
 |d,u=>RepE g w μ d u
def RepD (g:Gh) (w:World) (μ:List Nat):D→Value→Prop
 | .tup ds,u=>∃vs:List Value,u= .tuple vs.toArray∧All2 (RepG g w μ) ds vs
 |d,u=>RepG g w μ d u
structure Chg (M:Nat→Prop) (g:Gh) (w:World) (g':Gh) (w':World):Prop where
 le:g.le g'
 size:w.heap.size≤w'.heap.size
 heap:∀b,b <w.heap.size→¬M b→w'.heap[b]?=w.heap[b]?
 gh:∀b,b <w.heap.size→¬M b→∀o,g'.m b o=g.m b o
 os:w'.os=w.os
 out:w'.output=w.output
theorem Chg.refl (M:Nat→Prop) (g:Gh) (w:World):Chg M g w g w:=⟨Gh.le.refl g,qM _,λ_ _ _=>rfl,λ_ _ _ _=>rfl,rfl,rfl⟩
variable {w w':World} {g g':Gh} {M:Nat→Prop}
theorem Chg.mono {M':Nat→Prop} (hm:∀b,M b→M' b) (h:Chg M g w g' w'):Chg M' g w g' w':=
 ⟨h.le,h.size,λb hb hn=>h.heap b hb λx=>hn (hm b x),λb hb hn=>h.gh b hb λx=>hn (hm b x),h.os,h.out⟩
theorem Chg.trans {M:Nat→Prop} {g g' g'':Gh} {w w' w'':World} (h:Chg M g w g' w') (h':Chg M g' w' g'' w''):Chg M g w g'' w'':=
 ⟨h.le.trans h'.le,qo h.size h'.size,λb hb hn=>(h'.heap b (tP hb h.size) hn).trans (h.heap b hb hn),
  λb hb hn o=>(h'.gh b (tP hb h.size) hn o).trans (h.gh b hb hn o),h'.os.trans h.os,h'.out.trans h.out⟩
variable {b:Nat}
theorem Bc {o:Obj} (h:w.heap[b]?=some o):b <w.heap.size:=by
 rcases qi b w.heap.size with h'|h'
 ·exact h'
 ·simp[tQ h']at h
variable {r:Nat} {μ μ':List Nat}
theorem FC (hμ:μ <+: μ') (h:μ[r]?=some b):μ'[r]?=some b:=by
 obtain⟨t,rfl⟩:=hμ;rw[qe (qK.1 h).1];exact h
variable {u:Value} {xs:List V} {d:D}
section chg
variable {M:Nat→Prop} {g g':Gh} {w w':World} {μ μ':List Nat}
theorem RepOwn.chg (hc:Chg M g w g' w') {e s:Nat} (h:RepOwn g w e s xs u)
  (hn:∀b,Ae (.own e s xs) u=some b→¬M b):RepOwn g' w' e s xs u:=by
 rcases h with h|⟨b,cap,cur,vs,rfl,h0,hb,hl,hs,hr,hz,hf⟩
 ·exact .inl h
 ·have hM:¬M b:=hn b (by simp[Ae];omega);have hlt:=Bc hb;exact .inr ⟨b,cap,cur,vs,rfl,h0,(hc.heap b hlt hM).trans hb,hl,hs,λi x hx=>(hr i x hx).mono hc.le,λi hi=>⟨(hz i hi).1,(hz i hi).2.mono hc.le⟩,
   λo ho=>(hc.gh b hlt hM o).trans (hf o ho)⟩
theorem RepC.chg (hl:g.le g') (hμ:μ <+: μ') (h:RepC g μ d u):RepC g' μ' d u:=by
 cases d<;>simp only[RepC]at h ⊢
 ·exact h.mono hl
 ·obtain⟨b,hb,rfl⟩:=h;exact⟨b,FC hμ hb,rfl⟩
theorem RepE.chg (hc:Chg M g w g' w') (hμ:μ <+: μ') {d:D} {u:Value} (h:RepE g w μ d u) (hn:∀b,Ae d u=some b→¬M b):RepE g' w' μ' d u:=by
 cases d<;>simp only[RepE]at h ⊢
 ·exact h.mono hc.le
 ·exact h
 ·exact⟨RepOwn.chg hc h.1 hn,h.2⟩
 ·obtain⟨b,hb,rfl⟩:=h;exact⟨b,FC hμ hb,rfl⟩
 ·obtain⟨b,cap,hb,rfl,hcap⟩:=h;exact⟨b,cap,FC hμ hb,rfl,hcap⟩
 ·obtain⟨b,hb,rfl⟩:=h;exact⟨b,FC hμ hb,rfl⟩
 ·obtain⟨vs,rfl,h⟩:=h;exact⟨vs,rfl,h.imp λ_ _=>RepC.chg hc.le hμ⟩
 ·obtain⟨vs,rfl,h⟩:=h;exact⟨vs,rfl,h.imp λ_ _=>RepC.chg hc.le hμ⟩
 ·obtain⟨b,hb,rfl⟩:=h;exact⟨b,FC hμ hb,rfl⟩
 ·obtain⟨cap,rfl,hcap,ho⟩:=h;refine⟨cap,rfl,hcap,RepOwn.chg hc ho λb' hb'=>hn b' ?_⟩;simp only[Ae]at hb' ⊢;split at hb'
  ·cases hb'
  ·exact hb'
 ·exact h
theorem RepG.chg (hc:Chg M g w g' w') (hμ:μ <+: μ') {d:D} {u:Value} (h:RepG g w μ d u) (hn:∀b,Ae d u=some b→¬M b):RepG g' w' μ' d u:=by
 cases d<;>simp only[RepG]at h ⊢ <;>first
  |exact h.chg hc hμ hn
  |(obtain⟨vs,rfl,ha,h1,h0⟩:=h
    refine⟨vs,rfl,⟨ha.1,λi x v hx hv=>(ha.2 i x v hx hv).chg hc hμ λb hb=>?_⟩,h1,h0⟩;rw[h0 x (qJ hx) v]at hb;cases hb)
theorem RepD.chg (hc:Chg M g w g' w') (hμ:μ <+: μ') {d:D} {u:Value} (h:RepD g w μ d u) (hn:∀k b,Ak d u k=some b→¬M b):RepD g' w' μ' d u:=by
 cases d<;>simp only[RepD]at h ⊢ <;>first
  |exact h.chg hc hμ λb hb=>hn 0 b (by simpa[Ak]using hb)
  |(obtain⟨vs,rfl,ha⟩:=h
    refine⟨vs,rfl,ha.1,λi x v hx hv=>(ha.2 i x v hx hv).chg hc hμ λb hb=>hn i b ?_⟩;simp[Ak,hx,hv,hb])
end chg
def RowOK (g:Gh) (w:World) (μ:List Nat) (b:Nat):Row→Prop
 | .cells ds=>∃(vs:List Value) (T:TypeId),w.heap[b]?=some (.cells vs.toArray T (0,0))∧All2 (RepE g w μ) ds vs∧(∀v∈vs,v.oneCell'=true)∧∀o,g.m b o=none
 | .map es st ck=>∃(ents:Array MapEntry),w.heap[b]?=some (.map ents ck)∧MapKept.Stamped ents ck∧ents.toList.map (·.born)=st∧All2 (λkv x=>RepV g kv.1 x.key∧RepV g kv.2 x.val) es ents.toList∧∀o,g.m b o=none
 | .obj _ p _=>∃o,w.heap[b]?=some o∧p g μ o∧∀o,g.m b o=none
 | .dead=>b <w.heap.size
def A9 (h:List Row) (r k:Nat):D:=
 match h[r]? with
 |some (.cells ds)=>ds[k]?.getD .any
 |_=> .any
def BK (w:World) (μ:List Nat) (r k:Nat):Value:=((μ[r]?).bind λb=>w.cell? ⟨b,k,none⟩).getD (.bool false)
inductive Pl where
 |tmp (n k:Nat)
 |cell (r k:Nat)
def Cl (t:Nat→D) (u:Nat→Value) (h:List Row) (w:World) (μ:List Nat):Pl→Option Nat
 | .tmp n k=>Ak (t n) (u n) k
 | .cell r k=>Ae (A9 h r k) (BK w μ r k)
structure Inv (g:Gh) (w:World) (μ:List Nat) (t:Nat→D) (u:Nat→Value) (h:List Row) (O:Nat→Prop):Prop where
 agree:∀b o v,g.m b o=some v→w.cell? ⟨b,o,none⟩=some v
 olt:∀b,O b→b <w.heap.size
 rep:∀n,RepD g w μ (t n) (u n)
 len:μ.length=h.length
 rows:∀(r:Nat) row b,h[r]?=some row→μ[r]?=some b→RowOK g w μ b row
 nod:∀(r r':Nat) b,μ[r]?=some b→μ[r']?=some b→r=r'
 mo:∀b,b∈μ→¬O b
 uniq:∀p q b,Cl t u h w μ p=some b→Cl t u h w μ q=some b→p=q
 sep:∀p b,Cl t u h w μ p=some b→b∉μ∧¬O b
variable {row:Row}
theorem RowOK.lt (h:RowOK g w μ b row):b <w.heap.size:=by
 cases row with
 |cells ds=>obtain⟨vs,T,hb,_⟩:=h;exact Bc hb
 |map es st ck=>obtain⟨_,hb,_⟩:=h;exact Bc hb
 |obj _ p _=>obtain⟨_,hb,_⟩:=h;exact Bc hb
 |dead=>exact h
theorem JM (h:RepE g w μ d u) (hb:Ae d u=some b):b <w.heap.size:=by
 cases d<;>simp only[Ae]at hb<;>try (cases hb;done)
 case pend b' e s xs=>
  obtain⟨cap,rfl,hcap,ho⟩:=h;simp only[qF]at hb;subst hb;rcases ho with ⟨a,h1,h2,_⟩|⟨b',cap',cur,vs,h1,h0,hb',_⟩
  ·simp only[Value.slice.injEq]at h1;omega
  ·simp only[Value.slice.injEq,qF,Addr.mk.injEq]at h1;obtain⟨⟨rfl,_,_⟩,_,_⟩:=h1;exact Bc hb'
 rcases h with ⟨a,rfl,_⟩|⟨b',cap,cur,vs,rfl,h0,hb',_⟩
 ·cases a<;>simp at hb
 ·simp at hb;obtain⟨_,rfl⟩:=hb;exact Bc hb'
variable {v:Value} {vs:List Value} {k:Nat}
theorem Df {T:TypeId} (hμ:μ[r]?=some b)
  (hb:w.heap[b]?=some (.cells vs.toArray T (0,0))) (hv:vs[k]?=some v):BK w μ r k=v:=by
 simp[BK,hμ,World.cell?,hb,hv]
end
inductive Opd where
 |t (n:Nat) (mv:Bool)
 |c (d:D)
 |g (n:Nat) (cs:List V)
 deriving Inhabited
abbrev CH:=List (Nat×D)
def AF:CH→Nat→D
 |[],_=> .any
 |(k,d)::e,n=>if k=n then d else AF e n
def Opd.ev (e:CH):Opd→D
 | .t n mv=>if mv then AF e n else (AF e n).copy
 | .c d=>d
 | .g _ cs=> .v (.ptr cs)
inductive PI where
 |pick (c a b:Opd)
 |build (zs:List D) (ps:List (Nat×Nat×Opd))
 |load (a:Opd) (n:Nat) (ag:Bool)
 |nilc (x:Opd)
 |bin (op:BinOp) (x y:Opd)
 |eqB (ne:Bool) (x y:Opd)
 |eqA (ne:Bool) (ks:List Nat) (x y:Opd)
 |eqP (ne:Bool) (x y:Opd)
 |not (x:Opd)
 |neg (x:Opd)
 |inv (x:Opd)
 |cint (k:IntKind) (x:Opd)
 |faddr (x:Opd) (off n:Nat)
 |fld (x:Opd) (off n:Nat) (ag:Bool)
 |iaddr (x i:Opd) (s:Nat)
 |iaddrA (x i:Opd) (len s:Nat)
 |iaddrP (x i:Opd) (s:Nat)
 |idxS (x i:Opd)
 |slc (x:Opd) (lo hi:Option Opd) (s:Nat)
 |slcS (x:Opd) (lo hi:Option Opd)
 |slc0 (x:Opd) (e s:Nat)
 |ext (x:Opd) (i:Nat)
 |mkf (f:Nat) (caps:List Opd)
 |mkme (f:Nat) (firsts:List Opd)
 |idxA (x i:Opd) (n s:Nat) (ag:Bool)
 |alen (x:Opd)
 |lenS (x:Opd)
 |minmax (mx:Bool) (x y:Opd)
 |b2s (x:Opd)
 |look (m k:Opd) (st:Bool) (ks:List Nat) (zs:List D) (ag ok:Bool)
 |mlen (m:Opd)
 deriving Inhabited
def V.bin (op:BinOp):V→V→Option V
 | .int k a,.int k' b=>
  match op with
  | .shl=>if 0≤b then some (.int k (k.wrap (a*2^(min b.toNat k.bits)))) else none
  | .shr=>if 0≤b then some (.int k (a.fdiv (2^(min b.toNat k.bits)))) else none
  |op=>if k=k' then
    match op with
    | .add=>some (.int k (k.wrap (a+b)))
    | .sub=>some (.int k (k.wrap (a-b)))
    | .mul=>some (.int k (k.wrap (a*b)))
    | .quo=>if b=0 then none else some (.int k (k.wrap (a.tdiv b)))
    | .rem=>if b=0 then none else some (.int k (a.tmod b))
    | .and=>some (.int k (k.wrap (BitVec.ofInt k.bits a &&& BitVec.ofInt k.bits b).toNat))
    | .or=>some (.int k (k.wrap (BitVec.ofInt k.bits a ||| BitVec.ofInt k.bits b).toNat))
    | .xor=>some (.int k (k.wrap (BitVec.ofInt k.bits a ^^^ BitVec.ofInt k.bits b).toNat))
    | .andNot=>some (.int k (k.wrap (BitVec.ofInt k.bits a &&& ~~~BitVec.ofInt k.bits b).toNat))
    | .eql=>some (.bool (a==b))
    | .neq=>some (.bool (a != b))
    | .lss=>some (.bool (decide (a <b)))
    | .leq=>some (.bool (decide (a≤b)))
    | .gtr=>some (.bool (decide (a>b)))
    | .geq=>some (.bool (decide (a≥b)))
    |_=>none
   else none
 | .str a,.str b=>
  match op with
  | .eql=>some (.bool (a.toList==b.toList))
  | .neq=>some (.bool (!(a.toList==b.toList)))
  |_=>none
 |_,_=>none
def V.eq1:Nat→V→V→Option Bool
 |0,.int k a,.int k' b=>if k=k' then some (a==b) else none
 |1,.bool a,.bool b=>some (a==b)
 |2,.str a,.str b=>some (a.toList==b.toList)
 |_,_,_=>none
def V.eqL:List Nat→List V→List V→Option Bool
 |[],[],[]=>some true
 |k::ks,x::xs,y::ys=>match V.eq1 k x y,V.eqL ks xs ys with
  |some a,some b=>some (a&&b)
  |_,_=>none
 |_,_,_=>none
def D.isNil:D→Option Bool
 | .v .nilp| .v .nilf| .v .nilm=>some true
 | .v (.ptr _)| .v (.func _ _)| .ref _ _| .func _ _| .mref _=>some false
 |_=>none
def D.isNilP:D→Option Bool
 | .v .nilp=>some true
 | .v (.ptr _)| .ref _ _=>some false
 |_=>none
def V.getI (xs:List V) (i:Int):Option V:=if 0≤i then xs[i.toNat]? else none
def V.part (cs:List V) (off n:Nat) (ag:Bool):Option V:=
 if off+n≤cs.length then (if ag then some (.agg ((cs.drop off).take n)) else cs[off]?) else none
def D.part (cs:List D) (off n:Nat) (ag:Bool):Option D:=
 if off+n≤cs.length then (if ag then some (.agg (((cs.drop off).take n).map D.copy)) else (cs[off]?).map D.copy) else none
def BG (s:Nat) (xs:List V):Bool:=xs.head?.all λx=>x.cells.length==s
def Kw (d:Option D) (dflt:Nat):Option Nat:=
 match d with
 |none=>some dflt
 |some (.v (.int _ n))=>if 0≤n then some n.toNat else none
 |_=>none
def AS {α:Type} (cs:List α) (off:Nat) (xs:List α):List α:=cs.take off++xs++cs.drop (off+xs.length)
def D.cells?:D→Option (List D)
 | .agg ds=>some ds
 | .v (.agg cs)=>some (cs.map .v)
 | .any| .tup _| .own _ _ _| .pend _ _ _ _| .pptr _ _ _=>none
 |d=>some [d]
def Et (e:CH):List D→List (Nat×Nat×Opd)→Option (List D)
 |cs,[]=>some cs
 |cs,(off,n,x)::ps=>match (x.ev e).copy.cells? with
  |some xs=>if xs.length=n∧off+n≤cs.length then Et e (AS cs off xs) ps else none
  |none=>none
def E0 (e:CH):List Opd→List D
 |[]=>[]
 |x::xs=>(x.ev e).copy::E0 e xs
def D.isCap:D→Bool
 | .v _| .ref _ _=>true
 |_=>false
def Eo (st:Bool) (ks:List Nat) (x:V):Bool:=(match x with| .agg _=>st|_=> !st)&&(match V.eqL ks x.cells x.cells with|some true=>true|_=>false)
def JO (st:Bool) (ks:List Nat) (x:V):List (V×V)→Option (Option Nat)
 |[]=>some none
 |p::es=>if Eo st ks p.1 then (match V.eqL ks x.cells p.1.cells with
  |some true=>some (some 0)
  |some false=>(JO st ks x es).map λr=>r.map (· +1)
  |none=>none) else none
def M9 (ok:Bool) (d:D) (b:Bool):D:=if ok then .tup [d,.v (.bool b)] else d
def FJ:List V→Option (List UInt8)
 |[]=>some []
 | .int .u8 n::xs=>if 0≤n∧n <256 then (FJ xs).map (UInt8.ofNat n.toNat::·) else none
 |_=>none
def PI.val (e:CH) (h:List Row):PI→Option D
 | .pick c a b=>match c.ev e with
  | .v (.bool t)=>some (if t then (a.ev e).copy else (b.ev e).copy)
  |_=>none
 | .build zs ps=>(Et e zs ps).map .agg
 | .load a n ag=>match a.ev e with
  | .v (.ptr cs)=>(V.part cs 0 n ag).map .v
  | .ref r off=>match h[r]? with
   |some (.cells ds)=>D.part ds off n ag
   |_=>none
  |_=>none
 | .nilc x=>match (x.ev e).isNil with
  |some false=>some (x.ev e).copy
  |_=>none
 | .bin op x y=>match x.ev e,y.ev e with
  | .v a,.v b=>(V.bin op a b).map .v
  |_,_=>none
 | .eqB ne x y=>match x.ev e,y.ev e with
  | .v (.bool a),.v (.bool b)=>some (.v (.bool ((a==b) != ne)))
  |_,_=>none
 | .eqA ne ks x y=>match (x.ev e).toV,(y.ev e).toV with
  |some (.agg cs),some (.agg ds)=>(V.eqL ks cs ds).map λb=> .v (.bool (b != ne))
  |_,_=>none
 | .eqP ne x y=>match (x.ev e).isNilP,(y.ev e).isNilP with
  |some true,some b=>some (.v (.bool (b != ne)))
  |some b,some true=>some (.v (.bool (b != ne)))
  |_,_=>none
 | .not x=>match x.ev e with
  | .v (.bool a)=>some (.v (.bool (!a)))
  |_=>none
 | .neg x=>match x.ev e with
  | .v (.int k n)=>some (.v (.int k (k.wrap (0-n))))
  |_=>none
 | .inv x=>match x.ev e with
  | .v (.int k n)=>some (.v (.int k (k.wrap (BitVec.ofInt k.bits (if k.signed then -1 else k.max) ^^^ BitVec.ofInt k.bits n).toNat)))
  |_=>none
 | .cint k x=>match x.ev e with
  | .v (.int _ n)=>some (.v (.int k (k.wrap n)))
  |_=>none
 | .faddr x off n=>match x.ev e with
  | .v (.ptr cs)=>if off+n≤cs.length then some (.v (.ptr ((cs.drop off).take n))) else none
  | .ref r o=>some (.ref r (o+off))
  |_=>none
 | .fld x off n ag=>match x.ev e with
  | .v (.agg cs)=>(V.part cs off n ag).map .v
  | .agg ds=>D.part ds off n ag
  |_=>none
 | .iaddr x i s=>match (x.ev e).copy,i.ev e with
  | .v (.list xs),.v (.int _ n)=>match V.getI xs n with
   |some y=>if y.cells.length=s then some (.v (.ptr y.cells)) else none
   |none=>none
  | .sref r m,.v (.int _ n)=>if 0≤n∧n <m then some (.ref r (n.toNat*s)) else none
  |_,_=>none
 | .iaddrA x i len s=>match x.ev e,i.ev e with
  | .v (.ptr cs),.v (.int _ n)=>if 0≤n∧n <len∧len*s=cs.length then some (.v (.ptr ((cs.drop (n.toNat*s)).take s))) else none
  | .ref r o,.v (.int _ n)=>if 0≤n∧n <len then some (.ref r (o+n.toNat*s)) else none
  |_,_=>none
 | .iaddrP x i s=>match x.ev e,i.ev e with
  | .pend b _ s' xs,.v (.int _ n)=>if (n=xs.length∧s'=s)∧0 <s then some (.pptr b s xs.length) else none
  | .pptr b 0 m,.v (.int _ n)=>if n=m∧0 <s then some (.pptr b s m) else none
  |_,_=>none
 | .idxS x i=>match x.ev e,i.ev e with
  | .v (.str s),.v (.int _ n)=>if 0≤n then (s[n.toNat]?).map λb=> .v (.int .u8 b.toNat) else none
  |_,_=>none
 | .slc x lo hi s=>match (x.ev e).copy with
  | .v (.list xs)=>match Kw (lo.map (·.ev e)) 0,Kw (hi.map (·.ev e)) xs.length with
   |some l,some m=>if l≤m∧m≤xs.length∧BG s xs=true then some (.v (.list ((xs.take m).drop l))) else none
   |_,_=>none
  |_=>none
 | .slcS x lo hi=>match x.ev e with
  | .v (.str s)=>match Kw (lo.map (·.ev e)) 0,Kw (hi.map (·.ev e)) s.size with
   |some l,some m=>if l≤m∧m≤s.size then some (.v (.str (s.extract l m))) else none
   |_,_=>none
  |_=>none
 | .slc0 x el s=>match (x.ev e).copy with
  | .v (.list _)=>some (.nil el s)
  |_=>none
 | .ext x i=>match x with
  | .t n _=>match AF e n with
   | .tup ds=>(ds[i]?).map D.copy
   |_=>none
  |_=>none
 | .mkf f caps=>if (E0 e caps).all D.isCap then some (.func f (E0 e caps)) else none
 | .mkme f firsts=>if (E0 e firsts).all D.isCap then some (.meth f (E0 e firsts)) else none
 | .idxA x i n s ag=>match x.ev e,i.ev e with
  | .v (.agg cs),.v (.int _ k)=>if 0≤k∧k <n then (V.part cs (k.toNat*s) s ag).map .v else none
  | .agg ds,.v (.int _ k)=>if 0≤k∧k <n then D.part ds (k.toNat*s) s ag else none
  |_,_=>none
 | .alen x=>match (x.ev e).copy with
  | .v (.list xs)=>some (.v (.int .i64 xs.length))
  | .nil _ _=>some (.v (.int .i64 0))
  | .sref _ n=>some (.v (.int .i64 n))
  |_=>none
 | .lenS x=>match x.ev e with
  | .v (.str s)=>some (.v (.int .i64 s.size))
  |_=>none
 | .b2s x=>match (x.ev e).copy with
  | .v (.list xs)=>(FJ xs).map λbs=> .v (.str ⟨bs.toArray⟩)
  | .nil _ _=>some (.v (.str .empty))
  |_=>none
 | .look m k st ks zs ag ok=>match (k.ev e).toV with
  |some kv=>if Eo st ks kv=true then
    match (if ag then some (D.agg zs) else zs.head?)with
    |some z=>match m.ev e with
     | .v .nilm=>some (M9 ok z false)
     | .mref r=>match h[r]? with
      |some (.map es _ _)=>match JO st ks kv es with
       |some (some i)=>(es[i]?).map λp=>M9 ok (.v p.2) true
       |some none=>some (M9 ok z false)
       |none=>none
      |_=>none
     |_=>none
    |none=>none
   else none
  |none=>none
 | .mlen m=>match m.ev e with
  | .v .nilm=>some (.v (.int .i64 0))
  | .mref r=>match h[r]? with
   |some (.map es _ _)=>some (.v (.int .i64 es.length))
   |_=>none
  |_=>none
 | .minmax mx x y=>match x.ev e,y.ev e with
  | .v (.int k a),.v (.int k' b)=>if k=k' then some (.v (.int k (if mx then (if b>a then b else a) else (if b <a then b else a)))) else none
  |_,_=>none
section
def H1:Value→V→Bool
 | .int k n,.int k' n'=>k==k'&&n==n'
 | .bool b,.bool b'=>b==b'
 | .string s,.str s'=>decide (s=s')
 | .pointer none,.nilp=>true
 | .nilFunc,.nilf=>true
 | .map none,.nilm=>true
 |_,_=>false
def F3:Value→D→Bool
 | .slice none 0 0,.nil _ _=>true
 | .slice none 0 0,.own _ _ []=>true
 |v,.v x=>H1 v x
 |_,_=>false
def Ap {α β:Type} (f:α→β→Bool):List α→List β→Bool
 |[],[]=>true
 |x::xs,y::ys=>f x y&&Ap f xs ys
 |_,_=>false
theorem Cm {α β:Type} {f:α→β→Bool} {R:β→α→Prop} (hf:∀x y,f x y=true→R y x):∀ {xs:List α} {ys:List β},Ap f xs ys=true→All2 R ys xs
 |[],[],_=> .nil
 |x::xs,y::ys,h=>by
  simp only[Ap,qI]at h;exact .cons (hf _ _ h.1) (Cm hf h.2)
 |[],_::_,h=>by simp[Ap]at h
 |_::_,[],h=>by simp[Ap]at h
variable {v:Value}
theorem Gv {x:V} (h:H1 v x=true):v.oneCell'=true:=by
 cases v<;>cases x<;>simp_all [H1,Value.oneCell']
variable {g:Gh}
theorem Fe {x:V} (h:H1 v x=true):RepV g x v:=by
 unfold H1 at h;split at h<;>(try simp only[qI,beq_iff_eq,decide_eq_true_eq]at h)<;>(try (obtain⟨rfl,rfl⟩:=h))<;>(try subst h)
 ·exact .int _ _
 ·exact .bool _
 ·exact .str _
 ·exact .nilp
 ·exact .nilf
 ·exact .nilm
abbrev Ac:=List (Nat×List Value)
def U8 (GL:Ac) (n:Nat) (cs:List V):Bool:=GL.any λp=>p.1==n&&Ap H1 p.2 cs
def L5:Value→V→Bool
 | .slice none 0 0,.list []=>true
 |v,x=>H1 v x
theorem Q5 {x:V} (h:L5 v x=true):RepV g x v:=by
 unfold L5 at h;split at h
 ·exact .lnil
 ·exact Fe h
theorem Q6 {x:V} (h:L5 v x=true):v.oneCell'=true:=by
 unfold L5 at h;split at h
 ·rfl
 ·exact Gv h
def oe (GL:Ac):Operand→Opd→Bool
 | .tmp n,.t n' _=>n==n'
 | .const (.agg cs),.c (.v (.agg xs))=>Ap L5 cs.toList xs
 | .const v,.c d=>F3 v d
 | .func f,.c (.v (.func f' []))=>f==f'
 | .global n,.g n' cs=>n==n'&&U8 GL n cs
 |_,_=>false
variable {d:D}
theorem Lg {GL:Ac} (h:oe GL (.const v) (.c d)=true):F3 v d=true∨∃cs xs,v= .agg cs∧d= .v (.agg xs):=by
 unfold oe at h;split at h
 ·rename_i h1 _;cases h1
 ·rename_i h1 h2;cases h1;cases h2;exact .inr ⟨_,_,rfl,rfl⟩
 ·rename_i h1 h2;cases h1;cases h2;exact .inl h
 ·rename_i h1 _;cases h1
 ·rename_i h1 _;cases h1
 ·cases h
def GlobOK (GL:Ac) (g:Gh):Prop:=∀p∈GL,g.at p.1 0 p.2
theorem RepOwn.list {g:Gh} {w:World} {e s:Nat} {xs:List V} {u:Value} (h:RepOwn g w e s xs u):RepV g (.list xs) u:=by
 rcases h with ⟨a,rfl,rfl,hs⟩|⟨b,cap,cur,vs,rfl,h0,hb,hl,hs,hr,hz,hf⟩
 ·cases a with
  |none=>exact .lnil
  |some a=>exact .list [] a 0 0 (λ_=> .bool true) (hs a rfl) (qM _) (by simp) (by simp)
 ·exact .list xs ⟨b,0,none⟩ cap s vs rfl hl hr λi hi=>by simpa using hz i hi
theorem RepNil.list {g:Gh} {u:Value} (h:∃a:Option Addr,u= .slice a 0 0∧∀x,a=some x→x.spot=none):RepV g (.list []) u:=by
 obtain⟨a,rfl,hs⟩:=h;cases a with
 |none=>exact .lnil
 |some a=>exact .list [] a 0 0 (λ_=> .bool true) (hs a rfl) (qM _) (by simp) (by simp)
theorem RepD.copy {g:Gh} {w:World} {μ:List Nat} {d:D} {u:Value} (h:RepD g w μ d u):RepD g w μ d.copy u:=by
 cases d<;>simp only[D.copy]<;>first
  |exact h
  |exact RepOwn.list h.1
  |trivial
theorem CR (d:D) (u:Value) (k:Nat):Ak d.copy u k=none:=by
 cases d<;>cases k<;>simp[D.copy,Ak,Ae]
theorem Jv (d:D) (u:Value):Ae d.copy u=none:=by cases d<;>simp[D.copy,Ae]
variable {q:Opd} {p:Operand}
section
variable {GL:Ac} {g:Gh} {w:World} {μ:List Nat} {e:CH} {a:Act}
theorem aS (hr:∀n,RepD g w μ (AF e n) (a.tmps.getD n undef)) (hG:GlobOK GL g) (h:oe GL p q=true):RepD g w μ (q.ev e) (a.eval p):=by
 unfold oe at h;split at h
 ·simp at h;subst h;simp only[Opd.ev,Act.eval];split
  ·exact hr _
  ·exact(hr _).copy
 ·rename_i cs xs;simp only[Opd.ev,Act.eval];have h2:All2 (RepV g) xs cs.toList:=Cm (λ_ _=>Q5) h;have h3:=Cm (R:=λ_ v=>v.oneCell'=true) (λ_ _=>Q6) h;refine RepV.agg' (vs:=cs.toList) h2 λv hv=>?_;obtain⟨i,hi,rfl⟩:=sO.1 hv;have hi':i <xs.length:=h3.1▸hi;exact h3.2 i _ _ (qH hi') (qH hi)
 ·rename_i v d _;simp only[Opd.ev,Act.eval];unfold F3 at h;split at h
  ·exact⟨none,rfl,by simp⟩
  ·exact⟨.inl ⟨none,rfl,rfl,by simp⟩,λ_ _=>⟨none,rfl⟩⟩
  ·exact Fe h
  ·cases h
 ·simp at h;subst h;exact RepV.func _ [] [] rfl (by simp)
 ·simp only[qI,beq_iff_eq]at h;obtain⟨rfl,h⟩:=h;simp only[U8,sT,qI,beq_iff_eq]at h;obtain⟨p,hp,rfl,hz⟩:=h;have h2:All2 (RepV g) _ p.2:=Cm (λ_ _=>Fe) hz;refine RepV.ptr _ ⟨p.1,0,none⟩ p.2 rfl h2.1 h2.2 ?_ (hG p hp);have h3:=Cm (R:=λ_ v=>v.oneCell'=true) (λ_ _=>Gv) hz;intro v hv;obtain⟨i,hi,rfl⟩:=sO.1 hv;have hi':i <_:=h3.1▸hi;exact h3.2 i _ _ (qH hi') (qH hi)
 ·cases h
end
def Ba (P:Program) (t n:Nat):Bool:=((P.info? t).map (·.size))==some n
def H8 (P:Program) (t:Nat) (ag:Bool):Bool:=
 match P.underlying t with
 |some (.struct _)|some (.array _ _)=>ag
 |some _=> !ag
 |none=>false
def IP (P:Program) (t i off n:Nat):Bool:=
 match P.underlying t with
 |some (.struct fs)=>match fs[i]? with
  |some f=>f.offset==off&&Ba P f.type n
  |none=>false
 |_=>false
def OC (P:Program) (t i:Nat) (ag:Bool):Bool:=
 match P.underlying t with
 |some (.struct fs)=>match fs[i]? with
  |some f=>H8 P f.type ag
  |none=>false
 |_=>false
def iQ (P:Program) (t e s:Nat):Bool:=
 match P.underlying t with
 |some (.slice e')=>e==e'&&Ba P e s
 |_=>false
def OO (P:Program) (t len s:Nat):Bool:=
 match P.underlying t with
 |some (.array len' e)=>len==len'&&Ba P e s&&decide (2≤len)
 |_=>false
def GW (P:Program) (t:Nat) (zs:List D):Bool:=
 match (P.info? t).bind (·.zero)with
 |some z=>Ap F3 z.cells.toList zs
 |none=>false
def Fm (P:Program) (t:Nat) (f:TypeDesc→Bool):Bool:=
 match P.underlying t with
 |some d=>f d
 |none=>false
def L4:Value→D→Bool
 | .slice none 0 0,.nil _ _=>true
 |v,.v x=>H1 v x
 |_,_=>false
def NY (P:Program) (t:Nat) (zs:List D):Bool:=
 match (P.info? t).bind (·.zero)with
 |some z=>Ap L4 z.cells.toList zs
 |none=>false
def HU (P:Program) (GL:Ac) (t:Nat) (ps:List (Nat×Operand)) (qs:List (Nat×Nat×Opd)):Bool:=
 match P.underlying t with
 |some (.struct fs)=>match fs.toList.mapM (λf=>(P.info? f.type).map λi=>(f.offset,i.size))with
  |some places=>Ap (λp q=>oe GL p.2 q.2.2&&places[p.1]?==some (q.1,q.2.1)) ps qs
  |none=>false
 |some (.array _ el)=>match P.info? el with
  |some i=>Ap (λp q=>oe GL p.2 q.2.2&&some (p.1*i.size,i.size)==some (q.1,q.2.1)) ps qs
  |none=>false
 |_=>false
def JN {α:Type} (l:List α) (p:α→Bool):Bool:=match l with|[x]=>p x|_=>false
def HF {α:Type} (l:List α) (p:α→α→Bool):Bool:=match l with|[x,y]=>p x y|_=>false
def E9 (P:Program) (t s:Nat):Bool:=match P.underlying t with|some (.slice e)=>Ba P e s|_=>false
def Hn (P:Program) (t k:Nat):Bool:=
 match P.underlying t,k with
 |some (.int _),0=>true
 |some .bool,1=>true
 |some .string,2=>true
 |_,_=>false
def CA (P:Program):Nat→List Field→List Nat→Bool
 |_,[],[]=>true
 |i,f::fs,k::ks=>f.offset==i&&f.name != "_" &&Hn P f.type k&&CA P (i+1) fs ks
 |_,_,_=>false
def Hx (P:Program) (t:Nat) (ks:List Nat):Bool:=
 match P.underlying t with
 |some (.struct fs)=> !P.stoodInHeld t&& !P.eqGuardType P.depth t&&CA P 0 fs.toList ks
 |_=>false
def Ed (P:Program):Nat→List Field→List Nat→Bool
 |_,[],ks=>ks.isEmpty
 |i,f::fs,ks=>f.offset==i&&f.name != "_" &&(match P.underlying f.type with
  |some (.struct sub)=> !P.stoodInHeld f.type&&Ba P f.type sub.size&&CA P 0 sub.toList (ks.take sub.size)&&Ed P (i+sub.size) fs (ks.drop sub.size)
  |_=>match ks with
   |k::ks=>Hn P f.type k&&Ed P (i+1) fs ks
   |[]=>false)
def OD (P:Program) (t:Nat) (ks:List Nat):Bool:=
 match P.underlying t with
 |some (.struct fs)=> !P.stoodInHeld t&& !P.eqGuardType P.depth t&&Ed P 0 fs.toList ks
 |_=>false
def E7 (P:Program) (kt:Nat) (st:Bool) (ks:List Nat):Bool:=
 if st then Hx P kt ks else (match ks with|[k]=>Hn P kt k|_=>false)
def R5 (P:Program) (el:Nat) (zs:List D) (ag:Bool):Bool:=
 match (P.info? el).bind (·.zero)with
 |some (.agg cs)=>ag&&Ap L4 cs.toList zs
 |some v=> !ag&&(match zs with|[z]=>L4 v z|_=>false)
 |none=>false
def Vj (P:Program) (GL:Ac):Op→PI→Bool
 | .pick c a b,.pick c' a' b'=>oe GL c c'&&oe GL a a'&&oe GL b b'
 | .load t a,.load a' n ag=>oe GL a a'&&Ba P t n&&H8 P t ag&&(ag||n==1)
 | .nilCheck x,.nilc x'=>oe GL x x'
 | .binOp op _ x y _,.bin op' x' y'=>(op==op')&&oe GL x x'&&oe GL y y'
 | .binOp op t x y _,.eqB ne x' y'=>(op==if ne then .neq else .eql)&&Fm P t (λ| .bool=>true|_=>false)&&oe GL x x'&&oe GL y y'
 | .binOp op t x y _,.eqP ne x' y'=>(op==if ne then .neq else .eql)&&Fm P t (λ| .pointer _=>true|_=>false)&&oe GL x x'&&oe GL y y'
 | .binOp op t x y _,.eqA ne ks x' y'=>(op==if ne then .neq else .eql)&&(Hx P t ks||OD P t ks)&&oe GL x x'&&oe GL y y'
 | .unOp op _ x,.not x'=>(op== .not)&&oe GL x x'
 | .unOp op _ x,.neg x'=>(op== .neg)&&oe GL x x'
 | .unOp op _ x,.inv x'=>(op== .xor)&&oe GL x x'
 | .convert s d x,.cint k x'=>Fm P s (λ| .int _=>true|_=>false)&&Fm P d (λ| .int k'=>k==k'|_=>false)&&oe GL x x'
 | .fieldAddr t x i,.faddr x' off n=>IP P t i off n&&decide (0 <n)&&oe GL x x'
 | .field t x i,.fld x' off n ag=>IP P t i off n&&OC P t i ag&&(ag||n==1)&&oe GL x x'
 | .indexAddr t x i,.iaddr x' i' s=>E9 P t s&&oe GL x x'&&oe GL i i'
 | .indexAddr t x i,.iaddrP x' i' s=>E9 P t s&&oe GL x x'&&oe GL i i'
 | .indexAddr t x i,.iaddrA x' i' len s=>OO P t len s&&oe GL x x'&&oe GL i i'
 | .index t x i,.idxS x' i'=>Fm P t (λ| .string=>true|_=>false)&&oe GL x x'&&oe GL i i'
 | .extract t i,.ext t' i'=>oe GL t t'&&i==i'
 | .makeFunc (.func f) first caps,.mkf f' caps'=>f==f'&&first.isEmpty&&Ap (oe GL) caps.toList caps'
 | .makeFunc (.func f) first caps,.mkme f' caps'=>f==f'&&caps.isEmpty&&Ap (oe GL) first.toList caps'
 | .index t x i,.idxA x' i' n s ag=>(match P.underlying t with|some (.array n' e)=>n'==n&&Ba P e s&&H8 P e ag&&(ag||s==1)|_=>false)&&oe GL x x'&&oe GL i i'
 | .call {callee:= .builtin .len,args,argTypes},.alen x'=>JN args.toList (λx=>oe GL x x')&&JN argTypes.toList (λt=>Fm P t (λ| .slice _=>true|_=>false))
 | .call {callee:= .builtin .len,args,argTypes},.lenS x'=>JN args.toList (λx=>oe GL x x')&&JN argTypes.toList (λt=>Fm P t (λ| .string=>true|_=>false))
 | .call {callee:= .builtin .max,args,..},.minmax true x' y'=>HF args.toList (λx y=>oe GL x x'&&oe GL y y')
 | .call {callee:= .builtin .min,args,..},.minmax false x' y'=>HF args.toList (λx y=>oe GL x x'&&oe GL y y')
 | .slice t x lo hi mx,.slc x' lo' hi' s=>E9 P t s&&oe GL x x'&&mx.isNone&&
   Ap (oe GL) lo.toList lo'.toList&&Ap (oe GL) hi.toList hi'.toList
 | .slice t x lo hi mx,.slcS x' lo' hi'=>Fm P t (λ| .string=>true|_=>false)&&oe GL x x'&&mx.isNone&&Ap (oe GL) lo.toList lo'.toList&&Ap (oe GL) hi.toList hi'.toList
 | .slice t x lo hi mx,.slc0 x' el s=>(match P.underlying t with|some (.slice e)=>e==el&&Ba P e s|_=>false)&&oe GL x x'&&lo.isNone&&(match hi,mx with|some (.const (.int _ 0)),some (.const (.int _ 0))=>true|_,_=>false)
 | .convert s d x,.b2s x'=>Fm P d (λ| .string=>true|_=>false)&&(match P.underlying s with|some (.slice e)=>Fm P e (λ| .int .u8=>true|_=>false)|_=>false)&&oe GL x x'
 | .lookup t x i ok',.look m k st ks zs ag ok=>(match P.underlying t with|some (.map kt el)=>E7 P kt st ks&&R5 P el zs ag|_=>false)&&oe GL x m&&oe GL i k&&ok'==ok
 | .call {callee:= .builtin .len,args,argTypes},.mlen x'=>JN args.toList (λx=>oe GL x x')&&JN argTypes.toList (λt=>Fm P t (λ| .map _ _=>true|_=>false))
 | .build t ps,.build zs ps'=>NY P t zs&&HU P GL t ps.toList ps'
 |_,_=>false
structure Gd (P:Program) (GL:Ac) (g:Gh) (w:World) (μ:List Nat) (e:CH) (a:Act) (h:List Row) (O:Nat→Prop):Prop where
 inv:Inv g w μ (AF e) (λn=>a.tmps.getD n undef) h O
 glob:GlobOK GL g
def Ch (P:Program) (GL:Ac) (op:Op) (pi:PI):Prop:=
 ∀ {g:Gh} {w:World} {μ:List Nat} {e:CH} {a:Act} {h:List Row} {O:Nat→Prop} {x:D},Gd P GL g w μ e a h O→pi.val e h=some x→
  ∀o:Oper,o.op=op→∃v,(execOp a.eval o).run P w= .ok (.value v) w∧RepD g w μ x v∧∀k,Ak x v k=none
variable {μ:List Nat} {w:World} {b n off r t:Nat} {vs:List Value} {cs:List V} {u:Value} {ds:List D} {O:Nat→Prop} {h:List Row}
section
variable {P:Program} {GL:Ac}
theorem Gd.ev {g:Gh} {w:World} {μ:List Nat} {e:CH} {a:Act} {h:List Row} {O:Nat→Prop} (hd:Gd P GL g w μ e a h O) {p:Operand} {q:Opd} (hk:oe GL p q=true):
  RepD g w μ (q.ev e) (a.eval p):=aS hd.inv.rep hd.glob hk
theorem CM (x:V) (v:Value) (k:Nat):Ak (.v x) v k=none:=by cases k<;>simp[Ak,Ae]
theorem GE {b:Bool} (h:RepD g w μ (.v (.bool b)) v):v= .bool b:=by cases h;rfl
theorem FA {k:IntKind} {n:Int} (h:RepD g w μ (.v (.int k n)) v):v= .int k n:=by cases h;rfl
theorem Gb {s:ByteArray} (h:RepD g w μ (.v (.str s)) v):v= .string s:=by cases h;rfl
theorem Wm {c a b:Operand} {c' a' b':Opd} (hc:oe GL c c'=true) (ha:oe GL a a'=true) (hb:oe GL b b'=true):Ch P GL (.pick c a b) (.pick c' a' b'):=by
 intro g w μ e act h O x hd hx o ho;have h1:=hd.ev hc;simp only[PI.val]at hx;split at hx
 ·rename_i t ht;rw[ht]at h1;have h2:=GE h1;simp only[qF]at hx;subst hx;cases t with
  |true=>exact⟨act.eval a,by simp[execOp,ho,h2,asBool],(hd.ev ha).copy,λk=>CR _ _ _⟩
  |false=>exact⟨act.eval b,by simp[execOp,ho,h2,asBool],(hd.ev hb).copy,λk=>CR _ _ _⟩
 ·cases hx
theorem IG {ag:Bool} (h:H8 P t ag=true):(isAgg t).run P w= .ok ag w:=by
 unfold H8 at h;split at h<;>simp_all [isAgg,run_underlying]
theorem Bb (h:Ba P t n=true):(sizeOf t).run P w= .ok n w:=by
 simp only[Ba,beq_iff_eq,qQ]at h;obtain⟨i,hi,rfl⟩:=h;simp[sizeOf,typeInfo,hi]
theorem Cv {a:Addr} (hs:a.spot=none) (n:Nat):a.add n=⟨a.block,a.off+n,none⟩:=by
 unfold Addr.add;split
 ·subst_vars;cases a;simp_all
 ·cases a;simp_all
theorem HW {ag:Bool} (hs:Ba P t n=true) (hg:H8 P t ag=true) {a:Addr} (ha:a.spot=none) (hn:n≤vs.length)
  (hc:∀i v,vs[i]?=some v→w.cell? ⟨a.block,a.off+i,none⟩=some v) (h1:ag=false→n=1):
  (loadVar t a).run P w= .ok (if ag then .agg (vs.take n).toArray else (vs[0]?.getD undef)) w:=by
 cases ag with
 |true=>
  have hl:=run_loadCells_list (P:=P) w a (vs.take n) (λj v hv=>by
   rw[Cv ha];rw[qu]at hv;split at hv
   ·exact hc j v hv
   ·cases hv)
  rw[qv,tR hn]at hl;simp[loadVar,IG hg,Bb hs,hl]
 |false=>
  have hn1:=h1 rfl;subst hn1;have h0:vs[0]?=some vs[0]:=qH _;have:=hc 0 _ h0;have e:(⟨a.block,a.off+0,none⟩:Addr)=a:=by cases a;simp_all
  rw[e]at this;simp[loadVar,IG hg,this,h0]
theorem V6 (hag:∀b o v,g.m b o=some v→w.cell? ⟨b,o,none⟩=some v) {o:Nat} (h:g.at b o vs):
  ∀(i:Nat) v,vs[i]?=some v→w.cell? ⟨b,o+i,none⟩=some v:=λi v hv=>hag _ _ _ (h i v hv)
theorem LZ (ha:All2 (RepV g) cs vs) (h1:∀v∈vs,v.oneCell'=true) {ag:Bool} {y:V}
  (hy:V.part cs off n ag=some y):RepD g w μ (.v y) (if ag then .agg ((vs.drop off).take n).toArray else (vs[off]?.getD undef))∧off+n≤vs.length:=by
 unfold V.part at hy;split at hy
 ·rename_i hl;refine⟨?_,by rw[ha.1];exact hl⟩;cases ag with
  |true=>
   simp only[if_true,qF]at hy ⊢;subst hy;exact RepV.agg' ((ha.drop off).take n) λv hv=>h1 v (rh (rK hv))
  |false=>
   simp only[qY,if_false]at hy ⊢;obtain⟨v,hv,hr⟩:=ha.get hy;simp only[hv,qd];exact hr
 ·cases hy
theorem RepE.copy {g:Gh} {w:World} {μ:List Nat} {d:D} {u:Value} (h:RepE g w μ d u):RepE g w μ d.copy u:=by
 cases d<;>simp only[D.copy]<;>first
  |exact h
  |exact RepOwn.list h.1
  |trivial
theorem RepE.toG (h:RepE g w μ d u):RepG g w μ d u:=by
 cases d<;>first
  |exact h
  |exact h.elim
theorem RepG.toD (h:RepG g w μ d u):RepD g w μ d u:=by
 cases d<;>first
  |exact h
  |exact h.elim
theorem All2.map_left {α β γ:Type} {R:α→β→Prop} {S:γ→β→Prop} {f:α→γ} (hf:∀x y,R x y→S (f x) y) {xs:List α} {ys:List β} (h:All2 R xs ys):All2 S (xs.map f) ys:=by
 refine⟨by simp[h.1],λi x y hx hy=>?_⟩;simp only[qZ,qQ]at hx;obtain⟨x',hx',rfl⟩:=hx;exact hf _ _ (h.2 i x' y hx' hy)
theorem KF {cs:List D} (ha:All2 (RepE g w μ) cs vs) (h1:∀v∈vs,v.oneCell'=true) {ag:Bool} {y:D}
  (hy:D.part cs off n ag=some y):RepD g w μ y (if ag then .agg ((vs.drop off).take n).toArray else (vs[off]?.getD undef))∧off+n≤vs.length∧∀u k,Ak y u k=none:=by
 unfold D.part at hy;split at hy
 ·rename_i hl;refine⟨?_,by rw[ha.1];exact hl,?_⟩
  ·cases ag with
   |true=>
    simp only[if_true,qF]at hy ⊢;subst hy;refine⟨_,rfl,(All2.map_left (S:=RepE g w μ) (f:=D.copy) (λ_ _ h=>RepE.copy h) ((ha.drop off).take n)),λv hv=>h1 v (rh (rK hv)),?_⟩;intro d hd v;simp only[qX]at hd;obtain⟨d',_,rfl⟩:=hd;exact Jv _ _
   |false=>
    simp only[qY,if_false,qQ]at hy ⊢;obtain⟨y',hy',rfl⟩:=hy;obtain⟨v,hv,hr⟩:=ha.get hy';simp only[hv,qd];exact hr.copy.toG.toD
  ·intro u k;cases ag with
   |true=>simp only[if_true,qF]at hy;subst hy;cases k<;>simp[Ak,Ae]
   |false=>
    simp only[qY,if_false,qQ]at hy;obtain⟨y',hy',rfl⟩:=hy;exact CR _ _ _
 ·cases hy
theorem JI (h:RepD g w μ (.v (.ptr cs)) u):
  ∃(a:Addr) (vs:List Value),u= .pointer (some a)∧a.spot=none∧All2 (RepV g) cs vs∧(∀v∈vs,v.oneCell'=true)∧g.at a.block a.off vs:=by
 cases h with
 |ptr _ a vs hs hl hr h1 ha=>exact⟨a,vs,rfl,hs,⟨hl,hr⟩,h1,ha⟩
theorem Inv.row {t:Nat→D} {u:Nat→Value} (hi:Inv g w μ t u h O) (hb:μ[r]?=some b)
  (hr:h[r]?=some (.cells ds)):∃(vs:List Value) (T:TypeId),w.heap[b]?=some (.cells vs.toArray T (0,0))∧All2 (RepE g w μ) ds vs∧(∀v∈vs,v.oneCell'=true)∧∀o,g.m b o=none:=
 hi.rows r _ b hr hb
theorem Sh {T:TypeId} (hb:w.heap[b]?=some (.cells vs.toArray T (0,0))) (off:Nat):
  ∀(i:Nat) v,(vs.drop off)[i]?=some v→w.cell? ⟨b,off+i,none⟩=some v:=by
 intro i v hv;rw[rm]at hv;simp[World.cell?,hb,hv]
theorem Nu {a:Operand} {a':Opd} {ag:Bool} (ha:oe GL a a'=true) (hs:Ba P t n=true) (hg:H8 P t ag=true) (h1:(ag||n==1)=true):
  Ch P GL (.load t a) (.load a' n ag):=by
 intro g w μ e act h O x hd hx o ho;have hr:=hd.ev ha;have hn1:ag=false→n=1:=by intro h;simpa[h]using h1
 simp only[PI.val]at hx;split at hx
 ·rename_i cs hc;rw[hc]at hr;obtain⟨ad,vs,hu,hsp,hall,hone,hat⟩:=JI hr;simp only[qQ]at hx;obtain⟨y,hy,rfl⟩:=hx;obtain⟨hrep,hlen⟩:=LZ (w:=w) (μ:=μ) hall hone hy;have hl:=HW (w:=w) hs hg hsp (vs:=vs) (by simpa using hlen) (V6 hd.inv.agree hat) hn1;refine⟨if ag then .agg (vs.take n).toArray else (vs[0]?.getD undef),?_,?_,λk=>CM _ _ _⟩
  ·simp[execOp,ho,hu,Instr.loadAt,Instr.sureAddr,hl]
  ·simpa using hrep
 ·rename_i r off hc;rw[hc]at hr;obtain⟨b,hb,hu⟩:=hr;split at hx
  ·rename_i ds hrow;obtain⟨vs,T,hheap,hall,hone,_⟩:=hd.inv.row hb hrow;obtain⟨hrep,hlen,hown⟩:=KF hall hone hx;have hl:=HW (P:=P) (w:=w) hs hg (a:=⟨b,off,none⟩) rfl (vs:=vs.drop off) (by simp;omega) (Sh hheap off) hn1;refine⟨if ag then .agg ((vs.drop off).take n).toArray else (vs[off]?.getD undef),?_,hrep,λk=>hown _ _⟩;simp[execOp,ho,hu,Instr.loadAt,Instr.sureAddr,hl,rm]
  ·cases hx
 ·cases hx
end
theorem v?_rep (h:RepE g w μ d u) {x:V} (hx:d.v?=some x):RepV g x u:=by
 cases d<;>simp only[D.v?,qF,reduceCtorEq]at hx<;>subst hx
 ·exact h
 ·exact RepNil.list h
 ·exact RepOwn.list h.1
theorem vs?_rep {g:Gh} {R:D→Value→Prop} (hR:∀d u x,R d u→d.v?=some x→RepV g x u):∀ {ds:List D} {us:List Value} {xs:List V},All2 R ds us→D.vs? ds=some xs→All2 (RepV g) xs us
 |[],us,xs,h,hx=>by
  simp only[D.vs?,qF]at hx;subst hx;have:=rU h.1;subst this;exact .nil
 |d::ds,[],xs,h,_=>by simp[All2]at h
 |d::ds,u::us,xs,h,hx=>by
  rw[All2.cons_iff]at h;simp only[D.vs?]at hx;split at hx
  ·rename_i y ys hy hys;simp only[qF]at hx;subst hx;exact .cons (hR _ _ _ h.1 hy) (vs?_rep hR h.2 hys)
  ·cases hx
theorem ZW (h:RepC g μ d u) {x:V} (hx:d.v?=some x):RepV g x u:=by
 cases d<;>simp only[D.v?,qF,reduceCtorEq]at hx<;>subst hx<;>first|exact h|exact h.elim
theorem Cs (h:RepD g w μ d u) {x:V} (hx:d.toV=some x):RepV g x u:=by
 cases d with
 |agg ds=>
  simp only[D.toV,qQ]at hx;obtain⟨xs,hxs,rfl⟩:=hx;obtain⟨vs,rfl,ha,h1,_⟩:=h;exact RepV.agg' (vs?_rep (λ_ _ _ h hx=>v?_rep h hx) ha hxs) h1
 |func f caps=>
  simp only[D.toV,qQ]at hx;obtain⟨xs,hxs,rfl⟩:=hx;obtain⟨vs,rfl,ha⟩:=h;have:=vs?_rep (λ_ _ _ h hx=>ZW h hx) ha hxs;exact RepV.func f xs vs this.1 this.2
 |v x'=>exact v?_rep (μ:=μ) (w:=w) (d:= .v x') h hx
 |any=>simp[D.toV,D.v?]at hx
 |nil e s=>exact v?_rep (μ:=μ) (w:=w) (d:= .nil e s) h hx
 |own e s xs=>exact v?_rep (μ:=μ) (d:= .own e s xs) h hx
 |tup ds=>simp[D.toV,D.v?]at hx
 |ref r o=>simp[D.toV,D.v?]at hx
 |sref r n=>simp[D.toV,D.v?]at hx
 |mref r=>simp[D.toV,D.v?]at hx
 |meth f caps=>simp[D.toV,D.v?]at hx
 |yld r=>simp[D.toV,D.v?]at hx
 |pend b e s xs=>simp[D.toV,D.v?]at hx
 |pptr b s n=>simp[D.toV,D.v?]at hx
end
section
variable {u:Value} {d:D} {μ:List Nat} {w:World} {g:Gh} {x' y':Opd} {x y:Operand} {el t:Nat}
section
variable {P:Program} {GL:Ac}
theorem K4 (r o:Nat) (v:Value) (k:Nat):Ak (.ref r o) v k=none:=by cases k<;>simp[Ak,Ae]
theorem Sz (h:RepD g w μ d u) {b:Bool} (hb:d.isNil=some b):
  (b=true∧(u= .pointer none∨u= .nilFunc∨u= .map none))∨(b=false∧((∃a,u= .pointer (some a))∨(∃f vs,u= .func (.func f) #[] vs)∨(∃r,u= .map (some r)))):=by
 unfold D.isNil at hb;split at hb<;>simp only[qF,reduceCtorEq]at hb<;>subst hb
 ·cases h;exact .inl ⟨rfl,.inl rfl⟩
 ·cases h;exact .inl ⟨rfl,.inr (.inl rfl)⟩
 ·cases h;exact .inl ⟨rfl,.inr (.inr rfl)⟩
 ·obtain⟨a,vs,rfl,_⟩:=JI h;exact .inr ⟨rfl,.inl ⟨a,rfl⟩⟩
 ·cases h;exact .inr ⟨rfl,.inr (.inl ⟨_,_,rfl⟩)⟩
 ·obtain⟨b,_,rfl⟩:=h;exact .inr ⟨rfl,.inl ⟨_,rfl⟩⟩
 ·obtain⟨vs,rfl,_⟩:=h;exact .inr ⟨rfl,.inr (.inl ⟨_,_,rfl⟩)⟩
 ·obtain⟨b,_,rfl⟩:=h;exact .inr ⟨rfl,.inr (.inr ⟨_,rfl⟩)⟩
theorem Ww (hk:oe GL x x'=true):Ch P GL (.nilCheck x) (.nilc x'):=by
 intro g w μ e act h O y hd hx o ho;have hr:=hd.ev hk;simp only[PI.val]at hx;split at hx
 ·rename_i hn;simp only[qF]at hx;subst hx;refine⟨act.eval x,?_,hr.copy,λk=>CR _ _ _⟩;rcases Sz hr hn with ⟨h,_⟩|⟨_,⟨a,hu⟩|⟨f,vs,hu⟩|⟨r,hu⟩⟩
  ·cases h
  ·simp[execOp,ho,hu]
  ·simp[execOp,ho,hu]
  ·simp[execOp,ho,hu]
 ·cases hx
theorem EM {op:BinOp} {a b:Value} (h:(∀cs,a≠ .agg cs)∧a≠ .nilIface):(eqGuard op t x y a b).run P w= .ok () w:=by
 cases a<;>first
  |exact absurd rfl h.2
  |exact absurd rfl (h.1 _)
  |(cases op<;>rfl)
theorem bj {op:BinOp} {t s:Nat} {x y:Operand} {x' y':Opd} (hx':oe GL x x'=true) (hy':oe GL y y'=true):Ch P GL (.binOp op t x y s) (.bin op x' y'):=by
 intro g w μ e act h O d hd hx o ho;have hr1:=hd.ev hx';have hr2:=hd.ev hy';simp only[PI.val]at hx;split at hx
 ·rename_i a b ha hb;rw[ha]at hr1;rw[hb]at hr2;simp only[qQ]at hx;obtain⟨z,hz,rfl⟩:=hx
  suffices hs:∃v,(eqGuard op t x y (act.eval x) (act.eval y)).run P w= .ok () w∧(binOp op t (act.eval x) (act.eval y)).run P w= .ok v w∧RepV g z v by
   obtain⟨v,h1,h2,h3⟩:=hs;exact⟨v,by simp[execOp,ho,h1,h2],h3,λk=>CM _ _ _⟩
  unfold V.bin at hz;split at hz
  ·rename_i k a k' b;have e1:=FA hr1;have e2:=FA hr2;rw[e1,e2];have hg:(eqGuard op t x y (.int k a) (.int k' b)).run P w= .ok () w:=EM ⟨by simp,by simp⟩;cases op<;>simp only[]at hz
   case shl=>
    split at hz
    ·rename_i h0;simp only[qF]at hz;subst hz;exact⟨_,hg,by simp[binOp,Op.shift,show ¬b <0 by omega],.int _ _⟩
    ·cases hz
   case shr=>
    split at hz
    ·rename_i h0;simp only[qF]at hz;subst hz;exact⟨_,hg,by simp[binOp,Op.shift,show ¬b <0 by omega],.int _ _⟩
    ·cases hz
   all_goals
    split at hz
    ·rename_i hkk;subst hkk
     first
      |(cases hz;done)
      |(simp only[qF]at hz;subst hz
        first
         |(refine⟨_,hg,?_,.int _ _⟩;first|(simp[binOp,Op.intArith];done)|(unfold binOp;simp only[ne_eq,not_true_eq_false,if_false];rfl))
         |(refine⟨_,hg,?_,.bool _⟩;simp[binOp,Op.intCmp];done))
      |(split at hz
        ·cases hz
        ·rename_i h0;simp only[qF]at hz;subst hz;refine⟨_,hg,?_,.int _ _⟩;simp[binOp,Op.intDiv,h0])
    ·cases hz
  ·rename_i a b;have e1:=Gb hr1;have e2:=Gb hr2;rw[e1,e2];have hg:(eqGuard op t x y (.string a) (.string b)).run P w= .ok () w:=EM ⟨by simp,by simp⟩;cases op<;>simp only[reduceCtorEq,qF]at hz<;>subst hz
   ·exact⟨_,hg,by simp[binOp,Op.stringOp],.bool _⟩
   ·exact⟨_,hg,by simp[binOp,Op.stringOp],.bool _⟩
  ·cases hz
 ·cases hx
theorem GB {x y:Value} {r:Bool} (h:∀d,(Op.equalIn (d+1) t x y).run P w= .ok r w):(Op.equal t x y).run P w= .ok r w:=h 9999
theorem Jq (d:Nat) (hu:P.underlying t=some .bool) (a b:Bool):(Op.equalIn (d+1) t (.bool a) (.bool b)).run P w= .ok (a==b) w:=by
 simp[Op.equalIn,run_underlying hu]
theorem EW (d:Nat) (hu:P.underlying t=some (.pointer el)) (b:Option Addr):
  (Op.equalIn (d+1) t (.pointer none) (.pointer b)).run P w= .ok b.isNone w:=by
 simp[Op.equalIn,run_underlying hu]
theorem Jp (d:Nat) (hu:P.underlying t=some (.pointer el)) (a:Addr):
  (Op.equalIn (d+1) t (.pointer (some a)) (.pointer none)).run P w= .ok false w:=by
 simp[Op.equalIn,run_underlying hu]
theorem IT {op:BinOp} {ne:Bool} (h:(op==if ne then BinOp.neq else BinOp.eql)=true):op=if ne then BinOp.neq else BinOp.eql:=by
 cases ne<;>cases op<;>first|rfl|cases h
theorem aU {op:BinOp} {ne:Bool} {s:Nat} (hop:(op==if ne then BinOp.neq else BinOp.eql)=true)
  (ht:Fm P t (λ| .bool=>true|_=>false)=true) (hx':oe GL x x'=true) (hy':oe GL y y'=true):Ch P GL (.binOp op t x y s) (.eqB ne x' y'):=by
 intro g w μ e act h O d hd hx o ho;have hr1:=hd.ev hx';have hr2:=hd.ev hy';simp only[PI.val]at hx;split at hx
 ·rename_i a b ha hb;rw[ha]at hr1;rw[hb]at hr2;have e1:=GE hr1;have e2:=GE hr2;simp only[qF]at hx;subst hx;have hg:(eqGuard op t x y (.bool a) (.bool b)).run P w= .ok () w:=EM ⟨by simp,by simp⟩;have hu:P.underlying t=some .bool:=by
   unfold Fm at ht;split at ht
   ·rename_i d' hd';cases d'<;>simp_all
   ·cases ht
  have heq:(Op.equal t (.bool a) (.bool b)).run P w= .ok (a==b) w:=GB λd=>Jq d hu a b;refine⟨.bool ((a==b) != ne),?_,.bool _,λk=>CM _ _ _⟩;have:=IT hop;subst this;cases ne<;>simp[execOp,ho,e1,e2,binOp,heq]at hg ⊢ <;>simp[hg,heq]
 ·cases hx
theorem aT {op:BinOp} {ne:Bool} {s:Nat} (hop:(op==if ne then BinOp.neq else BinOp.eql)=true)
  (ht:Fm P t (λ| .pointer _=>true|_=>false)=true) (hx':oe GL x x'=true) (hy':oe GL y y'=true):Ch P GL (.binOp op t x y s) (.eqP ne x' y'):=by
 intro g w μ e act h O d hd hx o ho;have hr1:=hd.ev hx';have hr2:=hd.ev hy';have hu:∃el,P.underlying t=some (.pointer el):=by
  unfold Fm at ht;split at ht
  ·rename_i d' hd';cases d'<;>simp_all
  ·cases ht
 obtain⟨el,hu⟩:=hu;have hp:∀ {q:D} {b:Bool} {v:Value},RepD g w μ q v→q.isNilP=some b→(b=true∧v= .pointer none)∨(b=false∧∃a,v= .pointer (some a)):=by
  intro q b v hq hb;unfold D.isNilP at hb;split at hb<;>simp only[qF,reduceCtorEq]at hb<;>subst hb
  ·cases hq;exact .inl ⟨rfl,rfl⟩
  ·obtain⟨a,vs,rfl,_⟩:=JI hq;exact .inr ⟨rfl,a,rfl⟩
  ·obtain⟨b,_,rfl⟩:=hq;exact .inr ⟨rfl,_,rfl⟩
 have hop':=IT hop;subst hop';have fin:∀(r:Bool),(Op.equal t (act.eval x) (act.eval y)).run P w= .ok r w→(∃p1,act.eval x= .pointer p1)→(∃p2,act.eval y= .pointer p2)→
   ∃v,(execOp act.eval o).run P w= .ok (.value v) w∧RepD g w μ (.v (.bool (r != ne))) v∧∀k,Ak (.v (.bool (r != ne))) v k=none:=by
  rintro r hq ⟨p1,h1⟩ ⟨p2,h2⟩;refine⟨.bool (r != ne),?_,.bool _,λk=>CM _ _ _⟩;have hg:∀op,(eqGuard op t x y (.pointer p1) (.pointer p2)).run P w= .ok () w:=λop=>EM ⟨by simp,by simp⟩;rw[h1,h2]at hq;cases ne<;>simp[execOp,ho,h1,h2,hg,binOp,hq]
 simp only[PI.val]at hx;split at hx
 ·rename_i b h1 h2;simp only[qF]at hx;subst hx;rcases hp hr1 h1 with ⟨_,e1⟩|⟨h,_⟩
  ·rcases hp hr2 h2 with ⟨rfl,e2⟩|⟨rfl,a2,e2⟩
   ·exact fin true (by rw[e1,e2];exact GB λd=>EW d hu none) ⟨_,e1⟩ ⟨_,e2⟩
   ·exact fin false (by rw[e1,e2];exact GB λd=>EW d hu (some a2)) ⟨_,e1⟩ ⟨_,e2⟩
  ·cases h
 ·rename_i b h1 h2;simp only[qF]at hx;subst hx;rcases hp hr2 h2 with ⟨_,e2⟩|⟨h,_⟩
  ·rcases hp hr1 h1 with ⟨rfl,e1⟩|⟨rfl,a1,e1⟩
   ·exact fin true (by rw[e1,e2];exact GB λd=>EW d hu none) ⟨_,e1⟩ ⟨_,e2⟩
   ·exact fin false (by rw[e1,e2];exact GB λd=>Jp d hu a1) ⟨_,e1⟩ ⟨_,e2⟩
  ·cases h
 ·cases hx
theorem Zr {op:UnOp} (hop:(op==UnOp.not)=true) (hk:oe GL x x'=true):Ch P GL (.unOp op t x) (.not x'):=by
 intro g w μ e act h O d hd hx o ho;have hr:=hd.ev hk;have:op= .not:=by cases op<;>first|rfl|cases hop
 subst this;simp only[PI.val]at hx;split at hx
 ·rename_i a ha;rw[ha]at hr;simp only[qF]at hx;subst hx;exact⟨_,by simp[execOp,ho,GE hr,Op.unary],.bool _,λk=>CM _ _ _⟩
 ·cases hx
theorem Zu {op:UnOp} (hop:(op==UnOp.neg)=true) (hk:oe GL x x'=true):Ch P GL (.unOp op t x) (.neg x'):=by
 intro g w μ e act h O d hd hx o ho;have hr:=hd.ev hk;have:op= .neg:=by cases op<;>first|rfl|cases hop
 subst this;simp only[PI.val]at hx;split at hx
 ·rename_i k n ha;rw[ha]at hr;simp only[qF]at hx;subst hx;exact⟨.int k (k.wrap (0-n)),by simp[execOp,ho,FA hr,Op.unary,Op.intArith],.int _ _,λk=>CM _ _ _⟩
 ·cases hx
theorem aC {op:UnOp} (hop:(op==UnOp.xor)=true) (hk:oe GL x x'=true):Ch P GL (.unOp op t x) (.inv x'):=by
 intro g w μ e act h O d hd hx o ho;have hr:=hd.ev hk;have:op= .xor:=by cases op<;>first|rfl|cases hop
 subst this;simp only[PI.val]at hx;split at hx
 ·rename_i k n ha;rw[ha]at hr;simp only[qF]at hx;subst hx;exact⟨_,by simp[execOp,ho,FA hr,Op.unary,Op.intBits],.int _ _,λk=>CM _ _ _⟩
 ·cases hx
theorem XG {s:Nat} (h:Fm P s (λ| .int _=>true|_=>false)=true):∃k,P.underlying s=some (.int k):=by
 unfold Fm at h;split at h
 ·rename_i d hd;cases d<;>simp_all
 ·cases h
theorem Xd {s d:Nat} {k:IntKind} (hs:Fm P s (λ| .int _=>true|_=>false)=true) (hd':Fm P d (λ| .int k'=>k==k'|_=>false)=true)
  (hk:oe GL x x'=true):Ch P GL (.convert s d x) (.cint k x'):=by
 intro g w μ e act h O y hd hx o ho;have hr:=hd.ev hk;obtain⟨ks,hs'⟩:=XG hs;have hdd:P.underlying d=some (.int k):=by
  unfold Fm at hd';split at hd'
  ·rename_i d' hd2;cases d'<;>simp_all
  ·cases hd'
 simp only[PI.val]at hx;split at hx
 ·rename_i k' n ha;rw[ha]at hr;simp only[qF]at hx;subst hx;exact⟨_,by simp[execOp,ho,FA hr,convert,run_underlying hs',run_underlying hdd,Conv.intToInt],.int _ _,λk=>CM _ _ _⟩
 ·cases hx
end
end
section
variable {b cap f i len m n off r t:Nat} {u:Value} {μ:List Nat} {w:World} {g:Gh} {vs:List Value} {cs xs:List V} {i' q x' y':Opd} {p x:Operand} {O:Nat→Prop} {h:List Row} {e:CH}
section
variable {P:Program} {GL:Ac}
theorem Kg (h:IP P t i off n=true):∃fs f,P.underlying t=some (.struct fs)∧fs[i]?=some f∧f.offset=off∧Ba P f.type n=true:=by
 unfold IP at h;split at h
 ·rename_i fs hfs;split at h
  ·rename_i f hf;simp only[qI,beq_iff_eq]at h;exact⟨fs,f,hfs,hf,h.1,h.2⟩
  ·cases h
 ·cases h
theorem Rf {o:Nat} (h:RepD g w μ (.ref r o) u):∃b,μ[r]?=some b∧u= .pointer (some ⟨b,o,none⟩):=h
theorem Xq {o:Nat} (h:g.at b o vs) (k n:Nat):g.at b (o+k) ((vs.drop k).take n):=by
 intro i v hv;rw[qu]at hv;split at hv
 ·rw[rm]at hv;have:=h _ v hv
  rwa [show o+(k+i)=o+k+i by omega]at this
 ·cases hv
theorem LP {ad:Addr} (hall:All2 (RepV g) cs vs) (hone:∀v∈vs,v.oneCell'=true) (hat:g.at ad.block ad.off vs)
  (k n:Nat):RepD g w μ (.v (.ptr ((cs.drop k).take n))) (.pointer (some ⟨ad.block,ad.off+k,none⟩)):=by
 have h2:=(hall.drop k).take n;exact RepV.ptr _ ⟨ad.block,ad.off+k,none⟩ ((vs.drop k).take n) rfl h2.1 h2.2 (λv hv=>hone v (rh (rK hv))) (Xq hat k n)
theorem VD (hf:IP P t i off n=true) (h0:decide (0 <n)=true) (hk:oe GL x x'=true):Ch P GL (.fieldAddr t x i) (.faddr x' off n):=by
 intro g w μ e act h O y hd hx o ho;have hr:=hd.ev hk;obtain⟨fs,f,hu,hi,rfl,hsz⟩:=Kg hf;have hn:n≠0:=by simp at h0;omega
 have run:∀ad:Addr,act.eval x= .pointer (some ad)→ad.spot=none→(execOp act.eval o).run P w= .ok (.value (.pointer (some ⟨ad.block,ad.off+f.offset,none⟩))) w:=by
  intro ad hv hs;simp[execOp,ho,hv,Instr.fieldAt,run_underlying hu,hi,Instr.sureAddr,fieldPlace,Bb hsz,hn,Cv hs]
 simp only[PI.val]at hx;split at hx
 ·rename_i cs hc;rw[hc]at hr;obtain⟨ad,vs,hv,hs,hall,hone,hat⟩:=JI hr;split at hx
  ·simp only[qF]at hx;subst hx;exact⟨_,run ad hv hs,LP hall hone hat _ _,λk=>CM _ _ _⟩
  ·cases hx
 ·rename_i r off' hc;rw[hc]at hr;obtain⟨b,hb,hv⟩:=Rf hr;simp only[qF]at hx;subst hx;exact⟨_,run _ hv rfl,⟨b,hb,rfl⟩,λk=>K4 _ _ _ _⟩
 ·cases hx
theorem JA {ag:Bool} (hs:Ba P t n=true) (hg:H8 P t ag=true) (hl:off+n≤vs.length) (h1:ag=false→n=1):
  (part t vs.toArray off).run P w= .ok (if ag then .agg ((vs.drop off).take n).toArray else (vs[off]?.getD undef)) w:=by
 cases ag with
 |true=>
  simp[part,IG hg,Bb hs]
 |false=>
  have:=h1 rfl;subst this;have h0:vs[off]?=some vs[off]:=qH _;simp[part,IG hg,h0]
theorem aO {ag:Bool} (hf:IP P t i off n=true) (hga:OC P t i ag=true) (h1:(ag||n==1)=true) (hk:oe GL x x'=true):
  Ch P GL (.field t x i) (.fld x' off n ag):=by
 intro g w μ e act h O y hd hx o ho;have hr:=hd.ev hk;obtain⟨fs,f,hu,hi,rfl,hsz⟩:=Kg hf;have hg:H8 P f.type ag=true:=by simpa[OC,hu,hi]using hga
 have hn1:ag=false→n=1:=by intro h;simpa[h]using h1
 simp only[PI.val]at hx;split at hx
 ·rename_i cs hc;rw[hc]at hr;obtain⟨vs,hv,hall,hone⟩:=RepV.agg_inv hr;simp only[qQ]at hx;obtain⟨z,hz,rfl⟩:=hx;obtain⟨hrep,hlen⟩:=LZ (w:=w) (μ:=μ) hall hone hz;exact⟨_,by simp[execOp,ho,hv,Instr.field,run_underlying hu,hi,asAgg,JA hsz hg hlen hn1],hrep,λk=>CM _ _ _⟩
 ·rename_i ds hc;rw[hc]at hr;obtain⟨vs,hv,hall,hone,_⟩:=hr;obtain⟨hrep,hlen,hown⟩:=KF hall hone hx;exact⟨_,by simp[execOp,ho,hv,Instr.field,run_underlying hu,hi,asAgg,JA hsz hg hlen hn1],hrep,λk=>hown _ _⟩
 ·cases hx
theorem EL {act:Act} (hd:Gd P GL g w μ e act h O) {i:Operand} (hk:oe GL i i'=true) {k:IntKind} {n:Int}
  (hc:i'.ev e= .v (.int k n)):act.eval i= .int k n:=by
 have:=hd.ev hk;rw[hc]at this;exact FA this
theorem Nf (h:RepV g (.list xs) u) {x:V} (hx:xs[i]?=some x):
  ∃(a:Addr) (cap s:Nat) (vs:List Value),u= .slice (some a) xs.length cap∧a.spot=none∧All2 (RepV g) x.cells vs∧(∀v∈vs,v.oneCell'=true)∧g.at a.block (a.off+i*s) vs∧s=x.cells.length:=by
 have hi:=(qK.1 hx).1;cases h with
 |lnil=>simp at hx
 |list _ a cap s vs hs hc hr hz=>
  have hc2:=(hr i x hx).cells;have hz2:=hz i hi;refine⟨a,cap,s,(vs i).cells.toList,rfl,hs,hc2.1,hc2.2,hz2.2,?_⟩;have:=hc2.1.1;simp at this;omega
theorem U0 {s:Nat} {i:Operand} (ht:E9 P t s=true) (hk:oe GL x x'=true) (hki:oe GL i i'=true):
  Ch P GL (.indexAddr t x i) (.iaddr x' i' s):=by
 intro g w μ e act h O y hd hx o ho;have hr:=(hd.ev hk).copy;have hu:∃el,P.underlying t=some (.slice el)∧Ba P el s=true:=by
  unfold E9 at ht;split at ht
  ·rename_i el hel;exact⟨el,hel,ht⟩
  ·cases ht
 obtain⟨el,hu,hsz⟩:=hu;simp only[PI.val]at hx;split at hx
 ·rename_i xs k n hc hci;rw[hc]at hr;have hiv:=EL hd hki hci;unfold V.getI at hx;split at hx
  ·rename_i z hz;split at hz
   ·rename_i h0;split at hx
    ·rename_i hs;simp only[qF]at hx;subst hx;obtain⟨a,cap,s',vs,hv,hsp,hall,hone,hat,hs'⟩:=Nf hr hz;have hss:s'=s:=by omega
     subst hss;have hi:=(qK.1 hz).1;refine⟨.pointer (some ⟨a.block,a.off+n.toNat*s',none⟩),?_,?_,λk=>CM _ _ _⟩
     ·have hlt:0≤n∧n <(xs.length:Int):=⟨h0,by omega⟩;simp[execOp,ho,hv,hiv,Instr.indexAt,asIntOf,run_underlying hu,hlt,Bb hsz,Cv hsp]
     ·exact RepV.ptr _ ⟨a.block,a.off+n.toNat*s',none⟩ vs rfl hall.1 hall.2 hone hat
    ·cases hx
   ·cases hz
  ·cases hx
 ·rename_i r m k n hc hci;rw[hc]at hr;have hiv:=EL hd hki hci;obtain⟨b,cap,hb,hv,_⟩:=hr;split at hx
  ·rename_i h0;simp only[qF]at hx;subst hx;refine⟨.pointer (some ⟨b,n.toNat*s,none⟩),?_,⟨b,hb,rfl⟩,λk=>K4 _ _ _ _⟩;simp[execOp,ho,hv,hiv,Instr.indexAt,asIntOf,run_underlying hu,h0,Bb hsz];rw[Cv rfl];simp
  ·cases hx
 ·cases hx
theorem S1 {s:Nat} {i:Operand} (ht:E9 P t s=true) (hk:oe GL x x'=true) (hki:oe GL i i'=true):
  Ch P GL (.indexAddr t x i) (.iaddrP x' i' s):=by
 intro g w μ e act h O y hd hx o ho;have hr:=hd.ev hk;have hu:∃el,P.underlying t=some (.slice el)∧Ba P el s=true:=by
  unfold E9 at ht;split at ht
  ·rename_i el hel;exact⟨el,hel,ht⟩
  ·cases ht
 obtain⟨el,hu,hsz⟩:=hu;simp only[PI.val]at hx;split at hx
 ·rename_i b el' s' xs k n hc hci;rw[hc]at hr;have hiv:=EL hd hki hci;split at hx
  ·rename_i hn;obtain⟨⟨rfl,rfl⟩,hpos⟩:=hn;simp only[qF]at hx;subst hx;obtain⟨cap,hv,hcap,_⟩:=hr;refine⟨.pointer (some ⟨b,xs.length*s',none⟩),?_,.inr ⟨hpos,rfl⟩,λk=>by cases k<;>simp[Ak,Ae]⟩
   have hlt:(0:Int)≤xs.length∧(xs.length:Int) <((xs.length+1:Nat):Int):=⟨by omega,by omega⟩;simp[execOp,ho,hv,hiv,Instr.indexAt,asIntOf,run_underlying hu,hlt,Bb hsz]
   try (rw[Cv rfl];simp)
  ·cases hx
 ·rename_i b m k n hc hci;rw[hc]at hr;have hiv:=EL hd hki hci;split at hx
  ·rename_i hn;obtain⟨rfl,hpos⟩:=hn;simp only[qF]at hx;subst hx;obtain⟨_,cap,hv⟩|⟨h0,_⟩:=hr
   ·refine⟨.pointer (some ⟨b,m*s,none⟩),?_,.inr ⟨hpos,rfl⟩,λk=>by cases k<;>simp[Ak,Ae]⟩
    have hlt:(0:Int)≤m∧(m:Int) <((m+1:Nat):Int):=⟨by omega,by omega⟩;simp[execOp,ho,hv,hiv,Instr.indexAt,asIntOf,run_underlying hu,hlt,Bb hsz]
    try (rw[Cv rfl];simp)
   ·omega
  ·cases hx
 ·cases hx
theorem S2 {s:Nat} {i:Operand} (ht:OO P t len s=true) (hk:oe GL x x'=true) (hki:oe GL i i'=true):
  Ch P GL (.indexAddr t x i) (.iaddrA x' i' len s):=by
 intro g w μ e act h O y hd hx o ho;have hr:=hd.ev hk;have hu:∃el,P.underlying t=some (.array len el)∧Ba P el s=true:=by
  unfold OO at ht;split at ht
  ·rename_i l el hel;simp only[qI,beq_iff_eq]at ht;obtain⟨⟨rfl,h2⟩,_⟩:=ht;exact⟨el,hel,h2⟩
  ·cases ht
 obtain⟨el,hu,hsz⟩:=hu;have run:∀(ad:Addr) (k:IntKind) (n:Int),act.eval x= .pointer (some ad)→ad.spot=none→act.eval i= .int k n→0≤n∧n <(len:Int)→
   (execOp act.eval o).run P w= .ok (.value (.pointer (some ⟨ad.block,ad.off+n.toNat*s,none⟩))) w:=by
  intro ad k n hv hs hi hlt;simp[execOp,ho,hv,hi,Instr.indexAt,asIntOf,run_underlying hu,hlt,Bb hsz,Instr.sureAddr,Cv hs]
 simp only[PI.val]at hx;split at hx
 ·rename_i cs k n hc hci;rw[hc]at hr;obtain⟨ad,vs,hv,hs,hall,hone,hat⟩:=JI hr;split at hx
  ·rename_i h0;simp only[qF]at hx;subst hx;exact⟨_,run ad k n hv hs (EL hd hki hci) ⟨h0.1,h0.2.1⟩,LP hall hone hat _ _,λk=>CM _ _ _⟩
  ·cases hx
 ·rename_i r off' k n hc hci;rw[hc]at hr;obtain⟨b,hb,hv⟩:=Rf hr;split at hx
  ·rename_i h0;simp only[qF]at hx;subst hx;exact⟨_,run _ k n hv rfl (EL hd hki hci) h0,⟨b,hb,rfl⟩,λk=>K4 _ _ _ _⟩
  ·cases hx
 ·cases hx
theorem Eb (h:Fm P t (λ| .string=>true|_=>false)=true):P.underlying t=some .string:=by
 unfold Fm at h;split at h
 ·rename_i d hd;cases d<;>simp_all
 ·cases h
theorem XK {i:Operand} (ht:Fm P t (λ| .string=>true|_=>false)=true) (hk:oe GL x x'=true) (hki:oe GL i i'=true):
  Ch P GL (.index t x i) (.idxS x' i'):=by
 intro g w μ e act h O y hd hx o ho;have hr:=hd.ev hk;have hu:=Eb ht;simp only[PI.val]at hx;split at hx
 ·rename_i s k n hc hci;rw[hc]at hr;split at hx
  ·rename_i h0;simp only[qQ]at hx;obtain⟨b,hb,rfl⟩:=hx;exact⟨.int .u8 b.toNat,by simp[execOp,ho,Gb hr,EL hd hki hci,Instr.index,asIntOf,run_underlying hu,h0,hb],.int _ _,λk=>CM _ _ _⟩
  ·cases hx
 ·cases hx
theorem Rs {p:Option Operand} {q:Option Opd} (h:Ap (oe GL) p.toList q.toList=true):(p=none∧q=none)∨∃x y,p=some x∧q=some y∧oe GL x y=true:=by
 cases p<;>cases q<;>simp_all [Ap]
theorem IH {act:Act} (hd:Gd P GL g w μ e act h O) (hk:oe GL p q=true) {dflt l y:Nat}
  (hb:Kw (some (q.ev e)) dflt=some l) (hl:l≤y) (code:BoundsCode):(Instr.sliceBound (act.eval p) y code).run P w= .ok l w:=by
 unfold Kw at hb;split at hb
 ·rename_i h;cases h
 ·rename_i k n h;simp only[qF]at h;split at hb
  ·rename_i h0;simp only[qF]at hb;have hv:=EL hd hk h;have:0≤n∧n≤(y:Int):=⟨h0,by omega⟩;simp[Instr.sliceBound,hv,asIntOf,this,hb]
  ·cases hb
 ·cases hb
theorem LM {act:Act} (hd:Gd P GL g w μ e act h O) {lo hi:Option Operand} {lo' hi':Option Opd}
  (hlo:Ap (oe GL) lo.toList lo'.toList=true) (hhi:Ap (oe GL) hi.toList hi'.toList=true) {l:Nat} (isS:Bool)
  (hl:Kw (lo'.map (·.ev e)) 0=some l) (hm:Kw (hi'.map (·.ev e)) len=some m) (hlm:l≤m) (hml:m≤len) (hlc:len≤cap):
  (Instr.sliceBounds isS len cap (lo.map act.eval) (hi.map act.eval) none).run P w= .ok (l,m,cap) w:=by
 rcases Rs hlo with ⟨rfl,rfl⟩|⟨p,q,rfl,rfl,hpq⟩<;>rcases Rs hhi with ⟨rfl,rfl⟩|⟨p',q',rfl,rfl,hpq'⟩
 ·simp[Kw]at hl hm;subst hl;subst hm;simp[Instr.sliceBounds]
 ·simp[Kw]at hl;subst hl;have h2:=IH hd hpq' (y:=cap) hm (by omega) (if isS then .sliceAcap else .sliceAlen);simp[Instr.sliceBounds,h2]
 ·simp[Kw]at hm;subst hm;have h2:=IH hd hpq (y:=len) hl (by omega) .sliceB;simp[Instr.sliceBounds,h2]
 ·have h1:=IH hd hpq' (y:=cap) hm (by omega) (if isS then .sliceAcap else .sliceAlen);have h2:=IH hd hpq (y:=m) hl (by omega) .sliceB;simp[Instr.sliceBounds,h1,h2]
theorem On (h:RepV g (.list xs) u) {l s:Nat} (hlm:l≤m) (hml:m≤xs.length) (hs:BG s xs=true):
  ∃(a:Option Addr) (cap:Nat),u= .slice a xs.length cap∧xs.length≤cap∧RepV g (.list ((xs.take m).drop l)) (.slice (if cap=l then a else a.map (·.add (l*s))) (m-l) (cap-l)):=by
 cases h with
 |lnil=>
  have hm0:m=0:=by simpa using hml
  subst hm0;have hl0:l=0:=by omega
  subst hl0;exact⟨none,0,rfl,qM _,by simpa using RepV.lnil⟩
 |list _ a cap s' vs hsp hc hr hz=>
  refine⟨some a,cap,rfl,hc,?_⟩;have hlen:((xs.take m).drop l).length=m-l:=by simp;omega
  have Dn:∀i x,((xs.take m).drop l)[i]?=some x→xs[l+i]?=some x:=by
   intro i x hx;rw[rm,qu]at hx;split at hx
   ·exact hx
   ·cases hx
  have hs':0 <xs.length→s'=s:=by
   intro h0;have hx0:xs[0]?=some xs[0]:=qH _;have h1:xs.head?=some xs[0]:=by rw[List.head?_eq_getElem?];exact hx0
   simp[BG,h1]at hs;have h3:=(hr 0 _ hx0).cells.1.1;have h4:=(hz 0 h0).1;simp at h3;omega
  rw[←hlen];by_cases hcl:cap=l
  ·simp only[hcl,if_true];refine RepV.list _ a _ s' (λi=>vs (l+i)) hsp (by rw[hlen];omega) (λi x hx=>hr _ x (Dn i x hx)) λi hi=>?_;rw[hlen]at hi;omega
  ·simp only[hcl,if_false,qq];refine RepV.list _ (a.add (l*s)) _ s' (λi=>vs (l+i)) (by rw[Cv hsp]) (by rw[hlen];omega) (λi x hx=>hr _ x (Dn i x hx)) λi hi=>?_;rw[hlen]at hi;have h0:0 <xs.length:=by omega
   have hss:=hs' h0;subst hss;rw[Cv hsp];have:=hz (l+i) (by omega);refine⟨this.1,?_⟩;have h2:=this.2;simp only
   rwa [show a.off+(l+i)*s'=a.off+l*s'+i*s' by rw[rO];omega]at h2
theorem ZU {s:Nat} {lo hi mx:Option Operand} {lo' hi':Option Opd} (ht:E9 P t s=true)
  (hk:oe GL x x'=true) (hmx:mx.isNone=true) (hlo:Ap (oe GL) lo.toList lo'.toList=true) (hhi:Ap (oe GL) hi.toList hi'.toList=true):
  Ch P GL (.slice t x lo hi mx) (.slc x' lo' hi' s):=by
 intro g w μ e act h O y hd hx o ho;have hr:=(hd.ev hk).copy;have hu:∃el,P.underlying t=some (.slice el)∧Ba P el s=true:=by
  unfold E9 at ht;split at ht
  ·rename_i el hel;exact⟨el,hel,ht⟩
  ·cases ht
 obtain⟨el,hu,hsz⟩:=hu;have hmx':mx=none:=by simpa using hmx
 subst hmx';simp only[PI.val]at hx;split at hx
 ·rename_i xs hc;rw[hc]at hr;split at hx
  ·rename_i l m hl hm;split at hx
   ·rename_i hcond;simp only[qF]at hx;subst hx;obtain⟨a,cap,hv,hlc,hrep⟩:=On hr hcond.1 hcond.2.1 hcond.2.2;have hb:=LM (w:=w) hd hlo hhi true hl hm hcond.1 hcond.2.1 hlc;exact⟨_,by simp[execOp,ho,hv,Instr.sliceAt,Instr.slice,run_underlying hu,hb,Bb hsz],hrep,λk=>CM _ _ _⟩
   ·cases hx
  ·cases hx
 ·cases hx
theorem WV {lo hi mx:Option Operand} {lo' hi':Option Opd} (ht:Fm P t (λ| .string=>true|_=>false)=true)
  (hk:oe GL x x'=true) (hmx:mx.isNone=true) (hlo:Ap (oe GL) lo.toList lo'.toList=true) (hhi:Ap (oe GL) hi.toList hi'.toList=true):
  Ch P GL (.slice t x lo hi mx) (.slcS x' lo' hi'):=by
 intro g w μ e act h O y hd hx o ho;have hr:=hd.ev hk;have hu:=Eb ht;have hmx':mx=none:=by simpa using hmx
 subst hmx';simp only[PI.val]at hx;split at hx
 ·rename_i s hc;rw[hc]at hr;split at hx
  ·rename_i l m hl hm;split at hx
   ·rename_i hcond;simp only[qF]at hx;subst hx;have hb:=LM (w:=w) hd hlo hhi false hl hm hcond.1 hcond.2 (qM _);exact⟨_,by simp[execOp,ho,Gb hr,Instr.sliceAt,Instr.slice,run_underlying hu,hb],.str _,λk=>CM _ _ _⟩
   ·cases hx
  ·cases hx
 ·cases hx
theorem aQ {t:Operand} {t':Opd} {i':Nat} (hk:oe GL t t'=true) (hi:(i==i')=true):Ch P GL (.extract t i) (.ext t' i'):=by
 intro g w μ e act h O y hd hx o ho;have:i=i':=by simpa using hi
 subst this;simp only[PI.val]at hx;split at hx
 ·rename_i n mv;cases t with
  |tmp n'=>
   have:n'=n:=by simpa[oe]using hk
   subst this;split at hx
   ·rename_i ds hds;have hr:=hd.inv.rep n';rw[hds]at hr;obtain⟨vs,hv,hall⟩:=hr;simp only[qQ]at hx;obtain⟨z,hz,rfl⟩:=hx;obtain⟨v,hvs,hrep⟩:=hall.get hz;refine⟨v,?_,hrep.toD.copy,λk=>CR _ _ _⟩;simp[execOp,ho,Act.eval,hv,Instr.extract,hvs]
   ·cases hx
  |const v=>simp[oe]at hk
  |global g=>simp[oe]at hk
  |func f=>simp[oe]at hk
 ·cases hx
theorem L7 {g:Gh} {w:World} {μ:List Nat} {e:CH} {act:Act} {h:List Row} {O:Nat→Prop} (hd:Gd P GL g w μ e act h O):
  ∀ {ps:List Operand} {qs:List Opd},Ap (oe GL) ps qs=true→(E0 e qs).all D.isCap=true→All2 (RepC g μ) (E0 e qs) (ps.map act.eval)
 |[],[],_,_=> .nil
 |p::ps,q::qs,hk,hc=>by
  simp only[Ap,qI]at hk;simp only[E0,tS,qI]at hc ⊢;refine .cons ?_ (L7 hd hk.2 hc.2);have hr:=(hd.ev hk.1).copy;generalize (q.ev e).copy=d at hr hc ⊢;cases d<;>simp[D.isCap]at hc<;>exact hr
 |[],_::_,hk,_=>by simp[Ap]at hk
 |_::_,[],hk,_=>by simp[Ap]at hk
theorem Zy {f':Nat} {first caps:Array Operand} {caps':List Opd} (hf:(f==f')=true) (h1:first.isEmpty=true) (hk:Ap (oe GL) caps.toList caps'=true):
  Ch P GL (.makeFunc (.func f) first caps) (.mkf f' caps'):=by
 intro g w μ e act h O y hd hx o ho;have:f=f':=by simpa using hf
 subst this;have hfe:first= #[]:=by simpa using h1
 subst hfe;simp only[PI.val]at hx;split at hx
 ·rename_i hc;simp only[qF]at hx;subst hx;refine⟨.func (.func f) #[] (caps.toList.map act.eval).toArray,?_,⟨_,rfl,L7 hd hk hc⟩,λk=>by cases k<;>simp[Ak,Ae]⟩
  simp[execOp,ho,Instr.makeFunc];rw[←ri];simp
 ·cases hx
theorem W5 {f':Nat} {first caps:Array Operand} {caps':List Opd} (hf:(f==f')=true) (h1:caps.isEmpty=true) (hk:Ap (oe GL) first.toList caps'=true):
  Ch P GL (.makeFunc (.func f) first caps) (.mkme f' caps'):=by
 intro g w μ e act h O y hd hx o ho;have:=eq_of_beq hf;subst this;simp only[PI.val]at hx;split at hx
 ·rename_i hall;simp only[qF]at hx;subst hx;have h2:caps= #[]:=by simpa using h1
  subst h2;have:=L7 hd hk hall;refine⟨.func (.func f) (first.toList.map act.eval).toArray #[],?_,⟨_,rfl,this⟩,λk=>by cases k<;>simp[Ak,Ae]⟩
  have e1:first.map act.eval=(first.toList.map act.eval).toArray:=by rw[←ri];simp
  simp[execOp,ho,Instr.makeFunc,e1]
 ·cases hx
theorem XM {s:Nat} {ag:Bool} {i:Operand} (ht:(match P.underlying t with|some (.array n' e)=>n'==n&&Ba P e s&&H8 P e ag&&(ag||s==1)|_=>false)=true)
  (hk:oe GL x x'=true) (hki:oe GL i i'=true):Ch P GL (.index t x i) (.idxA x' i' n s ag):=by
 intro g w μ e act h O y hd hx o ho;have hr:=hd.ev hk;split at ht
 ·rename_i n' el hu;simp only[qI,beq_iff_eq]at ht;obtain⟨⟨⟨rfl,hs⟩,hg⟩,h1⟩:=ht;have hn1:ag=false→s=1:=by intro h;simpa[h]using h1
  simp only[PI.val]at hx;split at hx
  ·rename_i cs k z hc hci;rw[hc]at hr;obtain⟨vs,hv,hall,hone⟩:=RepV.agg_inv hr;split at hx
   ·rename_i hlt;simp only[qQ]at hx;obtain⟨z',hz,rfl⟩:=hx;obtain⟨hrep,hlen⟩:=LZ (w:=w) (μ:=μ) hall hone hz;exact⟨_,by simp[execOp,ho,hv,EL hd hki hci,Instr.index,asIntOf,run_underlying hu,hlt,Bb hs,JA hs hg hlen hn1],hrep,λk=>CM _ _ _⟩
   ·cases hx
  ·rename_i ds k z hc hci;rw[hc]at hr;obtain⟨vs,hv,hall,hone,_⟩:=hr;split at hx
   ·rename_i hlt;obtain⟨hrep,hlen,hown⟩:=KF hall hone hx;exact⟨_,by simp[execOp,ho,hv,EL hd hki hci,Instr.index,asIntOf,run_underlying hu,hlt,Bb hs,JA hs hg hlen hn1],hrep,λk=>hown _ _⟩
   ·cases hx
  ·cases hx
 ·cases ht
theorem IL {α:Type} {asx:Array α} {p:α→Bool} (h:JN asx.toList p=true):∃x,asx= #[x]∧p x=true:=by
 unfold JN at h;split at h
 ·rename_i x hx;exact⟨x,by rw[←Array.toArray_toList (xs:=asx),hx],h⟩
 ·cases h
theorem DQ {α:Type} {asx:Array α} {p:α→α→Bool} (h:HF asx.toList p=true):∃x y,asx= #[x,y]∧p x y=true:=by
 unfold HF at h;split at h
 ·rename_i x y hx;exact⟨x,y,by rw[←Array.toArray_toList (xs:=asx),hx],h⟩
 ·cases h
theorem FN (h:Fm P t (λ| .slice _=>true|_=>false)=true):∃el,P.underlying t=some (.slice el):=by
 unfold Fm at h;split at h
 ·rename_i d hd;cases d<;>simp_all
 ·cases h
theorem Xw {args:Array Operand} {ts:Array TypeId} (hk:JN args.toList (λx=>oe GL x x')=true)
  (ht:JN ts.toList (λt=>Fm P t (λ| .slice _=>true|_=>false))=true):Ch P GL (.call {callee:= .builtin .len,args:=args,argTypes:=ts}) (.alen x'):=by
 intro g w μ e act h O y hd hx o ho;obtain⟨x,rfl,hx1⟩:=IL hk;obtain⟨t,rfl,ht1⟩:=IL ht;obtain⟨el,hu⟩:=FN ht1;have hr:=(hd.ev hx1).copy;have run:∀a n c,act.eval x= .slice a n c→(execOp act.eval o).run P w= .ok (.value (.int .i64 n)) w:=by
  intro a n c hv;simp[execOp,ho,resolve,invoke,builtin,Builtin.len_,run_underlying hu,hv,goInt]
 simp only[PI.val]at hx;split at hx
 ·rename_i xs hc;rw[hc]at hr;simp only[qF]at hx;subst hx;refine⟨.int .i64 xs.length,?_,.int _ _,λk=>CM _ _ _⟩;generalize hv:act.eval x=u at hr;cases hr with
  |lnil=>exact run _ _ _ hv
  |list _ a cap s vs=>exact run _ _ _ hv
 ·rename_i el' s' hc;rw[hc]at hr;simp only[qF]at hx;subst hx;obtain⟨a,hv,_⟩:=hr;exact⟨.int .i64 0,run _ _ _ hv,.int _ _,λk=>CM _ _ _⟩
 ·rename_i r n hc;rw[hc]at hr;simp only[qF]at hx;subst hx;obtain⟨b,cap,_,hv,_⟩:=hr;exact⟨.int .i64 n,run _ _ _ hv,.int _ _,λk=>CM _ _ _⟩
 ·cases hx
theorem XA {args:Array Operand} {ts:Array TypeId} (hk:JN args.toList (λx=>oe GL x x')=true)
  (ht:JN ts.toList (λt=>Fm P t (λ| .string=>true|_=>false))=true):Ch P GL (.call {callee:= .builtin .len,args:=args,argTypes:=ts}) (.lenS x'):=by
 intro g w μ e act h O y hd hx o ho;obtain⟨x,rfl,hx1⟩:=IL hk;obtain⟨t,rfl,ht1⟩:=IL ht;have hu:=Eb ht1;have hr:=hd.ev hx1;simp only[PI.val]at hx;split at hx
 ·rename_i s hc;rw[hc]at hr;simp only[qF]at hx;subst hx;exact⟨.int .i64 s.size,by simp[execOp,ho,resolve,invoke,builtin,Builtin.len_,run_underlying hu,Gb hr,goInt],.int _ _,λk=>CM _ _ _⟩
 ·cases hx
theorem Z1 {args:Array Operand} {ts:Array TypeId} (hk:HF args.toList (λx y=>oe GL x x'&&oe GL y y')=true):
  Ch P GL (.call {callee:= .builtin .max,args:=args,argTypes:=ts}) (.minmax true x' y'):=by
 intro g w μ e act h O z hd hx o ho;obtain⟨x,y,rfl,hxy⟩:=DQ hk;simp only[qI]at hxy;simp only[PI.val]at hx;split at hx
 ·rename_i k a k' b hc hc';split at hx
  ·rename_i hkk;subst hkk;simp only[if_true,qF]at hx;subst hx;exact⟨_,by simp[execOp,ho,resolve,invoke,builtin,Builtin.max_,Builtin.max2,EL hd hxy.1 hc,EL hd hxy.2 hc'],.int _ _,λk=>CM _ _ _⟩
  ·cases hx
 ·cases hx
theorem Z0 {args:Array Operand} {ts:Array TypeId} (hk:HF args.toList (λx y=>oe GL x x'&&oe GL y y')=true):
  Ch P GL (.call {callee:= .builtin .min,args:=args,argTypes:=ts}) (.minmax false x' y'):=by
 intro g w μ e act h O z hd hx o ho;obtain⟨x,y,rfl,hxy⟩:=DQ hk;simp only[qI]at hxy;simp only[PI.val]at hx;split at hx
 ·rename_i k a k' b hc hc';split at hx
  ·rename_i hkk;subst hkk;simp only[qY,if_false,qF]at hx;subst hx;exact⟨_,by simp[execOp,ho,resolve,invoke,builtin,Builtin.min_,Builtin.min2,EL hd hxy.1 hc,EL hd hxy.2 hc'],.int _ _,λk=>CM _ _ _⟩
  ·cases hx
 ·cases hx
end
end
section
variable {el i k t:Nat} {u v:Value} {w:World} {g:Gh} {x' y':Opd} {x y:Operand} {ks:List Nat}
section
variable {P:Program} {GL:Ac}
theorem SI {x y:V} (hx:RepV g x u) (hy:RepV g y v) {b:Bool} (hb:V.eq1 k x y=some b) (ht:Hn P t k=true) (d:Nat):
  (Op.equalIn (d+1) t u v).run P w= .ok b w∧(part t #[] 0=part t #[] 0)∧(isAgg t).run P w= .ok false w:=by
 unfold Hn at ht;split at ht
 ·rename_i k' hu;cases x<;>cases y<;>simp only[V.eq1,reduceCtorEq]at hb
  rename_i k1 a k2 c;split at hb
  ·rename_i hkk;subst hkk;simp only[qF]at hb;subst hb;cases hx;cases hy;exact⟨run_equalIn_int w d t k1 _ a c hu,rfl,by simp[isAgg,run_underlying hu]⟩
  ·cases hb
 ·rename_i hu;cases x<;>cases y<;>simp only[V.eq1,reduceCtorEq]at hb
  simp only[qF]at hb;subst hb;cases hx;cases hy;exact⟨run_equalIn_bool' w d t _ _ hu,rfl,by simp[isAgg,run_underlying hu]⟩
 ·rename_i hu;cases x<;>cases y<;>simp only[V.eq1,reduceCtorEq]at hb
  simp only[qF]at hb;subst hb;cases hx;cases hy;exact⟨run_equalIn_string w d t _ _ hu,rfl,by simp[isAgg,run_underlying hu]⟩
 ·cases ht
theorem GA (h:(isAgg t).run P w= .ok false w) {cs:Array Value} (hv:cs[i]?=some v):(part t cs i).run P w= .ok v w:=by
 simp[part,h,hv]
theorem LA {g:Gh} {w:World} {us vs:List Value} (d:Nat):∀(fs:List Field) (ks:List Nat) (xs ys:List V) (i:Nat) {b:Bool},CA P i fs ks=true→V.eqL ks xs ys=some b→
  (∀j x,xs[j]?=some x→∃u,us[i+j]?=some u∧RepV g x u)→(∀j y,ys[j]?=some y→∃v,vs[i+j]?=some v∧RepV g y v)→
  (Op.eqFields (d+1) us.toArray vs.toArray fs).run P w= .ok b w
 |[],[],xs,ys,i,b,_,hb,_,_=>by
  cases xs<;>cases ys<;>simp[V.eqL]at hb
  subst hb;rfl
 |[],_::_,_,_,_,_,hf,_,_,_=>by simp[CA]at hf
 |_::_,[],_,_,_,_,hf,_,_,_=>by simp[CA]at hf
 |f::fs,k::ks,xs,ys,i,b,hf,hb,hx,hy=>by
  simp only[CA,qI,beq_iff_eq,bne_iff_ne,ne_eq]at hf;obtain⟨⟨⟨ho,hn⟩,hk⟩,hrest⟩:=hf;cases xs with
  |nil=>cases ys<;>simp[V.eqL]at hb
  |cons x xs=>
   cases ys with
   |nil=>simp[V.eqL]at hb
   |cons y ys=>
    simp only[V.eqL]at hb;split at hb
    ·rename_i b1 b2 h1 h2;simp only[qF]at hb;subst hb;obtain⟨u,hu,ru⟩:=hx 0 x rfl;obtain⟨v,hv,rv⟩:=hy 0 y rfl;obtain⟨e1,_,e2⟩:=SI (w:=w) ru rv h1 hk d;have ih:=LA (g:=g) (w:=w) d fs ks xs ys (i+1) hrest h2 (λj z hz=>by
      obtain⟨u',hu',r'⟩:=hx (j+1) z (by simpa using hz);exact⟨u',by rw[show i+1+j=i+(j+1) by omega];exact hu',r'⟩) (λj z hz=>by
      obtain⟨u',hu',r'⟩:=hy (j+1) z (by simpa using hz);exact⟨u',by rw[show i+1+j=i+(j+1) by omega];exact hu',r'⟩)
     have p1:(part f.type us.toArray f.offset).run P w= .ok u w:=GA e2 (by rw[ho];simpa using hu);have p2:(part f.type vs.toArray f.offset).run P w= .ok v w:=GA e2 (by rw[ho];simpa using hv);simp only[Op.eqFields,ne_eq,hn,not_false_eq_true,if_true,Sem.run_bind,p1,p2,e1,Result.andThen_ok];cases b1
     ·simp
     ·simpa using ih
    ·cases hb
theorem NM:∀(m:Nat) (ks:List Nat) (xs ys:List V) {b:Bool},V.eqL ks xs ys=some b→∃b1 b2,V.eqL (ks.take m) (xs.take m) (ys.take m)=some b1∧V.eqL (ks.drop m) (xs.drop m) (ys.drop m)=some b2∧b=(b1&&b2)
 |0,ks,xs,ys,b,h=>⟨true,b,by simp[V.eqL],by simpa using h,by simp⟩
 |m+1,[],xs,ys,b,h=>by
  cases xs<;>cases ys<;>simp[V.eqL]at h
  subst h;exact⟨true,true,by simp[V.eqL],by simp[V.eqL],rfl⟩
 |m+1,k::ks,xs,ys,b,h=>by
  cases xs with
  |nil=>cases ys<;>simp[V.eqL]at h
  |cons x xs=>
   cases ys with
   |nil=>simp[V.eqL]at h
   |cons y ys=>
    simp only[V.eqL]at h;split at h
    ·rename_i c1 c2 h1 h2;simp only[qF]at h;subst h;obtain⟨b1,b2,e1,e2,rfl⟩:=NM m ks xs ys h2;exact⟨c1&&b1,b2,by simp[V.eqL,h1,e1],by simpa using e2,by rw[Bool.and_assoc]⟩
    ·cases h
theorem OE {g:Gh} {w:World} {us vs:List Value} (d:Nat):∀(fs:List Field) (ks:List Nat) (xs ys:List V) (i:Nat) {b:Bool},Ed P i fs ks=true→V.eqL ks xs ys=some b→
  (∀j x,xs[j]?=some x→∃u,us[i+j]?=some u∧RepV g x u)→(∀j y,ys[j]?=some y→∃v,vs[i+j]?=some v∧RepV g y v)→
  (Op.eqFields (d+2) us.toArray vs.toArray fs).run P w= .ok b w
 |[],ks,xs,ys,i,b,hf,hb,_,_=>by
  simp only[Ed,List.isEmpty_iff]at hf;subst hf;cases xs<;>cases ys<;>simp[V.eqL]at hb
  subst hb;rfl
 |f::fs,ks,xs,ys,i,b,hf,hb,hx,hy=>by
  simp only[Ed,qI,beq_iff_eq,bne_iff_ne,ne_eq]at hf;obtain⟨⟨ho,hn⟩,hk⟩:=hf;split at hk
  ·rename_i sub hsub;simp only[qI,rV,beq_iff_eq]at hk;obtain⟨⟨⟨k1,k2⟩,k3⟩,k4⟩:=hk;obtain⟨b1,b2,e1,e2,rfl⟩:=NM sub.size ks xs ys hb;have hfo:P.fieldsOf f.type=sub:=by simp[Program.fieldsOf,hsub]
   have ha:(isAgg f.type).run P w= .ok true w:=by simp[isAgg,run_underlying hsub]
   have hs:(sizeOf f.type).run P w= .ok sub.size w:=Bb k2;have hp:∀zs:List Value,(part f.type zs.toArray f.offset).run P w= .ok (.agg ((zs.drop i).take sub.size).toArray) w:=by
    intro zs;have:zs.toArray.extract i (i+sub.size)=((zs.drop i).take sub.size).toArray:=by simp
    simp[part,ha,hs,ho,this]
   have hin:(Op.equalIn (d+2) f.type (.agg ((us.drop i).take sub.size).toArray) (.agg ((vs.drop i).take sub.size).toArray)).run P w= .ok b1 w:=by
    rw[run_equalIn_struct w (d+1) f.type _ _ (by rw[hfo];exact hsub) k1,hfo];refine LA (g:=g) d sub.toList _ _ _ 0 k3 e1 (λj x hj=>?_) (λj y hj=>?_)
    ·rw[qu]at hj;split at hj
     ·rename_i hlt;obtain⟨u,hu,hr⟩:=hx j x hj;exact⟨u,by rw[rt,qu,if_pos hlt,rm];exact hu,hr⟩
     ·cases hj
    ·rw[qu]at hj;split at hj
     ·rename_i hlt;obtain⟨u,hu,hr⟩:=hy j y hj;exact⟨u,by rw[rt,qu,if_pos hlt,rm];exact hu,hr⟩
     ·cases hj
   have ih:=OE (g:=g) (w:=w) d fs _ _ _ (i+sub.size) k4 e2 (λj z hz=>by
    rw[rm]at hz;obtain⟨u,hu,hr⟩:=hx _ z hz;exact⟨u,by rw[Nat.add_assoc];exact hu,hr⟩) (λj z hz=>by
    rw[rm]at hz;obtain⟨u,hu,hr⟩:=hy _ z hz;exact⟨u,by rw[Nat.add_assoc];exact hu,hr⟩)
   simp only[Op.eqFields,ne_eq,hn,not_false_eq_true,if_true,Sem.run_bind,hp,hin,Result.andThen_ok];cases b1
   ·simp
   ·simpa using ih
  ·rename_i hns;cases ks with
   |nil=>cases hk
   |cons k ks=>
    simp only[qI]at hk;obtain⟨hk,hrest⟩:=hk;cases xs with
    |nil=>cases ys<;>simp[V.eqL]at hb
    |cons x xs=>
     cases ys with
     |nil=>simp[V.eqL]at hb
     |cons y ys=>
      simp only[V.eqL]at hb;split at hb
      ·rename_i b1 b2 h1 h2;simp only[qF]at hb;subst hb;obtain⟨u,hu,ru⟩:=hx 0 x rfl;obtain⟨v,hv,rv⟩:=hy 0 y rfl;obtain⟨e1,_,e2⟩:=SI (w:=w) ru rv h1 hk (d+1);have ih:=OE (g:=g) (w:=w) d fs ks xs ys (i+1) hrest h2 (λj z hz=>by
        obtain⟨u',hu',r'⟩:=hx (j+1) z (by simpa using hz);exact⟨u',by rw[show i+1+j=i+(j+1) by omega];exact hu',r'⟩) (λj z hz=>by
        obtain⟨u',hu',r'⟩:=hy (j+1) z (by simpa using hz);exact⟨u',by rw[show i+1+j=i+(j+1) by omega];exact hu',r'⟩)
       have p1:(part f.type us.toArray f.offset).run P w= .ok u w:=GA e2 (by rw[ho];simpa using hu);have p2:(part f.type vs.toArray f.offset).run P w= .ok v w:=GA e2 (by rw[ho];simpa using hv);simp only[Op.eqFields,ne_eq,hn,not_false_eq_true,if_true,Sem.run_bind,p1,p2,e1,Result.andThen_ok];cases b1
       ·simp
       ·simpa using ih
      ·cases hb
theorem aV {op:BinOp} {ne:Bool} {s:Nat} (hop:(op==if ne then BinOp.neq else BinOp.eql)=true)
  (ht:(Hx P t ks||OD P t ks)=true) (hx':oe GL x x'=true) (hy':oe GL y y'=true):Ch P GL (.binOp op t x y s) (.eqA ne ks x' y'):=by
 intro g w μ e act h O d hd hx o ho;have hr1:=hd.ev hx';have hr2:=hd.ev hy';simp only[PI.val]at hx;split at hx
 ·rename_i cs ds hc hd2;simp only[qQ]at hx;obtain⟨b,hb,rfl⟩:=hx;obtain⟨us,e1,h1,_⟩:=RepV.agg_inv (Cs hr1 hc);obtain⟨vs,e2,h2,_⟩:=RepV.agg_inv (Cs hr2 hd2);obtain⟨t2,hrun⟩:P.eqGuardType P.depth t=false∧(Op.equalIn 10000 t (.agg us.toArray) (.agg vs.toArray)).run P w= .ok b w:=by
   rcases (by simpa using ht:Hx P t ks=true∨OD P t ks=true)with ht|ht
   ·unfold Hx at ht;split at ht
    ·rename_i fs hu;simp only[qI,rV]at ht;obtain⟨⟨t1,t2⟩,t3⟩:=ht;have hfs:P.fieldsOf t=fs:=by simp[Program.fieldsOf,hu]
     refine⟨t2,?_⟩;rw[run_equalIn_struct w 9999 t us.toArray vs.toArray (by rw[hfs];exact hu) t1,hfs];exact LA 9998 fs.toList ks cs ds 0 t3 hb (λj x hx=>by simpa using h1.get hx) (λj x hx=>by simpa using h2.get hx)
    ·cases ht
   ·unfold OD at ht;split at ht
    ·rename_i fs hu;simp only[qI,rV]at ht;obtain⟨⟨t1,t2⟩,t3⟩:=ht;have hfs:P.fieldsOf t=fs:=by simp[Program.fieldsOf,hu]
     refine⟨t2,?_⟩;rw[run_equalIn_struct w 9999 t us.toArray vs.toArray (by rw[hfs];exact hu) t1,hfs];exact OE 9997 fs.toList ks cs ds 0 t3 hb (λj x hx=>by simpa using h1.get hx) (λj x hx=>by simpa using h2.get hx)
    ·cases ht
  have hg:(eqGuard op t x y (.agg us.toArray) (.agg vs.toArray)).run P w= .ok () w:=run_eqGuard_agg w op t x y _ _ t2;refine⟨.bool (b != ne),?_,.bool _,λk=>CM _ _ _⟩;have:=IT hop;subst this;cases ne
  ·simp only[qY,if_false]at hg;simp[execOp,ho,e1,e2,hg,run_eql_struct,hrun]
  ·simp only[if_true]at hg;simp[execOp,ho,e1,e2,hg,run_neq_struct,hrun]
 ·cases hx
theorem WW {s:Nat} {lo hi mx:Option Operand} (ht:(match P.underlying t with|some (.slice e)=>e==el&&Ba P e s|_=>false)=true)
  (hk:oe GL x x'=true) (hlo:lo.isNone=true) (hhm:(match hi,mx with|some (.const (.int _ 0)),some (.const (.int _ 0))=>true|_,_=>false)=true):
  Ch P GL (.slice t x lo hi mx) (.slc0 x' el s):=by
 intro g w μ e act h O y hd hx o ho;have hr:=(hd.ev hk).copy;have hlo':lo=none:=by simpa using hlo
 subst hlo';split at hhm
 ·rename_i k1 k2;split at ht
  ·rename_i e' hu;simp only[qI,beq_iff_eq]at ht;obtain⟨rfl,hsz⟩:=ht;simp only[PI.val]at hx;split at hx
   ·rename_i xs hc;simp only[qF]at hx;subst hx;rw[hc]at hr;have hev1:act.eval (.const (.int k1 0))= .int k1 0:=rfl;have hev2:act.eval (.const (.int k2 0))= .int k2 0:=rfl;have key:∃a n cap,act.eval x= .slice a n cap∧∀z,a=some z→z.spot=none:=by
     have hr':RepV g (.list xs) (act.eval x):=hr;generalize act.eval x=u at hr';cases hr' with
     |lnil=>exact⟨none,0,0,rfl,by simp⟩
     |list _ a cap _ _ hs=>exact⟨some a,_,cap,rfl,by simpa using hs⟩
    obtain⟨a,n,cap,hv,hsp⟩:=key;refine⟨.slice a 0 0,?_,⟨a,rfl,hsp⟩,λk=>by cases k<;>cases a<;>simp[Ak,Ae]⟩
    simp[execOp,ho,hv,hev1,hev2,Instr.sliceAt,Instr.slice,run_underlying hu,Instr.sliceBounds,Instr.sliceBound,asIntOf,Bb hsz]
   ·cases hx
  ·cases ht
 ·cases hhm
theorem Kl {g:Gh}:∀ {xs:List V} {bs:List UInt8},FJ xs=some bs→bs.length=xs.length∧∀(i:Nat) b,bs[i]?=some b→∃x,xs[i]?=some x∧∀v,RepV g x v→v= .int .u8 (b.toNat:Int)
 |[],bs,h=>by simp only[FJ,qF]at h;subst h;exact⟨rfl,λi b h=>by simp at h⟩
 |x::xs,bs,h=>by
  cases x with
  |int k n=>
   cases k<;>simp only[FJ,reduceCtorEq]at h
   split at h
   ·rename_i hn;simp only[qQ]at h;obtain⟨bs',hb,rfl⟩:=h;obtain⟨h1,h2⟩:=Kl hb;refine⟨by simp[h1],λi b hi=>?_⟩;cases i with
    |zero=>
     simp only[tT,qF]at hi;subst hi;refine⟨_,rfl,λv hv=>?_⟩;cases hv;have:n.toNat%256=n.toNat:=Nat.mod_eq_of_lt (by omega);simp[this];omega
    |succ i=>simpa using h2 i b (by simpa using hi)
   ·cases h
  |_=>simp[FJ]at h
theorem bt {s d:Nat} (hd':Fm P d (λ| .string=>true|_=>false)=true)
  (hs:(match P.underlying s with|some (.slice e)=>Fm P e (λ| .int .u8=>true|_=>false)|_=>false)=true) (hk:oe GL x x'=true):
  Ch P GL (.convert s d x) (.b2s x'):=by
 intro g w μ e act h O y hd hx o ho;have hr:=(hd.ev hk).copy;have hud:=Eb hd';split at hs
 ·rename_i el hus;have hue:P.underlying el=some (.int .u8):=by
   unfold Fm at hs;split at hs
   ·rename_i d' hd2;cases d'<;>simp at hs
    rename_i k;cases k<;>simp at hs
    exact hd2
   ·cases hs
  have fin:∀ {v:Value} {sv:ByteArray},act.eval x=v→(convert s d v).run P w= .ok (.string sv) w→y= .v (.str sv)→
    ∃v,(execOp act.eval o).run P w= .ok (.value v) w∧RepD g w μ y v∧∀k,Ak y v k=none:=by
   rintro v sv rfl hrun rfl;exact⟨_,by simp[execOp,ho,hrun],.str _,λk=>CM _ _ _⟩
  have hnil:∀(a:Option Addr) (c:Nat),(∀z,a=some z→z.spot=none)→(convert s d (.slice a 0 c)).run P w= .ok (.string .empty) w:=by
   intro a c hsp;cases a with
   |none=>rw[run_convert_bytes_string w s d el none 0 c hus hue hud];simp[Conv.bytesToString,Sem.run_pure]
   |some z=>exact run_convert_bytes_back w s d el z c [] hus hue hud (λj hj=>by simp at hj)
  simp only[PI.val]at hx;split at hx
  ·rename_i xs hc;rw[hc]at hr;simp only[qQ]at hx;obtain⟨bs,hb,rfl⟩:=hx;obtain⟨h1,h2⟩:=Kl (g:=g) hb;have hr':RepV g (.list xs) (act.eval x):=hr;generalize hu:act.eval x=u at hr';cases hr' with
   |lnil=>
    have:bs=[]:=rU (by simpa using h1);subst this;exact fin hu (hnil none 0 (by simp)) rfl
   |list _ a cap sz vs hsp hc2 hr2 hz=>
    refine fin hu ?_ rfl;rw[←h1];refine run_convert_bytes_back w s d el a cap bs hus hue hud λj hj=>?_;obtain⟨x0,hx0,hv0⟩:=h2 j _ (qH hj);have hvj:=hv0 _ (hr2 j x0 hx0);have hjx:j <xs.length:=by omega
    obtain⟨z1,z2⟩:=hz j hjx;rw[hvj]at z1 z2;have hs1:sz=1:=by simpa[Value.cells]using z1.symm
    have:=hd.inv.agree a.block (a.off+j*sz) _ (by simpa[Value.cells]using z2 0 (.int .u8 (bs[j].toNat:Int)) (by simp[Value.cells]));rw[hs1]at this;rw[Cv hsp];simpa using this
  ·rename_i e0 s0 hc;rw[hc]at hr;simp only[qF]at hx;subst hx;obtain⟨a,hv,hsp⟩:=hr;exact fin hv (hnil a 0 hsp) rfl
  ·cases hx
 ·cases hs
end
end
section
variable {d:D} {u v:Value} {ks μ:List Nat} {w:World} {g:Gh} {b el k r t:Nat} {zs:List D} {O:Nat→Prop} {h:List Row} {x:Operand} {x':Opd}
section
variable {P:Program} {GL:Ac}
theorem Iw (h:L4 v d=true):RepE g w μ d v∧v.oneCell'=true∧∀u,Ae d u=none:=by
 unfold L4 at h;split at h
 ·exact⟨⟨none,rfl,by simp⟩,rfl,λu=>by simp[Ae]⟩
 ·exact⟨Fe h,Gv h,λu=>by simp[Ae]⟩
 ·cases h
section
variable {g:Gh} {w:World} {μ:List Nat}
theorem IK (hr:RepG g w μ d u) (h:Ae d u=none) (k:Nat):Ak d u k=none:=by
 cases d<;>first
  |exact hr.elim
  |(cases k<;>first|exact h|simp[Ak])
end
theorem Oo (h:RepD g w μ (.v .nilm) v):v= .map none:=by cases h;rfl
theorem Gp (h:Hn P t k=true):∃d,P.underlying t=some d∧((∃q,d= .int q∧k=0)∨(d= .bool∧k=1)∨(d= .string∧k=2)):=by
 unfold Hn at h;split at h
 ·rename_i q hu;exact⟨_,hu,.inl ⟨q,rfl,rfl⟩⟩
 ·rename_i hu;exact⟨_,hu,.inr (.inl ⟨rfl,rfl⟩)⟩
 ·rename_i hu;exact⟨_,hu,.inr (.inr ⟨rfl,rfl⟩)⟩
 ·cases h
theorem VI {x y:V} (hx:RepV g x u) (hy:RepV g y v) {b:Bool} (hb:V.eq1 k x y=some b):(b=true↔u=v)∧∀n,Instr.sameBits n u u=true:=by
 unfold V.eq1 at hb;split at hb
 ·split at hb
  ·rename_i hkk;subst hkk;simp only[qF]at hb;subst hb;cases hx;cases hy;exact⟨by simp,λn=>by cases n<;>simp[Instr.sameBits]⟩
  ·cases hb
 ·simp only[qF]at hb;subst hb;cases hx;cases hy;exact⟨by simp,λn=>by cases n<;>simp[Instr.sameBits]⟩
 ·rename_i a c;simp only[qF]at hb;subst hb;cases hx;cases hy;refine⟨?_,λn=>by cases n<;>simp[Instr.sameBits,MapKept.bytes_beq]⟩
  rw[←beq_toListBytes,MapKept.bytes_beq];simp
 ·cases hb
theorem Pq {g:Gh}:∀ {ks:List Nat} {xs ys:List V} {us vs:List Value} {b:Bool},All2 (RepV g) xs us→All2 (RepV g) ys vs→V.eqL ks xs ys=some b→(b=true↔us=vs)∧∀n,∀u∈us,Instr.sameBits n u u=true
 |[],xs,ys,us,vs,b,h1,h2,hb=>by
  cases xs<;>cases ys<;>simp[V.eqL]at hb
  subst hb;have e1:=rU h1.1;have e2:=rU h2.1;subst e1;subst e2;simp
 |k::ks,xs,ys,us,vs,b,h1,h2,hb=>by
  cases xs with
  |nil=>cases ys<;>simp[V.eqL]at hb
  |cons x xs=>
   cases ys with
   |nil=>simp[V.eqL]at hb
   |cons y ys=>
    cases us with
    |nil=>simp[All2]at h1
    |cons u us=>
     cases vs with
     |nil=>simp[All2]at h2
     |cons v vs=>
      rw[All2.cons_iff]at h1 h2;simp only[V.eqL]at hb;split at hb
      ·rename_i b1 b2 e1 e2;simp only[qF]at hb;subst hb;obtain⟨r1,s1⟩:=VI h1.1 h2.1 e1;obtain⟨r2,s2⟩:=Pq h1.2 h2.2 e2;refine⟨by simp[r1,r2],λn w hw=>?_⟩;rcases qL.1 hw with rfl|hw
       ·exact s1 n
       ·exact s2 n w hw
      ·cases hb
theorem JW {st:Bool} {x y:V} (hx:RepV g x u) (hy:RepV g y v) (kx:Eo st ks x=true) (ky:Eo st ks y=true) {b:Bool} (hb:V.eqL ks x.cells y.cells=some b):
  (b=true↔u=v)∧∀n,Instr.sameBits (n+1) u u=true:=by
 simp only[Eo,qI]at kx ky;obtain⟨cx,_⟩:=RepV.cells hx;obtain⟨cy,_⟩:=RepV.cells hy;obtain⟨r,s⟩:=Pq cx cy hb;cases st with
 |true=>
  cases x<;>simp at kx
  cases y<;>simp at ky
  obtain⟨us,rfl,_,_⟩:=RepV.agg_inv hx;obtain⟨vs,rfl,_,_⟩:=RepV.agg_inv hy;simp only[Value.cells]at r s;refine⟨by rw[r];constructor<;>intro h<;>simp_all,λn=>?_⟩
  simp only[Instr.sameBits,beq_self_eq_true,rC,qV];intro p hp;have:p.1=p.2∧p.1∈us:=by
   have hz:∀(l:List Value),∀p∈l.zip l,p.1=p.2∧p.1∈l:=by
    intro l;induction l with
    |nil=>simp
    |cons a l ih=>
     intro p hp;simp only[List.zip_cons_cons,qL]at hp;rcases hp with rfl|hp
     ·exact⟨rfl,by simp⟩
     ·exact⟨(ih p hp).1,by simp[(ih p hp).2]⟩
   exact hz us p (by simpa using hp)
  rw[←this.1];exact s n _ this.2
 |false=>
  have e1:∀ {z:V} {q:Value},RepV g z q→(match z with| .agg _=>false|_=> !false)=true→q.cells.toList=[q]:=by
   intro z q hz hk;cases hz<;>simp at hk<;>rfl
  rw[e1 hx kx.1,e1 hy ky.1]at r;rw[e1 hx kx.1]at s;exact⟨by rw[r];simp,λn=>s (n+1) u (by simp)⟩
theorem JB {kt:Nat} (hk:Hn P kt k=true) (e:Bool) (n:Nat) (u:Value):(Instr.checkKey e (n+1) kt u).run P w= .ok () w:=by
 obtain⟨d,hu,hd⟩:=Gp hk;unfold Instr.checkKey;simp only[Sem.run_bind,run_underlying hu,Result.andThen];rcases hd with ⟨q,rfl,_⟩|⟨rfl,_⟩|⟨rfl,_⟩<;>cases u<;>rfl
theorem Ia {w:World} {cs:Array Value} (e:Bool) (n:Nat):∀(fs:List Field) (ks:List Nat) (i:Nat),CA P i fs ks=true→(∀j,j <fs.length→∃v,cs[i+j]?=some v)→
  (forIn fs PUnit.unit (λf _=>(if f.name≠ "_" then do
    let a ←part f.type cs f.offset
    Instr.checkKey e (n+1) f.type a
    pure (ForInStep.yield PUnit.unit) else pure (ForInStep.yield PUnit.unit):Sem (ForInStep PUnit)))).run P w= .ok PUnit.unit w
 |[],_,_,_,_=>rfl
 |_::_,[],_,hf,_=>by simp[CA]at hf
 |f::fs,k::ks,i,hf,hc=>by
  simp only[CA,qI,beq_iff_eq,bne_iff_ne,ne_eq]at hf;obtain⟨⟨⟨ho,hn⟩,hk⟩,hrest⟩:=hf;obtain⟨v,hv⟩:=hc 0 (by simp);obtain⟨d,hu,hd⟩:=Gp hk;have hag:(isAgg f.type).run P w= .ok false w:=by
   rcases hd with ⟨q,rfl,_⟩|⟨rfl,_⟩|⟨rfl,_⟩<;>simp[isAgg,run_underlying hu]
  have p1:(part f.type cs f.offset).run P w= .ok v w:=GA hag (by rw[ho];simpa using hv);have ih:=Ia (w:=w) (cs:=cs) e n fs ks (i+1) hrest λj hj=>by
   obtain⟨v,hv⟩:=hc (j+1) (by simp;omega);exact⟨v,by rw[show i+1+j=i+(j+1) by omega];exact hv⟩
  simp only[List.forIn_cons,ne_eq,hn,not_false_eq_true,if_true,Sem.run_bind,p1,JB hk,Result.andThen_ok,Sem.run_pure];exact ih
theorem Hw:∀(fs:List Field) (ks:List Nat) (i:Nat),CA P i fs ks=true→fs.length=ks.length
 |[],[],_,_=>rfl
 |[],_::_,_,h=>by simp[CA]at h
 |_::_,[],_,h=>by simp[CA]at h
 |f::fs,k::ks,i,h=>by
  simp only[CA,qI]at h;simp[Hw fs ks (i+1) h.2]
theorem SH:∀ {ks:List Nat} {xs ys:List V} {b:Bool},V.eqL ks xs ys=some b→xs.length=ks.length
 |[],[],[],_,_=>rfl
 |[],[],_::_,_,h=>by simp[V.eqL]at h
 |[],_::_,_,_,h=>by simp[V.eqL]at h
 |_::_,[],_,_,h=>by simp[V.eqL]at h
 |k::ks,x::xs,[],_,h=>by simp[V.eqL]at h
 |k::ks,x::xs,y::ys,b,h=>by
  simp only[V.eqL]at h;split at h
  ·rename_i b1 b2 h1 h2;simp[SH h2]
  ·cases h
theorem GY {kt:Nat} {st:Bool} {x:V} (hx:RepV g x u) (ht:E7 P kt st ks=true) (kx:Eo st ks x=true) (e:Bool):
  (Instr.checkKey e 10000 kt u).run P w= .ok () w:=by
 unfold E7 at ht;cases st with
 |false=>
  simp only[qY,if_false]at ht;split at ht
  ·exact JB ht e 9999 u
  ·cases ht
 |true=>
  simp only[if_true]at ht;simp only[Eo,qI]at kx;cases x<;>simp at kx
  rename_i cs;obtain⟨us,rfl,hall,_⟩:=RepV.agg_inv hx;unfold Hx at ht;split at ht
  ·rename_i fs hu;simp only[qI]at ht;have hl:=Hw _ _ _ ht.2;have hl2:cs.length=ks.length:=by
    cases h2:V.eqL ks cs cs with
    |none=>simp[V.cells,h2]at kx
    |some b=>exact SH h2
   unfold Instr.checkKey;simp only[Sem.run_bind,run_underlying hu,Result.andThen_ok];rw[←Array.forIn_toList];have:=Ia (P:=P) (w:=w) (cs:=us.toArray) e 9998 fs.toList ks 0 ht.2 λj hj=>by
    have hj2:j <us.length:=by rw[hall.1];omega
    exact⟨us[j],by simp[hj2]⟩
   exact(congrArg (λr=>Result.andThen r λa w'=>Sem.run P (pure ()) w') this).trans rfl
  ·cases ht
theorem Oh {x y:V} (hx:RepV g x u) (hy:RepV g y v) {b:Bool} (hb:V.eq1 k x y=some b) {d:TypeDesc} (hd:(∃q,d= .int q∧k=0)∨(d= .bool∧k=1)∨(d= .string∧k=2)):
  Instr.sameNow d u v=some b:=by
 unfold V.eq1 at hb;split at hb
 ·split at hb
  ·rename_i hkk;subst hkk;simp only[qF]at hb;subst hb;cases hx;cases hy;rcases hd with ⟨q,rfl,_⟩|⟨_,h⟩|⟨_,h⟩<;>first|cases h|simp[Instr.sameNow]
  ·cases hb
 ·simp only[qF]at hb;subst hb;cases hx;cases hy;rcases hd with ⟨q,_,h⟩|⟨rfl,_⟩|⟨_,h⟩<;>first|cases h|simp[Instr.sameNow]
 ·simp only[qF]at hb;subst hb;cases hx;cases hy;rcases hd with ⟨q,_,h⟩|⟨_,h⟩|⟨rfl,_⟩<;>first|cases h|simp[Instr.sameNow,beq_toListBytes]
 ·cases hb
theorem Kk {x:V} (hx:RepV g x u) (kx:Eo false ks x=true):x.cells=[x]:=by
 simp only[Eo,qI]at kx;cases x<;>simp at kx<;>rfl
abbrev cH (g:Gh):V×V→MapEntry→Prop:=λkv x=>RepV g kv.1 x.key∧RepV g kv.2 x.val
theorem GS {g:Gh} {w:World} {kt:Nat} {st:Bool} {ks:List Nat} {x:V} {u:Value} (hx:RepV g x u) (ht:E7 P kt st ks=true) (kx:Eo st ks x=true):∀ {es:List (V×V)} {l:List MapEntry} {r:Option Nat},
  All2 (cH g) es l→JO st ks x es=some r→
  ((∀i,(st=false→∀d,P.underlying kt=some d→Instr.findNow d u l i=some (r.bind λj=>(l[j]?).map λe=>(i+j,e.val)))∧
   (st=true→(Instr.findAsking kt u l i).run P w= .ok (r.bind λj=>(l[j]?).map λe=>(i+j,e.val)) w))∧
  (∀j,r=some j→∃e,l[j]?=some e∧e.key=u)∧(r=none→∀e∈l,e.key≠u))
 |[],l,r,hall,hm=>by
  have:=rU hall.1;subst this;simp only[JO,qF]at hm;subst hm;exact⟨λi=>⟨λ_ d _=>rfl,λ_=>rfl⟩,by simp,by simp⟩
 |p::es,[],r,hall,_=>by simp[All2]at hall
 |p::es,e::l,r,hall,hm=>by
  rw[All2.cons_iff]at hall;obtain⟨⟨hk,hv⟩,hall⟩:=hall;simp only[JO]at hm;split at hm
  ·rename_i kp;have hnow:∀ {b:Bool},V.eqL ks x.cells p.1.cells=some b→st=false→∀d,P.underlying kt=some d→Instr.sameNow d u e.key=some b:=by
    intro b hb hst d hu;subst hst;rw[Kk hx kx,Kk hk kp]at hb;simp only[E7,qY,if_false]at ht;split at ht
    ·rename_i k;simp only[V.eqL]at hb;split at hb
     ·rename_i b1 b2 h1 h2;simp only[qF]at h2 hb;subst h2;subst hb;obtain⟨d',hu',hd⟩:=Gp ht;rw[hu]at hu';cases hu';simpa using Oh hx hk h1 hd
     ·cases hb
    ·cases ht
   have hask:∀ {b:Bool},V.eqL ks x.cells p.1.cells=some b→st=true→(Op.equal kt u e.key).run P w= .ok b w:=by
    intro b hb hst;subst hst;have kx':=kx;have kp':=kp;simp only[Eo,qI]at kx' kp';cases x<;>simp at kx'
    obtain⟨k1,k2⟩:=p;cases k1<;>simp at kp'
    obtain⟨us,rfl,h1,_⟩:=RepV.agg_inv hx;obtain⟨vs,h2e,h2,_⟩:=RepV.agg_inv hk;rw[h2e];simp only[E7,if_true]at ht;unfold Hx at ht;split at ht
    ·rename_i fs hu;simp only[qI,rV]at ht;have hfs:P.fieldsOf kt=fs:=by simp[Program.fieldsOf,hu]
     show (Op.equalIn 10000 kt _ _).run P w=_;rw[run_equalIn_struct w 9999 kt us.toArray vs.toArray (by rw[hfs];exact hu) ht.1.1,hfs];exact LA 9998 fs.toList ks _ _ 0 ht.2 hb (λj x hx=>by simpa using h1.get hx) (λj x hx=>by simpa using h2.get hx)
    ·cases ht
   split at hm
   ·rename_i hb;simp only[qF]at hm;subst hm;have hsame:=((JW hx hk kx kp hb).1.1 rfl);refine⟨λi=>⟨λhst d hu=>?_,λhst=>?_⟩,λj hj=>?_,by simp⟩
    ·simp[Instr.findNow,hnow hb hst d hu]
    ·simp[Instr.findAsking,hask hb hst,Result.andThen]
    ·simp only[qF]at hj;subst hj;exact⟨e,rfl,hsame.symm⟩
   ·rename_i hb;simp only[qQ]at hm;obtain⟨r',hm',rfl⟩:=hm;obtain⟨h1,h2,h3⟩:=GS hx ht kx hall hm';have hne:e.key≠u:=λq=>by have:=(JW hx hk kx kp hb).1.2 q.symm;cases this
    refine⟨λi=>⟨λhst d hu=>?_,λhst=>?_⟩,λj hj=>?_,λhr=>?_⟩
    ·rw[Instr.findNow,hnow hb hst d hu,(h1 (i+1)).1 hst d hu];cases r' with
     |none=>rfl
     |some k=>simp only[qp,qq,sU,show i+1+k=i+(k+1) by omega]
    ·rw[Instr.findAsking,Sem.run_bind,hask hb hst,Result.andThen_ok];simp only[qY,if_false];rw[(h1 (i+1)).2 hst];cases r' with
     |none=>rfl
     |some k=>simp only[qp,qq,sU,show i+1+k=i+(k+1) by omega]
    ·cases r' with
     |none=>cases hj
     |some k=>
      simp only[qq,qF]at hj;subst hj;exact h2 k rfl
    ·cases r' with
     |none=>
      intro e' he';rcases qL.1 he' with rfl|he'
      ·exact hne
      ·exact h3 rfl e' he'
     |some k=>cases hr
   ·cases hm
  ·cases hm
theorem DF {kt:Nat} {st:Bool} {x:V} (hx:RepV g x u) (ht:E7 P kt st ks=true) (kx:Eo st ks x=true) {es:List (V×V)} {l:List MapEntry} {r:Option Nat}
  (hall:All2 (cH g) es l) (hm:JO st ks x es=some r):(Instr.findKey kt u l).run P w= .ok (r.bind λj=>(l[j]?).map λe=>(j,e.val)) w:=by
 have h1:=(GS (w:=w) hx ht kx hall hm).1 0;simp only[rt]at h1;cases st with
 |false=>
  have hu:∃d,P.underlying kt=some d:=by
   simp only[E7,qY,if_false]at ht;split at ht
   ·obtain⟨d,hu,_⟩:=Gp ht;exact⟨d,hu⟩
   ·cases ht
  obtain⟨d,hu⟩:=hu;exact MapKept.run_findKey hu (h1.1 rfl d hu)
 |true=>
  have hw:(match P.underlying kt with|some (.array _ _)|some (.struct _)=>true|_=>false)=true:=by
   simp only[E7,if_true]at ht;unfold Hx at ht;split at ht
   ·rename_i fs hu;simp[hu]
   ·cases ht
  rw[run_findKey_eq w hw];exact h1.2 rfl
theorem Sx {ag:Bool} (hz:R5 P el zs ag=true) {z:D} (h:(if ag then some (D.agg zs) else zs.head?)=some z):
  ∃v,(zeroValue el).run P w= .ok v w∧RepG g w μ z v∧Ae z v=none:=by
 unfold R5 at hz;split at hz
 ·rename_i cs hcs;simp only[qI]at hz;obtain⟨rfl,hz⟩:=hz;simp only[if_true,qF]at h;subst h;have hall:All2 (λd v=>RepE g w μ d v∧v.oneCell'=true∧∀u,Ae d u=none) zs cs.toList:=Cm (λv d h=>Iw h) hz;cases hi:P.info? el with
  |none=>simp[hi]at hcs
  |some i=>
   have hz1:i.zero=some (.agg cs):=by simpa[hi]using hcs
   refine⟨.agg cs,by simp[zeroValue,typeInfo,hi,hz1],⟨cs.toList,rfl,hall.imp λ_ _ h=>h.1,λv hv=>?_,λd hd v=>?_⟩,rfl⟩
   ·obtain⟨j,hj,rfl⟩:=sO.1 hv;exact(hall.2 j _ _ (qH (by rw[←hall.1];exact hj)) (qH hj)).2.1
   ·obtain⟨j,hj,rfl⟩:=sO.1 hd;have hj':j <cs.toList.length:=by rw[hall.1];exact hj
    exact(hall.2 j _ _ (qH hj) (qH hj')).2.2 v
 ·rename_i v hv hne;simp only[qI,rV]at hz;obtain⟨rfl,hz⟩:=hz;split at hz
  ·rename_i z0;simp only[qY,if_false,List.head?_cons,qF]at h;subst h;obtain⟨h1,h2,h3⟩:=Iw (g:=g) (w:=w) (μ:=μ) hz;cases hi:P.info? el with
   |none=>simp[hi]at hne
   |some i=>
    have hz1:i.zero=some v:=by simpa[hi]using hne
    exact⟨v,by simp[zeroValue,typeInfo,hi,hz1],h1.toG,h3 v⟩
  ·cases hz
 ·cases hz
theorem Jz {t:Nat→D} {u:Nat→Value} (hi:Inv g w μ t u h O) {es:List (V×V)} {bs:List Nat} {ck:Nat} (hr:h[r]?=some (.map es bs ck)) (hb:μ[r]?=some b):
  ∃(ents:Array MapEntry),w.heap[b]?=some (.map ents ck)∧MapKept.Stamped ents ck∧ents.toList.map (·.born)=bs∧All2 (cH g) es ents.toList∧∀o,g.m b o=none:=hi.rows r _ b hr hb
theorem W9 {i:Operand} {ok':Bool} {m k:Opd} {st:Bool} {ag ok:Bool} (ht:(match P.underlying t with|some (.map kt el)=>E7 P kt st ks&&R5 P el zs ag|_=>false)=true)
  (hm:oe GL x m=true) (hk:oe GL i k=true) (ho':(ok'==ok)=true):Ch P GL (.lookup t x i ok') (.look m k st ks zs ag ok):=by
 intro g w μ e act h O y hd hx o ho;have hrm:=hd.ev hm;have hrk:=hd.ev hk;have:=eq_of_beq ho';subst this;split at ht
 ·rename_i kt el hu;simp only[qI]at ht;obtain⟨hkt,hlz⟩:=ht;simp only[PI.val]at hx;split at hx
  ·rename_i kv hkv;split at hx
   ·rename_i hko;have hkr:=Cs hrk hkv;have hck:=λe=>GY (P:=P) (w:=w) hkr hkt hko e;split at hx
    ·rename_i z hz;obtain⟨zv,hzrun,hzrep,hzown⟩:=Sx (P:=P) (g:=g) (w:=w) (μ:=μ) hlz hz;have fin:∀ {d:D} {v:Value} (b:Bool),RepG g w μ d v→Ae d v=none→M9 ok' d b=y→
       (execOp act.eval o).run P w= .ok (.value (if ok' then .tuple #[v,.bool b] else v)) w→
       ∃v,(execOp act.eval o).run P w= .ok (.value v) w∧RepD g w μ y v∧∀k,Ak y v k=none:=by
      rintro d v b hr hown rfl hrun;refine⟨_,hrun,?_⟩;cases ok' with
      |false=>exact⟨hr.toD,IK hr hown⟩
      |true=>
       refine⟨⟨[v,.bool b],rfl,.cons hr (.cons (RepV.bool b) .nil)⟩,λk=>?_⟩
       match k with
       |0=>exact hown
       |1=>simp[M9,Ak,Ae]
       |k+2=>simp[M9,Ak,Ae]
     split at hx
     ·rename_i hmv;rw[hmv]at hrm;simp only[qF]at hx;have hv:act.eval x= .map none:=Oo hrm;have hfk:=DF (P:=P) (w:=w) hkr hkt hko (es:=[]) (l:=[]) (r:=none) .nil rfl;refine fin false hzrep hzown hx ?_;cases ok'<;>simp[execOp,ho,hv,Instr.lookup,run_underlying hu,hck,hfk,hzrun,Result.andThen]
     ·rename_i r hmv;rw[hmv]at hrm;obtain⟨b,hb,hv⟩:=hrm;split at hx
      ·rename_i es bs ck hr;obtain⟨ents,hheap,hst,_,hall,_⟩:=Jz hd.inv hr hb;have Dn:=MapKept.run_getObj_map (P:=P) hheap;split at hx
       ·rename_i j hf;have hfk:=DF (P:=P) (w:=w) hkr hkt hko hall hf;simp only[qQ]at hx;obtain⟨p,hp,hy⟩:=hx;obtain⟨en,hen,h1,h2⟩:=hall.get hp;simp only[qp,hen,qq]at hfk;refine fin true (d:= .v p.2) (v:=en.val) h2 (by simp[Ae]) hy ?_;cases ok'<;>simp[execOp,ho,hv,Instr.lookup,run_underlying hu,Dn,hck,hfk,Result.andThen]
       ·rename_i hf;have hfk:=DF (P:=P) (w:=w) hkr hkt hko hall hf;simp only[qF]at hx;refine fin false hzrep hzown hx ?_;cases ok'<;>simp[execOp,ho,hv,Instr.lookup,run_underlying hu,Dn,hck,hfk,hzrun,Result.andThen]
       ·cases hx
      ·cases hx
     ·cases hx
    ·cases hx
   ·cases hx
  ·cases hx
 ·cases ht
theorem W1 {args:Array Operand} {ats:Array TypeId} (h1:JN args.toList (λx=>oe GL x x')=true)
  (h2:JN ats.toList (λt=>Fm P t (λ| .map _ _=>true|_=>false))=true):Ch P GL (.call {callee:= .builtin .len,args:=args,argTypes:=ats}) (.mlen x'):=by
 intro g w μ e act h O y hd hx o ho;obtain⟨x,rfl,hk⟩:=IL h1;obtain⟨t,rfl,ht⟩:=IL h2;have hu:∃kt el,P.underlying t=some (.map kt el):=by
  unfold Fm at ht;split at ht
  ·rename_i d hd;cases d<;>simp at ht;exact⟨_,_,hd⟩
  ·cases ht
 obtain⟨kt,el,hu⟩:=hu;have hr:=hd.ev hk;simp only[PI.val]at hx;split at hx
 ·rename_i hc;rw[hc]at hr;simp only[qF]at hx;subst hx;exact⟨.int .i64 0,by simp[execOp,ho,resolve,invoke,builtin,Builtin.len_,run_underlying hu,Oo hr,goInt],.int _ _,λk=>CM _ _ _⟩
 ·rename_i r hc;rw[hc]at hr;obtain⟨b,hb,hv⟩:=hr;split at hx
  ·rename_i es bs ck hr;simp only[qF]at hx;subst hx;obtain⟨ents,hheap,_,_,hall,_⟩:=Jz hd.inv hr hb;have Dn:=MapKept.run_getObj_map (P:=P) hheap;have hl:ents.size=es.length:=by have:=hall.1;simpa using this
   exact⟨.int .i64 es.length,by simp[execOp,ho,resolve,invoke,builtin,Builtin.len_,run_underlying hu,hv,Dn,goInt,hl],.int _ _,λk=>CM _ _ _⟩
  ·cases hx
 ·cases hx
end
end
section
theorem Fr {α:Type} (cs:List α) (off:Nat) (xs:List α) (h:off+xs.length≤cs.length):(AS cs off xs).length=cs.length:=by
 simp[AS];omega
theorem GK {α:Type} (cs:List α) (off:Nat) (xs:List α) (h:off+xs.length≤cs.length) (i:Nat):
  (AS cs off xs)[i]?=if i <off then cs[i]? else if i <off+xs.length then xs[i-off]? else cs[i]?:=by
 have hto:(cs.take off).length=off:=by simp;omega
 unfold AS;by_cases h1:i <off
 ·rw[qg,qe (by rw[hto];exact h1),qu];simp[h1]
 ·by_cases h2:i <off+xs.length
  ·rw[qg,ql (by rw[hto];omega),hto,qe (by omega)];simp[h1,h2]
  ·rw[qg,ql (by rw[hto];omega),hto,ql (by omega),rm];simp[h1,h2];congr 1;omega
theorem VB (cs:List Value):∀(off k:Nat) (A:Array Value),off+k+cs.length≤A.size→
  (cs.zipIdx k).foldl (λacc p=>acc.setIfInBounds (off+p.2) p.1) A=(AS A.toList (off+k) cs).toArray:=by
 induction cs with
 |nil=>intro off k A _;simp[AS]
 |cons c cs ih=>
  intro off k A h;simp only[qT]at h;simp only[tj,sc];rw[show k+1=k+1 from rfl,ih off (k+1) _ (by simp;omega)];apply congrArg;apply rj;intro i;rw[GK _ _ _ (by simp;omega),GK _ _ _ (by simp;omega)];simp only[Array.toList_setIfInBounds,rY,qT];by_cases h1:i <off+k
  ·simp[h1,show i <off+(k+1) by omega,show off+k≠i by omega]
  ·by_cases h2:i=off+k
   ·subst h2;simp[show off+k <off+(k+1) by omega,show off+k <A.size by omega]
   ·simp only[h1,if_false,show ¬i <off+(k+1) by omega];by_cases h3:i <off+k+(cs.length+1)
    ·simp only[show i <off+(k+1)+cs.length by omega,if_true,h3];rw[show i-(off+k)=(i-(off+(k+1)))+1 by omega,sU]
    ·simp[show ¬i <off+(k+1)+cs.length by omega,h3,show off+k≠i by omega]
theorem All2.putL {α β:Type} {R:α→β→Prop} {xs:List α} {ys:List β} (h:All2 R xs ys) {xs':List α} {ys':List β} (h':All2 R xs' ys') (off:Nat):
  All2 R (AS xs off xs') (AS ys off ys'):=by
 unfold Va.AS;rw[h'.1];exact((h.take off).append h').append (h.drop _)
variable {u:Value} {d:D} {μ:List Nat} {w:World} {g:Gh} {off t:Nat} {zs:List D}
section
variable {P:Program} {GL:Ac}
theorem VO (h:RepD g w μ d u) {cs:List D} (hc:d.cells?=some cs):
  All2 (RepE g w μ) cs u.cells.toList∧(∀v∈u.cells.toList,v.oneCell'=true)∧∀c∈cs,∀v,Ae c v=none:=by
 cases d with
 |agg ds=>
  simp only[D.cells?,qF]at hc;subst hc;obtain⟨vs,rfl,ha,h1,h0⟩:=h;exact⟨by simpa[Value.cells]using ha,by simpa[Value.cells]using h1,h0⟩
 |v x=>
  have hx:=RepV.cells (show RepV g x u from h);cases x<;>simp only[D.cells?,qF]at hc<;>subst hc
  case agg cs=>
   refine⟨All2.map_left (S:=RepE g w μ) (f:=D.v) (λ_ _ h=>h) hx.1,hx.2,?_⟩;intro c hc v;simp only[qX]at hc;obtain⟨_,_,rfl⟩:=hc;simp[Ae]
  all_goals exact⟨All2.map_left (S:=RepE g w μ) (f:=D.v) (λ_ _ h=>h) hx.1,hx.2,by simp[Ae]⟩
 |any=>simp[D.cells?]at hc
 |tup ds=>simp[D.cells?]at hc
 |own e s xs=>simp[D.cells?]at hc
 |nil e s=>
  simp only[D.cells?,qF]at hc;subst hc;obtain⟨a,rfl,hs⟩:=h;exact⟨.cons ⟨a,rfl,hs⟩ .nil,by simp[Value.cells,Value.oneCell'],by simp[Ae]⟩
 |ref r o=>
  simp only[D.cells?,qF]at hc;subst hc;obtain⟨b,hb,rfl⟩:=h;exact⟨.cons ⟨b,hb,rfl⟩ .nil,by simp[Value.cells,Value.oneCell'],by simp[Ae]⟩
 |sref r n=>
  simp only[D.cells?,qF]at hc;subst hc;obtain⟨b,cap,hb,rfl,hn⟩:=h;exact⟨.cons ⟨b,cap,hb,rfl,hn⟩ .nil,by simp[Value.cells,Value.oneCell'],by simp[Ae]⟩
 |mref r=>
  simp only[D.cells?,qF]at hc;subst hc;obtain⟨b,hb,rfl⟩:=h;exact⟨.cons ⟨b,hb,rfl⟩ .nil,by simp[Value.cells,Value.oneCell'],by simp[Ae]⟩
 |func f caps=>
  simp only[D.cells?,qF]at hc;subst hc;obtain⟨vs,rfl,ha⟩:=h;exact⟨.cons ⟨vs,rfl,ha⟩ .nil,by simp[Value.cells,Value.oneCell'],by simp[Ae]⟩
 |meth f caps=>
  simp only[D.cells?,qF]at hc;subst hc;obtain⟨vs,rfl,ha⟩:=h;exact⟨.cons ⟨vs,rfl,ha⟩ .nil,by simp[Value.cells,Value.oneCell'],by simp[Ae]⟩
 |pend b e s xs=>simp[D.cells?]at hc
 |pptr b s n=>simp[D.cells?]at hc
 |yld r=>
  simp only[D.cells?,qF]at hc;subst hc;obtain⟨b,hb,rfl⟩:=h;exact⟨.cons ⟨b,hb,rfl⟩ .nil,by simp[Value.cells,Value.oneCell'],by simp[Ae]⟩
theorem LU {α:Type} {cs:List α} {xs:List α} {x:α} (h:x∈AS cs off xs):x∈cs∨x∈xs:=by
 simp only[AS,qW]at h;rcases h with (h|h)|h
 ·exact .inl (rK h)
 ·exact .inr h
 ·exact .inl (rh h)
theorem Pp {g:Gh} {w:World} {μ:List Nat} {e:CH} {place:Nat→Option (Nat×Nat)}:
  ∀ {ps:List (Nat×Value)} {qs:List (Nat×Nat×Opd)} {zs zs':List D} {A:Array Value},
  All2 (λ(q:Nat×Nat×Opd) (p:Nat×Value)=>place p.1=some (q.1,q.2.1)∧RepD g w μ (q.2.2.ev e).copy p.2) qs ps→
  All2 (RepE g w μ) zs A.toList→(∀v∈A.toList,v.oneCell'=true)→(∀d∈zs,∀v,Ae d v=none)→Et e zs qs=some zs'→
  ∃A':Array Value,Instr.fill place A ps=some A'∧All2 (RepE g w μ) zs' A'.toList∧(∀v∈A'.toList,v.oneCell'=true)∧(∀d∈zs',∀v,Ae d v=none)∧A'.size=A.size
 |[],[],zs,zs',A,_,ha,h1,h0,hf=>by
  simp only[Et,qF]at hf;subst hf;exact⟨A,rfl,ha,h1,h0,rfl⟩
 |[],_::_,_,_,_,h,_,_,_,_=>by simp[All2]at h
 |_::_,[],_,_,_,h,_,_,_,_=>by simp[All2]at h
 |(i,v)::ps,(off,n,q)::qs,zs,zs',A,h,ha,h1,h0,hf=>by
  rw[All2.cons_iff]at h;obtain⟨⟨hp,hr⟩,hrest⟩:=h;simp only[Et]at hf;split at hf
  ·rename_i xs hxs;split at hf
   ·rename_i hcond;obtain⟨hx1,hx2,hx3⟩:=VO hr hxs;have hsz:v.cells.size=n:=by have:=hx1.1;simp at this;omega
    have hlen:A.size=zs.length:=by have:=ha.1;simpa using this
    have hput:v.cells.zipIdx.foldl (λcs p=>cs.setIfInBounds (off+p.2) p.1) A=(AS A.toList off v.cells.toList).toArray:=by
     have:=VB v.cells.toList off 0 A (by simp;omega);rw[←Array.foldl_toList,Array.toList_zipIdx];simpa using this
    obtain⟨A',hA',r1,r2,r3,r4⟩:=Pp (place:=place) hrest (zs:=AS zs off xs) (zs':=zs') (A:=(AS A.toList off v.cells.toList).toArray)
     (by simpa using ha.putL hx1 off) (λu hu=>(LU (by simpa using hu)).elim (h1 u) (hx2 u))
     (λd hd=>(LU hd).elim (h0 d) (hx3 d)) hf
    refine⟨A',?_,r1,r2,r3,?_⟩
    ·simp only[Instr.fill,hp,hsz];rw[if_neg (by simp;omega)];rw[hput];exact hA'
    ·rw[r4];simp;rw[Fr _ _ _ (by simp;omega)];simp
   ·cases hf
  ·cases hf
theorem Mk {α β γ:Type} {f:α→β→Bool} {R:β→γ→Prop} {m:α→γ} (hf:∀x y,f x y=true→R y (m x)):∀ {xs:List α} {ys:List β},Ap f xs ys=true→All2 R ys (xs.map m)
 |[],[],_=> .nil
 |x::xs,y::ys,h=>by
  simp only[Ap,qI]at h;exact .cons (hf _ _ h.1) (Mk hf h.2)
 |[],_::_,h=>by simp[Ap]at h
 |_::_,[],h=>by simp[Ap]at h
theorem V1 {ps:Array (Nat×Operand)} {qs:List (Nat×Nat×Opd)} (hz:NY P t zs=true) (hp:HU P GL t ps.toList qs=true):
  Ch P GL (.build t ps) (.build zs qs):=by
 intro g w μ e act h O y hd hx o ho;simp only[PI.val,qQ]at hx;obtain⟨zs',hf,rfl⟩:=hx;unfold NY at hz;split at hz
 ·rename_i z hzz;cases hit:P.info? t with
  |none=>simp[hit]at hzz
  |some it=>
   have hz1:it.zero=some z:=by simpa[hit]using hzz
   have key:∀place:Nat→Option (Nat×Nat),Ap (λp q=>oe GL p.2 q.2.2&&place p.1==some (q.1,q.2.1)) ps.toList qs=true→
     (∀A',Instr.fill place z.cells (ps.toList.map λp=>(p.1,act.eval p.2))=some A'→P.built t (ps.map λp=>(p.1,act.eval p.2)).toList=some A')→
     ∃v,(execOp act.eval o).run P w= .ok (.value v) w∧RepD g w μ (.agg zs') v∧∀k,Ak (.agg zs') v k=none:=by
    intro place hp hbuilt;have h0:All2 (λd v=>RepE g w μ d v∧v.oneCell'=true∧∀u,Ae d u=none) zs z.cells.toList:=Cm (λ_ _=>Iw) hz;have hq:All2 (λ(q:Nat×Nat×Opd) (p:Nat×Value)=>place p.1=some (q.1,q.2.1)∧RepD g w μ (q.2.2.ev e).copy p.2) qs (ps.toList.map λp=>(p.1,act.eval p.2)):=
     Mk (λp q hpq=>by
      simp only[qI,beq_iff_eq]at hpq;exact⟨hpq.2,(hd.ev hpq.1).copy⟩) hp
    obtain⟨A',hA,r1,r2,r3,_⟩:=Pp (place:=place) hq (h0.imp λ_ _ h=>h.1)
     (λv hv=>by
      obtain⟨i,hi,rfl⟩:=sO.1 hv;have hi':i <zs.length:=h0.1▸hi;exact(h0.2 i _ _ (qH hi') (qH hi)).2.1)
     (λd hd'=>by
      obtain⟨i,hi,rfl⟩:=sO.1 hd';have hi':i <z.cells.toList.length:=h0.1.symm▸hi;exact(h0.2 i _ _ (qH hi) (qH hi')).2.2) hf
    refine⟨.agg A',?_,⟨A'.toList,by simp,r1,r2,r3⟩,λk=>by cases k<;>simp[Ak,Ae]⟩
    have:=run_build (P:=P) w t (ps.map λp=>(p.1,act.eval p.2)) A' (hbuilt A' hA);simp[execOp,ho,this]
   unfold HU at hp;split at hp
   ·rename_i fs hu;split at hp
    ·rename_i places hpl;refine key (λi=>places[i]?) hp λA' hA=>?_;simp only[Program.built,hit,hu,hz1,hpl,Array.toList_map];simpa using hA
    ·cases hp
   ·rename_i n el hu;split at hp
    ·rename_i ie hie;refine key (λi=>some (i*ie.size,ie.size)) hp λA' hA=>?_;simp only[Program.built,hit,hu,hz1,hie,Array.toList_map];simpa using hA
    ·cases hp
   ·cases hp
 ·cases hz
theorem ZN {op:Op} {pi:PI} (hk:Vj P GL op pi=true):Ch P GL op pi:=by
 unfold Vj at hk;split at hk<;>(try simp only[qI]at hk)
 ·exact Wm hk.1.1 hk.1.2 hk.2
 ·exact Nu hk.1.1.1 hk.1.1.2 hk.1.2 hk.2
 ·exact Ww hk
 ·obtain⟨⟨h1,h2⟩,h3⟩:=hk;have:=eq_of_beq h1;subst this;exact @bj P GL _ _ _ _ _ _ _ h2 h3
 ·exact aU hk.1.1.1 hk.1.1.2 hk.1.2 hk.2
 ·exact aT hk.1.1.1 hk.1.1.2 hk.1.2 hk.2
 ·exact aV hk.1.1.1 hk.1.1.2 hk.1.2 hk.2
 ·exact Zr hk.1 hk.2
 ·exact Zu hk.1 hk.2
 ·exact aC hk.1 hk.2
 ·exact Xd hk.1.1 hk.1.2 hk.2
 ·exact VD hk.1.1 hk.1.2 hk.2
 ·exact aO hk.1.1.1 hk.1.1.2 hk.1.2 hk.2
 ·exact U0 hk.1.1 hk.1.2 hk.2
 ·exact S1 hk.1.1 hk.1.2 hk.2
 ·exact S2 hk.1.1 hk.1.2 hk.2
 ·exact XK hk.1.1 hk.1.2 hk.2
 ·exact aQ hk.1 hk.2
 ·exact Zy hk.1.1 hk.1.2 hk.2
 ·exact W5 hk.1.1 hk.1.2 hk.2
 ·exact XM hk.1.1 hk.1.2 hk.2
 ·exact Xw hk.1 hk.2
 ·exact XA hk.1 hk.2
 ·exact Z1 hk
 ·exact Z0 hk
 ·exact ZU hk.1.1.1.1 hk.1.1.1.2 hk.1.1.2 hk.1.2 hk.2
 ·exact WV hk.1.1.1.1 hk.1.1.1.2 hk.1.1.2 hk.1.2 hk.2
 ·exact WW hk.1.1.1 hk.1.1.2 hk.1.2 hk.2
 ·exact bt hk.1.1 hk.1.2 hk.2
 ·exact W9 hk.1.1.1 hk.1.1.2 hk.1.2 hk.2
 ·exact W1 hk.1 hk.2
 ·exact V1 hk.1 hk.2
 ·cases hk
end
end
section
variable {d:D} {b k r:Nat} {ds:List D} {M:Nat→Prop} {h':List Row} {μ':List Nat} {w':World} {g':Gh} {v:Value}
section
variable {g:Gh} {w:World} {μ:List Nat} {t:Nat→D} {u:Nat→Value} {h:List Row} {O:Nat→Prop}
theorem Inv.cell (hi:Inv g w μ t u h O) (hr:h[r]?=some (.cells ds)) (hb:μ[r]?=some b) (hd:ds[k]?=some d):
  RepE g w μ d (BK w μ r k):=by
 obtain⟨vs,T,hheap,hall,hone,_⟩:=hi.row hb hr;obtain⟨v,hv,hrep⟩:=hall.get hd;rw[Df hb hheap hv];exact hrep
theorem Inv.blk_lt (hi:Inv g w μ t u h O) {p:Pl} (hb:Cl t u h w μ p=some b):b <w.heap.size:=by
 cases p with
 |tmp n k=>
  have hr:=hi.rep n;simp only[Cl]at hb;generalize t n=d at hr hb;generalize u n=v at hr hb;cases d with
  |tup ds=>
   obtain⟨vs,rfl,ha⟩:=hr;simp only[Ak,sw]at hb;cases hd:ds[k]? with
   |none=>simp[hd,Ae]at hb
   |some d=>
    obtain⟨v,hv,hrv⟩:=ha.get hd;simp only[hd,hv,qd]at hb;cases d<;>simp only[Ae]at hb<;>try (cases hb;done)
    case pend b' e s xs=>exact JM (μ:=μ) (d:= .pend b' e s xs) hrv (by simpa[Ae]using hb)
    exact JM (μ:=μ) (d:= .own _ _ _) hrv (by simpa[Ae]using hb)
  |pend b' e s xs=>cases k with
   |zero=>exact JM (μ:=μ) (d:= .pend b' e s xs) hr (by simpa[Ak]using hb)
   |succ k=>simp[Ak]at hb
  |own e s xs=>cases k with
   |zero=>exact JM (μ:=μ) (d:= .own e s xs) hr (by simpa[Ak]using hb)
   |succ k=>simp[Ak]at hb
  |_=>cases k<;>simp[Ak,Ae]at hb
 |cell r k=>
  simp only[Cl,A9]at hb;split at hb
  ·rename_i ds hr;cases hd:ds[k]? with
   |none=>simp[hd,Ae]at hb
   |some d=>
    have hlt:r <μ.length:=by rw[hi.len];exact(qK.1 hr).1
    have:=hi.cell hr (qH hlt) hd;exact JM this (by simpa[hd]using hb)
  ·simp[Ae]at hb
theorem Inv.upd (hi:Inv g w μ t u h O) {t':Nat→D} {u':Nat→Value} (hc:Chg M g w g' w')
  (hag:∀b o v,g'.m b o=some v→w'.cell? ⟨b,o,none⟩=some v) (hrep:∀n,RepD g' w' μ' (t' n) (u' n)) (hlen:μ'.length=h'.length)
  (hrows:∀(r:Nat) row b,h'[r]?=some row→μ'[r]?=some b→RowOK g' w' μ' b row) (hnod:∀(r r':Nat) b,μ'[r]?=some b→μ'[r']?=some b→r=r')
  (hμ:∀b,b∈μ'→b∈μ∨w.heap.size≤b) (σ:Pl→Option Pl) (hσ:∀p q r,σ p=some r→σ q=some r→p=q) (p0:Pl)
  (hb:∀p b,Cl t' u' h' w' μ' p=some b→(∃r,σ p=some r∧Cl t u h w μ r=some b)∨(p=p0∧w.heap.size≤b∧b∉μ')):Inv g' w' μ' t' u' h' O where
 agree:=hag
 olt:=λb hb=>tP (hi.olt b hb) hc.size
 rep:=hrep
 len:=hlen
 rows:=hrows
 nod:=hnod
 mo:=λb hb ho=>by
  rcases hμ b hb with h1|h1
  ·exact hi.mo b h1 ho
  ·have:=hi.olt b ho;omega
 uniq:=λp q b hp hq=>by
  rcases hb p b hp with ⟨r,hr,hbr⟩|⟨rfl,h1,_⟩
  ·rcases hb q b hq with ⟨r',hr',hbr'⟩|⟨rfl,h1,_⟩
   ·have:=hi.uniq r r' b hbr hbr';subst this;exact hσ p q r hr hr'
   ·have:=hi.blk_lt hbr;omega
  ·rcases hb q b hq with ⟨r',hr',hbr'⟩|⟨rfl,_,_⟩
   ·have:=hi.blk_lt hbr';omega
   ·rfl
 sep:=λp b hp=>by
  rcases hb p b hp with ⟨r,hr,hbr⟩|⟨rfl,h1,h2⟩
  ·have hlt:=hi.blk_lt hbr;obtain⟨s1,s2⟩:=hi.sep r b hbr;refine⟨λhm=>?_,s2⟩;rcases hμ b hm with h3|h3
   ·exact s1 h3
   ·omega
  ·exact⟨h2,λho=>by have:=hi.olt b ho;omega⟩
theorem Inv.set (hi:Inv g w μ t u h O) {d:Nat} {x:D} (hx:RepD g w μ x v) (h0:∀k,Ak x v k=none):
  Inv g w μ (λn=>if d=n then x else t n) (λn=>if d=n then v else u n) h O:=by
 refine hi.upd (Chg.refl (λ_=>False) g w) hi.agree (λn=>?_) hi.len hi.rows hi.nod (λb hb=> .inl hb) (λp=>some p) (λp q r hp hq=>by simp at hp hq;rw[hp,hq]) (.tmp 0 0) ?_
 ·by_cases hn:d=n
  ·simp[hn,hx]
  ·simp[hn,hi.rep n]
 ·intro p b hb;refine .inl ⟨p,rfl,?_⟩;cases p with
  |tmp n k=>
   simp only[Cl]at hb ⊢;by_cases hn:d=n
   ·simp[hn,h0]at hb
   ·simpa[hn]using hb
  |cell r k=>exact hb
theorem Inv.move (hi:Inv g w μ t u h O) {d s:Nat}:
  Inv g w μ (λn=>if d=n then t s else if s=n then (t s).copy else t n) (λn=>if d=n then u s else if s=n then u s else u n) h O:=by
 refine hi.upd (Chg.refl (λ_=>False) g w) hi.agree (λn=>?_) hi.len hi.rows hi.nod (λb hb=> .inl hb)
  (λp=>match p with| .tmp n k=>if d=n then some (.tmp s k) else if s=n then none else some (.tmp n k)| .cell r k=>some (.cell r k)) ?_ (.tmp 0 0) ?_
 ·by_cases hn:d=n
  ·simp[hn,hi.rep s]
  ·by_cases hs:s=n
   ·simpa[hn,hs]using (hi.rep n).copy
   ·simp[hn,hs,hi.rep n]
 ·intro p q r hp hq;cases p<;>cases q<;>simp only[]at hp hq
  ·rename_i n k n' k';by_cases h1:d=n<;>by_cases h2:d=n'<;>by_cases h3:s=n<;>by_cases h4:s=n'<;>simp_all
   all_goals (subst_vars;simp_all)
  ·rename_i n k r' k';by_cases h1:d=n<;>by_cases h3:s=n<;>simp_all
   all_goals (subst_vars;simp_all)
  ·rename_i r' k' n k;by_cases h1:d=n<;>by_cases h3:s=n<;>simp_all
   all_goals (subst_vars;simp_all)
  ·simp_all
 ·intro p b hb;cases p with
  |tmp n k=>
   simp only[Cl]at hb;by_cases hn:d=n
   ·exact .inl ⟨.tmp s k,by simp[hn],by simpa[hn,Cl]using hb⟩
   ·by_cases hs:s=n
    ·simp[hn,hs,CR]at hb
    ·exact .inl ⟨.tmp n k,by simp[hn,hs],by simpa[hn,hs,Cl]using hb⟩
  |cell r k=>exact .inl ⟨.cell r k,rfl,hb⟩
end
end
section
variable {b:Nat} {w:World} {g:Gh}
theorem Gh.lt_of (hag:∀b o v,g.m b o=some v→w.cell? ⟨b,o,none⟩=some v) (hb:w.heap.size≤b) (o:Nat):g.m b o=none:=by
 cases hm:g.m b o with
 |none=>rfl
 |some v=>
  have:=World.block_lt_of_cell? w ⟨b,o,none⟩ (hag b o v hm);simp at this;omega
def Gh.put (g:Gh) (b o:Nat) (vs:List Value):Gh where
 m:=λb' o'=>if b'=b∧o≤o'∧o' <o+vs.length then vs[o'-o]? else g.m b' o'
theorem Gh.put_at (g:Gh) (b o:Nat) (vs:List Value):(g.put b o vs).at b o vs:=by
 intro i v hv;have hi:=(qK.1 hv).1;simp only[Gh.put];rw[if_pos ⟨trivial,by omega,by omega⟩,show o+i-o=i by omega];exact hv
theorem Gh.le_put {o:Nat} (vs:List Value) (h:∀o',o≤o'→o' <o+vs.length→g.m b o'=none):g.le (g.put b o vs):=by
 intro b' o' v hv;simp only[Gh.put];split
 ·rename_i hc;rw[hc.1]at hv;rw[h o' hc.2.1 hc.2.2]at hv;cases hv
 ·exact hv
variable {vs:List Value}
theorem Gh.put_other {o:Nat} {b':Nat} (h:b'≠b) (o':Nat):(g.put b o vs).m b' o'=g.m b' o':=by simp[Gh.put,h]
variable {row:Row} {r:Nat} {μ':List Nat} {w':World} {g':Gh} {M:Nat→Prop} {zs:List D}
section
variable {g:Gh} {w:World} {μ:List Nat} {t:Nat→D} {u:Nat→Value} {h:List Row} {O:Nat→Prop}
theorem CG (M:Nat→Prop) (g:Gh) (w:World) (o:Obj):Chg M g w g (w.alloc o):=
 ⟨Gh.le.refl g,by simp,λb hb _=>heap_alloc_old w o b hb,λ_ _ _ _=>rfl,rfl,rfl⟩
theorem Dh (hag:∀b o v,g.m b o=some v→w.cell? ⟨b,o,none⟩=some v) (ob:Obj):∀b o v,g.m b o=some v→(w.alloc ob).cell? ⟨b,o,none⟩=some v:=by
 intro b o v hv;have:=hag b o v hv;rw[World.cell?_alloc_lt w ob _ (World.block_lt_of_cell? w _ this)];exact this
theorem Inv.mem_lt (hi:Inv g w μ t u h O) (hb:b∈μ):b <w.heap.size:=by
 obtain⟨r,hr,rfl⟩:=sO.1 hb;have hr':r <h.length:=hi.len▸hr;exact(hi.rows r _ _ (qH hr') (qH hr)).lt
theorem RowOK.chg {M:Nat→Prop} {g':Gh} {w':World} {μ':List Nat} (hc:Chg M g w g' w') (hμ:μ <+: μ') {b:Nat} {row:Row} (hr:RowOK g w μ b row) (hb:¬M b)
  (hn:∀k ds d v,row= .cells ds→ds[k]?=some d→w.cell? ⟨b,k,none⟩=some v→∀b',Ae d v=some b'→¬M b'):RowOK g' w' μ' b row:=by
 have hlt:=hr.lt;cases row with
 |cells ds=>
  obtain⟨vs,T,hheap,hall,hone,hg⟩:=hr;refine⟨vs,T,(hc.heap b hlt hb).trans hheap,⟨hall.1,λk d v hd hv=>(hall.2 k d v hd hv).chg hc hμ λb' hb'=>?_⟩,hone,λo=>(hc.gh b hlt hb o).trans (hg o)⟩;exact hn k ds d v rfl hd (by simp[World.cell?,hheap,hv]) b' hb'
 |map es st ck=>
  obtain⟨ents,hheap,hst,hbs,hall,hg⟩:=hr;exact⟨ents,(hc.heap b hlt hb).trans hheap,hst,hbs,hall.imp λ_ _ h=>⟨h.1.mono hc.le,h.2.mono hc.le⟩,λo=>(hc.gh b hlt hb o).trans (hg o)⟩
 |obj tag p mono=>
  obtain⟨o,hheap,hp,hg⟩:=hr;exact⟨o,(hc.heap b hlt hb).trans hheap,mono _ _ _ _ _ hc.le hμ hp,λo=>(hc.gh b hlt hb o).trans (hg o)⟩
 |dead=>exact tP hlt hc.size
theorem Inv.rowChg (hi:Inv g w μ t u h O) (hc:Chg M g w g' w') (hμ:μ <+: μ') (hr:h[r]?=some row) (hb:μ[r]?=some b)
  (hM:¬M b) (hn:∀p b',Cl t u h w μ p=some b'→M b'→∀k,p≠ .cell r k):RowOK g' w' μ' b row:=by
 refine(hi.rows r row b hr hb).chg hc hμ hM ?_;intro k ds d v hrow hd hv b' hb' hm;subst hrow;refine hn (.cell r k) b' ?_ hm k rfl;simp only[Cl,A9,hr,BK,hb,qp,hv,qd,hd];exact hb'
theorem EP (hi:Inv g w μ t u h O) (hc:Chg M g w g' w') (hμ:μ <+: μ') (n:Nat)
  (hn:∀k b',Cl t u h w μ (.tmp n k)=some b'→¬M b'):RepD g' w' μ' (t n) (u n):=
 (hi.rep n).chg hc hμ λk b hb=>hn k b hb
theorem Inv.newRow (hi:Inv g w μ t u h O) (T:TypeId) (ha:All2 (RepE g w μ) zs vs) (h1:∀v∈vs,v.oneCell'=true)
  (h0:∀(i:Nat) z v,zs[i]?=some z→vs[i]?=some v→Ae z v=none):
  Inv g (w.alloc (.cells vs.toArray T)) (μ++[w.heap.size]) t u (h++[.cells zs]) O:=by
 have hc:=CG (λ_=>False) g w (.cells vs.toArray T);have hpre:μ <+: μ++[w.heap.size]:=rx _ _;have hold:∀r,r <h.length→(h++[Row.cells zs])[r]?=h[r]?:=λr hr=>qe hr;have holdμ:∀r,r <h.length→(μ++[w.heap.size])[r]?=μ[r]?:=λr hr=>qe (hi.len▸hr);have hnewμ:(μ++[w.heap.size])[h.length]?=some w.heap.size:=by rw[←hi.len];simp
 have hnew:(h++[Row.cells zs])[h.length]?=some (.cells zs):=by simp
 refine hi.upd hc (Dh hi.agree _) (λn=>EP hi hc hpre n λ_ _ _ h=>h) (by simp[hi.len]) ?_ ?_ ?_ (λp=>some p) (λp q r hp hq=>by simp at hp hq;rw[hp,hq]) (.tmp 0 0) ?_
 ·intro r row b hr hb;by_cases hlt:r <h.length
  ·rw[hold r hlt]at hr;rw[holdμ r hlt]at hb;exact hi.rowChg hc hpre hr hb (λh=>h) (λ_ _ _ h=>h.elim)
  ·have:r=h.length:=by
    have:=(qK.1 hr).1;simp at this;omega
   subst this;rw[hnew]at hr;rw[hnewμ]at hb;simp only[qF]at hr hb;subst hr;subst hb;refine⟨vs,T,heap_alloc_new w _,⟨ha.1,λi x v hx hv=>(ha.2 i x v hx hv).chg hc hpre λ_ _ h=>h⟩,h1,λo=>Gh.lt_of hi.agree (qM _) o⟩
 ·intro r r' b hr hr';have hlen:∀x,(μ++[w.heap.size])[x]?=some b→x <h.length+1:=λx hx=>by
   have:=(qK.1 hx).1;simp[hi.len]at this;omega
  have l1:=hlen r hr;have l2:=hlen r' hr';by_cases a1:r <h.length<;>by_cases a2:r' <h.length
  ·rw[holdμ r a1]at hr;rw[holdμ r' a2]at hr';exact hi.nod r r' b hr hr'
  ·have:r'=h.length:=by omega
   subst this;rw[hnewμ]at hr';rw[holdμ r a1]at hr;simp only[qF]at hr';subst hr';have:=hi.mem_lt (qJ hr);omega
  ·have:r=h.length:=by omega
   subst this;rw[hnewμ]at hr;rw[holdμ r' a2]at hr';simp only[qF]at hr;subst hr;have:=hi.mem_lt (qJ hr');omega
  ·omega
 ·intro b hb;simp only[qW,qO]at hb;rcases hb with h|h
  ·exact .inl h
  ·exact .inr (by omega)
 ·intro p b hb;refine .inl ⟨p,rfl,?_⟩;cases p with
  |tmp n k=>exact hb
  |cell r k=>
   simp only[Cl]at hb ⊢;by_cases hlt:r <h.length
   ·have e1:A9 (h++[.cells zs]) r k=A9 h r k:=by simp only[A9,hold r hlt]
    have e2:BK (w.alloc (.cells vs.toArray T)) (μ++[w.heap.size]) r k=BK w μ r k:=by
     simp only[BK,holdμ r hlt];cases hm:μ[r]? with
     |none=>rfl
     |some b'=>
      have:=hi.mem_lt (qJ hm);simp only[qp];rw[World.cell?_alloc_lt w _ ⟨b',k,none⟩ this]
    rw[e1,e2]at hb;exact hb
   ·by_cases he:r=h.length
    ·subst he;simp only[A9,hnew]at hb;cases hz:zs[k]? with
     |none=>simp[hz,Ae]at hb
     |some z=>
      obtain⟨v,hv,_⟩:=ha.get hz;have e2:BK (w.alloc (.cells vs.toArray T)) (μ++[w.heap.size]) h.length k=v:=
       Df hnewμ (heap_alloc_new w _) hv
      rw[e2,hz]at hb;simp only[qd]at hb;rw[h0 k z v hz hv]at hb;cases hb
    ·have:(h++[Row.cells zs])[r]?=none:=by simp;omega
     simp[A9,this,Ae]at hb
theorem Inv.newAny (hi:Inv g w μ t u h O) (row:Row) (ob:Obj) (hR:RowOK g (w.alloc ob) (μ++[w.heap.size]) w.heap.size row)
  (h0:∀k ds d,row= .cells ds→ds[k]?=some d→Ae d (BK (w.alloc ob) (μ++[w.heap.size]) h.length k)=none):
  Inv g (w.alloc ob) (μ++[w.heap.size]) t u (h++[row]) O:=by
 have hc:=CG (λ_=>False) g w ob;have hpre:μ <+: μ++[w.heap.size]:=rx _ _;have hold:∀r,r <h.length→(h++[row])[r]?=h[r]?:=λr hr=>qe hr;have holdμ:∀r,r <h.length→(μ++[w.heap.size])[r]?=μ[r]?:=λr hr=>qe (hi.len▸hr);have hnewμ:(μ++[w.heap.size])[h.length]?=some w.heap.size:=by rw[←hi.len];simp
 have hnew:(h++[row])[h.length]?=some row:=by simp
 refine hi.upd hc (Dh hi.agree _) (λn=>EP hi hc hpre n λ_ _ _ h=>h) (by simp[hi.len]) ?_ ?_ ?_ (λp=>some p) (λp q r hp hq=>by simp at hp hq;rw[hp,hq]) (.tmp 0 0) ?_
 ·intro r row b hr hb;by_cases hlt:r <h.length
  ·rw[hold r hlt]at hr;rw[holdμ r hlt]at hb;exact hi.rowChg hc hpre hr hb (λh=>h) (λ_ _ _ h=>h.elim)
  ·have:r=h.length:=by
    have:=(qK.1 hr).1;simp at this;omega
   subst this;rw[hnew]at hr;rw[hnewμ]at hb;simp only[qF]at hr hb;subst hr;subst hb;exact hR
 ·intro r r' b hr hr';have hlen:∀x,(μ++[w.heap.size])[x]?=some b→x <h.length+1:=λx hx=>by
   have:=(qK.1 hx).1;simp[hi.len]at this;omega
  have l1:=hlen r hr;have l2:=hlen r' hr';by_cases a1:r <h.length<;>by_cases a2:r' <h.length
  ·rw[holdμ r a1]at hr;rw[holdμ r' a2]at hr';exact hi.nod r r' b hr hr'
  ·have:r'=h.length:=by omega
   subst this;rw[hnewμ]at hr';rw[holdμ r a1]at hr;simp only[qF]at hr';subst hr';have:=hi.mem_lt (qJ hr);omega
  ·have:r=h.length:=by omega
   subst this;rw[hnewμ]at hr;rw[holdμ r' a2]at hr';simp only[qF]at hr;subst hr;have:=hi.mem_lt (qJ hr');omega
  ·omega
 ·intro b hb;simp only[qW,qO]at hb;rcases hb with h|h
  ·exact .inl h
  ·exact .inr (by omega)
 ·intro p b hb;refine .inl ⟨p,rfl,?_⟩;cases p with
  |tmp n k=>exact hb
  |cell r k=>
   simp only[Cl]at hb ⊢;by_cases hlt:r <h.length
   ·have e1:A9 (h++[row]) r k=A9 h r k:=by simp only[A9,hold r hlt]
    have e2:BK (w.alloc ob) (μ++[w.heap.size]) r k=BK w μ r k:=by
     simp only[BK,holdμ r hlt];cases hm:μ[r]? with
     |none=>rfl
     |some b'=>
      have:=hi.mem_lt (qJ hm);simp only[qp];rw[World.cell?_alloc_lt w _ ⟨b',k,none⟩ this]
    rw[e1,e2]at hb;exact hb
   ·by_cases he:r=h.length
    ·subst he;simp only[A9,hnew]at hb;cases row with
     |cells ds=>
      cases hz:ds[k]? with
      |none=>simp[hz,Ae]at hb
      |some z=>simp only[hz,qd]at hb;rw[h0 k ds z rfl hz]at hb;cases hb
     |_=>simp[Ae]at hb
    ·have:(h++[row])[r]?=none:=by simp;omega
     simp[A9,this,Ae]at hb
end
end
section
variable {b k n r:Nat} {vs:List Value} {ds:List D} {xs:List V} {w':World} {g':Gh}
section
variable {g:Gh} {w:World} {μ:List Nat} {t:Nat→D} {u:Nat→Value} {h:List Row} {O:Nat→Prop}
theorem Eg (g:Gh) (w:World) (b:Nat) (cs:Array Value):Chg (λx=>x=b) g w g (w.setRow b cs):=
 ⟨Gh.le.refl g,by simp,λb' _ hb=>setRow_other w b b' cs hb,λ_ _ _ _=>rfl,rfl,rfl⟩
theorem Jn (hag:∀b o v,g.m b o=some v→w.cell? ⟨b,o,none⟩=some v) (hg:∀o,g.m b o=none) (cs:Array Value):
  ∀b' o v,g.m b' o=some v→(w.setRow b cs).cell? ⟨b',o,none⟩=some v:=by
 intro b' o v hv;by_cases hb:b'=b
 ·subst hb;rw[hg o]at hv;cases hv
 ·rw[World.cell?_of_block (a:=⟨b',o,none⟩) (setRow_other w b b' cs hb)];exact hag b' o v hv
theorem Inv.storeRow (hi:Inv g w μ t u h O) (hr:h[r]?=some (.cells ds)) (hb:μ[r]?=some b) {T:TypeId}
  (hheap:w.heap[b]?=some (.cells vs.toArray T (0,0))) (ds':List D) (vs':List Value)
  (ha:All2 (RepE g w μ) ds' vs') (h1:∀v∈vs',v.oneCell'=true)
  (h0:∀(i:Nat) z v,ds'[i]?=some z→vs'[i]?=some v→Ae z v=none∨(ds[i]?=some z∧vs[i]?=some v)):
  Inv g (w.setRow b vs'.toArray) μ t u (h.set r (.cells ds')) O:=by
 have hbm:b∈μ:=qJ hb;obtain⟨_,_,hheap',_,_,hg⟩:=hi.row hb hr;have hc:=Eg g w b vs'.toArray;have hrl:r <h.length:=(qK.1 hr).1;have hnb:∀p b',Cl t u h w μ p=some b'→b'≠b:=λp b' hp he=>(hi.sep p b' hp).1 (he▸hbm);have hcellU:∀k,(∀v,vs[k]?=some v→BK w μ r k=v):=λk v hv=>Df hb hheap hv;have hnew:(w.setRow b vs'.toArray).heap[b]?=some (.cells vs'.toArray T (0,0)):=setRow_heap w b _ _ T _ hheap;have hblk:∀p b',Cl t u (h.set r (.cells ds')) (w.setRow b vs'.toArray) μ p=some b'→Cl t u h w μ p=some b':=by
  intro p b' hp;cases p with
  |tmp n k=>exact hp
  |cell r' k=>
   simp only[Cl]at hp ⊢;by_cases he:r'=r
   ·subst he;simp only[A9,rA hrl]at hp;cases hz:ds'[k]? with
    |none=>simp[hz,Ae]at hp
    |some z=>
     obtain⟨v,hv,_⟩:=ha.get hz;rw[Df hb hnew hv,hz]at hp;simp only[qd]at hp;rcases h0 k z v hz hv with h3|⟨h3,h4⟩
     ·rw[h3]at hp;cases hp
     ·simp only[A9,hr,h3,qd,hcellU k v h4];exact hp
   ·have e1:A9 (h.set r (.cells ds')) r' k=A9 h r' k:=by simp only[A9,qz (Ne.symm he)]
    have e2:BK (w.setRow b vs'.toArray) μ r' k=BK w μ r' k:=by
     simp only[BK];cases hm:μ[r']? with
     |none=>rfl
     |some b2=>
      simp only[qp];have hne:b2≠b:=λe=>he (hi.nod r' r b (e▸hm) hb);rw[World.cell?_of_block (a:=⟨b2,k,none⟩) (setRow_other w b b2 _ hne)]
    rw[e1,e2]at hp;exact hp
 refine hi.upd hc (Jn hi.agree hg _) (λn=>EP hi hc (qP μ) n λk b' hb'=>hnb _ b' hb') (by simp[hi.len]) ?_ hi.nod (λb hb=> .inl hb)
  (λp=>some p) (λp q r hp hq=>by simp at hp hq;rw[hp,hq]) (.tmp 0 0) (λp b' hp=> .inl ⟨p,rfl,hblk p b' hp⟩)
 intro r' row b' hrow hb';by_cases he:r'=r
 ·subst he;rw[rA hrl]at hrow;simp only[qF]at hrow;subst hrow;rw[hb]at hb';simp only[qF]at hb';subst hb';refine⟨vs',T,hnew,⟨ha.1,λi x v hx hv=>(ha.2 i x v hx hv).chg hc (qP μ) λb2 hb2=>?_⟩,h1,hg⟩;rcases h0 i x v hx hv with h3|⟨h3,h4⟩
  ·rw[h3]at hb2;cases hb2
  ·refine hnb (.cell r' i) b2 ?_;simp only[Cl,A9,hr,h3,qd,hcellU i v h4];exact hb2
 ·rw[qz (Ne.symm he)]at hrow;have hne:b'≠b:=λe=>he (hi.nod r' r b (e▸hb') hb);exact hi.rowChg hc (qP μ) hrow hb' hne λp b2 hp hm k=>absurd hm (hnb p b2 hp)
theorem Inv.giveD (hi:Inv g w μ t u h O) (hr:h[r]?=some (.cells ds)) (hb:μ[r]?=some b) {T:TypeId}
  (hheap:w.heap[b]?=some (.cells vs.toArray T (0,0))) (hk:k <ds.length) {d0:D} (ht:t n=d0) (hrn:RepE g w μ d0 (u n)) (hbl:Ak d0 (u n) 0=Ae d0 (u n)) (h1:(u n).oneCell'=true) {d1:D} (hd1:∀w',RepD g w' μ d1 (u n)) (ho1:∀j,Ak d1 (u n) j=none):
  Inv g (w.setRow b (vs.set k (u n)).toArray) μ (λm=>if n=m then d1 else t m) u (h.set r (.cells (ds.set k d0))) O:=by
 have hbm:b∈μ:=qJ hb;obtain⟨vs0,T0,hheap',hall0,hone0,hg⟩:=hi.row hb hr;rw[hheap]at hheap';simp only[qF,Obj.cells.injEq,true_and,and_true]at hheap';obtain⟨hvv,rfl⟩:=hheap';have hvv':vs=vs0:=by simpa using congrArg Array.toList hvv
 subst hvv';have hc:=Eg g w b (vs.set k (u n)).toArray;have hrl:r <h.length:=(qK.1 hr).1;have hnb:∀p b',Cl t u h w μ p=some b'→b'≠b:=λp b' hp he=>(hi.sep p b' hp).1 (he▸hbm);have hnew:(w.setRow b (vs.set k (u n)).toArray).heap[b]?=some (.cells (vs.set k (u n)).toArray T (0,0)):=setRow_heap w b _ _ T _ hheap;have hkv:k <vs.length:=hall0.1▸hk;have hblkn:Cl t u h w μ (.tmp n 0)=Ae d0 (u n):=by simp only[Cl,ht];exact hbl
 refine hi.upd hc (Jn hi.agree hg _) (λm=>?_) (by simp[hi.len]) ?_ hi.nod (λb hb=> .inl hb)
  (λp=>match p with| .tmp m j=>if n=m then none else some (.tmp m j)| .cell r' j=>if r'=r∧j=k then some (.tmp n 0) else some (.cell r' j)) ?_ (.tmp 0 0) ?_
 ·by_cases hm:n=m
  ·subst hm;simp only[if_true];exact hd1 _
  ·simp only[hm,if_false];exact EP hi hc (qP μ) m λk b' hb'=>hnb _ b' hb'
 ·intro r' row b' hrow hb';by_cases he:r'=r
  ·subst he;rw[rA hrl]at hrow;simp only[qF]at hrow;subst hrow;rw[hb]at hb';simp only[qF]at hb';subst hb';refine⟨vs.set k (u n),T,hnew,⟨by simp[hall0.1],λi x v hx hv=>?_⟩,?_,hg⟩
   ·rw[rY]at hx hv;by_cases hik:k=i
    ·subst hik;simp only[if_true,hk,hkv]at hx hv;simp only[qF]at hx hv;subst hx;subst hv;exact hrn.chg hc (qP μ) λb2 hb2=>hnb (.tmp n 0) b2 (by rw[hblkn];exact hb2)
    ·simp only[hik,if_false]at hx hv;refine(hall0.2 i x v hx hv).chg hc (qP μ) λb2 hb2=>hnb (.cell r' i) b2 ?_;simp only[Cl,A9,hr,hx,qd,Df hb hheap hv];exact hb2
   ·intro v hv;rcases rn hv with h|h
    ·exact hone0 v h
    ·rw[h];exact h1
  ·rw[qz (Ne.symm he)]at hrow;have hne:b'≠b:=λe=>he (hi.nod r' r b (e▸hb') hb);exact hi.rowChg hc (qP μ) hrow hb' hne λp b2 hp hm k=>absurd hm (hnb p b2 hp)
 ·intro p q z hp hq;cases p<;>cases q<;>simp only[]at hp hq
  ·rename_i m j m' j';by_cases a1:n=m<;>by_cases a2:n=m'<;>simp_all
  ·rename_i m j r' j';by_cases a1:n=m<;>by_cases a2:r'=r∧j'=k<;>simp_all
   all_goals (try (subst_vars;simp_all))
  ·rename_i r' j' m j;by_cases a1:n=m<;>by_cases a2:r'=r∧j'=k<;>simp_all
   all_goals (try (subst_vars;simp_all))
  ·rename_i r1 j1 r2 j2;by_cases a1:r1=r∧j1=k<;>by_cases a2:r2=r∧j2=k<;>simp_all
   all_goals (try (subst_vars;simp_all))
 ·intro p b' hp;cases p with
  |tmp m j=>
   simp only[Cl]at hp;by_cases hm:n=m
   ·subst hm;simp only[if_true,ho1]at hp;cases hp
   ·simp only[hm,if_false]at hp;exact .inl ⟨.tmp m j,by simp[hm],hp⟩
  |cell r' j=>
   simp only[Cl]at hp;by_cases he:r'=r
   ·subst he;simp only[A9,rA hrl]at hp;by_cases hj:j=k
    ·subst hj;have hv:(vs.set j (u n))[j]?=some (u n):=by simp[hkv]
     rw[Df hb hnew hv]at hp;simp only[rA hk,qd]at hp;exact .inl ⟨.tmp n 0,by simp,by rw[hblkn];exact hp⟩
    ·refine .inl ⟨.cell r' j,by simp[hj],?_⟩;rw[qz (Ne.symm hj)]at hp;simp only[Cl,A9,hr];cases hz:ds[j]? with
     |none=>simp[hz,Ae]at hp
     |some z=>
      obtain⟨v,hv,_⟩:=hall0.get hz;have hv':(vs.set k (u n))[j]?=some v:=by rw[qz (Ne.symm hj)];exact hv
      rw[Df hb hnew hv',hz]at hp;rw[Df hb hheap hv];exact hp
   ·refine .inl ⟨.cell r' j,by simp[he],?_⟩;have e1:A9 (h.set r (.cells (ds.set k d0))) r' j=A9 h r' j:=by simp only[A9,qz (Ne.symm he)]
    have e2:BK (w.setRow b (vs.set k (u n)).toArray) μ r' j=BK w μ r' j:=by
     simp only[BK];cases hm:μ[r']? with
     |none=>rfl
     |some b2=>
      simp only[qp];have hne:b2≠b:=λe=>he (hi.nod r' r b (e▸hm) hb);rw[World.cell?_of_block (a:=⟨b2,j,none⟩) (setRow_other w b b2 _ hne)]
    rw[e1,e2]at hp;exact hp
theorem Inv.give (hi:Inv g w μ t u h O) (hr:h[r]?=some (.cells ds)) (hb:μ[r]?=some b) {T:TypeId}
  (hheap:w.heap[b]?=some (.cells vs.toArray T (0,0))) (hk:k <ds.length) {e s:Nat} (ht:t n= .own e s xs) (h1:(u n).oneCell'=true):
  Inv g (w.setRow b (vs.set k (u n)).toArray) μ (λm=>if n=m then .any else t m) u (h.set r (.cells (ds.set k (.own e s xs)))) O:=
 hi.giveD hr hb hheap hk ht (by have:=hi.rep n;rw[ht]at this;exact this) (by cases u n<;>rfl) h1 (d1:= .any) (λ_=>by simp[RepD,RepG,RepE]) (λj=>by cases j<;>simp[Ak,Ae])
theorem Inv.setAny (hi:Inv g w μ t u h O) {HZ:Row} (hr:h[r]?=some HZ) (hb:μ[r]?=some b) (row:Row) (hc:Chg (λx=>x=b) g w g' w')
  (hag:∀b o v,g'.m b o=some v→w'.cell? ⟨b,o,none⟩=some v) (hR:RowOK g' w' μ b row)
  (h0:∀k ds d,row= .cells ds→ds[k]?=some d→Ae d (BK w' μ r k)=none):Inv g' w' μ t u (h.set r row) O:=by
 have hbm:b∈μ:=qJ hb;have hrl:r <h.length:=(qK.1 hr).1;have hnb:∀p b',Cl t u h w μ p=some b'→b'≠b:=λp b' hp he=>(hi.sep p b' hp).1 (he▸hbm);have hblk:∀p b',Cl t u (h.set r row) w' μ p=some b'→Cl t u h w μ p=some b':=by
  intro p b' hp;cases p with
  |tmp n k=>exact hp
  |cell r' k=>
   simp only[Cl]at hp ⊢;by_cases he:r'=r
   ·subst he;exfalso;simp only[A9,rA hrl]at hp;cases row with
    |cells ds=>
     cases hz:ds[k]? with
     |none=>simp[hz,Ae]at hp
     |some z=>simp only[hz,qd]at hp;rw[h0 k ds z rfl hz]at hp;cases hp
    |_=>simp[Ae]at hp
   ·have e1:A9 (h.set r row) r' k=A9 h r' k:=by simp only[A9,qz (Ne.symm he)]
    have e2:BK w' μ r' k=BK w μ r' k:=by
     simp only[BK];cases hm:μ[r']? with
     |none=>rfl
     |some b2=>
      simp only[qp];have hne:b2≠b:=λe=>he (hi.nod r' r b (e▸hm) hb);rw[World.cell?_of_block (a:=⟨b2,k,none⟩) (hc.heap b2 (hi.mem_lt (qJ hm)) hne)]
    rw[e1,e2]at hp;exact hp
 refine hi.upd hc hag (λn=>EP hi hc (qP μ) n λk b' hb'=>hnb _ b' hb') (by simp[hi.len]) ?_ hi.nod (λb hb=> .inl hb)
  (λp=>some p) (λp q r hp hq=>by simp at hp hq;rw[hp,hq]) (.tmp 0 0) (λp b' hp=> .inl ⟨p,rfl,hblk p b' hp⟩)
 intro r' row' b' hrow hb';by_cases he:r'=r
 ·subst he;rw[hb]at hb';cases hb';rw[rA hrl]at hrow;cases hrow;exact hR
 ·rw[qz (Ne.symm he)]at hrow;have hne:b'≠b:=λe=>he (hi.nod r' r b (e▸hb') hb);exact hi.rowChg hc (qP μ) hrow hb' hne λp b2 hp hm=>absurd hm (hnb p b2 hp)
end
end
section
def σtake (d r k:Nat):Pl→Option Pl
 | .tmp m j=>if d=m then (if j=0 then some (.cell r k) else none) else some (.tmp m j)
 | .cell r' j=>if r'=r∧j=k then none else some (.cell r' j)
theorem σtake_inj (d r k:Nat) (p q z:Pl) (hp:σtake d r k p=some z) (hq:σtake d r k q=some z):p=q:=by
 cases p<;>cases q<;>simp only[σtake]at hp hq<;>(repeat' split at hp)<;>(repeat' split at hq)<;>
  first
   |(cases hp;done)
   |(cases hq;done)
   |(simp only[qF]at hp hq;subst hp;(simp only[Pl.tmp.injEq,Pl.cell.injEq,reduceCtorEq]at hq<;>simp_all);done)
def σgrow (d n:Nat):Pl→Option Pl
 | .tmp m k=>if d=m then (if k=0 then some (.tmp n 0) else none) else if n=m then none else some (.tmp m k)
 | .cell r k=>some (.cell r k)
theorem σgrow_inj (d n:Nat) (p q z:Pl) (hp:σgrow d n p=some z) (hq:σgrow d n q=some z):p=q:=by
 cases p<;>cases q<;>simp only[σgrow]at hp hq<;>(repeat' split at hp)<;>(repeat' split at hq)<;>
  first
   |(cases hp;done)
   |(cases hq;done)
   |(simp only[qF]at hp hq;subst hp;(simp only[Pl.tmp.injEq,Pl.cell.injEq,reduceCtorEq]at hq<;>simp_all);done)
variable {xs:List V} {ds:List D} {b k n r:Nat} {v:Value} {w':World} {g':Gh}
section
variable {g:Gh} {w:World} {μ:List Nat} {t:Nat→D} {u:Nat→Value} {h:List Row} {O:Nat→Prop}
theorem Inv.take (hi:Inv g w μ t u h O) {d:Nat} (hr:h[r]?=some (.cells ds)) {e s:Nat} (hk:ds[k]?=some (.own e s xs)):
  Inv g w μ (λn=>if d=n then .own e s xs else t n) (λn=>if d=n then BK w μ r k else u n) (h.set r (.cells (ds.set k (.v (.list xs))))) O:=by
 have hrl:r <h.length:=(qK.1 hr).1;have hkl:k <ds.length:=(qK.1 hk).1;have hμr:r <μ.length:=hi.len▸hrl;have hb:μ[r]?=some μ[r]:=qH hμr;have hcell:=hi.cell hr hb hk;have hblk0:Cl t u h w μ (.cell r k)=Ae (.own e s xs) (BK w μ r k):=by simp only[Cl,A9,hr,hk,qd]
 refine hi.upd (Chg.refl (λ_=>False) g w) hi.agree (λn=>?_) (by simp[hi.len]) ?_ hi.nod (λb hb=> .inl hb)
  (σtake d r k) (σtake_inj d r k) (.tmp 0 0) ?_
 ·by_cases hn:d=n
  ·simp only[hn,if_true];exact hcell
  ·simp only[hn,if_false];exact hi.rep n
 ·intro r' row b' hrow hb';by_cases he:r'=r
  ·subst he;rw[rA hrl]at hrow;simp only[qF]at hrow;subst hrow;obtain⟨vs,T,hheap,hall,hone,hg⟩:=hi.row hb' hr;refine⟨vs,T,hheap,⟨by simp[hall.1],λi x v hx hv=>?_⟩,hone,hg⟩;rw[rY]at hx;by_cases hik:k=i
   ·subst hik;simp only[if_true,hkl,qF]at hx;subst hx;exact RepOwn.list (hall.2 k _ v hk hv).1
   ·simp only[hik,if_false]at hx;exact hall.2 i x v hx hv
  ·rw[qz (Ne.symm he)]at hrow;exact hi.rows r' row b' hrow hb'
 ·intro p b' hp;cases p with
  |tmp m j=>
   simp only[Cl]at hp;by_cases hm:d=m
   ·simp only[hm,if_true]at hp;cases j with
    |zero=>exact .inl ⟨.cell r k,by simp[σtake,hm],by rw[hblk0];simpa[Ak]using hp⟩
    |succ j=>simp[Ak]at hp
   ·simp only[hm,if_false]at hp;exact .inl ⟨.tmp m j,by simp[σtake,hm],hp⟩
  |cell r' j=>
   simp only[Cl]at hp;by_cases he:r'=r
   ·subst he;simp only[A9,rA hrl]at hp;by_cases hj:j=k
    ·subst hj;simp[rA hkl,Ae]at hp
    ·rw[qz (Ne.symm hj)]at hp;exact .inl ⟨.cell r' j,by simp[σtake,hj],by simp only[Cl,A9,hr];exact hp⟩
   ·have e1:A9 (h.set r (.cells (ds.set k (.v (.list xs))))) r' j=A9 h r' j:=by simp only[A9,qz (Ne.symm he)]
    rw[e1]at hp;exact .inl ⟨.cell r' j,by simp[σtake,he],hp⟩
theorem Inv.newD (hi:Inv g w μ t u h O) (hc:Chg (λ_=>False) g w g' w') (hag:∀b o v,g'.m b o=some v→w'.cell? ⟨b,o,none⟩=some v)
  {d:Nat} {d0:D} (hv:RepD g' w' μ d0 v) (hs:∀k,Ak d0 v k=if k=0 then Ae d0 v else none) (hn:∀b,Ae d0 v=some b→w.heap.size≤b):
  Inv g' w' μ (λn=>if d=n then d0 else t n) (λn=>if d=n then v else u n) h O:=by
 have hcellU:∀r k,BK w' μ r k=BK w μ r k:=by
  intro r k;simp only[BK];cases hm:μ[r]? with
  |none=>rfl
  |some b=>
   have:=hi.mem_lt (qJ hm);simp only[qp];rw[World.cell?_of_block (a:=⟨b,k,none⟩) (hc.heap b this (λh=>h))]
 refine hi.upd hc hag (λn=>?_) hi.len (λr row b hr hb=>hi.rowChg hc (qP μ) hr hb (λh=>h) (λ_ _ _ h=>h.elim)) hi.nod (λb hb=> .inl hb)
  (λp=>some p) (λp q r hp hq=>by simp at hp hq;rw[hp,hq]) (.tmp d 0) ?_
 ·by_cases hnn:d=n
  ·simp only[hnn,if_true];exact hv
  ·simp only[hnn,if_false];exact EP hi hc (qP μ) n λ_ _ _ h=>h
 ·intro p b hp;cases p with
  |tmp m j=>
   simp only[Cl]at hp;by_cases hm:d=m
   ·subst hm;simp only[if_true]at hp;cases j with
    |zero=>
     have hb:=hn b (by simpa[hs]using hp);exact .inr ⟨rfl,hb,λhmem=>by have:=hi.mem_lt hmem;omega⟩
    |succ j=>simp[hs]at hp
   ·simp only[hm,if_false]at hp;exact .inl ⟨.tmp m j,rfl,hp⟩
  |cell r k=>
   simp only[Cl,hcellU]at hp;exact .inl ⟨.cell r k,rfl,hp⟩
theorem Inv.newOwn (hi:Inv g w μ t u h O) (hc:Chg (λ_=>False) g w g' w') (hag:∀b o v,g'.m b o=some v→w'.cell? ⟨b,o,none⟩=some v)
  {d e s:Nat} (hv:RepOwn g' w' e s xs v) (h0:xs=[]→e≠84→∃a,v= .slice a 0 0) (hn:∀b,Ae (.own e s xs) v=some b→w.heap.size≤b):
  Inv g' w' μ (λn=>if d=n then .own e s xs else t n) (λn=>if d=n then v else u n) h O:=
 hi.newD hc hag ⟨hv,h0⟩ (λk=>by cases k<;>rfl) hn
theorem Inv.growD (hi:Inv g w μ t u h O) {d:Nat} (hb:Ae (t n) (u n)=some b) (hc:Chg (λx=>x=b) g w g' w')
  (hag:∀b o v,g'.m b o=some v→w'.cell? ⟨b,o,none⟩=some v) {d0:D} (hv:RepD g' w' μ d0 v) (hs:∀k,Ak d0 v k=if k=0 then Ae d0 v else none) (hn:Ae d0 v=some b):
  Inv g' w' μ (λm=>if d=m then d0 else if n=m then (t n).copy else t m) (λm=>if d=m then v else u m) h O:=by
 have hblkn:Cl t u h w μ (.tmp n 0)=some b:=by
  simp only[Cl];generalize t n=x at hb;generalize u n=y at hb;cases x with
  |own e s xs=>
   cases y<;>simp[Ak,Ae]at hb ⊢
   exact hb
  |pend b' e s xs=>simpa[Ak,Ae]using hb
  |_=>simp[Ae]at hb
 obtain⟨hbμ,_⟩:=hi.sep _ b hblkn;have honly:∀p b',Cl t u h w μ p=some b'→b'=b→p= .tmp n 0:=λp b' hp he=>hi.uniq p (.tmp n 0) b (he▸hp) hblkn;have hcellU:∀r k,BK w' μ r k=BK w μ r k:=by
  intro r k;simp only[BK];cases hm:μ[r]? with
  |none=>rfl
  |some b'=>
   have hmem:=qJ hm;have:=hi.mem_lt hmem;simp only[qp];rw[World.cell?_of_block (a:=⟨b',k,none⟩) (hc.heap b' this (λhe=>hbμ (he▸hmem)))]
 refine hi.upd hc hag (λm=>?_) hi.len (λr row b' hr hb'=>hi.rowChg hc (qP μ) hr hb' (λhe=>hbμ (he▸qJ hb')) (λp b2 hp he k=>by rw[honly p b2 hp he];simp))
  hi.nod (λb hb=> .inl hb)
  (σgrow d n) (σgrow_inj d n) (.tmp 0 0) ?_
 ·by_cases hd:d=m
  ·simp only[hd,if_true];exact hv
  ·by_cases hm:n=m
   ·subst hm;have h1:=(hi.rep n).copy;simp only[hd,if_true,if_false];cases ht:t n with
    |own e s xs=>rw[ht]at h1;exact RepV.mono hc.le h1
    |pend=>trivial
    |_=>rw[ht]at hb;simp[Ae]at hb
   ·simp only[hd,hm,if_false];exact EP hi hc (qP μ) m λk b' hb' he=>by
     have:=honly _ b' hb' he;simp only[Pl.tmp.injEq]at this;exact hm this.1.symm
 ·intro p b' hp;cases p with
  |tmp m k=>
   simp only[Cl]at hp;by_cases hd:d=m
   ·simp only[hd,if_true]at hp;cases k with
    |zero=>
     refine .inl ⟨.tmp n 0,by simp[σgrow,hd],?_⟩;rw[hblkn];have:Ae d0 v=some b':=by simpa[hs]using hp
     rw[←hn,this]
    |succ k=>simp[hs]at hp
   ·by_cases hm:n=m
    ·simp[hd,hm,CR]at hp
    ·simp only[hd,hm,if_false]at hp;exact .inl ⟨.tmp m k,by simp[σgrow,hd,hm],hp⟩
  |cell r k=>
   simp only[Cl,hcellU]at hp;exact .inl ⟨.cell r k,rfl,hp⟩
theorem Inv.growOwn (hi:Inv g w μ t u h O) {d:Nat} (hb:Ae (t n) (u n)=some b) (hc:Chg (λx=>x=b) g w g' w')
  (hag:∀b o v,g'.m b o=some v→w'.cell? ⟨b,o,none⟩=some v) {e s:Nat} (hv:RepOwn g' w' e s xs v) (h0:xs=[]→e≠84→∃a,v= .slice a 0 0) (hn:Ae (.own e s xs) v=some b):
  Inv g' w' μ (λm=>if d=m then .own e s xs else if n=m then (t n).copy else t m) (λm=>if d=m then v else u m) h O:=
 hi.growD hb hc hag ⟨hv,h0⟩ (λk=>by cases k<;>rfl) hn
theorem Inv.growCell (hi:Inv g w μ t u h O) {br:Nat} {x d0:D} (hr:h[r]?=some (.cells ds)) (hbr:μ[r]?=some br) (hk:ds[k]?=some x) (hb:Ae x (BK w μ r k)=some b)
 (hc:Chg (λx=>x=b) g w g' w') (hag:∀b o v,g'.m b o=some v→w'.cell? ⟨b,o,none⟩=some v) (hv:RepE g' w' μ d0 (BK w μ r k)) (hn:∀b',Ae d0 (BK w μ r k)=some b'→b'=b):
  Inv g' w' μ t u (h.set r (.cells (ds.set k d0))) O:=by
 have hrl:r <h.length:=(qK.1 hr).1;have hkl:k <ds.length:=(qK.1 hk).1;have hblkn:Cl t u h w μ (.cell r k)=some b:=by simp only[Cl,A9,hr,hk,qd];exact hb
 obtain⟨hbμ,_⟩:=hi.sep _ b hblkn;have honly:∀p b',Cl t u h w μ p=some b'→b'=b→p= .cell r k:=λp b' hp he=>hi.uniq p (.cell r k) b (he▸hp) hblkn;obtain⟨vs,T,hheap,hall,hone,hgn⟩:=hi.row hbr hr;have hneb:br≠b:=λhe=>hbμ (he▸qJ hbr);have hheap':w'.heap[br]?=some (.cells vs.toArray T (0,0)):=(hc.heap br (Bc hheap) hneb).trans hheap;have hcellU:∀r k,BK w' μ r k=BK w μ r k:=by
  intro r k;simp only[BK];cases hm:μ[r]? with
  |none=>rfl
  |some b'=>
   have hmem:=qJ hm;have:=hi.mem_lt hmem;simp only[qp];rw[World.cell?_of_block (a:=⟨b',k,none⟩) (hc.heap b' this (λhe=>hbμ (he▸hmem)))]
 refine hi.upd hc hag (λm=>?_) (by simp[hi.len]) ?_ hi.nod (λb hb=> .inl hb) (λp=>some p) (λp q r hp hq=>by simp at hp hq;rw[hp,hq]) (.tmp 0 0) ?_
 ·exact EP hi hc (qP μ) m λj b' hb' he=>by have:=honly _ b' hb' he;cases this
 ·intro r' row b' hrow hb';by_cases he:r'=r
  ·subst he;rw[rA hrl]at hrow;simp only[qF]at hrow;subst hrow;rw[hbr]at hb';simp only[qF]at hb';subst hb';refine⟨vs,T,hheap',⟨by simp[hall.1],λi y v hy hv2=>?_⟩,hone,λo=>(hc.gh br (Bc hheap) hneb o).trans (hgn o)⟩;rw[rY]at hy;by_cases hik:k=i
   ·subst hik;simp only[if_true,hkl]at hy;simp only[qF]at hy;subst hy;rw[Df hbr hheap hv2]at hv;exact hv
   ·simp only[hik,if_false]at hy;refine(hall.2 i y v hy hv2).chg hc (qP μ) λb2 hb2 he=>?_;have h3:Cl t u h w μ (.cell r' i)=some b2:=by simp only[Cl,A9,hr,hy,qd,Df hbr hheap hv2];exact hb2
    have:=honly _ b2 h3 he;simp only[Pl.cell.injEq]at this;exact hik this.2.symm
  ·rw[qz (Ne.symm he)]at hrow;have hne:¬b'=b:=λe=>hbμ (e▸qJ hb');exact hi.rowChg hc (qP μ) hrow hb' hne λp b2 hp hm j hpj=>by
    have:=honly p b2 hp hm;rw[hpj]at this;simp only[Pl.cell.injEq]at this;exact he this.1
 ·intro p b' hp;refine .inl ⟨p,rfl,?_⟩;cases p with
  |tmp m j=>exact hp
  |cell r' j=>
   simp only[Cl,hcellU]at hp ⊢;by_cases he:r'=r
   ·subst he;simp only[A9,rA hrl,rY]at hp;by_cases hj:k=j
    ·subst hj;simp only[if_true,hkl,qd]at hp;have:=hn b' hp;subst this;simpa[A9,hr,hk]using hb
    ·simp only[hj,if_false]at hp;simpa[A9,hr]using hp
   ·have e1:A9 (h.set r (.cells (ds.set k d0))) r' j=A9 h r' j:=by simp only[A9,qz (Ne.symm he)]
    rw[e1]at hp;exact hp
theorem Inv.chg (hi:Inv g w μ t u h O) (hc:Chg (λ_=>False) g w g' w') (hag:∀b o v,g'.m b o=some v→w'.cell? ⟨b,o,none⟩=some v):Inv g' w' μ t u h O:=by
 have hcellU:∀r k,BK w' μ r k=BK w μ r k:=by
  intro r k;simp only[BK];cases hm:μ[r]? with
  |none=>rfl
  |some b=>
   have:=hi.mem_lt (qJ hm);simp only[qp];rw[World.cell?_of_block (a:=⟨b,k,none⟩) (hc.heap b this (λh=>h))]
 refine hi.upd hc hag (λn=>EP hi hc (qP μ) n λ_ _ _ h=>h) hi.len
  (λr row b hr hb=>hi.rowChg hc (qP μ) hr hb (λh=>h) (λ_ _ _ h=>h.elim)) hi.nod (λb hb=> .inl hb)
  (λp=>some p) (λp q r hp hq=>by simp at hp hq;rw[hp,hq]) (.tmp 0 0) ?_
 intro p b hp;cases p with
 |tmp m j=>exact .inl ⟨.tmp m j,rfl,hp⟩
 |cell r k=>simp only[Cl,hcellU]at hp;exact .inl ⟨.cell r k,rfl,hp⟩
theorem Inv.weaken (hi:Inv g w μ t u h O) (t':Nat→D) (ht:∀n,t' n=t n∨(∀v,RepD g w μ (t n) v→RepD g w μ (t' n) v)∧∀v k,Ak (t' n) v k=none):Inv g w μ t' u h O:=by
 refine hi.upd (Chg.refl (λ_=>False) g w) hi.agree (λn=>?_) hi.len hi.rows hi.nod (λb hb=> .inl hb) (λp=>some p) (λp q r hp hq=>by simp at hp hq;rw[hp,hq]) (.tmp 0 0) ?_
 ·rcases ht n with h|h
  ·rw[h];exact hi.rep n
  ·exact h.1 _ (hi.rep n)
 ·intro p b hp;cases p with
  |tmp m j=>
   simp only[Cl]at hp;rcases ht m with h|h
   ·rw[h]at hp;exact .inl ⟨.tmp m j,rfl,hp⟩
   ·rw[h.2]at hp;cases hp
  |cell r k=>exact .inl ⟨.cell r k,rfl,hp⟩
end
end
end Go.Va
