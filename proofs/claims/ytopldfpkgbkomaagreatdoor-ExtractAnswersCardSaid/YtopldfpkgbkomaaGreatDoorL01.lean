/- Laws that ExtractAnswers leans on, part 1. No condition of its own. -/
import Derived.CallsIn
import Derived.Laws.AppendOwn
import Derived.Laws.Cells
import Derived.MapKept
import Derived.Laws.Panics
import Derived.Laws.StructEq
import Derived.Laws.IdiomStrings
import Derived.WideKeyRuns
import Derived.Great.BuildSlice
import Derived.Lib.AppendStr
import Derived.Lib.ConvBytes
import Derived.Laws.MakeOwn
import Derived.Laws.OwnMore
set_option linter.all false
set_option maxRecDepth 100000
set_option maxHeartbeats 4000000
noncomputable section
namespace Go.Va
section
def oH:=@Option.some.injEq
def oI:=@List.getElem?_eq_getElem
def oJ:=@Bool.and_eq_true
def oK:=@List.mem_of_getElem?
def oL:=@List.length_append
def oM:=@List.getElem?_eq_some_iff
def oN:=@Nat.le_refl
def oO:=@List.mem_cons
def oP:=@List.mem_map
def oQ:=@List.prefix_refl
def oR:=@List.append_assoc
def oS:=@List.mem_singleton
def oU:=@Option.map_eq_some_iff
def oV:=@List.map_cons
def oW:=@List.take_add_one
def oX:=@List.getElem?_map
def oY:=@List.all_eq_true
def oZ:=@List.flatMap_cons
def oa:=@Bool.false_eq_true
def oc:=@List.mem_append
def od:=@List.take_length
def og:=@Option.getD_some
def oh:=@List.map_append
def oi:=@List.length_map
def oj:=@List.length_cons
def ol:=@List.length_take
def om:=@Nat.lt_or_ge
def ot:=@List.getElem?_set_ne
def ou:=@Array.getD_eq_getD_getElem?
def ov:=@List.getElem?_append_left
def oy:=@List.mem_range
def oz:=@List.getElem?_take
def o6:=@List.take_of_length_le
def o7:=@List.not_mem_nil
def o8:=@List.map_take
def o9:=@Option.map_some
def pA:=@Nat.le_trans
def pB:=@Bool.true_and
def pC:=@List.getElem?_append_right
def pE:=@Option.bind_some
def pF:=@List.getElem?_set_self
def pG:=@List.length_filter_le
def pH:=@List.mem_of_mem_take
def pK:=@List.eq_nil_of_length_eq_zero
def pN:=@List.getElem?_eq_none
def pO:=@Array.getElem?_setIfInBounds
def pP:=@List.mem_flatMap
def pQ:=@List.take_append_drop
def pR:=@List.getElem_mem
def pT:=@Nat.add_mul
def pU:=@List.getElem?_set
def pV:=@Array.getElem?_toList
def pW:=@Int.pow_succ
def pX:=@List.take_succ_eq_append_getElem
def pY:=@List.length_flatMap
def pZ:=@Bool.exists_bool
def pd:=@Bool.not_eq_true'
def pe:=@List.ext_getElem?
def pf:=@List.map_nil
def pg:=@Nat.zero_le
def ph:=@Int.mul_comm
def pj:=@Array.toList_inj
def pk:=@List.mem_or_eq_of_mem_set
def pl:=@List.cons_append
def pm:=@List.flatMap_append
def pn:=@List.getElem?_drop
def po:=@List.range_succ
def pq:=@Int.pow_pos
def pr:=@Int.natCast_add
def pt:=@Bool.eq_iff_iff
def pu:=@List.any_eq_false
def pw:=@List.filter_append
def px:=@Nat.zero_add
def py:=@List.prefix_append
def pz:=@List.append_nil
def qA:=@List.pairwise_append
def qB:=@List.length_set
def qC:=@List.mem_filter
def qD:=@Int.mul_assoc
def qE:=@List.findIdx?_cons
def qF:=@List.map_map
def qG:=@List.length_filterMap_le
def qH:=@Nat.min_eq_left
def qI:=@List.getElem?_range
def qJ:=@Int.mul_le_mul_of_nonneg_right
def qK:=@Nat.succ_mul
def qL:=@List.sum_cons
def qM:=@List.mem_iff_getElem
def qN:=@List.any_eq_true
def qO:=@List.getElem?_cons_succ
def qP:=@List.length_nil
def qQ:=@List.map_drop
def qR:=@List.drop_eq_getElem_cons
def qT:=@Int.toNat_natCast
def qU:=@List.all_cons
def qV:=@Nat.mul_le_mul_right
def qW:=@List.mem_iff_getElem?
def qX:=@Array.getElem?_eq_some_iff
def qY:=@Bool.or_eq_true
def qZ:=@List.mem_cons_of_mem
def qc:=@List.set_set
def qd:=@List.foldl_append
def qe:=@Int.mul_nonneg
def qf:=@List.findIdx?_eq_none_iff
def qg:=@Int.add_mul
def qh:=@Array.getElem?_eq_none
def qi:=@List.mem_of_mem_drop
def qj:=@List.foldl_cons
def ql:=@Nat.add_zero
def qn:=@List.size_toArray
def qo:=@List.mem_replicate
def qp:=@List.take_append_of_le_length
def qq:=@List.mem_of_mem_erase
def qr:=@List.nodup_cons
def qt:=@List.filter_cons
def qu:=@List.findIdx?_eq_some_iff_getElem
def qv:=@Option.some.inj
def qw:=@List.toList_toArray
def qy:=@Nat.sub_zero
def qz:=@List.nil_append
def rA:=@List.mem_append_right
def rC:=@List.rel_of_pairwise_cons
def rD:=@List.pairwise_lt_range
def rE:=@Bool.false_and
def rF:=@List.set_append_left
def rG:=@List.mem_cons_self
def rH:=@List.set_append_right
def rI:=@Nat.sub_self
def rJ:=@Int.fdiv_eq_ediv_of_nonneg
def rK:=@Int.tdiv_eq_ediv_of_nonneg
def rM:=@Int.tmod_lt_of_pos
def rN:=@Nat.mul_succ
def rO:=@List.flatMap_nil
def rP:=@Bool.and_true
def rQ:=@List.getElem?_of_mem
def rT:=@Int.le_of_lt
def rU:=@List.filter_nil
def rV:=@Int.one_mul
def rW:=@Nat.lt_of_lt_of_le
def rX:=@List.getElem?_cons_zero
def rY:=@Prod.mk.injEq
def rZ:=@Array.length_toList
def ra:=@Nat.eq_zero_or_pos
def rb:=@List.mem_append_left
def re:=@Nat.pow_le_pow_right
def rh:=@Prod.ext
def ri:=@List.take_succ_cons
def rj:=@Function.comp_def
def rl:=@List.map_congr_left
def rm:=@Nat.mul_le_mul_left
def rn:=@List.length_range
def ro:=@Int.natCast_one
def rp:=@List.find?_eq_none
def rq:=@List.mergeSort_perm
def rt:=@List.zipIdx_cons
def rx:=@List.set_eq_take_append_cons_drop
def ry:=@List.flatMap_map
def rz:=@List.length_singleton
def r7:=@List.replicate_succ
def r9:=@List.range_succ_eq_map
def sD:=@Array.getElem?_modify
def sE:=@List.mem_erase_of_ne
def sF:=@List.length_erase_of_mem
def sG:=@List.nodup_range
def sH:=@Int.natCast_pow
def sI:=@Int.ediv_lt_of_lt_mul
def sJ:=@Int.tmod_eq_emod_of_nonneg
def sK:=@Bool.false_ne_true
def sL:=@List.length_eq_zero_iff
def sM:=@Int.tmod_nonneg
def sN:=@Int.toNat_of_nonneg
def sO:=@List.forall_mem_cons
def sP:=@List.eq_nil_iff_forall_not_mem
def sQ:=@List.Sublist.append_left
def sR:=@List.sublist_cons_self
def sS:=@Option.bind_eq_some_iff
def sT:=@List.getD_eq_getElem?_getD
def sU:=@List.set_getElem_self
def sV:=@List.drop_eq_nil_iff
def sX:=@List.singleton_append
inductive V where
 |int (k:IntKind) (n:Int)
 |bool (b:Bool)
 |str (s:ByteArray)
 |list (xs:List V)
 |agg (cs:List V)
 |ptr (cs:List V)
 |nilp
 |func (f:Nat) (caps:List V)
 |nilf
 |nilm
 deriving Inhabited
inductive D where
 |v (x:V)
 |any
 |nil (e s:Nat)
 |own (e s:Nat) (xs:List V)
 |agg (ds:List D)
 |tup (ds:List D)
 |ref (r off:Nat)
 |sref (r n:Nat)
 |mref (r:Nat)
 |func (f:Nat) (caps:List D)
 |meth (f:Nat) (caps:List D)
 |yld (r:Nat)
 |pend (b e s:Nat) (xs:List V)
 |pptr (b s n:Nat)
 deriving Inhabited
def V.cells:V→List V
 | .agg cs=>cs
 |x=>[x]
structure Gh where
 m:Nat→Nat→Option Value
def Gh.at (g:Gh) (b o:Nat) (cs:List Value):Prop:=∀i v,cs[i]?=some v→g.m b (o+i)=some v
def Gh.le (g g':Gh):Prop:=∀b o v,g.m b o=some v→g'.m b o=some v
theorem Gh.le.refl (g:Gh):g.le g:=λ_ _ _ h=>h
theorem Gh.le.trans {a b c:Gh} (h:a.le b) (h':b.le c):a.le c:=λ_ _ _ x=>h' _ _ _ (h _ _ _ x)
variable {b:Nat} {g g':Gh}
theorem Gh.at.mono (h:g.le g') {o:Nat} {cs:List Value} (ha:g.at b o cs):g'.at b o cs:=λi v hv=>h _ _ _ (ha i v hv)
inductive Tag where
 |ready
 |busy
 |done (e:Option Nat)
 deriving Inhabited,DecidableEq
inductive Row where
 |cells (ds:List D)
 |map (es:List (V×V)) (st:List Nat) (ck:Nat)
 |obj (tag:Tag) (p:Gh→List Nat→Obj→Prop) (mono:∀g g' μ μ' o,g.le g'→μ <+: μ'→p g μ o→p g' μ' o)
 |dead
 deriving Inhabited
inductive RepV (g:Gh):V→Value→Prop
 |int (k:IntKind) (n:Int):RepV g (.int k n) (.int k n)
 |bool (b:Bool):RepV g (.bool b) (.bool b)
 |str (s:ByteArray):RepV g (.str s) (.string s)
 |lnil:RepV g (.list []) (.slice none 0 0)
 |list (xs:List V) (a:Addr) (cap s:Nat) (vs:Nat→Value) (hs:a.spot=none) (hc:xs.length≤cap)
   (hr:∀i x,xs[i]?=some x→RepV g x (vs i)) (hz:∀i,i <xs.length→(vs i).cells.size=s∧g.at a.block (a.off+i*s) (vs i).cells.toList):
   RepV g (.list xs) (.slice (some a) xs.length cap)
 |agg (cs:List V) (vs:List Value) (hl:vs.length=cs.length) (hr:∀(i:Nat) x v,cs[i]?=some x→vs[i]?=some v→RepV g x v) (h1:∀v∈vs,v.oneCell'=true):
   RepV g (.agg cs) (.agg vs.toArray)
 |ptr (cs:List V) (a:Addr) (vs:List Value) (hs:a.spot=none) (hl:vs.length=cs.length) (hr:∀(i:Nat) x v,cs[i]?=some x→vs[i]?=some v→RepV g x v)
   (h1:∀v∈vs,v.oneCell'=true) (ha:g.at a.block a.off vs):RepV g (.ptr cs) (.pointer (some a))
 |nilp:RepV g .nilp (.pointer none)
 |func (f:Nat) (caps:List V) (vs:List Value) (hl:vs.length=caps.length) (hr:∀(i:Nat) x v,caps[i]?=some x→vs[i]?=some v→RepV g x v):
   RepV g (.func f caps) (.func (.func f) #[] vs.toArray)
 |nilf:RepV g .nilf .nilFunc
 |nilm:RepV g .nilm (.map none)
theorem RepV.mono {g g':Gh} (h:g.le g') {x:V} {v:Value} (hr:RepV g x v):RepV g' x v:=by
 induction hr with
 |int=>exact .int _ _
 |bool=>exact .bool _
 |str=>exact .str _
 |lnil=>exact .lnil
 |list xs a cap s vs hs hc _ hz ih=>exact .list xs a cap s vs hs hc ih λi hi=>⟨(hz i hi).1,(hz i hi).2.mono h⟩
 |agg cs vs hl _ h1 ih=>exact .agg cs vs hl ih h1
 |ptr cs a vs hs hl _ h1 ha ih=>exact .ptr cs a vs hs hl ih h1 (ha.mono h)
 |nilp=>exact .nilp
 |func f caps vs hl _ ih=>exact .func f caps vs hl ih
 |nilf=>exact .nilf
 |nilm=>exact .nilm
def All2 {α β:Type} (R:α→β→Prop) (xs:List α) (ys:List β):Prop:=
 ys.length=xs.length∧∀(i:Nat) x y,xs[i]?=some x→ys[i]?=some y→R x y
theorem All2.nil {α β:Type} {R:α→β→Prop}:All2 R [] []:=⟨rfl,λi x y h=>by simp at h⟩
theorem All2.cons {α β:Type} {R:α→β→Prop} {x:α} {y:β} {xs:List α} {ys:List β} (h:R x y) (hs:All2 R xs ys):All2 R (x::xs) (y::ys):=by
 refine⟨by simp[hs.1],λi a b ha hb=>?_⟩;cases i with
 |zero=>simp at ha hb;subst ha;subst hb;exact h
 |succ i=>exact hs.2 i a b (by simpa using ha) (by simpa using hb)
theorem All2.cons_iff {α β:Type} {R:α→β→Prop} {x:α} {y:β} {xs:List α} {ys:List β}:All2 R (x::xs) (y::ys)↔R x y∧All2 R xs ys:=by
 constructor
 ·intro h;refine⟨h.2 0 x y rfl rfl,by simpa using h.1,λi a b ha hb=>h.2 (i+1) a b (by simpa using ha) (by simpa using hb)⟩
 ·exact λ⟨h,hs⟩=> .cons h hs
theorem All2.imp {α β:Type} {R S:α→β→Prop} (f:∀x y,R x y→S x y) {xs:List α} {ys:List β} (h:All2 R xs ys):All2 S xs ys:=
 ⟨h.1,λi x y hx hy=>f _ _ (h.2 i x y hx hy)⟩
theorem All2.append {α β:Type} {R:α→β→Prop} {xs:List α} {ys:List β} {xs':List α} {ys':List β} (h:All2 R xs ys) (h':All2 R xs' ys'):All2 R (xs++xs') (ys++ys'):=by
 refine⟨by simp[h.1,h'.1],λi a b ha hb=>?_⟩;by_cases hi:i <xs.length
 ·rw[ov hi]at ha;rw[ov (h.1▸hi)]at hb;exact h.2 i a b ha hb
 ·rw[pC (by omega)]at ha;rw[pC (by have:=h.1;omega),h.1]at hb;exact h'.2 _ a b ha hb
theorem All2.take {α β:Type} {R:α→β→Prop} {xs:List α} {ys:List β} (h:All2 R xs ys) (n:Nat):All2 R (xs.take n) (ys.take n):=by
 refine⟨by simp[h.1],λi a b ha hb=>?_⟩;rw[oz]at ha hb;split at ha<;>simp_all
 exact h.2 i a b ha hb
theorem All2.drop {α β:Type} {R:α→β→Prop} {xs:List α} {ys:List β} (h:All2 R xs ys) (n:Nat):All2 R (xs.drop n) (ys.drop n):=by
 refine⟨by simp[h.1],λi a b ha hb=>?_⟩;rw[pn]at ha hb;exact h.2 _ a b ha hb
variable {i:Nat}
theorem All2.get {α β:Type} {R:α→β→Prop} {xs:List α} {ys:List β} (h:All2 R xs ys) {x:α} (hx:xs[i]?=some x):∃y,ys[i]?=some y∧R x y:=by
 have hi:i <xs.length:=(oM.1 hx).1;have hy:ys[i]?=some (ys[i]'(h.1▸hi)):=oI _;exact⟨_,hy,h.2 i x _ hx hy⟩
theorem All2.set {α β:Type} {R:α→β→Prop} {xs:List α} {ys:List β} (h:All2 R xs ys) {i:Nat} {x:α} {y:β} (hxy:R x y):All2 R (xs.set i x) (ys.set i y):=by
 refine⟨by simp[h.1],λj a b ha hb=>?_⟩;rw[pU]at ha hb;by_cases hij:i=j
 ·subst hij;by_cases hi:i <xs.length
  ·have hi':i <ys.length:=h.1▸hi;simp[hi,hi']at ha hb;subst ha;subst hb;exact hxy
  ·simp[hi]at ha
 ·simp[hij]at ha hb;exact h.2 j a b ha hb
variable {vs:List Value} {cs:List V}
theorem RepV.agg' (h:All2 (RepV g) cs vs) (h1:∀v∈vs,v.oneCell'=true):RepV g (.agg cs) (.agg vs.toArray):= .agg cs vs h.1 h.2 h1
variable {v:Value}
theorem RepV.agg_inv (h:RepV g (.agg cs) v):∃vs:List Value,v= .agg vs.toArray∧All2 (RepV g) cs vs∧∀v∈vs,v.oneCell'=true:=by
 cases h with
 |agg _ vs hl hr h1=>exact⟨vs,rfl,⟨hl,hr⟩,h1⟩
theorem GP (h:v.oneCell'=true):v.cells= #[v]:=by cases v<;>simp_all [Value.oneCell',Value.cells]
theorem RepV.cells {g:Gh} {x:V} {v:Value} (h:RepV g x v):All2 (RepV g) x.cells v.cells.toList∧∀u∈v.cells.toList,u.oneCell'=true:=by
 cases h with
 |agg cs vs hl hr h1=>simpa[V.cells,Value.cells]using ⟨⟨hl,hr⟩,h1⟩
 |int k n=>exact⟨.cons (.int k n) .nil,by simp[Value.cells,Value.oneCell']⟩
 |bool b=>exact⟨.cons (.bool b) .nil,by simp[Value.cells,Value.oneCell']⟩
 |str s=>exact⟨.cons (.str s) .nil,by simp[Value.cells,Value.oneCell']⟩
 |lnil=>exact⟨.cons .lnil .nil,by simp[Value.cells,Value.oneCell']⟩
 |list xs a cap s vs hs hc hr hz=>exact⟨.cons (.list xs a cap s vs hs hc hr hz) .nil,by simp[Value.cells,Value.oneCell']⟩
 |ptr cs a vs hs hl hr h1 ha=>exact⟨.cons (.ptr cs a vs hs hl hr h1 ha) .nil,by simp[Value.cells,Value.oneCell']⟩
 |nilp=>exact⟨.cons .nilp .nil,by simp[Value.cells,Value.oneCell']⟩
 |func f caps vs hl hr=>exact⟨.cons (.func f caps vs hl hr) .nil,by simp[Value.cells,Value.oneCell']⟩
 |nilf=>exact⟨.cons .nilf .nil,by simp[Value.cells,Value.oneCell']⟩
 |nilm=>exact⟨.cons .nilm .nil,by simp[Value.cells,Value.oneCell']⟩
def Ac:D→Value→Option Nat
 | .own _ _ _,.slice (some a) _ cap=>if cap=0 then none else some a.block
 | .pend b _ _ _,_=>some b
 |_,_=>none
def Af:D→Value→Nat→Option Nat
 | .tup ds,.tuple vs,k=>Ac (ds[k]?.getD .any) (vs.toList[k]?.getD (.bool false))
 |d,v,0=>Ac d v
 |_,_,_=>none
def RepOwn (g:Gh) (w:World) (e s:Nat) (xs:List V) (v:Value):Prop:=
 (∃a:Option Addr,v= .slice a 0 0∧xs=[]∧(∀x,a=some x→x.spot=none))∨
 ∃b cap cur,∃vs:Nat→Value,v= .slice (some ⟨b,0,none⟩) xs.length cap∧0 <cap∧w.heap[b]?=some (.cells cur e (0,0))∧xs.length≤cap∧cur.size=cap*s∧
  (∀i x,xs[i]?=some x→RepV g x (vs i))∧(∀i,i <xs.length→(vs i).cells.size=s∧g.at b (i*s) (vs i).cells.toList)∧
  (∀o,xs.length*s≤o→g.m b o=none)
def D.copy:D→D
 | .own _ _ xs=> .v (.list xs)
 | .tup _=> .any
 | .pend _ _ _ _=> .any
 |d=>d
def D.v?:D→Option V
 | .v x=>some x
 | .own _ _ xs=>some (.list xs)
 | .nil _ _=>some (.list [])
 |_=>none
def D.vs?:List D→Option (List V)
 |[]=>some []
 |d::ds=>match d.v?,D.vs? ds with
  |some x,some xs=>some (x::xs)
  |_,_=>none
def D.toV:D→Option V
 | .agg ds=>(D.vs? ds).map .agg
 | .func f caps=>(D.vs? caps).map (.func f)
 |d=>d.v?
end
section
def RepC (g:Gh) (μ:List Nat):D→Value→Prop
 | .v x,u=>RepV g x u
 | .ref r off,u=>∃b,μ[r]?=some b∧u= .pointer (some ⟨b,off,none⟩)
 |_,_=>False
def RepE (g:Gh) (w:World) (μ:List Nat):D→Value→Prop
 | .v x,u=>RepV g x u
 | .any,_=>True
 | .nil _ _,u=>∃a:Option Addr,u= .slice a 0 0∧∀x,a=some x→x.spot=none
 | .own e s xs,u=>RepOwn g w e s xs u∧(xs=[]→e≠84→∃a,u= .slice a 0 0)
 | .ref r off,u=>∃b,μ[r]?=some b∧u= .pointer (some ⟨b,off,none⟩)
 | .sref r n,u=>∃b cap,μ[r]?=some b∧u= .slice (some ⟨b,0,none⟩) n cap∧n≤cap
 | .mref r,u=>∃b,μ[r]?=some b∧u= .map (some b)
 | .func f caps,u=>∃vs:List Value,u= .func (.func f) #[] vs.toArray∧All2 (RepC g μ) caps vs
 | .meth f caps,u=>∃vs:List Value,u= .func (.func f) vs.toArray #[]∧All2 (RepC g μ) caps vs
 | .yld r,u=>∃b,μ[r]?=some b∧u= .func (.yield b) #[] #[]
 | .pend b e s xs,u=>∃cap,u= .slice (some ⟨b,0,none⟩) (xs.length+1) cap∧xs.length+1≤cap∧RepOwn g w e s xs (.slice (some ⟨b,0,none⟩) xs.length cap)
 | .pptr b s n,u=>(s=0∧∃cap,u= .slice (some ⟨b,0,none⟩) (n+1) cap)∨(0 <s∧u= .pointer (some ⟨b,n*s,none⟩))
 |_,_=>False
def RepG (g:Gh) (w:World) (μ:List Nat):D→Value→Prop
 | .agg ds,u=>∃vs:List Value,u= .agg vs.toArray∧All2 (RepE g w μ) ds vs∧(∀v∈vs,v.oneCell'=true)∧∀d∈ds,∀v,Ac d v=none
 |d,u=>RepE g w μ d u
def RepD (g:Gh) (w:World) (μ:List Nat):D→Value→Prop
 | .tup ds,u=>∃vs:List Value,u= .tuple vs.toArray∧All2 (RepG g w μ) ds vs
 |d,u=>RepG g w μ d u
structure Chg (M:Nat→Prop) (g:Gh) (w:World) (g':Gh) (w':World):Prop where
 le:g.le g'
 size:w.heap.size≤w'.heap.size
 heap:∀b,b <w.heap.size→¬M b→w'.heap[b]?=w.heap[b]?
 gh:∀b,b <w.heap.size→¬M b→∀o,g'.m b o=g.m b o
 os:w'.os=w.os
 out:w'.output=w.output
theorem Chg.refl (M:Nat→Prop) (g:Gh) (w:World):Chg M g w g w:=⟨Gh.le.refl g,oN _,λ_ _ _=>rfl,λ_ _ _ _=>rfl,rfl,rfl⟩
variable {w w':World} {g g':Gh} {M:Nat→Prop}
theorem Chg.mono {M':Nat→Prop} (hm:∀b,M b→M' b) (h:Chg M g w g' w'):Chg M' g w g' w':=
 ⟨h.le,h.size,λb hb hn=>h.heap b hb λx=>hn (hm b x),λb hb hn=>h.gh b hb λx=>hn (hm b x),h.os,h.out⟩
theorem Chg.trans {M:Nat→Prop} {g g' g'':Gh} {w w' w'':World} (h:Chg M g w g' w') (h':Chg M g' w' g'' w''):Chg M g w g'' w'':=
 ⟨h.le.trans h'.le,pA h.size h'.size,λb hb hn=>(h'.heap b (rW hb h.size) hn).trans (h.heap b hb hn),
  λb hb hn o=>(h'.gh b (rW hb h.size) hn o).trans (h.gh b hb hn o),h'.os.trans h.os,h'.out.trans h.out⟩
variable {b:Nat}
theorem BP {o:Obj} (h:w.heap[b]?=some o):b <w.heap.size:=by
 rcases om b w.heap.size with h'|h'
 ·exact h'
 ·simp[qh h']at h
variable {r:Nat} {μ μ':List Nat}
theorem Er (hμ:μ <+: μ') (h:μ[r]?=some b):μ'[r]?=some b:=by
 obtain⟨t,rfl⟩:=hμ;rw[ov (oM.1 h).1];exact h
variable {u:Value} {xs:List V} {d:D}
section chg
variable {M:Nat→Prop} {g g':Gh} {w w':World} {μ μ':List Nat}
theorem RepOwn.chg (hc:Chg M g w g' w') {e s:Nat} (h:RepOwn g w e s xs u)
  (hn:∀b,Ac (.own e s xs) u=some b→¬M b):RepOwn g' w' e s xs u:=by
 rcases h with h|⟨b,cap,cur,vs,rfl,h0,hb,hl,hs,hr,hz,hf⟩
 ·exact .inl h
 ·have hM:¬M b:=hn b (by simp[Ac];omega);have hlt:=BP hb;exact .inr ⟨b,cap,cur,vs,rfl,h0,(hc.heap b hlt hM).trans hb,hl,hs,λi x hx=>(hr i x hx).mono hc.le,λi hi=>⟨(hz i hi).1,(hz i hi).2.mono hc.le⟩,
   λo ho=>(hc.gh b hlt hM o).trans (hf o ho)⟩
theorem RepC.chg (hl:g.le g') (hμ:μ <+: μ') (h:RepC g μ d u):RepC g' μ' d u:=by
 cases d<;>simp only[RepC]at h ⊢
 ·exact h.mono hl
 ·obtain⟨b,hb,rfl⟩:=h;exact⟨b,Er hμ hb,rfl⟩
theorem RepE.chg (hc:Chg M g w g' w') (hμ:μ <+: μ') {d:D} {u:Value} (h:RepE g w μ d u) (hn:∀b,Ac d u=some b→¬M b):RepE g' w' μ' d u:=by
 cases d<;>simp only[RepE]at h ⊢
 ·exact h.mono hc.le
 ·exact h
 ·exact⟨RepOwn.chg hc h.1 hn,h.2⟩
 ·obtain⟨b,hb,rfl⟩:=h;exact⟨b,Er hμ hb,rfl⟩
 ·obtain⟨b,cap,hb,rfl,hcap⟩:=h;exact⟨b,cap,Er hμ hb,rfl,hcap⟩
 ·obtain⟨b,hb,rfl⟩:=h;exact⟨b,Er hμ hb,rfl⟩
 ·obtain⟨vs,rfl,h⟩:=h;exact⟨vs,rfl,h.imp λ_ _=>RepC.chg hc.le hμ⟩
 ·obtain⟨vs,rfl,h⟩:=h;exact⟨vs,rfl,h.imp λ_ _=>RepC.chg hc.le hμ⟩
 ·obtain⟨b,hb,rfl⟩:=h;exact⟨b,Er hμ hb,rfl⟩
 ·obtain⟨cap,rfl,hcap,ho⟩:=h;refine⟨cap,rfl,hcap,RepOwn.chg hc ho λb' hb'=>hn b' ?_⟩;simp only[Ac]at hb' ⊢;split at hb'
  ·cases hb'
  ·exact hb'
 ·exact h
theorem RepG.chg (hc:Chg M g w g' w') (hμ:μ <+: μ') {d:D} {u:Value} (h:RepG g w μ d u) (hn:∀b,Ac d u=some b→¬M b):RepG g' w' μ' d u:=by
 cases d<;>simp only[RepG]at h ⊢ <;>first
  |exact h.chg hc hμ hn
  |(obtain⟨vs,rfl,ha,h1,h0⟩:=h
    refine⟨vs,rfl,⟨ha.1,λi x v hx hv=>(ha.2 i x v hx hv).chg hc hμ λb hb=>?_⟩,h1,h0⟩;rw[h0 x (oK hx) v]at hb;cases hb)
theorem RepD.chg (hc:Chg M g w g' w') (hμ:μ <+: μ') {d:D} {u:Value} (h:RepD g w μ d u) (hn:∀k b,Af d u k=some b→¬M b):RepD g' w' μ' d u:=by
 cases d<;>simp only[RepD]at h ⊢ <;>first
  |exact h.chg hc hμ λb hb=>hn 0 b (by simpa[Af]using hb)
  |(obtain⟨vs,rfl,ha⟩:=h
    refine⟨vs,rfl,ha.1,λi x v hx hv=>(ha.2 i x v hx hv).chg hc hμ λb hb=>hn i b ?_⟩;simp[Af,hx,hv,hb])
end chg
def RowOK (g:Gh) (w:World) (μ:List Nat) (b:Nat):Row→Prop
 | .cells ds=>∃(vs:List Value) (T:TypeId),w.heap[b]?=some (.cells vs.toArray T (0,0))∧All2 (RepE g w μ) ds vs∧(∀v∈vs,v.oneCell'=true)∧∀o,g.m b o=none
 | .map es st ck=>∃(ents:Array MapEntry),w.heap[b]?=some (.map ents ck)∧MapKept.Stamped ents ck∧ents.toList.map (·.born)=st∧All2 (λkv x=>RepV g kv.1 x.key∧RepV g kv.2 x.val) es ents.toList∧∀o,g.m b o=none
 | .obj _ p _=>∃o,w.heap[b]?=some o∧p g μ o∧∀o,g.m b o=none
 | .dead=>b <w.heap.size
def A7 (h:List Row) (r k:Nat):D:=
 match h[r]? with
 |some (.cells ds)=>ds[k]?.getD .any
 |_=> .any
def BF (w:World) (μ:List Nat) (r k:Nat):Value:=((μ[r]?).bind λb=>w.cell? ⟨b,k,none⟩).getD (.bool false)
inductive Pl where
 |tmp (n k:Nat)
 |cell (r k:Nat)
def CS (t:Nat→D) (u:Nat→Value) (h:List Row) (w:World) (μ:List Nat):Pl→Option Nat
 | .tmp n k=>Af (t n) (u n) k
 | .cell r k=>Ac (A7 h r k) (BF w μ r k)
structure Inv (g:Gh) (w:World) (μ:List Nat) (t:Nat→D) (u:Nat→Value) (h:List Row) (O:Nat→Prop):Prop where
 agree:∀b o v,g.m b o=some v→w.cell? ⟨b,o,none⟩=some v
 olt:∀b,O b→b <w.heap.size
 rep:∀n,RepD g w μ (t n) (u n)
 len:μ.length=h.length
 rows:∀(r:Nat) row b,h[r]?=some row→μ[r]?=some b→RowOK g w μ b row
 nod:∀(r r':Nat) b,μ[r]?=some b→μ[r']?=some b→r=r'
 mo:∀b,b∈μ→¬O b
 uniq:∀p q b,CS t u h w μ p=some b→CS t u h w μ q=some b→p=q
 sep:∀p b,CS t u h w μ p=some b→b∉μ∧¬O b
variable {row:Row}
theorem RowOK.lt (h:RowOK g w μ b row):b <w.heap.size:=by
 cases row with
 |cells ds=>obtain⟨vs,T,hb,_⟩:=h;exact BP hb
 |map es st ck=>obtain⟨_,hb,_⟩:=h;exact BP hb
 |obj _ p _=>obtain⟨_,hb,_⟩:=h;exact BP hb
 |dead=>exact h
theorem Ip (h:RepE g w μ d u) (hb:Ac d u=some b):b <w.heap.size:=by
 cases d<;>simp only[Ac]at hb<;>try (cases hb;done)
 case pend b' e s xs=>
  obtain⟨cap,rfl,hcap,ho⟩:=h;simp only[oH]at hb;subst hb;rcases ho with ⟨a,h1,h2,_⟩|⟨b',cap',cur,vs,h1,h0,hb',_⟩
  ·simp only[Value.slice.injEq]at h1;omega
  ·simp only[Value.slice.injEq,oH,Addr.mk.injEq]at h1;obtain⟨⟨rfl,_,_⟩,_,_⟩:=h1;exact BP hb'
 rcases h with ⟨a,rfl,_⟩|⟨b',cap,cur,vs,rfl,h0,hb',_⟩
 ·cases a<;>simp at hb
 ·simp at hb;obtain⟨_,rfl⟩:=hb;exact BP hb'
variable {v:Value} {vs:List Value} {k:Nat}
theorem DK {T:TypeId} (hμ:μ[r]?=some b)
  (hb:w.heap[b]?=some (.cells vs.toArray T (0,0))) (hv:vs[k]?=some v):BF w μ r k=v:=by
 simp[BF,hμ,World.cell?,hb,hv]
end
inductive Opd where
 |t (n:Nat) (mv:Bool)
 |c (d:D)
 |g (n:Nat) (cs:List V)
 deriving Inhabited
abbrev CB:=List (Nat×D)
def AG:CB→Nat→D
 |[],_=> .any
 |(k,d)::e,n=>if k=n then d else AG e n
def Opd.ev (e:CB):Opd→D
 | .t n mv=>if mv then AG e n else (AG e n).copy
 | .c d=>d
 | .g _ cs=> .v (.ptr cs)
inductive PI where
 |pick (c a b:Opd)
 |build (zs:List D) (ps:List (Nat×Nat×Opd))
 |load (a:Opd) (n:Nat) (ag:Bool)
 |nilc (x:Opd)
 |bin (op:BinOp) (x y:Opd)
 |eqB (ne:Bool) (x y:Opd)
 |eqA (ne:Bool) (ks:List Nat) (x y:Opd)
 |eqP (ne:Bool) (x y:Opd)
 |not (x:Opd)
 |neg (x:Opd)
 |inv (x:Opd)
 |cint (k:IntKind) (x:Opd)
 |faddr (x:Opd) (off n:Nat)
 |fld (x:Opd) (off n:Nat) (ag:Bool)
 |iaddr (x i:Opd) (s:Nat)
 |iaddrA (x i:Opd) (len s:Nat)
 |iaddrP (x i:Opd) (s:Nat)
 |idxS (x i:Opd)
 |slc (x:Opd) (lo hi:Option Opd) (s:Nat)
 |slcS (x:Opd) (lo hi:Option Opd)
 |slc0 (x:Opd) (e s:Nat)
 |ext (x:Opd) (i:Nat)
 |mkf (f:Nat) (caps:List Opd)
 |mkme (f:Nat) (firsts:List Opd)
 |idxA (x i:Opd) (n s:Nat) (ag:Bool)
 |alen (x:Opd)
 |lenS (x:Opd)
 |minmax (mx:Bool) (x y:Opd)
 |b2s (x:Opd)
 |look (m k:Opd) (st:Bool) (ks:List Nat) (zs:List D) (ag ok:Bool)
 |mlen (m:Opd)
 deriving Inhabited
def V.bin (op:BinOp):V→V→Option V
 | .int k a,.int k' b=>
  match op with
  | .shl=>if 0≤b then some (.int k (k.wrap (a*2^(min b.toNat k.bits)))) else none
  | .shr=>if 0≤b then some (.int k (a.fdiv (2^(min b.toNat k.bits)))) else none
  |op=>if k=k' then
    match op with
    | .add=>some (.int k (k.wrap (a+b)))
    | .sub=>some (.int k (k.wrap (a-b)))
    | .mul=>some (.int k (k.wrap (a*b)))
    | .quo=>if b=0 then none else some (.int k (k.wrap (a.tdiv b)))
    | .rem=>if b=0 then none else some (.int k (a.tmod b))
    | .and=>some (.int k (k.wrap (BitVec.ofInt k.bits a &&& BitVec.ofInt k.bits b).toNat))
    | .or=>some (.int k (k.wrap (BitVec.ofInt k.bits a ||| BitVec.ofInt k.bits b).toNat))
    | .xor=>some (.int k (k.wrap (BitVec.ofInt k.bits a ^^^ BitVec.ofInt k.bits b).toNat))
    | .andNot=>some (.int k (k.wrap (BitVec.ofInt k.bits a &&& ~~~BitVec.ofInt k.bits b).toNat))
    | .eql=>some (.bool (a==b))
    | .neq=>some (.bool (a != b))
    | .lss=>some (.bool (decide (a <b)))
    | .leq=>some (.bool (decide (a≤b)))
    | .gtr=>some (.bool (decide (a>b)))
    | .geq=>some (.bool (decide (a≥b)))
    |_=>none
   else none
 | .str a,.str b=>
  match op with
  | .eql=>some (.bool (a.toList==b.toList))
  | .neq=>some (.bool (!(a.toList==b.toList)))
  |_=>none
 |_,_=>none
def V.eq1:Nat→V→V→Option Bool
 |0,.int k a,.int k' b=>if k=k' then some (a==b) else none
 |1,.bool a,.bool b=>some (a==b)
 |2,.str a,.str b=>some (a.toList==b.toList)
 |_,_,_=>none
def V.eqL:List Nat→List V→List V→Option Bool
 |[],[],[]=>some true
 |k::ks,x::xs,y::ys=>match V.eq1 k x y,V.eqL ks xs ys with
  |some a,some b=>some (a&&b)
  |_,_=>none
 |_,_,_=>none
def D.isNil:D→Option Bool
 | .v .nilp| .v .nilf| .v .nilm=>some true
 | .v (.ptr _)| .v (.func _ _)| .ref _ _| .func _ _| .mref _=>some false
 |_=>none
def D.isNilP:D→Option Bool
 | .v .nilp=>some true
 | .v (.ptr _)| .ref _ _=>some false
 |_=>none
def V.getI (xs:List V) (i:Int):Option V:=if 0≤i then xs[i.toNat]? else none
def V.part (cs:List V) (off n:Nat) (ag:Bool):Option V:=
 if off+n≤cs.length then (if ag then some (.agg ((cs.drop off).take n)) else cs[off]?) else none
def D.part (cs:List D) (off n:Nat) (ag:Bool):Option D:=
 if off+n≤cs.length then (if ag then some (.agg (((cs.drop off).take n).map D.copy)) else (cs[off]?).map D.copy) else none
def BM (s:Nat) (xs:List V):Bool:=xs.head?.all λx=>x.cells.length==s
def KU (d:Option D) (dflt:Nat):Option Nat:=
 match d with
 |none=>some dflt
 |some (.v (.int _ n))=>if 0≤n then some n.toNat else none
 |_=>none
def AO {α:Type} (cs:List α) (off:Nat) (xs:List α):List α:=cs.take off++xs++cs.drop (off+xs.length)
def D.cells?:D→Option (List D)
 | .agg ds=>some ds
 | .v (.agg cs)=>some (cs.map .v)
 | .any| .tup _| .own _ _ _| .pend _ _ _ _| .pptr _ _ _=>none
 |d=>some [d]
def FE (e:CB):List D→List (Nat×Nat×Opd)→Option (List D)
 |cs,[]=>some cs
 |cs,(off,n,x)::ps=>match (x.ev e).copy.cells? with
  |some xs=>if xs.length=n∧off+n≤cs.length then FE e (AO cs off xs) ps else none
  |none=>none
def Eg (e:CB):List Opd→List D
 |[]=>[]
 |x::xs=>(x.ev e).copy::Eg e xs
def D.isCap:D→Bool
 | .v _| .ref _ _=>true
 |_=>false
def Bj (st:Bool) (ks:List Nat) (x:V):Bool:=(match x with| .agg _=>st|_=> !st)&&(match V.eqL ks x.cells x.cells with|some true=>true|_=>false)
def Cv (st:Bool) (ks:List Nat) (x:V):List (V×V)→Option (Option Nat)
 |[]=>some none
 |p::es=>if Bj st ks p.1 then (match V.eqL ks x.cells p.1.cells with
  |some true=>some (some 0)
  |some false=>(Cv st ks x es).map λr=>r.map (· +1)
  |none=>none) else none
def Du (ok:Bool) (d:D) (b:Bool):D:=if ok then .tup [d,.v (.bool b)] else d
def Ex:List V→Option (List UInt8)
 |[]=>some []
 | .int .u8 n::xs=>if 0≤n∧n <256 then (Ex xs).map (UInt8.ofNat n.toNat::·) else none
 |_=>none
def PI.val (e:CB) (h:List Row):PI→Option D
 | .pick c a b=>match c.ev e with
  | .v (.bool t)=>some (if t then (a.ev e).copy else (b.ev e).copy)
  |_=>none
 | .build zs ps=>(FE e zs ps).map .agg
 | .load a n ag=>match a.ev e with
  | .v (.ptr cs)=>(V.part cs 0 n ag).map .v
  | .ref r off=>match h[r]? with
   |some (.cells ds)=>D.part ds off n ag
   |_=>none
  |_=>none
 | .nilc x=>match (x.ev e).isNil with
  |some false=>some (x.ev e).copy
  |_=>none
 | .bin op x y=>match x.ev e,y.ev e with
  | .v a,.v b=>(V.bin op a b).map .v
  |_,_=>none
 | .eqB ne x y=>match x.ev e,y.ev e with
  | .v (.bool a),.v (.bool b)=>some (.v (.bool ((a==b) != ne)))
  |_,_=>none
 | .eqA ne ks x y=>match (x.ev e).toV,(y.ev e).toV with
  |some (.agg cs),some (.agg ds)=>(V.eqL ks cs ds).map λb=> .v (.bool (b != ne))
  |_,_=>none
 | .eqP ne x y=>match (x.ev e).isNilP,(y.ev e).isNilP with
  |some true,some b=>some (.v (.bool (b != ne)))
  |some b,some true=>some (.v (.bool (b != ne)))
  |_,_=>none
 | .not x=>match x.ev e with
  | .v (.bool a)=>some (.v (.bool (!a)))
  |_=>none
 | .neg x=>match x.ev e with
  | .v (.int k n)=>some (.v (.int k (k.wrap (0-n))))
  |_=>none
 | .inv x=>match x.ev e with
  | .v (.int k n)=>some (.v (.int k (k.wrap (BitVec.ofInt k.bits (if k.signed then -1 else k.max) ^^^ BitVec.ofInt k.bits n).toNat)))
  |_=>none
 | .cint k x=>match x.ev e with
  | .v (.int _ n)=>some (.v (.int k (k.wrap n)))
  |_=>none
 | .faddr x off n=>match x.ev e with
  | .v (.ptr cs)=>if off+n≤cs.length then some (.v (.ptr ((cs.drop off).take n))) else none
  | .ref r o=>some (.ref r (o+off))
  |_=>none
 | .fld x off n ag=>match x.ev e with
  | .v (.agg cs)=>(V.part cs off n ag).map .v
  | .agg ds=>D.part ds off n ag
  |_=>none
 | .iaddr x i s=>match (x.ev e).copy,i.ev e with
  | .v (.list xs),.v (.int _ n)=>match V.getI xs n with
   |some y=>if y.cells.length=s then some (.v (.ptr y.cells)) else none
   |none=>none
  | .sref r m,.v (.int _ n)=>if 0≤n∧n <m then some (.ref r (n.toNat*s)) else none
  |_,_=>none
 | .iaddrA x i len s=>match x.ev e,i.ev e with
  | .v (.ptr cs),.v (.int _ n)=>if 0≤n∧n <len∧len*s=cs.length then some (.v (.ptr ((cs.drop (n.toNat*s)).take s))) else none
  | .ref r o,.v (.int _ n)=>if 0≤n∧n <len then some (.ref r (o+n.toNat*s)) else none
  |_,_=>none
 | .iaddrP x i s=>match x.ev e,i.ev e with
  | .pend b _ s' xs,.v (.int _ n)=>if (n=xs.length∧s'=s)∧0 <s then some (.pptr b s xs.length) else none
  | .pptr b 0 m,.v (.int _ n)=>if n=m∧0 <s then some (.pptr b s m) else none
  |_,_=>none
 | .idxS x i=>match x.ev e,i.ev e with
  | .v (.str s),.v (.int _ n)=>if 0≤n then (s[n.toNat]?).map λb=> .v (.int .u8 b.toNat) else none
  |_,_=>none
 | .slc x lo hi s=>match (x.ev e).copy with
  | .v (.list xs)=>match KU (lo.map (·.ev e)) 0,KU (hi.map (·.ev e)) xs.length with
   |some l,some m=>if l≤m∧m≤xs.length∧BM s xs=true then some (.v (.list ((xs.take m).drop l))) else none
   |_,_=>none
  |_=>none
 | .slcS x lo hi=>match x.ev e with
  | .v (.str s)=>match KU (lo.map (·.ev e)) 0,KU (hi.map (·.ev e)) s.size with
   |some l,some m=>if l≤m∧m≤s.size then some (.v (.str (s.extract l m))) else none
   |_,_=>none
  |_=>none
 | .slc0 x el s=>match (x.ev e).copy with
  | .v (.list _)=>some (.nil el s)
  |_=>none
 | .ext x i=>match x with
  | .t n _=>match AG e n with
   | .tup ds=>(ds[i]?).map D.copy
   |_=>none
  |_=>none
 | .mkf f caps=>if (Eg e caps).all D.isCap then some (.func f (Eg e caps)) else none
 | .mkme f firsts=>if (Eg e firsts).all D.isCap then some (.meth f (Eg e firsts)) else none
 | .idxA x i n s ag=>match x.ev e,i.ev e with
  | .v (.agg cs),.v (.int _ k)=>if 0≤k∧k <n then (V.part cs (k.toNat*s) s ag).map .v else none
  | .agg ds,.v (.int _ k)=>if 0≤k∧k <n then D.part ds (k.toNat*s) s ag else none
  |_,_=>none
 | .alen x=>match (x.ev e).copy with
  | .v (.list xs)=>some (.v (.int .i64 xs.length))
  | .nil _ _=>some (.v (.int .i64 0))
  | .sref _ n=>some (.v (.int .i64 n))
  |_=>none
 | .lenS x=>match x.ev e with
  | .v (.str s)=>some (.v (.int .i64 s.size))
  |_=>none
 | .b2s x=>match (x.ev e).copy with
  | .v (.list xs)=>(Ex xs).map λbs=> .v (.str ⟨bs.toArray⟩)
  | .nil _ _=>some (.v (.str .empty))
  |_=>none
 | .look m k st ks zs ag ok=>match (k.ev e).toV with
  |some kv=>if Bj st ks kv=true then
    match (if ag then some (D.agg zs) else zs.head?)with
    |some z=>match m.ev e with
     | .v .nilm=>some (Du ok z false)
     | .mref r=>match h[r]? with
      |some (.map es _ _)=>match Cv st ks kv es with
       |some (some i)=>(es[i]?).map λp=>Du ok (.v p.2) true
       |some none=>some (Du ok z false)
       |none=>none
      |_=>none
     |_=>none
    |none=>none
   else none
  |none=>none
 | .mlen m=>match m.ev e with
  | .v .nilm=>some (.v (.int .i64 0))
  | .mref r=>match h[r]? with
   |some (.map es _ _)=>some (.v (.int .i64 es.length))
   |_=>none
  |_=>none
 | .minmax mx x y=>match x.ev e,y.ev e with
  | .v (.int k a),.v (.int k' b)=>if k=k' then some (.v (.int k (if mx then (if b>a then b else a) else (if b <a then b else a)))) else none
  |_,_=>none
section
def HN:Value→V→Bool
 | .int k n,.int k' n'=>k==k'&&n==n'
 | .bool b,.bool b'=>b==b'
 | .string s,.str s'=>decide (s=s')
 | .pointer none,.nilp=>true
 | .nilFunc,.nilf=>true
 | .map none,.nilm=>true
 |_,_=>false
def Ff:Value→D→Bool
 | .slice none 0 0,.nil _ _=>true
 | .slice none 0 0,.own _ _ []=>true
 |v,.v x=>HN v x
 |_,_=>false
def Ao {α β:Type} (f:α→β→Bool):List α→List β→Bool
 |[],[]=>true
 |x::xs,y::ys=>f x y&&Ao f xs ys
 |_,_=>false
theorem CT {α β:Type} {f:α→β→Bool} {R:β→α→Prop} (hf:∀x y,f x y=true→R y x):∀ {xs:List α} {ys:List β},Ao f xs ys=true→All2 R ys xs
 |[],[],_=> .nil
 |x::xs,y::ys,h=>by
  simp only[Ao,oJ]at h;exact .cons (hf _ _ h.1) (CT hf h.2)
 |[],_::_,h=>by simp[Ao]at h
 |_::_,[],h=>by simp[Ao]at h
variable {v:Value}
theorem GN {x:V} (h:HN v x=true):v.oneCell'=true:=by
 cases v<;>cases x<;>simp_all [HN,Value.oneCell']
variable {g:Gh}
theorem FG {x:V} (h:HN v x=true):RepV g x v:=by
 unfold HN at h;split at h<;>(try simp only[oJ,beq_iff_eq,decide_eq_true_eq]at h)<;>(try (obtain⟨rfl,rfl⟩:=h))<;>(try subst h)
 ·exact .int _ _
 ·exact .bool _
 ·exact .str _
 ·exact .nilp
 ·exact .nilf
 ·exact .nilm
abbrev Aa:=List (Nat×List Value)
def TO (GL:Aa) (n:Nat) (cs:List V):Bool:=GL.any λp=>p.1==n&&Ao HN p.2 cs
def LY:Value→V→Bool
 | .slice none 0 0,.list []=>true
 |v,x=>HN v x
theorem P0 {x:V} (h:LY v x=true):RepV g x v:=by
 unfold LY at h;split at h
 ·exact .lnil
 ·exact FG h
theorem P1 {x:V} (h:LY v x=true):v.oneCell'=true:=by
 unfold LY at h;split at h
 ·rfl
 ·exact GN h
def oe (GL:Aa):Operand→Opd→Bool
 | .tmp n,.t n' _=>n==n'
 | .const (.agg cs),.c (.v (.agg xs))=>Ao LY cs.toList xs
 | .const v,.c d=>Ff v d
 | .func f,.c (.v (.func f' []))=>f==f'
 | .global n,.g n' cs=>n==n'&&TO GL n cs
 |_,_=>false
variable {d:D}
theorem LC {GL:Aa} (h:oe GL (.const v) (.c d)=true):Ff v d=true∨∃cs xs,v= .agg cs∧d= .v (.agg xs):=by
 unfold oe at h;split at h
 ·rename_i h1 _;cases h1
 ·rename_i h1 h2;cases h1;cases h2;exact .inr ⟨_,_,rfl,rfl⟩
 ·rename_i h1 h2;cases h1;cases h2;exact .inl h
 ·rename_i h1 _;cases h1
 ·rename_i h1 _;cases h1
 ·cases h
def GlobOK (GL:Aa) (g:Gh):Prop:=∀p∈GL,g.at p.1 0 p.2
theorem RepOwn.list {g:Gh} {w:World} {e s:Nat} {xs:List V} {u:Value} (h:RepOwn g w e s xs u):RepV g (.list xs) u:=by
 rcases h with ⟨a,rfl,rfl,hs⟩|⟨b,cap,cur,vs,rfl,h0,hb,hl,hs,hr,hz,hf⟩
 ·cases a with
  |none=>exact .lnil
  |some a=>exact .list [] a 0 0 (λ_=> .bool true) (hs a rfl) (oN _) (by simp) (by simp)
 ·exact .list xs ⟨b,0,none⟩ cap s vs rfl hl hr λi hi=>by simpa using hz i hi
theorem RepNil.list {g:Gh} {u:Value} (h:∃a:Option Addr,u= .slice a 0 0∧∀x,a=some x→x.spot=none):RepV g (.list []) u:=by
 obtain⟨a,rfl,hs⟩:=h;cases a with
 |none=>exact .lnil
 |some a=>exact .list [] a 0 0 (λ_=> .bool true) (hs a rfl) (oN _) (by simp) (by simp)
theorem RepD.copy {g:Gh} {w:World} {μ:List Nat} {d:D} {u:Value} (h:RepD g w μ d u):RepD g w μ d.copy u:=by
 cases d<;>simp only[D.copy]<;>first
  |exact h
  |exact RepOwn.list h.1
  |trivial
theorem Bw (d:D) (u:Value) (k:Nat):Af d.copy u k=none:=by
 cases d<;>cases k<;>simp[D.copy,Af,Ac]
theorem JY (d:D) (u:Value):Ac d.copy u=none:=by cases d<;>simp[D.copy,Ac]
variable {q:Opd} {p:Operand}
section
variable {GL:Aa} {g:Gh} {w:World} {μ:List Nat} {e:CB} {a:Act}
theorem YM (hr:∀n,RepD g w μ (AG e n) (a.tmps.getD n undef)) (hG:GlobOK GL g) (h:oe GL p q=true):RepD g w μ (q.ev e) (a.eval p):=by
 unfold oe at h;split at h
 ·simp at h;subst h;simp only[Opd.ev,Act.eval];split
  ·exact hr _
  ·exact(hr _).copy
 ·rename_i cs xs;simp only[Opd.ev,Act.eval];have h2:All2 (RepV g) xs cs.toList:=CT (λ_ _=>P0) h;have h3:=CT (R:=λ_ v=>v.oneCell'=true) (λ_ _=>P1) h;refine RepV.agg' (vs:=cs.toList) h2 λv hv=>?_;obtain⟨i,hi,rfl⟩:=qM.1 hv;have hi':i <xs.length:=h3.1▸hi;exact h3.2 i _ _ (oI hi') (oI hi)
 ·rename_i v d _;simp only[Opd.ev,Act.eval];unfold Ff at h;split at h
  ·exact⟨none,rfl,by simp⟩
  ·exact⟨.inl ⟨none,rfl,rfl,by simp⟩,λ_ _=>⟨none,rfl⟩⟩
  ·exact FG h
  ·cases h
 ·simp at h;subst h;exact RepV.func _ [] [] rfl (by simp)
 ·simp only[oJ,beq_iff_eq]at h;obtain⟨rfl,h⟩:=h;simp only[TO,qN,oJ,beq_iff_eq]at h;obtain⟨p,hp,rfl,hz⟩:=h;have h2:All2 (RepV g) _ p.2:=CT (λ_ _=>FG) hz;refine RepV.ptr _ ⟨p.1,0,none⟩ p.2 rfl h2.1 h2.2 ?_ (hG p hp);have h3:=CT (R:=λ_ v=>v.oneCell'=true) (λ_ _=>GN) hz;intro v hv;obtain⟨i,hi,rfl⟩:=qM.1 hv;have hi':i <_:=h3.1▸hi;exact h3.2 i _ _ (oI hi') (oI hi)
 ·cases h
end
def BZ (P:Program) (t n:Nat):Bool:=((P.info? t).map (·.size))==some n
def HV (P:Program) (t:Nat) (ag:Bool):Bool:=
 match P.underlying t with
 |some (.struct _)|some (.array _ _)=>ag
 |some _=> !ag
 |none=>false
def Hl (P:Program) (t i off n:Nat):Bool:=
 match P.underlying t with
 |some (.struct fs)=>match fs[i]? with
  |some f=>f.offset==off&&BZ P f.type n
  |none=>false
 |_=>false
def NU (P:Program) (t i:Nat) (ag:Bool):Bool:=
 match P.underlying t with
 |some (.struct fs)=>match fs[i]? with
  |some f=>HV P f.type ag
  |none=>false
 |_=>false
def dL (P:Program) (t e s:Nat):Bool:=
 match P.underlying t with
 |some (.slice e')=>e==e'&&BZ P e s
 |_=>false
def Nh (P:Program) (t len s:Nat):Bool:=
 match P.underlying t with
 |some (.array len' e)=>len==len'&&BZ P e s&&decide (2≤len)
 |_=>false
def Fx (P:Program) (t:Nat) (zs:List D):Bool:=
 match (P.info? t).bind (·.zero)with
 |some z=>Ao Ff z.cells.toList zs
 |none=>false
def FO (P:Program) (t:Nat) (f:TypeDesc→Bool):Bool:=
 match P.underlying t with
 |some d=>f d
 |none=>false
def LX:Value→D→Bool
 | .slice none 0 0,.nil _ _=>true
 |v,.v x=>HN v x
 |_,_=>false
def Mr (P:Program) (t:Nat) (zs:List D):Bool:=
 match (P.info? t).bind (·.zero)with
 |some z=>Ao LX z.cells.toList zs
 |none=>false
def Gv (P:Program) (GL:Aa) (t:Nat) (ps:List (Nat×Operand)) (qs:List (Nat×Nat×Opd)):Bool:=
 match P.underlying t with
 |some (.struct fs)=>match fs.toList.mapM (λf=>(P.info? f.type).map λi=>(f.offset,i.size))with
  |some places=>Ao (λp q=>oe GL p.2 q.2.2&&places[p.1]?==some (q.1,q.2.1)) ps qs
  |none=>false
 |some (.array _ el)=>match P.info? el with
  |some i=>Ao (λp q=>oe GL p.2 q.2.2&&some (p.1*i.size,i.size)==some (q.1,q.2.1)) ps qs
  |none=>false
 |_=>false
def Ir {α:Type} (l:List α) (p:α→Bool):Bool:=match l with|[x]=>p x|_=>false
def Gf {α:Type} (l:List α) (p:α→α→Bool):Bool:=match l with|[x,y]=>p x y|_=>false
def En (P:Program) (t s:Nat):Bool:=match P.underlying t with|some (.slice e)=>BZ P e s|_=>false
def HA (P:Program) (t k:Nat):Bool:=
 match P.underlying t,k with
 |some (.int _),0=>true
 |some .bool,1=>true
 |some .string,2=>true
 |_,_=>false
def Bk (P:Program):Nat→List Field→List Nat→Bool
 |_,[],[]=>true
 |i,f::fs,k::ks=>f.offset==i&&f.name != "_" &&HA P f.type k&&Bk P (i+1) fs ks
 |_,_,_=>false
def HK (P:Program) (t:Nat) (ks:List Nat):Bool:=
 match P.underlying t with
 |some (.struct fs)=> !P.stoodInHeld t&& !P.eqGuardType P.depth t&&Bk P 0 fs.toList ks
 |_=>false
def EI (P:Program):Nat→List Field→List Nat→Bool
 |_,[],ks=>ks.isEmpty
 |i,f::fs,ks=>f.offset==i&&f.name != "_" &&(match P.underlying f.type with
  |some (.struct sub)=> !P.stoodInHeld f.type&&BZ P f.type sub.size&&Bk P 0 sub.toList (ks.take sub.size)&&EI P (i+sub.size) fs (ks.drop sub.size)
  |_=>match ks with
   |k::ks=>HA P f.type k&&EI P (i+1) fs ks
   |[]=>false)
def NW (P:Program) (t:Nat) (ks:List Nat):Bool:=
 match P.underlying t with
 |some (.struct fs)=> !P.stoodInHeld t&& !P.eqGuardType P.depth t&&EI P 0 fs.toList ks
 |_=>false
def Ek (P:Program) (kt:Nat) (st:Bool) (ks:List Nat):Bool:=
 if st then HK P kt ks else (match ks with|[k]=>HA P kt k|_=>false)
def Qb (P:Program) (el:Nat) (zs:List D) (ag:Bool):Bool:=
 match (P.info? el).bind (·.zero)with
 |some (.agg cs)=>ag&&Ao LX cs.toList zs
 |some v=> !ag&&(match zs with|[z]=>LX v z|_=>false)
 |none=>false
def Tn (P:Program) (GL:Aa):Op→PI→Bool
 | .pick c a b,.pick c' a' b'=>oe GL c c'&&oe GL a a'&&oe GL b b'
 | .load t a,.load a' n ag=>oe GL a a'&&BZ P t n&&HV P t ag&&(ag||n==1)
 | .nilCheck x,.nilc x'=>oe GL x x'
 | .binOp op _ x y _,.bin op' x' y'=>(op==op')&&oe GL x x'&&oe GL y y'
 | .binOp op t x y _,.eqB ne x' y'=>(op==if ne then .neq else .eql)&&FO P t (λ| .bool=>true|_=>false)&&oe GL x x'&&oe GL y y'
 | .binOp op t x y _,.eqP ne x' y'=>(op==if ne then .neq else .eql)&&FO P t (λ| .pointer _=>true|_=>false)&&oe GL x x'&&oe GL y y'
 | .binOp op t x y _,.eqA ne ks x' y'=>(op==if ne then .neq else .eql)&&(HK P t ks||NW P t ks)&&oe GL x x'&&oe GL y y'
 | .unOp op _ x,.not x'=>(op== .not)&&oe GL x x'
 | .unOp op _ x,.neg x'=>(op== .neg)&&oe GL x x'
 | .unOp op _ x,.inv x'=>(op== .xor)&&oe GL x x'
 | .convert s d x,.cint k x'=>FO P s (λ| .int _=>true|_=>false)&&FO P d (λ| .int k'=>k==k'|_=>false)&&oe GL x x'
 | .fieldAddr t x i,.faddr x' off n=>Hl P t i off n&&decide (0 <n)&&oe GL x x'
 | .field t x i,.fld x' off n ag=>Hl P t i off n&&NU P t i ag&&(ag||n==1)&&oe GL x x'
 | .indexAddr t x i,.iaddr x' i' s=>En P t s&&oe GL x x'&&oe GL i i'
 | .indexAddr t x i,.iaddrP x' i' s=>En P t s&&oe GL x x'&&oe GL i i'
 | .indexAddr t x i,.iaddrA x' i' len s=>Nh P t len s&&oe GL x x'&&oe GL i i'
 | .index t x i,.idxS x' i'=>FO P t (λ| .string=>true|_=>false)&&oe GL x x'&&oe GL i i'
 | .extract t i,.ext t' i'=>oe GL t t'&&i==i'
 | .makeFunc (.func f) first caps,.mkf f' caps'=>f==f'&&first.isEmpty&&Ao (oe GL) caps.toList caps'
 | .makeFunc (.func f) first caps,.mkme f' caps'=>f==f'&&caps.isEmpty&&Ao (oe GL) first.toList caps'
 | .index t x i,.idxA x' i' n s ag=>(match P.underlying t with|some (.array n' e)=>n'==n&&BZ P e s&&HV P e ag&&(ag||s==1)|_=>false)&&oe GL x x'&&oe GL i i'
 | .call {callee:= .builtin .len,args,argTypes},.alen x'=>Ir args.toList (λx=>oe GL x x')&&Ir argTypes.toList (λt=>FO P t (λ| .slice _=>true|_=>false))
 | .call {callee:= .builtin .len,args,argTypes},.lenS x'=>Ir args.toList (λx=>oe GL x x')&&Ir argTypes.toList (λt=>FO P t (λ| .string=>true|_=>false))
 | .call {callee:= .builtin .max,args,..},.minmax true x' y'=>Gf args.toList (λx y=>oe GL x x'&&oe GL y y')
 | .call {callee:= .builtin .min,args,..},.minmax false x' y'=>Gf args.toList (λx y=>oe GL x x'&&oe GL y y')
 | .slice t x lo hi mx,.slc x' lo' hi' s=>En P t s&&oe GL x x'&&mx.isNone&&
   Ao (oe GL) lo.toList lo'.toList&&Ao (oe GL) hi.toList hi'.toList
 | .slice t x lo hi mx,.slcS x' lo' hi'=>FO P t (λ| .string=>true|_=>false)&&oe GL x x'&&mx.isNone&&Ao (oe GL) lo.toList lo'.toList&&Ao (oe GL) hi.toList hi'.toList
 | .slice t x lo hi mx,.slc0 x' el s=>(match P.underlying t with|some (.slice e)=>e==el&&BZ P e s|_=>false)&&oe GL x x'&&lo.isNone&&(match hi,mx with|some (.const (.int _ 0)),some (.const (.int _ 0))=>true|_,_=>false)
 | .convert s d x,.b2s x'=>FO P d (λ| .string=>true|_=>false)&&(match P.underlying s with|some (.slice e)=>FO P e (λ| .int .u8=>true|_=>false)|_=>false)&&oe GL x x'
 | .lookup t x i ok',.look m k st ks zs ag ok=>(match P.underlying t with|some (.map kt el)=>Ek P kt st ks&&Qb P el zs ag|_=>false)&&oe GL x m&&oe GL i k&&ok'==ok
 | .call {callee:= .builtin .len,args,argTypes},.mlen x'=>Ir args.toList (λx=>oe GL x x')&&Ir argTypes.toList (λt=>FO P t (λ| .map _ _=>true|_=>false))
 | .build t ps,.build zs ps'=>Mr P t zs&&Gv P GL t ps.toList ps'
 |_,_=>false
structure Gd (P:Program) (GL:Aa) (g:Gh) (w:World) (μ:List Nat) (e:CB) (a:Act) (h:List Row) (O:Nat→Prop):Prop where
 inv:Inv g w μ (AG e) (λn=>a.tmps.getD n undef) h O
 glob:GlobOK GL g
def CN (P:Program) (GL:Aa) (op:Op) (pi:PI):Prop:=
 ∀ {g:Gh} {w:World} {μ:List Nat} {e:CB} {a:Act} {h:List Row} {O:Nat→Prop} {x:D},Gd P GL g w μ e a h O→pi.val e h=some x→
  ∀o:Oper,o.op=op→∃v,(execOp a.eval o).run P w= .ok (.value v) w∧RepD g w μ x v∧∀k,Af x v k=none
variable {μ:List Nat} {w:World} {b n off r t:Nat} {vs:List Value} {cs:List V} {u:Value} {ds:List D} {O:Nat→Prop} {h:List Row}
section
variable {P:Program} {GL:Aa}
theorem Gd.ev {g:Gh} {w:World} {μ:List Nat} {e:CB} {a:Act} {h:List Row} {O:Nat→Prop} (hd:Gd P GL g w μ e a h O) {p:Operand} {q:Opd} (hk:oe GL p q=true):
  RepD g w μ (q.ev e) (a.eval p):=YM hd.inv.rep hd.glob hk
theorem Bo (x:V) (v:Value) (k:Nat):Af (.v x) v k=none:=by cases k<;>simp[Af,Ac]
theorem Fk {b:Bool} (h:RepD g w μ (.v (.bool b)) v):v= .bool b:=by cases h;rfl
theorem Ep {k:IntKind} {n:Int} (h:RepD g w μ (.v (.int k n)) v):v= .int k n:=by cases h;rfl
theorem F3 {s:ByteArray} (h:RepD g w μ (.v (.str s)) v):v= .string s:=by cases h;rfl
theorem Um {c a b:Operand} {c' a' b':Opd} (hc:oe GL c c'=true) (ha:oe GL a a'=true) (hb:oe GL b b'=true):CN P GL (.pick c a b) (.pick c' a' b'):=by
 intro g w μ e act h O x hd hx o ho;have h1:=hd.ev hc;simp only[PI.val]at hx;split at hx
 ·rename_i t ht;rw[ht]at h1;have h2:=Fk h1;simp only[oH]at hx;subst hx;cases t with
  |true=>exact⟨act.eval a,by simp[execOp,ho,h2,asBool],(hd.ev ha).copy,λk=>Bw _ _ _⟩
  |false=>exact⟨act.eval b,by simp[execOp,ho,h2,asBool],(hd.ev hb).copy,λk=>Bw _ _ _⟩
 ·cases hx
theorem Hd {ag:Bool} (h:HV P t ag=true):(isAgg t).run P w= .ok ag w:=by
 unfold HV at h;split at h<;>simp_all [isAgg,run_underlying]
theorem Ba (h:BZ P t n=true):(sizeOf t).run P w= .ok n w:=by
 simp only[BZ,beq_iff_eq,oU]at h;obtain⟨i,hi,rfl⟩:=h;simp[sizeOf,typeInfo,hi]
theorem Ca {a:Addr} (hs:a.spot=none) (n:Nat):a.add n=⟨a.block,a.off+n,none⟩:=by
 unfold Addr.add;split
 ·subst_vars;cases a;simp_all
 ·cases a;simp_all
theorem Gx {ag:Bool} (hs:BZ P t n=true) (hg:HV P t ag=true) {a:Addr} (ha:a.spot=none) (hn:n≤vs.length)
  (hc:∀i v,vs[i]?=some v→w.cell? ⟨a.block,a.off+i,none⟩=some v) (h1:ag=false→n=1):
  (loadVar t a).run P w= .ok (if ag then .agg (vs.take n).toArray else (vs[0]?.getD undef)) w:=by
 cases ag with
 |true=>
  have hl:=run_loadCells_list (P:=P) w a (vs.take n) (λj v hv=>by
   rw[Ca ha];rw[oz]at hv;split at hv
   ·exact hc j v hv
   ·cases hv)
  rw[ol,qH hn]at hl;simp[loadVar,Hd hg,Ba hs,hl]
 |false=>
  have hn1:=h1 rfl;subst hn1;have h0:vs[0]?=some vs[0]:=oI _;have:=hc 0 _ h0;have e:(⟨a.block,a.off+0,none⟩:Addr)=a:=by cases a;simp_all
  rw[e]at this;simp[loadVar,Hd hg,this,h0]
theorem UB (hag:∀b o v,g.m b o=some v→w.cell? ⟨b,o,none⟩=some v) {o:Nat} (h:g.at b o vs):
  ∀(i:Nat) v,vs[i]?=some v→w.cell? ⟨b,o+i,none⟩=some v:=λi v hv=>hag _ _ _ (h i v hv)
theorem K7 (ha:All2 (RepV g) cs vs) (h1:∀v∈vs,v.oneCell'=true) {ag:Bool} {y:V}
  (hy:V.part cs off n ag=some y):RepD g w μ (.v y) (if ag then .agg ((vs.drop off).take n).toArray else (vs[off]?.getD undef))∧off+n≤vs.length:=by
 unfold V.part at hy;split at hy
 ·rename_i hl;refine⟨?_,by rw[ha.1];exact hl⟩;cases ag with
  |true=>
   simp only[if_true,oH]at hy ⊢;subst hy;exact RepV.agg' ((ha.drop off).take n) λv hv=>h1 v (qi (pH hv))
  |false=>
   simp only[oa,if_false]at hy ⊢;obtain⟨v,hv,hr⟩:=ha.get hy;simp only[hv,og];exact hr
 ·cases hy
theorem RepE.copy {g:Gh} {w:World} {μ:List Nat} {d:D} {u:Value} (h:RepE g w μ d u):RepE g w μ d.copy u:=by
 cases d<;>simp only[D.copy]<;>first
  |exact h
  |exact RepOwn.list h.1
  |trivial
theorem RepE.toG (h:RepE g w μ d u):RepG g w μ d u:=by
 cases d<;>first
  |exact h
  |exact h.elim
theorem RepG.toD (h:RepG g w μ d u):RepD g w μ d u:=by
 cases d<;>first
  |exact h
  |exact h.elim
theorem All2.map_left {α β γ:Type} {R:α→β→Prop} {S:γ→β→Prop} {f:α→γ} (hf:∀x y,R x y→S (f x) y) {xs:List α} {ys:List β} (h:All2 R xs ys):All2 S (xs.map f) ys:=by
 refine⟨by simp[h.1],λi x y hx hy=>?_⟩;simp only[oX,oU]at hx;obtain⟨x',hx',rfl⟩:=hx;exact hf _ _ (h.2 i x' y hx' hy)
theorem Jn {cs:List D} (ha:All2 (RepE g w μ) cs vs) (h1:∀v∈vs,v.oneCell'=true) {ag:Bool} {y:D}
  (hy:D.part cs off n ag=some y):RepD g w μ y (if ag then .agg ((vs.drop off).take n).toArray else (vs[off]?.getD undef))∧off+n≤vs.length∧∀u k,Af y u k=none:=by
 unfold D.part at hy;split at hy
 ·rename_i hl;refine⟨?_,by rw[ha.1];exact hl,?_⟩
  ·cases ag with
   |true=>
    simp only[if_true,oH]at hy ⊢;subst hy;refine⟨_,rfl,(All2.map_left (S:=RepE g w μ) (f:=D.copy) (λ_ _ h=>RepE.copy h) ((ha.drop off).take n)),λv hv=>h1 v (qi (pH hv)),?_⟩;intro d hd v;simp only[oP]at hd;obtain⟨d',_,rfl⟩:=hd;exact JY _ _
   |false=>
    simp only[oa,if_false,oU]at hy ⊢;obtain⟨y',hy',rfl⟩:=hy;obtain⟨v,hv,hr⟩:=ha.get hy';simp only[hv,og];exact hr.copy.toG.toD
  ·intro u k;cases ag with
   |true=>simp only[if_true,oH]at hy;subst hy;cases k<;>simp[Af,Ac]
   |false=>
    simp only[oa,if_false,oU]at hy;obtain⟨y',hy',rfl⟩:=hy;exact Bw _ _ _
 ·cases hy
theorem Il (h:RepD g w μ (.v (.ptr cs)) u):
  ∃(a:Addr) (vs:List Value),u= .pointer (some a)∧a.spot=none∧All2 (RepV g) cs vs∧(∀v∈vs,v.oneCell'=true)∧g.at a.block a.off vs:=by
 cases h with
 |ptr _ a vs hs hl hr h1 ha=>exact⟨a,vs,rfl,hs,⟨hl,hr⟩,h1,ha⟩
theorem Inv.row {t:Nat→D} {u:Nat→Value} (hi:Inv g w μ t u h O) (hb:μ[r]?=some b)
  (hr:h[r]?=some (.cells ds)):∃(vs:List Value) (T:TypeId),w.heap[b]?=some (.cells vs.toArray T (0,0))∧All2 (RepE g w μ) ds vs∧(∀v∈vs,v.oneCell'=true)∧∀o,g.m b o=none:=
 hi.rows r _ b hr hb
theorem Q9 {T:TypeId} (hb:w.heap[b]?=some (.cells vs.toArray T (0,0))) (off:Nat):
  ∀(i:Nat) v,(vs.drop off)[i]?=some v→w.cell? ⟨b,off+i,none⟩=some v:=by
 intro i v hv;rw[pn]at hv;simp[World.cell?,hb,hv]
theorem NG {a:Operand} {a':Opd} {ag:Bool} (ha:oe GL a a'=true) (hs:BZ P t n=true) (hg:HV P t ag=true) (h1:(ag||n==1)=true):
  CN P GL (.load t a) (.load a' n ag):=by
 intro g w μ e act h O x hd hx o ho;have hr:=hd.ev ha;have hn1:ag=false→n=1:=by intro h;simpa[h]using h1
 simp only[PI.val]at hx;split at hx
 ·rename_i cs hc;rw[hc]at hr;obtain⟨ad,vs,hu,hsp,hall,hone,hat⟩:=Il hr;simp only[oU]at hx;obtain⟨y,hy,rfl⟩:=hx;obtain⟨hrep,hlen⟩:=K7 (w:=w) (μ:=μ) hall hone hy;have hl:=Gx (w:=w) hs hg hsp (vs:=vs) (by simpa using hlen) (UB hd.inv.agree hat) hn1;refine⟨if ag then .agg (vs.take n).toArray else (vs[0]?.getD undef),?_,?_,λk=>Bo _ _ _⟩
  ·simp[execOp,ho,hu,Instr.loadAt,Instr.sureAddr,hl]
  ·simpa using hrep
 ·rename_i r off hc;rw[hc]at hr;obtain⟨b,hb,hu⟩:=hr;split at hx
  ·rename_i ds hrow;obtain⟨vs,T,hheap,hall,hone,_⟩:=hd.inv.row hb hrow;obtain⟨hrep,hlen,hown⟩:=Jn hall hone hx;have hl:=Gx (P:=P) (w:=w) hs hg (a:=⟨b,off,none⟩) rfl (vs:=vs.drop off) (by simp;omega) (Q9 hheap off) hn1;refine⟨if ag then .agg ((vs.drop off).take n).toArray else (vs[off]?.getD undef),?_,hrep,λk=>hown _ _⟩;simp[execOp,ho,hu,Instr.loadAt,Instr.sureAddr,hl,pn]
  ·cases hx
 ·cases hx
end
theorem v?_rep (h:RepE g w μ d u) {x:V} (hx:d.v?=some x):RepV g x u:=by
 cases d<;>simp only[D.v?,oH,reduceCtorEq]at hx<;>subst hx
 ·exact h
 ·exact RepNil.list h
 ·exact RepOwn.list h.1
theorem vs?_rep {g:Gh} {R:D→Value→Prop} (hR:∀d u x,R d u→d.v?=some x→RepV g x u):∀ {ds:List D} {us:List Value} {xs:List V},All2 R ds us→D.vs? ds=some xs→All2 (RepV g) xs us
 |[],us,xs,h,hx=>by
  simp only[D.vs?,oH]at hx;subst hx;have:=pK h.1;subst this;exact .nil
 |d::ds,[],xs,h,_=>by simp[All2]at h
 |d::ds,u::us,xs,h,hx=>by
  rw[All2.cons_iff]at h;simp only[D.vs?]at hx;split at hx
  ·rename_i y ys hy hys;simp only[oH]at hx;subst hx;exact .cons (hR _ _ _ h.1 hy) (vs?_rep hR h.2 hys)
  ·cases hx
theorem XF (h:RepC g μ d u) {x:V} (hx:d.v?=some x):RepV g x u:=by
 cases d<;>simp only[D.v?,oH,reduceCtorEq]at hx<;>subst hx<;>first|exact h|exact h.elim
theorem CW (h:RepD g w μ d u) {x:V} (hx:d.toV=some x):RepV g x u:=by
 cases d with
 |agg ds=>
  simp only[D.toV,oU]at hx;obtain⟨xs,hxs,rfl⟩:=hx;obtain⟨vs,rfl,ha,h1,_⟩:=h;exact RepV.agg' (vs?_rep (λ_ _ _ h hx=>v?_rep h hx) ha hxs) h1
 |func f caps=>
  simp only[D.toV,oU]at hx;obtain⟨xs,hxs,rfl⟩:=hx;obtain⟨vs,rfl,ha⟩:=h;have:=vs?_rep (λ_ _ _ h hx=>XF h hx) ha hxs;exact RepV.func f xs vs this.1 this.2
 |v x'=>exact v?_rep (μ:=μ) (w:=w) (d:= .v x') h hx
 |any=>simp[D.toV,D.v?]at hx
 |nil e s=>exact v?_rep (μ:=μ) (w:=w) (d:= .nil e s) h hx
 |own e s xs=>exact v?_rep (μ:=μ) (d:= .own e s xs) h hx
 |tup ds=>simp[D.toV,D.v?]at hx
 |ref r o=>simp[D.toV,D.v?]at hx
 |sref r n=>simp[D.toV,D.v?]at hx
 |mref r=>simp[D.toV,D.v?]at hx
 |meth f caps=>simp[D.toV,D.v?]at hx
 |yld r=>simp[D.toV,D.v?]at hx
 |pend b e s xs=>simp[D.toV,D.v?]at hx
 |pptr b s n=>simp[D.toV,D.v?]at hx
end
section
variable {u:Value} {d:D} {μ:List Nat} {w:World} {g:Gh} {x' y':Opd} {x y:Operand} {el t:Nat}
section
variable {P:Program} {GL:Aa}
theorem Kc (r o:Nat) (v:Value) (k:Nat):Af (.ref r o) v k=none:=by cases k<;>simp[Af,Ac]
theorem RN (h:RepD g w μ d u) {b:Bool} (hb:d.isNil=some b):
  (b=true∧(u= .pointer none∨u= .nilFunc∨u= .map none))∨(b=false∧((∃a,u= .pointer (some a))∨(∃f vs,u= .func (.func f) #[] vs)∨(∃r,u= .map (some r)))):=by
 unfold D.isNil at hb;split at hb<;>simp only[oH,reduceCtorEq]at hb<;>subst hb
 ·cases h;exact .inl ⟨rfl,.inl rfl⟩
 ·cases h;exact .inl ⟨rfl,.inr (.inl rfl)⟩
 ·cases h;exact .inl ⟨rfl,.inr (.inr rfl)⟩
 ·obtain⟨a,vs,rfl,_⟩:=Il h;exact .inr ⟨rfl,.inl ⟨a,rfl⟩⟩
 ·cases h;exact .inr ⟨rfl,.inr (.inl ⟨_,_,rfl⟩)⟩
 ·obtain⟨b,_,rfl⟩:=h;exact .inr ⟨rfl,.inl ⟨_,rfl⟩⟩
 ·obtain⟨vs,rfl,_⟩:=h;exact .inr ⟨rfl,.inr (.inl ⟨_,_,rfl⟩)⟩
 ·obtain⟨b,_,rfl⟩:=h;exact .inr ⟨rfl,.inr (.inr ⟨_,rfl⟩)⟩
theorem Uz (hk:oe GL x x'=true):CN P GL (.nilCheck x) (.nilc x'):=by
 intro g w μ e act h O y hd hx o ho;have hr:=hd.ev hk;simp only[PI.val]at hx;split at hx
 ·rename_i hn;simp only[oH]at hx;subst hx;refine⟨act.eval x,?_,hr.copy,λk=>Bw _ _ _⟩;rcases RN hr hn with ⟨h,_⟩|⟨_,⟨a,hu⟩|⟨f,vs,hu⟩|⟨r,hu⟩⟩
  ·cases h
  ·simp[execOp,ho,hu]
  ·simp[execOp,ho,hu]
  ·simp[execOp,ho,hu]
 ·cases hx
theorem Dz {op:BinOp} {a b:Value} (h:(∀cs,a≠ .agg cs)∧a≠ .nilIface):(eqGuard op t x y a b).run P w= .ok () w:=by
 cases a<;>first
  |exact absurd rfl h.2
  |exact absurd rfl (h.1 _)
  |(cases op<;>rfl)
theorem Yu {op:BinOp} {t s:Nat} {x y:Operand} {x' y':Opd} (hx':oe GL x x'=true) (hy':oe GL y y'=true):CN P GL (.binOp op t x y s) (.bin op x' y'):=by
 intro g w μ e act h O d hd hx o ho;have hr1:=hd.ev hx';have hr2:=hd.ev hy';simp only[PI.val]at hx;split at hx
 ·rename_i a b ha hb;rw[ha]at hr1;rw[hb]at hr2;simp only[oU]at hx;obtain⟨z,hz,rfl⟩:=hx
  suffices hs:∃v,(eqGuard op t x y (act.eval x) (act.eval y)).run P w= .ok () w∧(binOp op t (act.eval x) (act.eval y)).run P w= .ok v w∧RepV g z v by
   obtain⟨v,h1,h2,h3⟩:=hs;exact⟨v,by simp[execOp,ho,h1,h2],h3,λk=>Bo _ _ _⟩
  unfold V.bin at hz;split at hz
  ·rename_i k a k' b;have e1:=Ep hr1;have e2:=Ep hr2;rw[e1,e2];have hg:(eqGuard op t x y (.int k a) (.int k' b)).run P w= .ok () w:=Dz ⟨by simp,by simp⟩;cases op<;>simp only[]at hz
   case shl=>
    split at hz
    ·rename_i h0;simp only[oH]at hz;subst hz;exact⟨_,hg,by simp[binOp,Op.shift,show ¬b <0 by omega],.int _ _⟩
    ·cases hz
   case shr=>
    split at hz
    ·rename_i h0;simp only[oH]at hz;subst hz;exact⟨_,hg,by simp[binOp,Op.shift,show ¬b <0 by omega],.int _ _⟩
    ·cases hz
   all_goals
    split at hz
    ·rename_i hkk;subst hkk
     first
      |(cases hz;done)
      |(simp only[oH]at hz;subst hz
        first
         |(refine⟨_,hg,?_,.int _ _⟩;first|(simp[binOp,Op.intArith];done)|(unfold binOp;simp only[ne_eq,not_true_eq_false,if_false];rfl))
         |(refine⟨_,hg,?_,.bool _⟩;simp[binOp,Op.intCmp];done))
      |(split at hz
        ·cases hz
        ·rename_i h0;simp only[oH]at hz;subst hz;refine⟨_,hg,?_,.int _ _⟩;simp[binOp,Op.intDiv,h0])
    ·cases hz
  ·rename_i a b;have e1:=F3 hr1;have e2:=F3 hr2;rw[e1,e2];have hg:(eqGuard op t x y (.string a) (.string b)).run P w= .ok () w:=Dz ⟨by simp,by simp⟩;cases op<;>simp only[reduceCtorEq,oH]at hz<;>subst hz
   ·exact⟨_,hg,by simp[binOp,Op.stringOp],.bool _⟩
   ·exact⟨_,hg,by simp[binOp,Op.stringOp],.bool _⟩
  ·cases hz
 ·cases hx
theorem Fj {x y:Value} {r:Bool} (h:∀d,(Op.equalIn (d+1) t x y).run P w= .ok r w):(Op.equal t x y).run P w= .ok r w:=h 9999
theorem JR (d:Nat) (hu:P.underlying t=some .bool) (a b:Bool):(Op.equalIn (d+1) t (.bool a) (.bool b)).run P w= .ok (a==b) w:=by
 simp[Op.equalIn,run_underlying hu]
theorem ED (d:Nat) (hu:P.underlying t=some (.pointer el)) (b:Option Addr):
  (Op.equalIn (d+1) t (.pointer none) (.pointer b)).run P w= .ok b.isNone w:=by
 simp[Op.equalIn,run_underlying hu]
theorem JQ (d:Nat) (hu:P.underlying t=some (.pointer el)) (a:Addr):
  (Op.equalIn (d+1) t (.pointer (some a)) (.pointer none)).run P w= .ok false w:=by
 simp[Op.equalIn,run_underlying hu]
theorem Hr {op:BinOp} {ne:Bool} (h:(op==if ne then BinOp.neq else BinOp.eql)=true):op=if ne then BinOp.neq else BinOp.eql:=by
 cases ne<;>cases op<;>first|rfl|cases h
theorem YO {op:BinOp} {ne:Bool} {s:Nat} (hop:(op==if ne then BinOp.neq else BinOp.eql)=true)
  (ht:FO P t (λ| .bool=>true|_=>false)=true) (hx':oe GL x x'=true) (hy':oe GL y y'=true):CN P GL (.binOp op t x y s) (.eqB ne x' y'):=by
 intro g w μ e act h O d hd hx o ho;have hr1:=hd.ev hx';have hr2:=hd.ev hy';simp only[PI.val]at hx;split at hx
 ·rename_i a b ha hb;rw[ha]at hr1;rw[hb]at hr2;have e1:=Fk hr1;have e2:=Fk hr2;simp only[oH]at hx;subst hx;have hg:(eqGuard op t x y (.bool a) (.bool b)).run P w= .ok () w:=Dz ⟨by simp,by simp⟩;have hu:P.underlying t=some .bool:=by
   unfold FO at ht;split at ht
   ·rename_i d' hd';cases d'<;>simp_all
   ·cases ht
  have heq:(Op.equal t (.bool a) (.bool b)).run P w= .ok (a==b) w:=Fj λd=>JR d hu a b;refine⟨.bool ((a==b) != ne),?_,.bool _,λk=>Bo _ _ _⟩;have:=Hr hop;subst this;cases ne<;>simp[execOp,ho,e1,e2,binOp,heq]at hg ⊢ <;>simp[hg,heq]
 ·cases hx
theorem YN {op:BinOp} {ne:Bool} {s:Nat} (hop:(op==if ne then BinOp.neq else BinOp.eql)=true)
  (ht:FO P t (λ| .pointer _=>true|_=>false)=true) (hx':oe GL x x'=true) (hy':oe GL y y'=true):CN P GL (.binOp op t x y s) (.eqP ne x' y'):=by
 intro g w μ e act h O d hd hx o ho;have hr1:=hd.ev hx';have hr2:=hd.ev hy';have hu:∃el,P.underlying t=some (.pointer el):=by
  unfold FO at ht;split at ht
  ·rename_i d' hd';cases d'<;>simp_all
  ·cases ht
 obtain⟨el,hu⟩:=hu;have hp:∀ {q:D} {b:Bool} {v:Value},RepD g w μ q v→q.isNilP=some b→(b=true∧v= .pointer none)∨(b=false∧∃a,v= .pointer (some a)):=by
  intro q b v hq hb;unfold D.isNilP at hb;split at hb<;>simp only[oH,reduceCtorEq]at hb<;>subst hb
  ·cases hq;exact .inl ⟨rfl,rfl⟩
  ·obtain⟨a,vs,rfl,_⟩:=Il hq;exact .inr ⟨rfl,a,rfl⟩
  ·obtain⟨b,_,rfl⟩:=hq;exact .inr ⟨rfl,_,rfl⟩
 have hop':=Hr hop;subst hop';have fin:∀(r:Bool),(Op.equal t (act.eval x) (act.eval y)).run P w= .ok r w→(∃p1,act.eval x= .pointer p1)→(∃p2,act.eval y= .pointer p2)→
   ∃v,(execOp act.eval o).run P w= .ok (.value v) w∧RepD g w μ (.v (.bool (r != ne))) v∧∀k,Af (.v (.bool (r != ne))) v k=none:=by
  rintro r hq ⟨p1,h1⟩ ⟨p2,h2⟩;refine⟨.bool (r != ne),?_,.bool _,λk=>Bo _ _ _⟩;have hg:∀op,(eqGuard op t x y (.pointer p1) (.pointer p2)).run P w= .ok () w:=λop=>Dz ⟨by simp,by simp⟩;rw[h1,h2]at hq;cases ne<;>simp[execOp,ho,h1,h2,hg,binOp,hq]
 simp only[PI.val]at hx;split at hx
 ·rename_i b h1 h2;simp only[oH]at hx;subst hx;rcases hp hr1 h1 with ⟨_,e1⟩|⟨h,_⟩
  ·rcases hp hr2 h2 with ⟨rfl,e2⟩|⟨rfl,a2,e2⟩
   ·exact fin true (by rw[e1,e2];exact Fj λd=>ED d hu none) ⟨_,e1⟩ ⟨_,e2⟩
   ·exact fin false (by rw[e1,e2];exact Fj λd=>ED d hu (some a2)) ⟨_,e1⟩ ⟨_,e2⟩
  ·cases h
 ·rename_i b h1 h2;simp only[oH]at hx;subst hx;rcases hp hr2 h2 with ⟨_,e2⟩|⟨h,_⟩
  ·rcases hp hr1 h1 with ⟨rfl,e1⟩|⟨rfl,a1,e1⟩
   ·exact fin true (by rw[e1,e2];exact Fj λd=>ED d hu none) ⟨_,e1⟩ ⟨_,e2⟩
   ·exact fin false (by rw[e1,e2];exact Fj λd=>JQ d hu a1) ⟨_,e1⟩ ⟨_,e2⟩
  ·cases h
 ·cases hx
theorem Xg {op:UnOp} (hop:(op==UnOp.not)=true) (hk:oe GL x x'=true):CN P GL (.unOp op t x) (.not x'):=by
 intro g w μ e act h O d hd hx o ho;have hr:=hd.ev hk;have:op= .not:=by cases op<;>first|rfl|cases hop
 subst this;simp only[PI.val]at hx;split at hx
 ·rename_i a ha;rw[ha]at hr;simp only[oH]at hx;subst hx;exact⟨_,by simp[execOp,ho,Fk hr,Op.unary],.bool _,λk=>Bo _ _ _⟩
 ·cases hx
theorem Xk {op:UnOp} (hop:(op==UnOp.neg)=true) (hk:oe GL x x'=true):CN P GL (.unOp op t x) (.neg x'):=by
 intro g w μ e act h O d hd hx o ho;have hr:=hd.ev hk;have:op= .neg:=by cases op<;>first|rfl|cases hop
 subst this;simp only[PI.val]at hx;split at hx
 ·rename_i k n ha;rw[ha]at hr;simp only[oH]at hx;subst hx;exact⟨.int k (k.wrap (0-n)),by simp[execOp,ho,Ep hr,Op.unary,Op.intArith],.int _ _,λk=>Bo _ _ _⟩
 ·cases hx
theorem Xx {op:UnOp} (hop:(op==UnOp.xor)=true) (hk:oe GL x x'=true):CN P GL (.unOp op t x) (.inv x'):=by
 intro g w μ e act h O d hd hx o ho;have hr:=hd.ev hk;have:op= .xor:=by cases op<;>first|rfl|cases hop
 subst this;simp only[PI.val]at hx;split at hx
 ·rename_i k n ha;rw[ha]at hr;simp only[oH]at hx;subst hx;exact⟨_,by simp[execOp,ho,Ep hr,Op.unary,Op.intBits],.int _ _,λk=>Bo _ _ _⟩
 ·cases hx
theorem VH {s:Nat} (h:FO P s (λ| .int _=>true|_=>false)=true):∃k,P.underlying s=some (.int k):=by
 unfold FO at h;split at h
 ·rename_i d hd;cases d<;>simp_all
 ·cases h
theorem Vb {s d:Nat} {k:IntKind} (hs:FO P s (λ| .int _=>true|_=>false)=true) (hd':FO P d (λ| .int k'=>k==k'|_=>false)=true)
  (hk:oe GL x x'=true):CN P GL (.convert s d x) (.cint k x'):=by
 intro g w μ e act h O y hd hx o ho;have hr:=hd.ev hk;obtain⟨ks,hs'⟩:=VH hs;have hdd:P.underlying d=some (.int k):=by
  unfold FO at hd';split at hd'
  ·rename_i d' hd2;cases d'<;>simp_all
  ·cases hd'
 simp only[PI.val]at hx;split at hx
 ·rename_i k' n ha;rw[ha]at hr;simp only[oH]at hx;subst hx;exact⟨_,by simp[execOp,ho,Ep hr,convert,run_underlying hs',run_underlying hdd,Conv.intToInt],.int _ _,λk=>Bo _ _ _⟩
 ·cases hx
end
end
section
variable {b cap f i len m n off r t:Nat} {u:Value} {μ:List Nat} {w:World} {g:Gh} {vs:List Value} {cs xs:List V} {i' q x' y':Opd} {p x:Operand} {O:Nat→Prop} {h:List Row} {e:CB}
section
variable {P:Program} {GL:Aa}
theorem KC (h:Hl P t i off n=true):∃fs f,P.underlying t=some (.struct fs)∧fs[i]?=some f∧f.offset=off∧BZ P f.type n=true:=by
 unfold Hl at h;split at h
 ·rename_i fs hfs;split at h
  ·rename_i f hf;simp only[oJ,beq_iff_eq]at h;exact⟨fs,f,hfs,hf,h.1,h.2⟩
  ·cases h
 ·cases h
theorem QN {o:Nat} (h:RepD g w μ (.ref r o) u):∃b,μ[r]?=some b∧u= .pointer (some ⟨b,o,none⟩):=h
theorem Vk {o:Nat} (h:g.at b o vs) (k n:Nat):g.at b (o+k) ((vs.drop k).take n):=by
 intro i v hv;rw[oz]at hv;split at hv
 ·rw[pn]at hv;have:=h _ v hv
  rwa [show o+(k+i)=o+k+i by omega]at this
 ·cases hv
theorem Kz {ad:Addr} (hall:All2 (RepV g) cs vs) (hone:∀v∈vs,v.oneCell'=true) (hat:g.at ad.block ad.off vs)
  (k n:Nat):RepD g w μ (.v (.ptr ((cs.drop k).take n))) (.pointer (some ⟨ad.block,ad.off+k,none⟩)):=by
 have h2:=(hall.drop k).take n;exact RepV.ptr _ ⟨ad.block,ad.off+k,none⟩ ((vs.drop k).take n) rfl h2.1 h2.2 (λv hv=>hone v (qi (pH hv))) (Vk hat k n)
theorem TU (hf:Hl P t i off n=true) (h0:decide (0 <n)=true) (hk:oe GL x x'=true):CN P GL (.fieldAddr t x i) (.faddr x' off n):=by
 intro g w μ e act h O y hd hx o ho;have hr:=hd.ev hk;obtain⟨fs,f,hu,hi,rfl,hsz⟩:=KC hf;have hn:n≠0:=by simp at h0;omega
 have run:∀ad:Addr,act.eval x= .pointer (some ad)→ad.spot=none→(execOp act.eval o).run P w= .ok (.value (.pointer (some ⟨ad.block,ad.off+f.offset,none⟩))) w:=by
  intro ad hv hs;simp[execOp,ho,hv,Instr.fieldAt,run_underlying hu,hi,Instr.sureAddr,fieldPlace,Ba hsz,hn,Ca hs]
 simp only[PI.val]at hx;split at hx
 ·rename_i cs hc;rw[hc]at hr;obtain⟨ad,vs,hv,hs,hall,hone,hat⟩:=Il hr;split at hx
  ·simp only[oH]at hx;subst hx;exact⟨_,run ad hv hs,Kz hall hone hat _ _,λk=>Bo _ _ _⟩
  ·cases hx
 ·rename_i r off' hc;rw[hc]at hr;obtain⟨b,hb,hv⟩:=QN hr;simp only[oH]at hx;subst hx;exact⟨_,run _ hv rfl,⟨b,hb,rfl⟩,λk=>Kc _ _ _ _⟩
 ·cases hx
theorem Ic {ag:Bool} (hs:BZ P t n=true) (hg:HV P t ag=true) (hl:off+n≤vs.length) (h1:ag=false→n=1):
  (part t vs.toArray off).run P w= .ok (if ag then .agg ((vs.drop off).take n).toArray else (vs[off]?.getD undef)) w:=by
 cases ag with
 |true=>
  simp[part,Hd hg,Ba hs]
 |false=>
  have:=h1 rfl;subst this;have h0:vs[off]?=some vs[off]:=oI _;simp[part,Hd hg,h0]
theorem YI {ag:Bool} (hf:Hl P t i off n=true) (hga:NU P t i ag=true) (h1:(ag||n==1)=true) (hk:oe GL x x'=true):
  CN P GL (.field t x i) (.fld x' off n ag):=by
 intro g w μ e act h O y hd hx o ho;have hr:=hd.ev hk;obtain⟨fs,f,hu,hi,rfl,hsz⟩:=KC hf;have hg:HV P f.type ag=true:=by simpa[NU,hu,hi]using hga
 have hn1:ag=false→n=1:=by intro h;simpa[h]using h1
 simp only[PI.val]at hx;split at hx
 ·rename_i cs hc;rw[hc]at hr;obtain⟨vs,hv,hall,hone⟩:=RepV.agg_inv hr;simp only[oU]at hx;obtain⟨z,hz,rfl⟩:=hx;obtain⟨hrep,hlen⟩:=K7 (w:=w) (μ:=μ) hall hone hz;exact⟨_,by simp[execOp,ho,hv,Instr.field,run_underlying hu,hi,asAgg,Ic hsz hg hlen hn1],hrep,λk=>Bo _ _ _⟩
 ·rename_i ds hc;rw[hc]at hr;obtain⟨vs,hv,hall,hone,_⟩:=hr;obtain⟨hrep,hlen,hown⟩:=Jn hall hone hx;exact⟨_,by simp[execOp,ho,hv,Instr.field,run_underlying hu,hi,asAgg,Ic hsz hg hlen hn1],hrep,λk=>hown _ _⟩
 ·cases hx
theorem Dy {act:Act} (hd:Gd P GL g w μ e act h O) {i:Operand} (hk:oe GL i i'=true) {k:IntKind} {n:Int}
  (hc:i'.ev e= .v (.int k n)):act.eval i= .int k n:=by
 have:=hd.ev hk;rw[hc]at this;exact Ep this
theorem My (h:RepV g (.list xs) u) {x:V} (hx:xs[i]?=some x):
  ∃(a:Addr) (cap s:Nat) (vs:List Value),u= .slice (some a) xs.length cap∧a.spot=none∧All2 (RepV g) x.cells vs∧(∀v∈vs,v.oneCell'=true)∧g.at a.block (a.off+i*s) vs∧s=x.cells.length:=by
 have hi:=(oM.1 hx).1;cases h with
 |lnil=>simp at hx
 |list _ a cap s vs hs hc hr hz=>
  have hc2:=(hr i x hx).cells;have hz2:=hz i hi;refine⟨a,cap,s,(vs i).cells.toList,rfl,hs,hc2.1,hc2.2,hz2.2,?_⟩;have:=hc2.1.1;simp at this;omega
theorem TH {s:Nat} {i:Operand} (ht:En P t s=true) (hk:oe GL x x'=true) (hki:oe GL i i'=true):
  CN P GL (.indexAddr t x i) (.iaddr x' i' s):=by
 intro g w μ e act h O y hd hx o ho;have hr:=(hd.ev hk).copy;have hu:∃el,P.underlying t=some (.slice el)∧BZ P el s=true:=by
  unfold En at ht;split at ht
  ·rename_i el hel;exact⟨el,hel,ht⟩
  ·cases ht
 obtain⟨el,hu,hsz⟩:=hu;simp only[PI.val]at hx;split at hx
 ·rename_i xs k n hc hci;rw[hc]at hr;have hiv:=Dy hd hki hci;unfold V.getI at hx;split at hx
  ·rename_i z hz;split at hz
   ·rename_i h0;split at hx
    ·rename_i hs;simp only[oH]at hx;subst hx;obtain⟨a,cap,s',vs,hv,hsp,hall,hone,hat,hs'⟩:=My hr hz;have hss:s'=s:=by omega
     subst hss;have hi:=(oM.1 hz).1;refine⟨.pointer (some ⟨a.block,a.off+n.toNat*s',none⟩),?_,?_,λk=>Bo _ _ _⟩
     ·have hlt:0≤n∧n <(xs.length:Int):=⟨h0,by omega⟩;simp[execOp,ho,hv,hiv,Instr.indexAt,asIntOf,run_underlying hu,hlt,Ba hsz,Ca hsp]
     ·exact RepV.ptr _ ⟨a.block,a.off+n.toNat*s',none⟩ vs rfl hall.1 hall.2 hone hat
    ·cases hx
   ·cases hz
  ·cases hx
 ·rename_i r m k n hc hci;rw[hc]at hr;have hiv:=Dy hd hki hci;obtain⟨b,cap,hb,hv,_⟩:=hr;split at hx
  ·rename_i h0;simp only[oH]at hx;subst hx;refine⟨.pointer (some ⟨b,n.toNat*s,none⟩),?_,⟨b,hb,rfl⟩,λk=>Kc _ _ _ _⟩;simp[execOp,ho,hv,hiv,Instr.indexAt,asIntOf,run_underlying hu,h0,Ba hsz];rw[Ca rfl];simp
  ·cases hx
 ·cases hx
theorem RQ {s:Nat} {i:Operand} (ht:En P t s=true) (hk:oe GL x x'=true) (hki:oe GL i i'=true):
  CN P GL (.indexAddr t x i) (.iaddrP x' i' s):=by
 intro g w μ e act h O y hd hx o ho;have hr:=hd.ev hk;have hu:∃el,P.underlying t=some (.slice el)∧BZ P el s=true:=by
  unfold En at ht;split at ht
  ·rename_i el hel;exact⟨el,hel,ht⟩
  ·cases ht
 obtain⟨el,hu,hsz⟩:=hu;simp only[PI.val]at hx;split at hx
 ·rename_i b el' s' xs k n hc hci;rw[hc]at hr;have hiv:=Dy hd hki hci;split at hx
  ·rename_i hn;obtain⟨⟨rfl,rfl⟩,hpos⟩:=hn;simp only[oH]at hx;subst hx;obtain⟨cap,hv,hcap,_⟩:=hr;refine⟨.pointer (some ⟨b,xs.length*s',none⟩),?_,.inr ⟨hpos,rfl⟩,λk=>by cases k<;>simp[Af,Ac]⟩
   have hlt:(0:Int)≤xs.length∧(xs.length:Int) <((xs.length+1:Nat):Int):=⟨by omega,by omega⟩;simp[execOp,ho,hv,hiv,Instr.indexAt,asIntOf,run_underlying hu,hlt,Ba hsz]
   try (rw[Ca rfl];simp)
  ·cases hx
 ·rename_i b m k n hc hci;rw[hc]at hr;have hiv:=Dy hd hki hci;split at hx
  ·rename_i hn;obtain⟨rfl,hpos⟩:=hn;simp only[oH]at hx;subst hx;obtain⟨_,cap,hv⟩|⟨h0,_⟩:=hr
   ·refine⟨.pointer (some ⟨b,m*s,none⟩),?_,.inr ⟨hpos,rfl⟩,λk=>by cases k<;>simp[Af,Ac]⟩
    have hlt:(0:Int)≤m∧(m:Int) <((m+1:Nat):Int):=⟨by omega,by omega⟩;simp[execOp,ho,hv,hiv,Instr.indexAt,asIntOf,run_underlying hu,hlt,Ba hsz]
    try (rw[Ca rfl];simp)
   ·omega
  ·cases hx
 ·cases hx
theorem RS {s:Nat} {i:Operand} (ht:Nh P t len s=true) (hk:oe GL x x'=true) (hki:oe GL i i'=true):
  CN P GL (.indexAddr t x i) (.iaddrA x' i' len s):=by
 intro g w μ e act h O y hd hx o ho;have hr:=hd.ev hk;have hu:∃el,P.underlying t=some (.array len el)∧BZ P el s=true:=by
  unfold Nh at ht;split at ht
  ·rename_i l el hel;simp only[oJ,beq_iff_eq]at ht;obtain⟨⟨rfl,h2⟩,_⟩:=ht;exact⟨el,hel,h2⟩
  ·cases ht
 obtain⟨el,hu,hsz⟩:=hu;have run:∀(ad:Addr) (k:IntKind) (n:Int),act.eval x= .pointer (some ad)→ad.spot=none→act.eval i= .int k n→0≤n∧n <(len:Int)→
   (execOp act.eval o).run P w= .ok (.value (.pointer (some ⟨ad.block,ad.off+n.toNat*s,none⟩))) w:=by
  intro ad k n hv hs hi hlt;simp[execOp,ho,hv,hi,Instr.indexAt,asIntOf,run_underlying hu,hlt,Ba hsz,Instr.sureAddr,Ca hs]
 simp only[PI.val]at hx;split at hx
 ·rename_i cs k n hc hci;rw[hc]at hr;obtain⟨ad,vs,hv,hs,hall,hone,hat⟩:=Il hr;split at hx
  ·rename_i h0;simp only[oH]at hx;subst hx;exact⟨_,run ad k n hv hs (Dy hd hki hci) ⟨h0.1,h0.2.1⟩,Kz hall hone hat _ _,λk=>Bo _ _ _⟩
  ·cases hx
 ·rename_i r off' k n hc hci;rw[hc]at hr;obtain⟨b,hb,hv⟩:=QN hr;split at hx
  ·rename_i h0;simp only[oH]at hx;subst hx;exact⟨_,run _ k n hv rfl (Dy hd hki hci) h0,⟨b,hb,rfl⟩,λk=>Kc _ _ _ _⟩
  ·cases hx
 ·cases hx
theorem Df (h:FO P t (λ| .string=>true|_=>false)=true):P.underlying t=some .string:=by
 unfold FO at h;split at h
 ·rename_i d hd;cases d<;>simp_all
 ·cases h
theorem VL {i:Operand} (ht:FO P t (λ| .string=>true|_=>false)=true) (hk:oe GL x x'=true) (hki:oe GL i i'=true):
  CN P GL (.index t x i) (.idxS x' i'):=by
 intro g w μ e act h O y hd hx o ho;have hr:=hd.ev hk;have hu:=Df ht;simp only[PI.val]at hx;split at hx
 ·rename_i s k n hc hci;rw[hc]at hr;split at hx
  ·rename_i h0;simp only[oU]at hx;obtain⟨b,hb,rfl⟩:=hx;exact⟨.int .u8 b.toNat,by simp[execOp,ho,F3 hr,Dy hd hki hci,Instr.index,asIntOf,run_underlying hu,h0,hb],.int _ _,λk=>Bo _ _ _⟩
  ·cases hx
 ·cases hx
theorem QV {p:Option Operand} {q:Option Opd} (h:Ao (oe GL) p.toList q.toList=true):(p=none∧q=none)∨∃x y,p=some x∧q=some y∧oe GL x y=true:=by
 cases p<;>cases q<;>simp_all [Ao]
theorem He {act:Act} (hd:Gd P GL g w μ e act h O) (hk:oe GL p q=true) {dflt l y:Nat}
  (hb:KU (some (q.ev e)) dflt=some l) (hl:l≤y) (code:BoundsCode):(Instr.sliceBound (act.eval p) y code).run P w= .ok l w:=by
 unfold KU at hb;split at hb
 ·rename_i h;cases h
 ·rename_i k n h;simp only[oH]at h;split at hb
  ·rename_i h0;simp only[oH]at hb;have hv:=Dy hd hk h;have:0≤n∧n≤(y:Int):=⟨h0,by omega⟩;simp[Instr.sliceBound,hv,asIntOf,this,hb]
  ·cases hb
 ·cases hb
theorem Kw {act:Act} (hd:Gd P GL g w μ e act h O) {lo hi:Option Operand} {lo' hi':Option Opd}
  (hlo:Ao (oe GL) lo.toList lo'.toList=true) (hhi:Ao (oe GL) hi.toList hi'.toList=true) {l:Nat} (isS:Bool)
  (hl:KU (lo'.map (·.ev e)) 0=some l) (hm:KU (hi'.map (·.ev e)) len=some m) (hlm:l≤m) (hml:m≤len) (hlc:len≤cap):
  (Instr.sliceBounds isS len cap (lo.map act.eval) (hi.map act.eval) none).run P w= .ok (l,m,cap) w:=by
 rcases QV hlo with ⟨rfl,rfl⟩|⟨p,q,rfl,rfl,hpq⟩<;>rcases QV hhi with ⟨rfl,rfl⟩|⟨p',q',rfl,rfl,hpq'⟩
 ·simp[KU]at hl hm;subst hl;subst hm;simp[Instr.sliceBounds]
 ·simp[KU]at hl;subst hl;have h2:=He hd hpq' (y:=cap) hm (by omega) (if isS then .sliceAcap else .sliceAlen);simp[Instr.sliceBounds,h2]
 ·simp[KU]at hm;subst hm;have h2:=He hd hpq (y:=len) hl (by omega) .sliceB;simp[Instr.sliceBounds,h2]
 ·have h1:=He hd hpq' (y:=cap) hm (by omega) (if isS then .sliceAcap else .sliceAlen);have h2:=He hd hpq (y:=m) hl (by omega) .sliceB;simp[Instr.sliceBounds,h1,h2]
theorem Nz (h:RepV g (.list xs) u) {l s:Nat} (hlm:l≤m) (hml:m≤xs.length) (hs:BM s xs=true):
  ∃(a:Option Addr) (cap:Nat),u= .slice a xs.length cap∧xs.length≤cap∧RepV g (.list ((xs.take m).drop l)) (.slice (if cap=l then a else a.map (·.add (l*s))) (m-l) (cap-l)):=by
 cases h with
 |lnil=>
  have hm0:m=0:=by simpa using hml
  subst hm0;have hl0:l=0:=by omega
  subst hl0;exact⟨none,0,rfl,oN _,by simpa using RepV.lnil⟩
 |list _ a cap s' vs hsp hc hr hz=>
  refine⟨some a,cap,rfl,hc,?_⟩;have hlen:((xs.take m).drop l).length=m-l:=by simp;omega
  have Br:∀i x,((xs.take m).drop l)[i]?=some x→xs[l+i]?=some x:=by
   intro i x hx;rw[pn,oz]at hx;split at hx
   ·exact hx
   ·cases hx
  have hs':0 <xs.length→s'=s:=by
   intro h0;have hx0:xs[0]?=some xs[0]:=oI _;have h1:xs.head?=some xs[0]:=by rw[List.head?_eq_getElem?];exact hx0
   simp[BM,h1]at hs;have h3:=(hr 0 _ hx0).cells.1.1;have h4:=(hz 0 h0).1;simp at h3;omega
  rw[←hlen];by_cases hcl:cap=l
  ·simp only[hcl,if_true];refine RepV.list _ a _ s' (λi=>vs (l+i)) hsp (by rw[hlen];omega) (λi x hx=>hr _ x (Br i x hx)) λi hi=>?_;rw[hlen]at hi;omega
  ·simp only[hcl,if_false,o9];refine RepV.list _ (a.add (l*s)) _ s' (λi=>vs (l+i)) (by rw[Ca hsp]) (by rw[hlen];omega) (λi x hx=>hr _ x (Br i x hx)) λi hi=>?_;rw[hlen]at hi;have h0:0 <xs.length:=by omega
   have hss:=hs' h0;subst hss;rw[Ca hsp];have:=hz (l+i) (by omega);refine⟨this.1,?_⟩;have h2:=this.2;simp only
   rwa [show a.off+(l+i)*s'=a.off+l*s'+i*s' by rw[pT];omega]at h2
theorem XC {s:Nat} {lo hi mx:Option Operand} {lo' hi':Option Opd} (ht:En P t s=true)
  (hk:oe GL x x'=true) (hmx:mx.isNone=true) (hlo:Ao (oe GL) lo.toList lo'.toList=true) (hhi:Ao (oe GL) hi.toList hi'.toList=true):
  CN P GL (.slice t x lo hi mx) (.slc x' lo' hi' s):=by
 intro g w μ e act h O y hd hx o ho;have hr:=(hd.ev hk).copy;have hu:∃el,P.underlying t=some (.slice el)∧BZ P el s=true:=by
  unfold En at ht;split at ht
  ·rename_i el hel;exact⟨el,hel,ht⟩
  ·cases ht
 obtain⟨el,hu,hsz⟩:=hu;have hmx':mx=none:=by simpa using hmx
 subst hmx';simp only[PI.val]at hx;split at hx
 ·rename_i xs hc;rw[hc]at hr;split at hx
  ·rename_i l m hl hm;split at hx
   ·rename_i hcond;simp only[oH]at hx;subst hx;obtain⟨a,cap,hv,hlc,hrep⟩:=Nz hr hcond.1 hcond.2.1 hcond.2.2;have hb:=Kw (w:=w) hd hlo hhi true hl hm hcond.1 hcond.2.1 hlc;exact⟨_,by simp[execOp,ho,hv,Instr.sliceAt,Instr.slice,run_underlying hu,hb,Ba hsz],hrep,λk=>Bo _ _ _⟩
   ·cases hx
  ·cases hx
 ·cases hx
theorem Ua {lo hi mx:Option Operand} {lo' hi':Option Opd} (ht:FO P t (λ| .string=>true|_=>false)=true)
  (hk:oe GL x x'=true) (hmx:mx.isNone=true) (hlo:Ao (oe GL) lo.toList lo'.toList=true) (hhi:Ao (oe GL) hi.toList hi'.toList=true):
  CN P GL (.slice t x lo hi mx) (.slcS x' lo' hi'):=by
 intro g w μ e act h O y hd hx o ho;have hr:=hd.ev hk;have hu:=Df ht;have hmx':mx=none:=by simpa using hmx
 subst hmx';simp only[PI.val]at hx;split at hx
 ·rename_i s hc;rw[hc]at hr;split at hx
  ·rename_i l m hl hm;split at hx
   ·rename_i hcond;simp only[oH]at hx;subst hx;have hb:=Kw (w:=w) hd hlo hhi false hl hm hcond.1 hcond.2 (oN _);exact⟨_,by simp[execOp,ho,F3 hr,Instr.sliceAt,Instr.slice,run_underlying hu,hb],.str _,λk=>Bo _ _ _⟩
   ·cases hx
  ·cases hx
 ·cases hx
theorem YK {t:Operand} {t':Opd} {i':Nat} (hk:oe GL t t'=true) (hi:(i==i')=true):CN P GL (.extract t i) (.ext t' i'):=by
 intro g w μ e act h O y hd hx o ho;have:i=i':=by simpa using hi
 subst this;simp only[PI.val]at hx;split at hx
 ·rename_i n mv;cases t with
  |tmp n'=>
   have:n'=n:=by simpa[oe]using hk
   subst this;split at hx
   ·rename_i ds hds;have hr:=hd.inv.rep n';rw[hds]at hr;obtain⟨vs,hv,hall⟩:=hr;simp only[oU]at hx;obtain⟨z,hz,rfl⟩:=hx;obtain⟨v,hvs,hrep⟩:=hall.get hz;refine⟨v,?_,hrep.toD.copy,λk=>Bw _ _ _⟩;simp[execOp,ho,Act.eval,hv,Instr.extract,hvs]
   ·cases hx
  |const v=>simp[oe]at hk
  |global g=>simp[oe]at hk
  |func f=>simp[oe]at hk
 ·cases hx
theorem La {g:Gh} {w:World} {μ:List Nat} {e:CB} {act:Act} {h:List Row} {O:Nat→Prop} (hd:Gd P GL g w μ e act h O):
  ∀ {ps:List Operand} {qs:List Opd},Ao (oe GL) ps qs=true→(Eg e qs).all D.isCap=true→All2 (RepC g μ) (Eg e qs) (ps.map act.eval)
 |[],[],_,_=> .nil
 |p::ps,q::qs,hk,hc=>by
  simp only[Ao,oJ]at hk;simp only[Eg,qU,oJ]at hc ⊢;refine .cons ?_ (La hd hk.2 hc.2);have hr:=(hd.ev hk.1).copy;generalize (q.ev e).copy=d at hr hc ⊢;cases d<;>simp[D.isCap]at hc<;>exact hr
 |[],_::_,hk,_=>by simp[Ao]at hk
 |_::_,[],hk,_=>by simp[Ao]at hk
theorem Xn {f':Nat} {first caps:Array Operand} {caps':List Opd} (hf:(f==f')=true) (h1:first.isEmpty=true) (hk:Ao (oe GL) caps.toList caps'=true):
  CN P GL (.makeFunc (.func f) first caps) (.mkf f' caps'):=by
 intro g w μ e act h O y hd hx o ho;have:f=f':=by simpa using hf
 subst this;have hfe:first= #[]:=by simpa using h1
 subst hfe;simp only[PI.val]at hx;split at hx
 ·rename_i hc;simp only[oH]at hx;subst hx;refine⟨.func (.func f) #[] (caps.toList.map act.eval).toArray,?_,⟨_,rfl,La hd hk hc⟩,λk=>by cases k<;>simp[Af,Ac]⟩
  simp[execOp,ho,Instr.makeFunc];rw[←pj];simp
 ·cases hx
theorem U7 {f':Nat} {first caps:Array Operand} {caps':List Opd} (hf:(f==f')=true) (h1:caps.isEmpty=true) (hk:Ao (oe GL) first.toList caps'=true):
  CN P GL (.makeFunc (.func f) first caps) (.mkme f' caps'):=by
 intro g w μ e act h O y hd hx o ho;have:=eq_of_beq hf;subst this;simp only[PI.val]at hx;split at hx
 ·rename_i hall;simp only[oH]at hx;subst hx;have h2:caps= #[]:=by simpa using h1
  subst h2;have:=La hd hk hall;refine⟨.func (.func f) (first.toList.map act.eval).toArray #[],?_,⟨_,rfl,this⟩,λk=>by cases k<;>simp[Af,Ac]⟩
  have e1:first.map act.eval=(first.toList.map act.eval).toArray:=by rw[←pj];simp
  simp[execOp,ho,Instr.makeFunc,e1]
 ·cases hx
theorem VM {s:Nat} {ag:Bool} {i:Operand} (ht:(match P.underlying t with|some (.array n' e)=>n'==n&&BZ P e s&&HV P e ag&&(ag||s==1)|_=>false)=true)
  (hk:oe GL x x'=true) (hki:oe GL i i'=true):CN P GL (.index t x i) (.idxA x' i' n s ag):=by
 intro g w μ e act h O y hd hx o ho;have hr:=hd.ev hk;split at ht
 ·rename_i n' el hu;simp only[oJ,beq_iff_eq]at ht;obtain⟨⟨⟨rfl,hs⟩,hg⟩,h1⟩:=ht;have hn1:ag=false→s=1:=by intro h;simpa[h]using h1
  simp only[PI.val]at hx;split at hx
  ·rename_i cs k z hc hci;rw[hc]at hr;obtain⟨vs,hv,hall,hone⟩:=RepV.agg_inv hr;split at hx
   ·rename_i hlt;simp only[oU]at hx;obtain⟨z',hz,rfl⟩:=hx;obtain⟨hrep,hlen⟩:=K7 (w:=w) (μ:=μ) hall hone hz;exact⟨_,by simp[execOp,ho,hv,Dy hd hki hci,Instr.index,asIntOf,run_underlying hu,hlt,Ba hs,Ic hs hg hlen hn1],hrep,λk=>Bo _ _ _⟩
   ·cases hx
  ·rename_i ds k z hc hci;rw[hc]at hr;obtain⟨vs,hv,hall,hone,_⟩:=hr;split at hx
   ·rename_i hlt;obtain⟨hrep,hlen,hown⟩:=Jn hall hone hx;exact⟨_,by simp[execOp,ho,hv,Dy hd hki hci,Instr.index,asIntOf,run_underlying hu,hlt,Ba hs,Ic hs hg hlen hn1],hrep,λk=>hown _ _⟩
   ·cases hx
  ·cases hx
 ·cases ht
theorem Hh {α:Type} {asx:Array α} {p:α→Bool} (h:Ir asx.toList p=true):∃x,asx= #[x]∧p x=true:=by
 unfold Ir at h;split at h
 ·rename_i x hx;exact⟨x,by rw[←Array.toArray_toList (xs:=asx),hx],h⟩
 ·cases h
theorem DB {α:Type} {asx:Array α} {p:α→α→Bool} (h:Gf asx.toList p=true):∃x y,asx= #[x,y]∧p x y=true:=by
 unfold Gf at h;split at h
 ·rename_i x y hx;exact⟨x,y,by rw[←Array.toArray_toList (xs:=asx),hx],h⟩
 ·cases h
theorem E0 (h:FO P t (λ| .slice _=>true|_=>false)=true):∃el,P.underlying t=some (.slice el):=by
 unfold FO at h;split at h
 ·rename_i d hd;cases d<;>simp_all
 ·cases h
theorem Vp {args:Array Operand} {ts:Array TypeId} (hk:Ir args.toList (λx=>oe GL x x')=true)
  (ht:Ir ts.toList (λt=>FO P t (λ| .slice _=>true|_=>false))=true):CN P GL (.call {callee:= .builtin .len,args:=args,argTypes:=ts}) (.alen x'):=by
 intro g w μ e act h O y hd hx o ho;obtain⟨x,rfl,hx1⟩:=Hh hk;obtain⟨t,rfl,ht1⟩:=Hh ht;obtain⟨el,hu⟩:=E0 ht1;have hr:=(hd.ev hx1).copy;have run:∀a n c,act.eval x= .slice a n c→(execOp act.eval o).run P w= .ok (.value (.int .i64 n)) w:=by
  intro a n c hv;simp[execOp,ho,resolve,invoke,builtin,Builtin.len_,run_underlying hu,hv,goInt]
 simp only[PI.val]at hx;split at hx
 ·rename_i xs hc;rw[hc]at hr;simp only[oH]at hx;subst hx;refine⟨.int .i64 xs.length,?_,.int _ _,λk=>Bo _ _ _⟩;generalize hv:act.eval x=u at hr;cases hr with
  |lnil=>exact run _ _ _ hv
  |list _ a cap s vs=>exact run _ _ _ hv
 ·rename_i el' s' hc;rw[hc]at hr;simp only[oH]at hx;subst hx;obtain⟨a,hv,_⟩:=hr;exact⟨.int .i64 0,run _ _ _ hv,.int _ _,λk=>Bo _ _ _⟩
 ·rename_i r n hc;rw[hc]at hr;simp only[oH]at hx;subst hx;obtain⟨b,cap,_,hv,_⟩:=hr;exact⟨.int .i64 n,run _ _ _ hv,.int _ _,λk=>Bo _ _ _⟩
 ·cases hx
theorem VE {args:Array Operand} {ts:Array TypeId} (hk:Ir args.toList (λx=>oe GL x x')=true)
  (ht:Ir ts.toList (λt=>FO P t (λ| .string=>true|_=>false))=true):CN P GL (.call {callee:= .builtin .len,args:=args,argTypes:=ts}) (.lenS x'):=by
 intro g w μ e act h O y hd hx o ho;obtain⟨x,rfl,hx1⟩:=Hh hk;obtain⟨t,rfl,ht1⟩:=Hh ht;have hu:=Df ht1;have hr:=hd.ev hx1;simp only[PI.val]at hx;split at hx
 ·rename_i s hc;rw[hc]at hr;simp only[oH]at hx;subst hx;exact⟨.int .i64 s.size,by simp[execOp,ho,resolve,invoke,builtin,Builtin.len_,run_underlying hu,F3 hr,goInt],.int _ _,λk=>Bo _ _ _⟩
 ·cases hx
theorem Xq {args:Array Operand} {ts:Array TypeId} (hk:Gf args.toList (λx y=>oe GL x x'&&oe GL y y')=true):
  CN P GL (.call {callee:= .builtin .max,args:=args,argTypes:=ts}) (.minmax true x' y'):=by
 intro g w μ e act h O z hd hx o ho;obtain⟨x,y,rfl,hxy⟩:=DB hk;simp only[oJ]at hxy;simp only[PI.val]at hx;split at hx
 ·rename_i k a k' b hc hc';split at hx
  ·rename_i hkk;subst hkk;simp only[if_true,oH]at hx;subst hx;exact⟨_,by simp[execOp,ho,resolve,invoke,builtin,Builtin.max_,Builtin.max2,Dy hd hxy.1 hc,Dy hd hxy.2 hc'],.int _ _,λk=>Bo _ _ _⟩
  ·cases hx
 ·cases hx
theorem Xp {args:Array Operand} {ts:Array TypeId} (hk:Gf args.toList (λx y=>oe GL x x'&&oe GL y y')=true):
  CN P GL (.call {callee:= .builtin .min,args:=args,argTypes:=ts}) (.minmax false x' y'):=by
 intro g w μ e act h O z hd hx o ho;obtain⟨x,y,rfl,hxy⟩:=DB hk;simp only[oJ]at hxy;simp only[PI.val]at hx;split at hx
 ·rename_i k a k' b hc hc';split at hx
  ·rename_i hkk;subst hkk;simp only[oa,if_false,oH]at hx;subst hx;exact⟨_,by simp[execOp,ho,resolve,invoke,builtin,Builtin.min_,Builtin.min2,Dy hd hxy.1 hc,Dy hd hxy.2 hc'],.int _ _,λk=>Bo _ _ _⟩
  ·cases hx
 ·cases hx
end
end
section
variable {el i k t:Nat} {u v:Value} {w:World} {g:Gh} {x' y':Opd} {x y:Operand} {ks:List Nat}
section
variable {P:Program} {GL:Aa}
theorem Qr {x y:V} (hx:RepV g x u) (hy:RepV g y v) {b:Bool} (hb:V.eq1 k x y=some b) (ht:HA P t k=true) (d:Nat):
  (Op.equalIn (d+1) t u v).run P w= .ok b w∧(part t #[] 0=part t #[] 0)∧(isAgg t).run P w= .ok false w:=by
 unfold HA at ht;split at ht
 ·rename_i k' hu;cases x<;>cases y<;>simp only[V.eq1,reduceCtorEq]at hb
  rename_i k1 a k2 c;split at hb
  ·rename_i hkk;subst hkk;simp only[oH]at hb;subst hb;cases hx;cases hy;exact⟨run_equalIn_int w d t k1 _ a c hu,rfl,by simp[isAgg,run_underlying hu]⟩
  ·cases hb
 ·rename_i hu;cases x<;>cases y<;>simp only[V.eq1,reduceCtorEq]at hb
  simp only[oH]at hb;subst hb;cases hx;cases hy;exact⟨run_equalIn_bool' w d t _ _ hu,rfl,by simp[isAgg,run_underlying hu]⟩
 ·rename_i hu;cases x<;>cases y<;>simp only[V.eq1,reduceCtorEq]at hb
  simp only[oH]at hb;subst hb;cases hx;cases hy;exact⟨run_equalIn_string w d t _ _ hu,rfl,by simp[isAgg,run_underlying hu]⟩
 ·cases ht
theorem Fi (h:(isAgg t).run P w= .ok false w) {cs:Array Value} (hv:cs[i]?=some v):(part t cs i).run P w= .ok v w:=by
 simp[part,h,hv]
theorem Kk {g:Gh} {w:World} {us vs:List Value} (d:Nat):∀(fs:List Field) (ks:List Nat) (xs ys:List V) (i:Nat) {b:Bool},Bk P i fs ks=true→V.eqL ks xs ys=some b→
  (∀j x,xs[j]?=some x→∃u,us[i+j]?=some u∧RepV g x u)→(∀j y,ys[j]?=some y→∃v,vs[i+j]?=some v∧RepV g y v)→
  (Op.eqFields (d+1) us.toArray vs.toArray fs).run P w= .ok b w
 |[],[],xs,ys,i,b,_,hb,_,_=>by
  cases xs<;>cases ys<;>simp[V.eqL]at hb
  subst hb;rfl
 |[],_::_,_,_,_,_,hf,_,_,_=>by simp[Bk]at hf
 |_::_,[],_,_,_,_,hf,_,_,_=>by simp[Bk]at hf
 |f::fs,k::ks,xs,ys,i,b,hf,hb,hx,hy=>by
  simp only[Bk,oJ,beq_iff_eq,bne_iff_ne,ne_eq]at hf;obtain⟨⟨⟨ho,hn⟩,hk⟩,hrest⟩:=hf;cases xs with
  |nil=>cases ys<;>simp[V.eqL]at hb
  |cons x xs=>
   cases ys with
   |nil=>simp[V.eqL]at hb
   |cons y ys=>
    simp only[V.eqL]at hb;split at hb
    ·rename_i b1 b2 h1 h2;simp only[oH]at hb;subst hb;obtain⟨u,hu,ru⟩:=hx 0 x rfl;obtain⟨v,hv,rv⟩:=hy 0 y rfl;obtain⟨e1,_,e2⟩:=Qr (w:=w) ru rv h1 hk d;have ih:=Kk (g:=g) (w:=w) d fs ks xs ys (i+1) hrest h2 (λj z hz=>by
      obtain⟨u',hu',r'⟩:=hx (j+1) z (by simpa using hz);exact⟨u',by rw[show i+1+j=i+(j+1) by omega];exact hu',r'⟩) (λj z hz=>by
      obtain⟨u',hu',r'⟩:=hy (j+1) z (by simpa using hz);exact⟨u',by rw[show i+1+j=i+(j+1) by omega];exact hu',r'⟩)
     have p1:(part f.type us.toArray f.offset).run P w= .ok u w:=Fi e2 (by rw[ho];simpa using hu);have p2:(part f.type vs.toArray f.offset).run P w= .ok v w:=Fi e2 (by rw[ho];simpa using hv);simp only[Op.eqFields,ne_eq,hn,not_false_eq_true,if_true,Sem.run_bind,p1,p2,e1,Result.andThen_ok];cases b1
     ·simp
     ·simpa using ih
    ·cases hb
theorem Md:∀(m:Nat) (ks:List Nat) (xs ys:List V) {b:Bool},V.eqL ks xs ys=some b→∃b1 b2,V.eqL (ks.take m) (xs.take m) (ys.take m)=some b1∧V.eqL (ks.drop m) (xs.drop m) (ys.drop m)=some b2∧b=(b1&&b2)
 |0,ks,xs,ys,b,h=>⟨true,b,by simp[V.eqL],by simpa using h,by simp⟩
 |m+1,[],xs,ys,b,h=>by
  cases xs<;>cases ys<;>simp[V.eqL]at h
  subst h;exact⟨true,true,by simp[V.eqL],by simp[V.eqL],rfl⟩
 |m+1,k::ks,xs,ys,b,h=>by
  cases xs with
  |nil=>cases ys<;>simp[V.eqL]at h
  |cons x xs=>
   cases ys with
   |nil=>simp[V.eqL]at h
   |cons y ys=>
    simp only[V.eqL]at h;split at h
    ·rename_i c1 c2 h1 h2;simp only[oH]at h;subst h;obtain⟨b1,b2,e1,e2,rfl⟩:=Md m ks xs ys h2;exact⟨c1&&b1,b2,by simp[V.eqL,h1,e1],by simpa using e2,by rw[Bool.and_assoc]⟩
    ·cases h
theorem NX {g:Gh} {w:World} {us vs:List Value} (d:Nat):∀(fs:List Field) (ks:List Nat) (xs ys:List V) (i:Nat) {b:Bool},EI P i fs ks=true→V.eqL ks xs ys=some b→
  (∀j x,xs[j]?=some x→∃u,us[i+j]?=some u∧RepV g x u)→(∀j y,ys[j]?=some y→∃v,vs[i+j]?=some v∧RepV g y v)→
  (Op.eqFields (d+2) us.toArray vs.toArray fs).run P w= .ok b w
 |[],ks,xs,ys,i,b,hf,hb,_,_=>by
  simp only[EI,List.isEmpty_iff]at hf;subst hf;cases xs<;>cases ys<;>simp[V.eqL]at hb
  subst hb;rfl
 |f::fs,ks,xs,ys,i,b,hf,hb,hx,hy=>by
  simp only[EI,oJ,beq_iff_eq,bne_iff_ne,ne_eq]at hf;obtain⟨⟨ho,hn⟩,hk⟩:=hf;split at hk
  ·rename_i sub hsub;simp only[oJ,pd,beq_iff_eq]at hk;obtain⟨⟨⟨k1,k2⟩,k3⟩,k4⟩:=hk;obtain⟨b1,b2,e1,e2,rfl⟩:=Md sub.size ks xs ys hb;have hfo:P.fieldsOf f.type=sub:=by simp[Program.fieldsOf,hsub]
   have ha:(isAgg f.type).run P w= .ok true w:=by simp[isAgg,run_underlying hsub]
   have hs:(sizeOf f.type).run P w= .ok sub.size w:=Ba k2;have hp:∀zs:List Value,(part f.type zs.toArray f.offset).run P w= .ok (.agg ((zs.drop i).take sub.size).toArray) w:=by
    intro zs;have:zs.toArray.extract i (i+sub.size)=((zs.drop i).take sub.size).toArray:=by simp
    simp[part,ha,hs,ho,this]
   have hin:(Op.equalIn (d+2) f.type (.agg ((us.drop i).take sub.size).toArray) (.agg ((vs.drop i).take sub.size).toArray)).run P w= .ok b1 w:=by
    rw[run_equalIn_struct w (d+1) f.type _ _ (by rw[hfo];exact hsub) k1,hfo];refine Kk (g:=g) d sub.toList _ _ _ 0 k3 e1 (λj x hj=>?_) (λj y hj=>?_)
    ·rw[oz]at hj;split at hj
     ·rename_i hlt;obtain⟨u,hu,hr⟩:=hx j x hj;exact⟨u,by rw[px,oz,if_pos hlt,pn];exact hu,hr⟩
     ·cases hj
    ·rw[oz]at hj;split at hj
     ·rename_i hlt;obtain⟨u,hu,hr⟩:=hy j y hj;exact⟨u,by rw[px,oz,if_pos hlt,pn];exact hu,hr⟩
     ·cases hj
   have ih:=NX (g:=g) (w:=w) d fs _ _ _ (i+sub.size) k4 e2 (λj z hz=>by
    rw[pn]at hz;obtain⟨u,hu,hr⟩:=hx _ z hz;exact⟨u,by rw[Nat.add_assoc];exact hu,hr⟩) (λj z hz=>by
    rw[pn]at hz;obtain⟨u,hu,hr⟩:=hy _ z hz;exact⟨u,by rw[Nat.add_assoc];exact hu,hr⟩)
   simp only[Op.eqFields,ne_eq,hn,not_false_eq_true,if_true,Sem.run_bind,hp,hin,Result.andThen_ok];cases b1
   ·simp
   ·simpa using ih
  ·rename_i hns;cases ks with
   |nil=>cases hk
   |cons k ks=>
    simp only[oJ]at hk;obtain⟨hk,hrest⟩:=hk;cases xs with
    |nil=>cases ys<;>simp[V.eqL]at hb
    |cons x xs=>
     cases ys with
     |nil=>simp[V.eqL]at hb
     |cons y ys=>
      simp only[V.eqL]at hb;split at hb
      ·rename_i b1 b2 h1 h2;simp only[oH]at hb;subst hb;obtain⟨u,hu,ru⟩:=hx 0 x rfl;obtain⟨v,hv,rv⟩:=hy 0 y rfl;obtain⟨e1,_,e2⟩:=Qr (w:=w) ru rv h1 hk (d+1);have ih:=NX (g:=g) (w:=w) d fs ks xs ys (i+1) hrest h2 (λj z hz=>by
        obtain⟨u',hu',r'⟩:=hx (j+1) z (by simpa using hz);exact⟨u',by rw[show i+1+j=i+(j+1) by omega];exact hu',r'⟩) (λj z hz=>by
        obtain⟨u',hu',r'⟩:=hy (j+1) z (by simpa using hz);exact⟨u',by rw[show i+1+j=i+(j+1) by omega];exact hu',r'⟩)
       have p1:(part f.type us.toArray f.offset).run P w= .ok u w:=Fi e2 (by rw[ho];simpa using hu);have p2:(part f.type vs.toArray f.offset).run P w= .ok v w:=Fi e2 (by rw[ho];simpa using hv);simp only[Op.eqFields,ne_eq,hn,not_false_eq_true,if_true,Sem.run_bind,p1,p2,e1,Result.andThen_ok];cases b1
       ·simp
       ·simpa using ih
      ·cases hb
theorem YP {op:BinOp} {ne:Bool} {s:Nat} (hop:(op==if ne then BinOp.neq else BinOp.eql)=true)
  (ht:(HK P t ks||NW P t ks)=true) (hx':oe GL x x'=true) (hy':oe GL y y'=true):CN P GL (.binOp op t x y s) (.eqA ne ks x' y'):=by
 intro g w μ e act h O d hd hx o ho;have hr1:=hd.ev hx';have hr2:=hd.ev hy';simp only[PI.val]at hx;split at hx
 ·rename_i cs ds hc hd2;simp only[oU]at hx;obtain⟨b,hb,rfl⟩:=hx;obtain⟨us,e1,h1,_⟩:=RepV.agg_inv (CW hr1 hc);obtain⟨vs,e2,h2,_⟩:=RepV.agg_inv (CW hr2 hd2);obtain⟨t2,hrun⟩:P.eqGuardType P.depth t=false∧(Op.equalIn 10000 t (.agg us.toArray) (.agg vs.toArray)).run P w= .ok b w:=by
   rcases (by simpa using ht:HK P t ks=true∨NW P t ks=true)with ht|ht
   ·unfold HK at ht;split at ht
    ·rename_i fs hu;simp only[oJ,pd]at ht;obtain⟨⟨t1,t2⟩,t3⟩:=ht;have hfs:P.fieldsOf t=fs:=by simp[Program.fieldsOf,hu]
     refine⟨t2,?_⟩;rw[run_equalIn_struct w 9999 t us.toArray vs.toArray (by rw[hfs];exact hu) t1,hfs];exact Kk 9998 fs.toList ks cs ds 0 t3 hb (λj x hx=>by simpa using h1.get hx) (λj x hx=>by simpa using h2.get hx)
    ·cases ht
   ·unfold NW at ht;split at ht
    ·rename_i fs hu;simp only[oJ,pd]at ht;obtain⟨⟨t1,t2⟩,t3⟩:=ht;have hfs:P.fieldsOf t=fs:=by simp[Program.fieldsOf,hu]
     refine⟨t2,?_⟩;rw[run_equalIn_struct w 9999 t us.toArray vs.toArray (by rw[hfs];exact hu) t1,hfs];exact NX 9997 fs.toList ks cs ds 0 t3 hb (λj x hx=>by simpa using h1.get hx) (λj x hx=>by simpa using h2.get hx)
    ·cases ht
  have hg:(eqGuard op t x y (.agg us.toArray) (.agg vs.toArray)).run P w= .ok () w:=run_eqGuard_agg w op t x y _ _ t2;refine⟨.bool (b != ne),?_,.bool _,λk=>Bo _ _ _⟩;have:=Hr hop;subst this;cases ne
  ·simp only[oa,if_false]at hg;simp[execOp,ho,e1,e2,hg,run_eql_struct,hrun]
  ·simp only[if_true]at hg;simp[execOp,ho,e1,e2,hg,run_neq_struct,hrun]
 ·cases hx
theorem Ub {s:Nat} {lo hi mx:Option Operand} (ht:(match P.underlying t with|some (.slice e)=>e==el&&BZ P e s|_=>false)=true)
  (hk:oe GL x x'=true) (hlo:lo.isNone=true) (hhm:(match hi,mx with|some (.const (.int _ 0)),some (.const (.int _ 0))=>true|_,_=>false)=true):
  CN P GL (.slice t x lo hi mx) (.slc0 x' el s):=by
 intro g w μ e act h O y hd hx o ho;have hr:=(hd.ev hk).copy;have hlo':lo=none:=by simpa using hlo
 subst hlo';split at hhm
 ·rename_i k1 k2;split at ht
  ·rename_i e' hu;simp only[oJ,beq_iff_eq]at ht;obtain⟨rfl,hsz⟩:=ht;simp only[PI.val]at hx;split at hx
   ·rename_i xs hc;simp only[oH]at hx;subst hx;rw[hc]at hr;have hev1:act.eval (.const (.int k1 0))= .int k1 0:=rfl;have hev2:act.eval (.const (.int k2 0))= .int k2 0:=rfl;have key:∃a n cap,act.eval x= .slice a n cap∧∀z,a=some z→z.spot=none:=by
     have hr':RepV g (.list xs) (act.eval x):=hr;generalize act.eval x=u at hr';cases hr' with
     |lnil=>exact⟨none,0,0,rfl,by simp⟩
     |list _ a cap _ _ hs=>exact⟨some a,_,cap,rfl,by simpa using hs⟩
    obtain⟨a,n,cap,hv,hsp⟩:=key;refine⟨.slice a 0 0,?_,⟨a,rfl,hsp⟩,λk=>by cases k<;>cases a<;>simp[Af,Ac]⟩
    simp[execOp,ho,hv,hev1,hev2,Instr.sliceAt,Instr.slice,run_underlying hu,Instr.sliceBounds,Instr.sliceBound,asIntOf,Ba hsz]
   ·cases hx
  ·cases ht
 ·cases hhm
theorem KH {g:Gh}:∀ {xs:List V} {bs:List UInt8},Ex xs=some bs→bs.length=xs.length∧∀(i:Nat) b,bs[i]?=some b→∃x,xs[i]?=some x∧∀v,RepV g x v→v= .int .u8 (b.toNat:Int)
 |[],bs,h=>by simp only[Ex,oH]at h;subst h;exact⟨rfl,λi b h=>by simp at h⟩
 |x::xs,bs,h=>by
  cases x with
  |int k n=>
   cases k<;>simp only[Ex,reduceCtorEq]at h
   split at h
   ·rename_i hn;simp only[oU]at h;obtain⟨bs',hb,rfl⟩:=h;obtain⟨h1,h2⟩:=KH hb;refine⟨by simp[h1],λi b hi=>?_⟩;cases i with
    |zero=>
     simp only[rX,oH]at hi;subst hi;refine⟨_,rfl,λv hv=>?_⟩;cases hv;have:n.toNat%256=n.toNat:=Nat.mod_eq_of_lt (by omega);simp[this];omega
    |succ i=>simpa using h2 i b (by simpa using hi)
   ·cases h
  |_=>simp[Ex]at h
theorem Yv {s d:Nat} (hd':FO P d (λ| .string=>true|_=>false)=true)
  (hs:(match P.underlying s with|some (.slice e)=>FO P e (λ| .int .u8=>true|_=>false)|_=>false)=true) (hk:oe GL x x'=true):
  CN P GL (.convert s d x) (.b2s x'):=by
 intro g w μ e act h O y hd hx o ho;have hr:=(hd.ev hk).copy;have hud:=Df hd';split at hs
 ·rename_i el hus;have hue:P.underlying el=some (.int .u8):=by
   unfold FO at hs;split at hs
   ·rename_i d' hd2;cases d'<;>simp at hs
    rename_i k;cases k<;>simp at hs
    exact hd2
   ·cases hs
  have fin:∀ {v:Value} {sv:ByteArray},act.eval x=v→(convert s d v).run P w= .ok (.string sv) w→y= .v (.str sv)→
    ∃v,(execOp act.eval o).run P w= .ok (.value v) w∧RepD g w μ y v∧∀k,Af y v k=none:=by
   rintro v sv rfl hrun rfl;exact⟨_,by simp[execOp,ho,hrun],.str _,λk=>Bo _ _ _⟩
  have hnil:∀(a:Option Addr) (c:Nat),(∀z,a=some z→z.spot=none)→(convert s d (.slice a 0 c)).run P w= .ok (.string .empty) w:=by
   intro a c hsp;cases a with
   |none=>rw[run_convert_bytes_string w s d el none 0 c hus hue hud];simp[Conv.bytesToString,Sem.run_pure]
   |some z=>exact run_convert_bytes_back w s d el z c [] hus hue hud (λj hj=>by simp at hj)
  simp only[PI.val]at hx;split at hx
  ·rename_i xs hc;rw[hc]at hr;simp only[oU]at hx;obtain⟨bs,hb,rfl⟩:=hx;obtain⟨h1,h2⟩:=KH (g:=g) hb;have hr':RepV g (.list xs) (act.eval x):=hr;generalize hu:act.eval x=u at hr';cases hr' with
   |lnil=>
    have:bs=[]:=pK (by simpa using h1);subst this;exact fin hu (hnil none 0 (by simp)) rfl
   |list _ a cap sz vs hsp hc2 hr2 hz=>
    refine fin hu ?_ rfl;rw[←h1];refine run_convert_bytes_back w s d el a cap bs hus hue hud λj hj=>?_;obtain⟨x0,hx0,hv0⟩:=h2 j _ (oI hj);have hvj:=hv0 _ (hr2 j x0 hx0);have hjx:j <xs.length:=by omega
    obtain⟨z1,z2⟩:=hz j hjx;rw[hvj]at z1 z2;have hs1:sz=1:=by simpa[Value.cells]using z1.symm
    have:=hd.inv.agree a.block (a.off+j*sz) _ (by simpa[Value.cells]using z2 0 (.int .u8 (bs[j].toNat:Int)) (by simp[Value.cells]));rw[hs1]at this;rw[Ca hsp];simpa using this
  ·rename_i e0 s0 hc;rw[hc]at hr;simp only[oH]at hx;subst hx;obtain⟨a,hv,hsp⟩:=hr;exact fin hv (hnil a 0 hsp) rfl
  ·cases hx
 ·cases hs
end
end
section
variable {d:D} {u v:Value} {ks μ:List Nat} {w:World} {g:Gh} {b el k r t:Nat} {zs:List D} {O:Nat→Prop} {h:List Row} {x:Operand} {x':Opd}
section
variable {P:Program} {GL:Aa}
theorem IV (h:LX v d=true):RepE g w μ d v∧v.oneCell'=true∧∀u,Ac d u=none:=by
 unfold LX at h;split at h
 ·exact⟨⟨none,rfl,by simp⟩,rfl,λu=>by simp[Ac]⟩
 ·exact⟨FG h,GN h,λu=>by simp[Ac]⟩
 ·cases h
section
variable {g:Gh} {w:World} {μ:List Nat}
theorem Hg (hr:RepG g w μ d u) (h:Ac d u=none) (k:Nat):Af d u k=none:=by
 cases d<;>first
  |exact hr.elim
  |(cases k<;>first|exact h|simp[Af])
end
theorem N0 (h:RepD g w μ (.v .nilm) v):v= .map none:=by cases h;rfl
theorem GD (h:HA P t k=true):∃d,P.underlying t=some d∧((∃q,d= .int q∧k=0)∨(d= .bool∧k=1)∨(d= .string∧k=2)):=by
 unfold HA at h;split at h
 ·rename_i q hu;exact⟨_,hu,.inl ⟨q,rfl,rfl⟩⟩
 ·rename_i hu;exact⟨_,hu,.inr (.inl ⟨rfl,rfl⟩)⟩
 ·rename_i hu;exact⟨_,hu,.inr (.inr ⟨rfl,rfl⟩)⟩
 ·cases h
theorem Tc {x y:V} (hx:RepV g x u) (hy:RepV g y v) {b:Bool} (hb:V.eq1 k x y=some b):(b=true↔u=v)∧∀n,Instr.sameBits n u u=true:=by
 unfold V.eq1 at hb;split at hb
 ·split at hb
  ·rename_i hkk;subst hkk;simp only[oH]at hb;subst hb;cases hx;cases hy;exact⟨by simp,λn=>by cases n<;>simp[Instr.sameBits]⟩
  ·cases hb
 ·simp only[oH]at hb;subst hb;cases hx;cases hy;exact⟨by simp,λn=>by cases n<;>simp[Instr.sameBits]⟩
 ·rename_i a c;simp only[oH]at hb;subst hb;cases hx;cases hy;refine⟨?_,λn=>by cases n<;>simp[Instr.sameBits,MapKept.bytes_beq]⟩
  rw[←beq_toListBytes,MapKept.bytes_beq];simp
 ·cases hb
theorem Oj {g:Gh}:∀ {ks:List Nat} {xs ys:List V} {us vs:List Value} {b:Bool},All2 (RepV g) xs us→All2 (RepV g) ys vs→V.eqL ks xs ys=some b→(b=true↔us=vs)∧∀n,∀u∈us,Instr.sameBits n u u=true
 |[],xs,ys,us,vs,b,h1,h2,hb=>by
  cases xs<;>cases ys<;>simp[V.eqL]at hb
  subst hb;have e1:=pK h1.1;have e2:=pK h2.1;subst e1;subst e2;simp
 |k::ks,xs,ys,us,vs,b,h1,h2,hb=>by
  cases xs with
  |nil=>cases ys<;>simp[V.eqL]at hb
  |cons x xs=>
   cases ys with
   |nil=>simp[V.eqL]at hb
   |cons y ys=>
    cases us with
    |nil=>simp[All2]at h1
    |cons u us=>
     cases vs with
     |nil=>simp[All2]at h2
     |cons v vs=>
      rw[All2.cons_iff]at h1 h2;simp only[V.eqL]at hb;split at hb
      ·rename_i b1 b2 e1 e2;simp only[oH]at hb;subst hb;obtain⟨r1,s1⟩:=Tc h1.1 h2.1 e1;obtain⟨r2,s2⟩:=Oj h1.2 h2.2 e2;refine⟨by simp[r1,r2],λn w hw=>?_⟩;rcases oO.1 hw with rfl|hw
       ·exact s1 n
       ·exact s2 n w hw
      ·cases hb
theorem Iz {st:Bool} {x y:V} (hx:RepV g x u) (hy:RepV g y v) (kx:Bj st ks x=true) (ky:Bj st ks y=true) {b:Bool} (hb:V.eqL ks x.cells y.cells=some b):
  (b=true↔u=v)∧∀n,Instr.sameBits (n+1) u u=true:=by
 simp only[Bj,oJ]at kx ky;obtain⟨cx,_⟩:=RepV.cells hx;obtain⟨cy,_⟩:=RepV.cells hy;obtain⟨r,s⟩:=Oj cx cy hb;cases st with
 |true=>
  cases x<;>simp at kx
  cases y<;>simp at ky
  obtain⟨us,rfl,_,_⟩:=RepV.agg_inv hx;obtain⟨vs,rfl,_,_⟩:=RepV.agg_inv hy;simp only[Value.cells]at r s;refine⟨by rw[r];constructor<;>intro h<;>simp_all,λn=>?_⟩
  simp only[Instr.sameBits,beq_self_eq_true,pB,oY];intro p hp;have:p.1=p.2∧p.1∈us:=by
   have hz:∀(l:List Value),∀p∈l.zip l,p.1=p.2∧p.1∈l:=by
    intro l;induction l with
    |nil=>simp
    |cons a l ih=>
     intro p hp;simp only[List.zip_cons_cons,oO]at hp;rcases hp with rfl|hp
     ·exact⟨rfl,by simp⟩
     ·exact⟨(ih p hp).1,by simp[(ih p hp).2]⟩
   exact hz us p (by simpa using hp)
  rw[←this.1];exact s n _ this.2
 |false=>
  have e1:∀ {z:V} {q:Value},RepV g z q→(match z with| .agg _=>false|_=> !false)=true→q.cells.toList=[q]:=by
   intro z q hz hk;cases hz<;>simp at hk<;>rfl
  rw[e1 hx kx.1,e1 hy ky.1]at r;rw[e1 hx kx.1]at s;exact⟨by rw[r];simp,λn=>s (n+1) u (by simp)⟩
theorem Ie {kt:Nat} (hk:HA P kt k=true) (e:Bool) (n:Nat) (u:Value):(Instr.checkKey e (n+1) kt u).run P w= .ok () w:=by
 obtain⟨d,hu,hd⟩:=GD hk;unfold Instr.checkKey;simp only[Sem.run_bind,run_underlying hu,Result.andThen];rcases hd with ⟨q,rfl,_⟩|⟨rfl,_⟩|⟨rfl,_⟩<;>cases u<;>rfl
theorem Hz {w:World} {cs:Array Value} (e:Bool) (n:Nat):∀(fs:List Field) (ks:List Nat) (i:Nat),Bk P i fs ks=true→(∀j,j <fs.length→∃v,cs[i+j]?=some v)→
  (forIn fs PUnit.unit (λf _=>(if f.name≠ "_" then do
    let a ←part f.type cs f.offset
    Instr.checkKey e (n+1) f.type a
    pure (ForInStep.yield PUnit.unit) else pure (ForInStep.yield PUnit.unit):Sem (ForInStep PUnit)))).run P w= .ok PUnit.unit w
 |[],_,_,_,_=>rfl
 |_::_,[],_,hf,_=>by simp[Bk]at hf
 |f::fs,k::ks,i,hf,hc=>by
  simp only[Bk,oJ,beq_iff_eq,bne_iff_ne,ne_eq]at hf;obtain⟨⟨⟨ho,hn⟩,hk⟩,hrest⟩:=hf;obtain⟨v,hv⟩:=hc 0 (by simp);obtain⟨d,hu,hd⟩:=GD hk;have hag:(isAgg f.type).run P w= .ok false w:=by
   rcases hd with ⟨q,rfl,_⟩|⟨rfl,_⟩|⟨rfl,_⟩<;>simp[isAgg,run_underlying hu]
  have p1:(part f.type cs f.offset).run P w= .ok v w:=Fi hag (by rw[ho];simpa using hv);have ih:=Hz (w:=w) (cs:=cs) e n fs ks (i+1) hrest λj hj=>by
   obtain⟨v,hv⟩:=hc (j+1) (by simp;omega);exact⟨v,by rw[show i+1+j=i+(j+1) by omega];exact hv⟩
  simp only[List.forIn_cons,ne_eq,hn,not_false_eq_true,if_true,Sem.run_bind,p1,Ie hk,Result.andThen_ok,Sem.run_pure];exact ih
theorem HJ:∀(fs:List Field) (ks:List Nat) (i:Nat),Bk P i fs ks=true→fs.length=ks.length
 |[],[],_,_=>rfl
 |[],_::_,_,h=>by simp[Bk]at h
 |_::_,[],_,h=>by simp[Bk]at h
 |f::fs,k::ks,i,h=>by
  simp only[Bk,oJ]at h;simp[HJ fs ks (i+1) h.2]
theorem Qq:∀ {ks:List Nat} {xs ys:List V} {b:Bool},V.eqL ks xs ys=some b→xs.length=ks.length
 |[],[],[],_,_=>rfl
 |[],[],_::_,_,h=>by simp[V.eqL]at h
 |[],_::_,_,_,h=>by simp[V.eqL]at h
 |_::_,[],_,_,h=>by simp[V.eqL]at h
 |k::ks,x::xs,[],_,h=>by simp[V.eqL]at h
 |k::ks,x::xs,y::ys,b,h=>by
  simp only[V.eqL]at h;split at h
  ·rename_i b1 b2 h1 h2;simp[Qq h2]
  ·cases h
theorem F1 {kt:Nat} {st:Bool} {x:V} (hx:RepV g x u) (ht:Ek P kt st ks=true) (kx:Bj st ks x=true) (e:Bool):
  (Instr.checkKey e 10000 kt u).run P w= .ok () w:=by
 unfold Ek at ht;cases st with
 |false=>
  simp only[oa,if_false]at ht;split at ht
  ·exact Ie ht e 9999 u
  ·cases ht
 |true=>
  simp only[if_true]at ht;simp only[Bj,oJ]at kx;cases x<;>simp at kx
  rename_i cs;obtain⟨us,rfl,hall,_⟩:=RepV.agg_inv hx;unfold HK at ht;split at ht
  ·rename_i fs hu;simp only[oJ]at ht;have hl:=HJ _ _ _ ht.2;have hl2:cs.length=ks.length:=by
    cases h2:V.eqL ks cs cs with
    |none=>simp[V.cells,h2]at kx
    |some b=>exact Qq h2
   unfold Instr.checkKey;simp only[Sem.run_bind,run_underlying hu,Result.andThen_ok];rw[←Array.forIn_toList];have:=Hz (P:=P) (w:=w) (cs:=us.toArray) e 9998 fs.toList ks 0 ht.2 λj hj=>by
    have hj2:j <us.length:=by rw[hall.1];omega
    exact⟨us[j],by simp[hj2]⟩
   exact(congrArg (λr=>Result.andThen r λa w'=>Sem.run P (pure ()) w') this).trans rfl
  ·cases ht
theorem Nx {x y:V} (hx:RepV g x u) (hy:RepV g y v) {b:Bool} (hb:V.eq1 k x y=some b) {d:TypeDesc} (hd:(∃q,d= .int q∧k=0)∨(d= .bool∧k=1)∨(d= .string∧k=2)):
  Instr.sameNow d u v=some b:=by
 unfold V.eq1 at hb;split at hb
 ·split at hb
  ·rename_i hkk;subst hkk;simp only[oH]at hb;subst hb;cases hx;cases hy;rcases hd with ⟨q,rfl,_⟩|⟨_,h⟩|⟨_,h⟩<;>first|cases h|simp[Instr.sameNow]
  ·cases hb
 ·simp only[oH]at hb;subst hb;cases hx;cases hy;rcases hd with ⟨q,_,h⟩|⟨rfl,_⟩|⟨_,h⟩<;>first|cases h|simp[Instr.sameNow]
 ·simp only[oH]at hb;subst hb;cases hx;cases hy;rcases hd with ⟨q,_,h⟩|⟨_,h⟩|⟨rfl,_⟩<;>first|cases h|simp[Instr.sameNow,beq_toListBytes]
 ·cases hb
theorem KG {x:V} (hx:RepV g x u) (kx:Bj false ks x=true):x.cells=[x]:=by
 simp only[Bj,oJ]at kx;cases x<;>simp at kx<;>rfl
abbrev Y9 (g:Gh):V×V→MapEntry→Prop:=λkv x=>RepV g kv.1 x.key∧RepV g kv.2 x.val
theorem Fs {g:Gh} {w:World} {kt:Nat} {st:Bool} {ks:List Nat} {x:V} {u:Value} (hx:RepV g x u) (ht:Ek P kt st ks=true) (kx:Bj st ks x=true):∀ {es:List (V×V)} {l:List MapEntry} {r:Option Nat},
  All2 (Y9 g) es l→Cv st ks x es=some r→
  ((∀i,(st=false→∀d,P.underlying kt=some d→Instr.findNow d u l i=some (r.bind λj=>(l[j]?).map λe=>(i+j,e.val)))∧
   (st=true→(Instr.findAsking kt u l i).run P w= .ok (r.bind λj=>(l[j]?).map λe=>(i+j,e.val)) w))∧
  (∀j,r=some j→∃e,l[j]?=some e∧e.key=u)∧(r=none→∀e∈l,e.key≠u))
 |[],l,r,hall,hm=>by
  have:=pK hall.1;subst this;simp only[Cv,oH]at hm;subst hm;exact⟨λi=>⟨λ_ d _=>rfl,λ_=>rfl⟩,by simp,by simp⟩
 |p::es,[],r,hall,_=>by simp[All2]at hall
 |p::es,e::l,r,hall,hm=>by
  rw[All2.cons_iff]at hall;obtain⟨⟨hk,hv⟩,hall⟩:=hall;simp only[Cv]at hm;split at hm
  ·rename_i kp;have hnow:∀ {b:Bool},V.eqL ks x.cells p.1.cells=some b→st=false→∀d,P.underlying kt=some d→Instr.sameNow d u e.key=some b:=by
    intro b hb hst d hu;subst hst;rw[KG hx kx,KG hk kp]at hb;simp only[Ek,oa,if_false]at ht;split at ht
    ·rename_i k;simp only[V.eqL]at hb;split at hb
     ·rename_i b1 b2 h1 h2;simp only[oH]at h2 hb;subst h2;subst hb;obtain⟨d',hu',hd⟩:=GD ht;rw[hu]at hu';cases hu';simpa using Nx hx hk h1 hd
     ·cases hb
    ·cases ht
   have hask:∀ {b:Bool},V.eqL ks x.cells p.1.cells=some b→st=true→(Op.equal kt u e.key).run P w= .ok b w:=by
    intro b hb hst;subst hst;have kx':=kx;have kp':=kp;simp only[Bj,oJ]at kx' kp';cases x<;>simp at kx'
    obtain⟨k1,k2⟩:=p;cases k1<;>simp at kp'
    obtain⟨us,rfl,h1,_⟩:=RepV.agg_inv hx;obtain⟨vs,h2e,h2,_⟩:=RepV.agg_inv hk;rw[h2e];simp only[Ek,if_true]at ht;unfold HK at ht;split at ht
    ·rename_i fs hu;simp only[oJ,pd]at ht;have hfs:P.fieldsOf kt=fs:=by simp[Program.fieldsOf,hu]
     show (Op.equalIn 10000 kt _ _).run P w=_;rw[run_equalIn_struct w 9999 kt us.toArray vs.toArray (by rw[hfs];exact hu) ht.1.1,hfs];exact Kk 9998 fs.toList ks _ _ 0 ht.2 hb (λj x hx=>by simpa using h1.get hx) (λj x hx=>by simpa using h2.get hx)
    ·cases ht
   split at hm
   ·rename_i hb;simp only[oH]at hm;subst hm;have hsame:=((Iz hx hk kx kp hb).1.1 rfl);refine⟨λi=>⟨λhst d hu=>?_,λhst=>?_⟩,λj hj=>?_,by simp⟩
    ·simp[Instr.findNow,hnow hb hst d hu]
    ·simp[Instr.findAsking,hask hb hst,Result.andThen]
    ·simp only[oH]at hj;subst hj;exact⟨e,rfl,hsame.symm⟩
   ·rename_i hb;simp only[oU]at hm;obtain⟨r',hm',rfl⟩:=hm;obtain⟨h1,h2,h3⟩:=Fs hx ht kx hall hm';have hne:e.key≠u:=λq=>by have:=(Iz hx hk kx kp hb).1.2 q.symm;cases this
    refine⟨λi=>⟨λhst d hu=>?_,λhst=>?_⟩,λj hj=>?_,λhr=>?_⟩
    ·rw[Instr.findNow,hnow hb hst d hu,(h1 (i+1)).1 hst d hu];cases r' with
     |none=>rfl
     |some k=>simp only[pE,o9,qO,show i+1+k=i+(k+1) by omega]
    ·rw[Instr.findAsking,Sem.run_bind,hask hb hst,Result.andThen_ok];simp only[oa,if_false];rw[(h1 (i+1)).2 hst];cases r' with
     |none=>rfl
     |some k=>simp only[pE,o9,qO,show i+1+k=i+(k+1) by omega]
    ·cases r' with
     |none=>cases hj
     |some k=>
      simp only[o9,oH]at hj;subst hj;exact h2 k rfl
    ·cases r' with
     |none=>
      intro e' he';rcases oO.1 he' with rfl|he'
      ·exact hne
      ·exact h3 rfl e' he'
     |some k=>cases hr
   ·cases hm
  ·cases hm
theorem Ck {kt:Nat} {st:Bool} {x:V} (hx:RepV g x u) (ht:Ek P kt st ks=true) (kx:Bj st ks x=true) {es:List (V×V)} {l:List MapEntry} {r:Option Nat}
  (hall:All2 (Y9 g) es l) (hm:Cv st ks x es=some r):(Instr.findKey kt u l).run P w= .ok (r.bind λj=>(l[j]?).map λe=>(j,e.val)) w:=by
 have h1:=(Fs (w:=w) hx ht kx hall hm).1 0;simp only[px]at h1;cases st with
 |false=>
  have hu:∃d,P.underlying kt=some d:=by
   simp only[Ek,oa,if_false]at ht;split at ht
   ·obtain⟨d,hu,_⟩:=GD ht;exact⟨d,hu⟩
   ·cases ht
  obtain⟨d,hu⟩:=hu;exact MapKept.run_findKey hu (h1.1 rfl d hu)
 |true=>
  have hw:(match P.underlying kt with|some (.array _ _)|some (.struct _)=>true|_=>false)=true:=by
   simp only[Ek,if_true]at ht;unfold HK at ht;split at ht
   ·rename_i fs hu;simp[hu]
   ·cases ht
  rw[run_findKey_eq w hw];exact h1.2 rfl
theorem RL {ag:Bool} (hz:Qb P el zs ag=true) {z:D} (h:(if ag then some (D.agg zs) else zs.head?)=some z):
  ∃v,(zeroValue el).run P w= .ok v w∧RepG g w μ z v∧Ac z v=none:=by
 unfold Qb at hz;split at hz
 ·rename_i cs hcs;simp only[oJ]at hz;obtain⟨rfl,hz⟩:=hz;simp only[if_true,oH]at h;subst h;have hall:All2 (λd v=>RepE g w μ d v∧v.oneCell'=true∧∀u,Ac d u=none) zs cs.toList:=CT (λv d h=>IV h) hz;cases hi:P.info? el with
  |none=>simp[hi]at hcs
  |some i=>
   have hz1:i.zero=some (.agg cs):=by simpa[hi]using hcs
   refine⟨.agg cs,by simp[zeroValue,typeInfo,hi,hz1],⟨cs.toList,rfl,hall.imp λ_ _ h=>h.1,λv hv=>?_,λd hd v=>?_⟩,rfl⟩
   ·obtain⟨j,hj,rfl⟩:=qM.1 hv;exact(hall.2 j _ _ (oI (by rw[←hall.1];exact hj)) (oI hj)).2.1
   ·obtain⟨j,hj,rfl⟩:=qM.1 hd;have hj':j <cs.toList.length:=by rw[hall.1];exact hj
    exact(hall.2 j _ _ (oI hj) (oI hj')).2.2 v
 ·rename_i v hv hne;simp only[oJ,pd]at hz;obtain⟨rfl,hz⟩:=hz;split at hz
  ·rename_i z0;simp only[oa,if_false,List.head?_cons,oH]at h;subst h;obtain⟨h1,h2,h3⟩:=IV (g:=g) (w:=w) (μ:=μ) hz;cases hi:P.info? el with
   |none=>simp[hi]at hne
   |some i=>
    have hz1:i.zero=some v:=by simpa[hi]using hne
    exact⟨v,by simp[zeroValue,typeInfo,hi,hz1],h1.toG,h3 v⟩
  ·cases hz
 ·cases hz
theorem Jb {t:Nat→D} {u:Nat→Value} (hi:Inv g w μ t u h O) {es:List (V×V)} {bs:List Nat} {ck:Nat} (hr:h[r]?=some (.map es bs ck)) (hb:μ[r]?=some b):
  ∃(ents:Array MapEntry),w.heap[b]?=some (.map ents ck)∧MapKept.Stamped ents ck∧ents.toList.map (·.born)=bs∧All2 (Y9 g) es ents.toList∧∀o,g.m b o=none:=hi.rows r _ b hr hb
theorem VC {i:Operand} {ok':Bool} {m k:Opd} {st:Bool} {ag ok:Bool} (ht:(match P.underlying t with|some (.map kt el)=>Ek P kt st ks&&Qb P el zs ag|_=>false)=true)
  (hm:oe GL x m=true) (hk:oe GL i k=true) (ho':(ok'==ok)=true):CN P GL (.lookup t x i ok') (.look m k st ks zs ag ok):=by
 intro g w μ e act h O y hd hx o ho;have hrm:=hd.ev hm;have hrk:=hd.ev hk;have:=eq_of_beq ho';subst this;split at ht
 ·rename_i kt el hu;simp only[oJ]at ht;obtain⟨hkt,hlz⟩:=ht;simp only[PI.val]at hx;split at hx
  ·rename_i kv hkv;split at hx
   ·rename_i hko;have hkr:=CW hrk hkv;have hck:=λe=>F1 (P:=P) (w:=w) hkr hkt hko e;split at hx
    ·rename_i z hz;obtain⟨zv,hzrun,hzrep,hzown⟩:=RL (P:=P) (g:=g) (w:=w) (μ:=μ) hlz hz;have fin:∀ {d:D} {v:Value} (b:Bool),RepG g w μ d v→Ac d v=none→Du ok' d b=y→
       (execOp act.eval o).run P w= .ok (.value (if ok' then .tuple #[v,.bool b] else v)) w→
       ∃v,(execOp act.eval o).run P w= .ok (.value v) w∧RepD g w μ y v∧∀k,Af y v k=none:=by
      rintro d v b hr hown rfl hrun;refine⟨_,hrun,?_⟩;cases ok' with
      |false=>exact⟨hr.toD,Hg hr hown⟩
      |true=>
       refine⟨⟨[v,.bool b],rfl,.cons hr (.cons (RepV.bool b) .nil)⟩,λk=>?_⟩
       match k with
       |0=>exact hown
       |1=>simp[Du,Af,Ac]
       |k+2=>simp[Du,Af,Ac]
     split at hx
     ·rename_i hmv;rw[hmv]at hrm;simp only[oH]at hx;have hv:act.eval x= .map none:=N0 hrm;have hfk:=Ck (P:=P) (w:=w) hkr hkt hko (es:=[]) (l:=[]) (r:=none) .nil rfl;refine fin false hzrep hzown hx ?_;cases ok'<;>simp[execOp,ho,hv,Instr.lookup,run_underlying hu,hck,hfk,hzrun,Result.andThen]
     ·rename_i r hmv;rw[hmv]at hrm;obtain⟨b,hb,hv⟩:=hrm;split at hx
      ·rename_i es bs ck hr;obtain⟨ents,hheap,hst,_,hall,_⟩:=Jb hd.inv hr hb;have Br:=MapKept.run_getObj_map (P:=P) hheap;split at hx
       ·rename_i j hf;have hfk:=Ck (P:=P) (w:=w) hkr hkt hko hall hf;simp only[oU]at hx;obtain⟨p,hp,hy⟩:=hx;obtain⟨en,hen,h1,h2⟩:=hall.get hp;simp only[pE,hen,o9]at hfk;refine fin true (d:= .v p.2) (v:=en.val) h2 (by simp[Ac]) hy ?_;cases ok'<;>simp[execOp,ho,hv,Instr.lookup,run_underlying hu,Br,hck,hfk,Result.andThen]
       ·rename_i hf;have hfk:=Ck (P:=P) (w:=w) hkr hkt hko hall hf;simp only[oH]at hx;refine fin false hzrep hzown hx ?_;cases ok'<;>simp[execOp,ho,hv,Instr.lookup,run_underlying hu,Br,hck,hfk,hzrun,Result.andThen]
       ·cases hx
      ·cases hx
     ·cases hx
    ·cases hx
   ·cases hx
  ·cases hx
 ·cases ht
theorem U4 {args:Array Operand} {ats:Array TypeId} (h1:Ir args.toList (λx=>oe GL x x')=true)
  (h2:Ir ats.toList (λt=>FO P t (λ| .map _ _=>true|_=>false))=true):CN P GL (.call {callee:= .builtin .len,args:=args,argTypes:=ats}) (.mlen x'):=by
 intro g w μ e act h O y hd hx o ho;obtain⟨x,rfl,hk⟩:=Hh h1;obtain⟨t,rfl,ht⟩:=Hh h2;have hu:∃kt el,P.underlying t=some (.map kt el):=by
  unfold FO at ht;split at ht
  ·rename_i d hd;cases d<;>simp at ht;exact⟨_,_,hd⟩
  ·cases ht
 obtain⟨kt,el,hu⟩:=hu;have hr:=hd.ev hk;simp only[PI.val]at hx;split at hx
 ·rename_i hc;rw[hc]at hr;simp only[oH]at hx;subst hx;exact⟨.int .i64 0,by simp[execOp,ho,resolve,invoke,builtin,Builtin.len_,run_underlying hu,N0 hr,goInt],.int _ _,λk=>Bo _ _ _⟩
 ·rename_i r hc;rw[hc]at hr;obtain⟨b,hb,hv⟩:=hr;split at hx
  ·rename_i es bs ck hr;simp only[oH]at hx;subst hx;obtain⟨ents,hheap,_,_,hall,_⟩:=Jb hd.inv hr hb;have Br:=MapKept.run_getObj_map (P:=P) hheap;have hl:ents.size=es.length:=by have:=hall.1;simpa using this
   exact⟨.int .i64 es.length,by simp[execOp,ho,resolve,invoke,builtin,Builtin.len_,run_underlying hu,hv,Br,goInt,hl],.int _ _,λk=>Bo _ _ _⟩
  ·cases hx
 ·cases hx
end
end
section
theorem FR {α:Type} (cs:List α) (off:Nat) (xs:List α) (h:off+xs.length≤cs.length):(AO cs off xs).length=cs.length:=by
 simp[AO];omega
theorem Fl {α:Type} (cs:List α) (off:Nat) (xs:List α) (h:off+xs.length≤cs.length) (i:Nat):
  (AO cs off xs)[i]?=if i <off then cs[i]? else if i <off+xs.length then xs[i-off]? else cs[i]?:=by
 have hto:(cs.take off).length=off:=by simp;omega
 unfold AO;by_cases h1:i <off
 ·rw[oR,ov (by rw[hto];exact h1),oz];simp[h1]
 ·by_cases h2:i <off+xs.length
  ·rw[oR,pC (by rw[hto];omega),hto,ov (by omega)];simp[h1,h2]
  ·rw[oR,pC (by rw[hto];omega),hto,pC (by omega),pn];simp[h1,h2];congr 1;omega
theorem TS (cs:List Value):∀(off k:Nat) (A:Array Value),off+k+cs.length≤A.size→
  (cs.zipIdx k).foldl (λacc p=>acc.setIfInBounds (off+p.2) p.1) A=(AO A.toList (off+k) cs).toArray:=by
 induction cs with
 |nil=>intro off k A _;simp[AO]
 |cons c cs ih=>
  intro off k A h;simp only[oj]at h;simp only[rt,qj];rw[show k+1=k+1 from rfl,ih off (k+1) _ (by simp;omega)];apply congrArg;apply pe;intro i;rw[Fl _ _ _ (by simp;omega),Fl _ _ _ (by simp;omega)];simp only[Array.toList_setIfInBounds,pU,oj];by_cases h1:i <off+k
  ·simp[h1,show i <off+(k+1) by omega,show off+k≠i by omega]
  ·by_cases h2:i=off+k
   ·subst h2;simp[show off+k <off+(k+1) by omega,show off+k <A.size by omega]
   ·simp only[h1,if_false,show ¬i <off+(k+1) by omega];by_cases h3:i <off+k+(cs.length+1)
    ·simp only[show i <off+(k+1)+cs.length by omega,if_true,h3];rw[show i-(off+k)=(i-(off+(k+1)))+1 by omega,qO]
    ·simp[show ¬i <off+(k+1)+cs.length by omega,h3,show off+k≠i by omega]
theorem All2.putL {α β:Type} {R:α→β→Prop} {xs:List α} {ys:List β} (h:All2 R xs ys) {xs':List α} {ys':List β} (h':All2 R xs' ys') (off:Nat):
  All2 R (AO xs off xs') (AO ys off ys'):=by
 unfold Va.AO;rw[h'.1];exact((h.take off).append h').append (h.drop _)
variable {u:Value} {d:D} {μ:List Nat} {w:World} {g:Gh} {off t:Nat} {zs:List D}
section
variable {P:Program} {GL:Aa}
theorem Tf (h:RepD g w μ d u) {cs:List D} (hc:d.cells?=some cs):
  All2 (RepE g w μ) cs u.cells.toList∧(∀v∈u.cells.toList,v.oneCell'=true)∧∀c∈cs,∀v,Ac c v=none:=by
 cases d with
 |agg ds=>
  simp only[D.cells?,oH]at hc;subst hc;obtain⟨vs,rfl,ha,h1,h0⟩:=h;exact⟨by simpa[Value.cells]using ha,by simpa[Value.cells]using h1,h0⟩
 |v x=>
  have hx:=RepV.cells (show RepV g x u from h);cases x<;>simp only[D.cells?,oH]at hc<;>subst hc
  case agg cs=>
   refine⟨All2.map_left (S:=RepE g w μ) (f:=D.v) (λ_ _ h=>h) hx.1,hx.2,?_⟩;intro c hc v;simp only[oP]at hc;obtain⟨_,_,rfl⟩:=hc;simp[Ac]
  all_goals exact⟨All2.map_left (S:=RepE g w μ) (f:=D.v) (λ_ _ h=>h) hx.1,hx.2,by simp[Ac]⟩
 |any=>simp[D.cells?]at hc
 |tup ds=>simp[D.cells?]at hc
 |own e s xs=>simp[D.cells?]at hc
 |nil e s=>
  simp only[D.cells?,oH]at hc;subst hc;obtain⟨a,rfl,hs⟩:=h;exact⟨.cons ⟨a,rfl,hs⟩ .nil,by simp[Value.cells,Value.oneCell'],by simp[Ac]⟩
 |ref r o=>
  simp only[D.cells?,oH]at hc;subst hc;obtain⟨b,hb,rfl⟩:=h;exact⟨.cons ⟨b,hb,rfl⟩ .nil,by simp[Value.cells,Value.oneCell'],by simp[Ac]⟩
 |sref r n=>
  simp only[D.cells?,oH]at hc;subst hc;obtain⟨b,cap,hb,rfl,hn⟩:=h;exact⟨.cons ⟨b,cap,hb,rfl,hn⟩ .nil,by simp[Value.cells,Value.oneCell'],by simp[Ac]⟩
 |mref r=>
  simp only[D.cells?,oH]at hc;subst hc;obtain⟨b,hb,rfl⟩:=h;exact⟨.cons ⟨b,hb,rfl⟩ .nil,by simp[Value.cells,Value.oneCell'],by simp[Ac]⟩
 |func f caps=>
  simp only[D.cells?,oH]at hc;subst hc;obtain⟨vs,rfl,ha⟩:=h;exact⟨.cons ⟨vs,rfl,ha⟩ .nil,by simp[Value.cells,Value.oneCell'],by simp[Ac]⟩
 |meth f caps=>
  simp only[D.cells?,oH]at hc;subst hc;obtain⟨vs,rfl,ha⟩:=h;exact⟨.cons ⟨vs,rfl,ha⟩ .nil,by simp[Value.cells,Value.oneCell'],by simp[Ac]⟩
 |pend b e s xs=>simp[D.cells?]at hc
 |pptr b s n=>simp[D.cells?]at hc
 |yld r=>
  simp only[D.cells?,oH]at hc;subst hc;obtain⟨b,hb,rfl⟩:=h;exact⟨.cons ⟨b,hb,rfl⟩ .nil,by simp[Value.cells,Value.oneCell'],by simp[Ac]⟩
theorem K3 {α:Type} {cs:List α} {xs:List α} {x:α} (h:x∈AO cs off xs):x∈cs∨x∈xs:=by
 simp only[AO,oc]at h;rcases h with (h|h)|h
 ·exact .inl (pH h)
 ·exact .inr h
 ·exact .inl (qi h)
theorem Oi {g:Gh} {w:World} {μ:List Nat} {e:CB} {place:Nat→Option (Nat×Nat)}:
  ∀ {ps:List (Nat×Value)} {qs:List (Nat×Nat×Opd)} {zs zs':List D} {A:Array Value},
  All2 (λ(q:Nat×Nat×Opd) (p:Nat×Value)=>place p.1=some (q.1,q.2.1)∧RepD g w μ (q.2.2.ev e).copy p.2) qs ps→
  All2 (RepE g w μ) zs A.toList→(∀v∈A.toList,v.oneCell'=true)→(∀d∈zs,∀v,Ac d v=none)→FE e zs qs=some zs'→
  ∃A':Array Value,Instr.fill place A ps=some A'∧All2 (RepE g w μ) zs' A'.toList∧(∀v∈A'.toList,v.oneCell'=true)∧(∀d∈zs',∀v,Ac d v=none)∧A'.size=A.size
 |[],[],zs,zs',A,_,ha,h1,h0,hf=>by
  simp only[FE,oH]at hf;subst hf;exact⟨A,rfl,ha,h1,h0,rfl⟩
 |[],_::_,_,_,_,h,_,_,_,_=>by simp[All2]at h
 |_::_,[],_,_,_,h,_,_,_,_=>by simp[All2]at h
 |(i,v)::ps,(off,n,q)::qs,zs,zs',A,h,ha,h1,h0,hf=>by
  rw[All2.cons_iff]at h;obtain⟨⟨hp,hr⟩,hrest⟩:=h;simp only[FE]at hf;split at hf
  ·rename_i xs hxs;split at hf
   ·rename_i hcond;obtain⟨hx1,hx2,hx3⟩:=Tf hr hxs;have hsz:v.cells.size=n:=by have:=hx1.1;simp at this;omega
    have hlen:A.size=zs.length:=by have:=ha.1;simpa using this
    have hput:v.cells.zipIdx.foldl (λcs p=>cs.setIfInBounds (off+p.2) p.1) A=(AO A.toList off v.cells.toList).toArray:=by
     have:=TS v.cells.toList off 0 A (by simp;omega);rw[←Array.foldl_toList,Array.toList_zipIdx];simpa using this
    obtain⟨A',hA',r1,r2,r3,r4⟩:=Oi (place:=place) hrest (zs:=AO zs off xs) (zs':=zs') (A:=(AO A.toList off v.cells.toList).toArray)
     (by simpa using ha.putL hx1 off) (λu hu=>(K3 (by simpa using hu)).elim (h1 u) (hx2 u))
     (λd hd=>(K3 hd).elim (h0 d) (hx3 d)) hf
    refine⟨A',?_,r1,r2,r3,?_⟩
    ·simp only[Instr.fill,hp,hsz];rw[if_neg (by simp;omega)];rw[hput];exact hA'
    ·rw[r4];simp;rw[FR _ _ _ (by simp;omega)];simp
   ·cases hf
  ·cases hf
theorem MC {α β γ:Type} {f:α→β→Bool} {R:β→γ→Prop} {m:α→γ} (hf:∀x y,f x y=true→R y (m x)):∀ {xs:List α} {ys:List β},Ao f xs ys=true→All2 R ys (xs.map m)
 |[],[],_=> .nil
 |x::xs,y::ys,h=>by
  simp only[Ao,oJ]at h;exact .cons (hf _ _ h.1) (MC hf h.2)
 |[],_::_,h=>by simp[Ao]at h
 |_::_,[],h=>by simp[Ao]at h
theorem T6 {ps:Array (Nat×Operand)} {qs:List (Nat×Nat×Opd)} (hz:Mr P t zs=true) (hp:Gv P GL t ps.toList qs=true):
  CN P GL (.build t ps) (.build zs qs):=by
 intro g w μ e act h O y hd hx o ho;simp only[PI.val,oU]at hx;obtain⟨zs',hf,rfl⟩:=hx;unfold Mr at hz;split at hz
 ·rename_i z hzz;cases hit:P.info? t with
  |none=>simp[hit]at hzz
  |some it=>
   have hz1:it.zero=some z:=by simpa[hit]using hzz
   have key:∀place:Nat→Option (Nat×Nat),Ao (λp q=>oe GL p.2 q.2.2&&place p.1==some (q.1,q.2.1)) ps.toList qs=true→
     (∀A',Instr.fill place z.cells (ps.toList.map λp=>(p.1,act.eval p.2))=some A'→P.built t (ps.map λp=>(p.1,act.eval p.2)).toList=some A')→
     ∃v,(execOp act.eval o).run P w= .ok (.value v) w∧RepD g w μ (.agg zs') v∧∀k,Af (.agg zs') v k=none:=by
    intro place hp hbuilt;have h0:All2 (λd v=>RepE g w μ d v∧v.oneCell'=true∧∀u,Ac d u=none) zs z.cells.toList:=CT (λ_ _=>IV) hz;have hq:All2 (λ(q:Nat×Nat×Opd) (p:Nat×Value)=>place p.1=some (q.1,q.2.1)∧RepD g w μ (q.2.2.ev e).copy p.2) qs (ps.toList.map λp=>(p.1,act.eval p.2)):=
     MC (λp q hpq=>by
      simp only[oJ,beq_iff_eq]at hpq;exact⟨hpq.2,(hd.ev hpq.1).copy⟩) hp
    obtain⟨A',hA,r1,r2,r3,_⟩:=Oi (place:=place) hq (h0.imp λ_ _ h=>h.1)
     (λv hv=>by
      obtain⟨i,hi,rfl⟩:=qM.1 hv;have hi':i <zs.length:=h0.1▸hi;exact(h0.2 i _ _ (oI hi') (oI hi)).2.1)
     (λd hd'=>by
      obtain⟨i,hi,rfl⟩:=qM.1 hd';have hi':i <z.cells.toList.length:=h0.1.symm▸hi;exact(h0.2 i _ _ (oI hi) (oI hi')).2.2) hf
    refine⟨.agg A',?_,⟨A'.toList,by simp,r1,r2,r3⟩,λk=>by cases k<;>simp[Af,Ac]⟩
    have:=run_build (P:=P) w t (ps.map λp=>(p.1,act.eval p.2)) A' (hbuilt A' hA);simp[execOp,ho,this]
   unfold Gv at hp;split at hp
   ·rename_i fs hu;split at hp
    ·rename_i places hpl;refine key (λi=>places[i]?) hp λA' hA=>?_;simp only[Program.built,hit,hu,hz1,hpl,Array.toList_map];simpa using hA
    ·cases hp
   ·rename_i n el hu;split at hp
    ·rename_i ie hie;refine key (λi=>some (i*ie.size,ie.size)) hp λA' hA=>?_;simp only[Program.built,hit,hu,hz1,hie,Array.toList_map];simpa using hA
    ·cases hp
   ·cases hp
 ·cases hz
theorem W7 {op:Op} {pi:PI} (hk:Tn P GL op pi=true):CN P GL op pi:=by
 unfold Tn at hk;split at hk<;>(try simp only[oJ]at hk)
 ·exact Um hk.1.1 hk.1.2 hk.2
 ·exact NG hk.1.1.1 hk.1.1.2 hk.1.2 hk.2
 ·exact Uz hk
 ·obtain⟨⟨h1,h2⟩,h3⟩:=hk;have:=eq_of_beq h1;subst this;exact @Yu P GL _ _ _ _ _ _ _ h2 h3
 ·exact YO hk.1.1.1 hk.1.1.2 hk.1.2 hk.2
 ·exact YN hk.1.1.1 hk.1.1.2 hk.1.2 hk.2
 ·exact YP hk.1.1.1 hk.1.1.2 hk.1.2 hk.2
 ·exact Xg hk.1 hk.2
 ·exact Xk hk.1 hk.2
 ·exact Xx hk.1 hk.2
 ·exact Vb hk.1.1 hk.1.2 hk.2
 ·exact TU hk.1.1 hk.1.2 hk.2
 ·exact YI hk.1.1.1 hk.1.1.2 hk.1.2 hk.2
 ·exact TH hk.1.1 hk.1.2 hk.2
 ·exact RQ hk.1.1 hk.1.2 hk.2
 ·exact RS hk.1.1 hk.1.2 hk.2
 ·exact VL hk.1.1 hk.1.2 hk.2
 ·exact YK hk.1 hk.2
 ·exact Xn hk.1.1 hk.1.2 hk.2
 ·exact U7 hk.1.1 hk.1.2 hk.2
 ·exact VM hk.1.1 hk.1.2 hk.2
 ·exact Vp hk.1 hk.2
 ·exact VE hk.1 hk.2
 ·exact Xq hk
 ·exact Xp hk
 ·exact XC hk.1.1.1.1 hk.1.1.1.2 hk.1.1.2 hk.1.2 hk.2
 ·exact Ua hk.1.1.1.1 hk.1.1.1.2 hk.1.1.2 hk.1.2 hk.2
 ·exact Ub hk.1.1.1 hk.1.1.2 hk.1.2 hk.2
 ·exact Yv hk.1.1 hk.1.2 hk.2
 ·exact VC hk.1.1.1 hk.1.1.2 hk.1.2 hk.2
 ·exact U4 hk.1 hk.2
 ·exact T6 hk.1 hk.2
 ·cases hk
end
end
section
variable {d:D} {b k r:Nat} {ds:List D} {M:Nat→Prop} {h':List Row} {μ':List Nat} {w':World} {g':Gh} {v:Value}
section
variable {g:Gh} {w:World} {μ:List Nat} {t:Nat→D} {u:Nat→Value} {h:List Row} {O:Nat→Prop}
theorem Inv.cell (hi:Inv g w μ t u h O) (hr:h[r]?=some (.cells ds)) (hb:μ[r]?=some b) (hd:ds[k]?=some d):
  RepE g w μ d (BF w μ r k):=by
 obtain⟨vs,T,hheap,hall,hone,_⟩:=hi.row hb hr;obtain⟨v,hv,hrep⟩:=hall.get hd;rw[DK hb hheap hv];exact hrep
theorem Inv.blk_lt (hi:Inv g w μ t u h O) {p:Pl} (hb:CS t u h w μ p=some b):b <w.heap.size:=by
 cases p with
 |tmp n k=>
  have hr:=hi.rep n;simp only[CS]at hb;generalize t n=d at hr hb;generalize u n=v at hr hb;cases d with
  |tup ds=>
   obtain⟨vs,rfl,ha⟩:=hr;simp only[Af,qw]at hb;cases hd:ds[k]? with
   |none=>simp[hd,Ac]at hb
   |some d=>
    obtain⟨v,hv,hrv⟩:=ha.get hd;simp only[hd,hv,og]at hb;cases d<;>simp only[Ac]at hb<;>try (cases hb;done)
    case pend b' e s xs=>exact Ip (μ:=μ) (d:= .pend b' e s xs) hrv (by simpa[Ac]using hb)
    exact Ip (μ:=μ) (d:= .own _ _ _) hrv (by simpa[Ac]using hb)
  |pend b' e s xs=>cases k with
   |zero=>exact Ip (μ:=μ) (d:= .pend b' e s xs) hr (by simpa[Af]using hb)
   |succ k=>simp[Af]at hb
  |own e s xs=>cases k with
   |zero=>exact Ip (μ:=μ) (d:= .own e s xs) hr (by simpa[Af]using hb)
   |succ k=>simp[Af]at hb
  |_=>cases k<;>simp[Af,Ac]at hb
 |cell r k=>
  simp only[CS,A7]at hb;split at hb
  ·rename_i ds hr;cases hd:ds[k]? with
   |none=>simp[hd,Ac]at hb
   |some d=>
    have hlt:r <μ.length:=by rw[hi.len];exact(oM.1 hr).1
    have:=hi.cell hr (oI hlt) hd;exact Ip this (by simpa[hd]using hb)
  ·simp[Ac]at hb
theorem Inv.upd (hi:Inv g w μ t u h O) {t':Nat→D} {u':Nat→Value} (hc:Chg M g w g' w')
  (hag:∀b o v,g'.m b o=some v→w'.cell? ⟨b,o,none⟩=some v) (hrep:∀n,RepD g' w' μ' (t' n) (u' n)) (hlen:μ'.length=h'.length)
  (hrows:∀(r:Nat) row b,h'[r]?=some row→μ'[r]?=some b→RowOK g' w' μ' b row) (hnod:∀(r r':Nat) b,μ'[r]?=some b→μ'[r']?=some b→r=r')
  (hμ:∀b,b∈μ'→b∈μ∨w.heap.size≤b) (σ:Pl→Option Pl) (hσ:∀p q r,σ p=some r→σ q=some r→p=q) (p0:Pl)
  (hb:∀p b,CS t' u' h' w' μ' p=some b→(∃r,σ p=some r∧CS t u h w μ r=some b)∨(p=p0∧w.heap.size≤b∧b∉μ')):Inv g' w' μ' t' u' h' O where
 agree:=hag
 olt:=λb hb=>rW (hi.olt b hb) hc.size
 rep:=hrep
 len:=hlen
 rows:=hrows
 nod:=hnod
 mo:=λb hb ho=>by
  rcases hμ b hb with h1|h1
  ·exact hi.mo b h1 ho
  ·have:=hi.olt b ho;omega
 uniq:=λp q b hp hq=>by
  rcases hb p b hp with ⟨r,hr,hbr⟩|⟨rfl,h1,_⟩
  ·rcases hb q b hq with ⟨r',hr',hbr'⟩|⟨rfl,h1,_⟩
   ·have:=hi.uniq r r' b hbr hbr';subst this;exact hσ p q r hr hr'
   ·have:=hi.blk_lt hbr;omega
  ·rcases hb q b hq with ⟨r',hr',hbr'⟩|⟨rfl,_,_⟩
   ·have:=hi.blk_lt hbr';omega
   ·rfl
 sep:=λp b hp=>by
  rcases hb p b hp with ⟨r,hr,hbr⟩|⟨rfl,h1,h2⟩
  ·have hlt:=hi.blk_lt hbr;obtain⟨s1,s2⟩:=hi.sep r b hbr;refine⟨λhm=>?_,s2⟩;rcases hμ b hm with h3|h3
   ·exact s1 h3
   ·omega
  ·exact⟨h2,λho=>by have:=hi.olt b ho;omega⟩
theorem Inv.set (hi:Inv g w μ t u h O) {d:Nat} {x:D} (hx:RepD g w μ x v) (h0:∀k,Af x v k=none):
  Inv g w μ (λn=>if d=n then x else t n) (λn=>if d=n then v else u n) h O:=by
 refine hi.upd (Chg.refl (λ_=>False) g w) hi.agree (λn=>?_) hi.len hi.rows hi.nod (λb hb=> .inl hb) (λp=>some p) (λp q r hp hq=>by simp at hp hq;rw[hp,hq]) (.tmp 0 0) ?_
 ·by_cases hn:d=n
  ·simp[hn,hx]
  ·simp[hn,hi.rep n]
 ·intro p b hb;refine .inl ⟨p,rfl,?_⟩;cases p with
  |tmp n k=>
   simp only[CS]at hb ⊢;by_cases hn:d=n
   ·simp[hn,h0]at hb
   ·simpa[hn]using hb
  |cell r k=>exact hb
theorem Inv.move (hi:Inv g w μ t u h O) {d s:Nat}:
  Inv g w μ (λn=>if d=n then t s else if s=n then (t s).copy else t n) (λn=>if d=n then u s else if s=n then u s else u n) h O:=by
 refine hi.upd (Chg.refl (λ_=>False) g w) hi.agree (λn=>?_) hi.len hi.rows hi.nod (λb hb=> .inl hb)
  (λp=>match p with| .tmp n k=>if d=n then some (.tmp s k) else if s=n then none else some (.tmp n k)| .cell r k=>some (.cell r k)) ?_ (.tmp 0 0) ?_
 ·by_cases hn:d=n
  ·simp[hn,hi.rep s]
  ·by_cases hs:s=n
   ·simpa[hn,hs]using (hi.rep n).copy
   ·simp[hn,hs,hi.rep n]
 ·intro p q r hp hq;cases p<;>cases q<;>simp only[]at hp hq
  ·rename_i n k n' k';by_cases h1:d=n<;>by_cases h2:d=n'<;>by_cases h3:s=n<;>by_cases h4:s=n'<;>simp_all
   all_goals (subst_vars;simp_all)
  ·rename_i n k r' k';by_cases h1:d=n<;>by_cases h3:s=n<;>simp_all
   all_goals (subst_vars;simp_all)
  ·rename_i r' k' n k;by_cases h1:d=n<;>by_cases h3:s=n<;>simp_all
   all_goals (subst_vars;simp_all)
  ·simp_all
 ·intro p b hb;cases p with
  |tmp n k=>
   simp only[CS]at hb;by_cases hn:d=n
   ·exact .inl ⟨.tmp s k,by simp[hn],by simpa[hn,CS]using hb⟩
   ·by_cases hs:s=n
    ·simp[hn,hs,Bw]at hb
    ·exact .inl ⟨.tmp n k,by simp[hn,hs],by simpa[hn,hs,CS]using hb⟩
  |cell r k=>exact .inl ⟨.cell r k,rfl,hb⟩
end
end
section
variable {b:Nat} {w:World} {g:Gh}
theorem Gh.lt_of (hag:∀b o v,g.m b o=some v→w.cell? ⟨b,o,none⟩=some v) (hb:w.heap.size≤b) (o:Nat):g.m b o=none:=by
 cases hm:g.m b o with
 |none=>rfl
 |some v=>
  have:=World.block_lt_of_cell? w ⟨b,o,none⟩ (hag b o v hm);simp at this;omega
def Gh.put (g:Gh) (b o:Nat) (vs:List Value):Gh where
 m:=λb' o'=>if b'=b∧o≤o'∧o' <o+vs.length then vs[o'-o]? else g.m b' o'
theorem Gh.put_at (g:Gh) (b o:Nat) (vs:List Value):(g.put b o vs).at b o vs:=by
 intro i v hv;have hi:=(oM.1 hv).1;simp only[Gh.put];rw[if_pos ⟨trivial,by omega,by omega⟩,show o+i-o=i by omega];exact hv
theorem Gh.le_put {o:Nat} (vs:List Value) (h:∀o',o≤o'→o' <o+vs.length→g.m b o'=none):g.le (g.put b o vs):=by
 intro b' o' v hv;simp only[Gh.put];split
 ·rename_i hc;rw[hc.1]at hv;rw[h o' hc.2.1 hc.2.2]at hv;cases hv
 ·exact hv
variable {vs:List Value}
theorem Gh.put_other {o:Nat} {b':Nat} (h:b'≠b) (o':Nat):(g.put b o vs).m b' o'=g.m b' o':=by simp[Gh.put,h]
variable {row:Row} {r:Nat} {μ':List Nat} {w':World} {g':Gh} {M:Nat→Prop} {zs:List D}
section
variable {g:Gh} {w:World} {μ:List Nat} {t:Nat→D} {u:Nat→Value} {h:List Row} {O:Nat→Prop}
theorem By (M:Nat→Prop) (g:Gh) (w:World) (o:Obj):Chg M g w g (w.alloc o):=
 ⟨Gh.le.refl g,by simp,λb hb _=>heap_alloc_old w o b hb,λ_ _ _ _=>rfl,rfl,rfl⟩
theorem DL (hag:∀b o v,g.m b o=some v→w.cell? ⟨b,o,none⟩=some v) (ob:Obj):∀b o v,g.m b o=some v→(w.alloc ob).cell? ⟨b,o,none⟩=some v:=by
 intro b o v hv;have:=hag b o v hv;rw[World.cell?_alloc_lt w ob _ (World.block_lt_of_cell? w _ this)];exact this
theorem Inv.mem_lt (hi:Inv g w μ t u h O) (hb:b∈μ):b <w.heap.size:=by
 obtain⟨r,hr,rfl⟩:=qM.1 hb;have hr':r <h.length:=hi.len▸hr;exact(hi.rows r _ _ (oI hr') (oI hr)).lt
theorem RowOK.chg {M:Nat→Prop} {g':Gh} {w':World} {μ':List Nat} (hc:Chg M g w g' w') (hμ:μ <+: μ') {b:Nat} {row:Row} (hr:RowOK g w μ b row) (hb:¬M b)
  (hn:∀k ds d v,row= .cells ds→ds[k]?=some d→w.cell? ⟨b,k,none⟩=some v→∀b',Ac d v=some b'→¬M b'):RowOK g' w' μ' b row:=by
 have hlt:=hr.lt;cases row with
 |cells ds=>
  obtain⟨vs,T,hheap,hall,hone,hg⟩:=hr;refine⟨vs,T,(hc.heap b hlt hb).trans hheap,⟨hall.1,λk d v hd hv=>(hall.2 k d v hd hv).chg hc hμ λb' hb'=>?_⟩,hone,λo=>(hc.gh b hlt hb o).trans (hg o)⟩;exact hn k ds d v rfl hd (by simp[World.cell?,hheap,hv]) b' hb'
 |map es st ck=>
  obtain⟨ents,hheap,hst,hbs,hall,hg⟩:=hr;exact⟨ents,(hc.heap b hlt hb).trans hheap,hst,hbs,hall.imp λ_ _ h=>⟨h.1.mono hc.le,h.2.mono hc.le⟩,λo=>(hc.gh b hlt hb o).trans (hg o)⟩
 |obj tag p mono=>
  obtain⟨o,hheap,hp,hg⟩:=hr;exact⟨o,(hc.heap b hlt hb).trans hheap,mono _ _ _ _ _ hc.le hμ hp,λo=>(hc.gh b hlt hb o).trans (hg o)⟩
 |dead=>exact rW hlt hc.size
theorem Inv.rowChg (hi:Inv g w μ t u h O) (hc:Chg M g w g' w') (hμ:μ <+: μ') (hr:h[r]?=some row) (hb:μ[r]?=some b)
  (hM:¬M b) (hn:∀p b',CS t u h w μ p=some b'→M b'→∀k,p≠ .cell r k):RowOK g' w' μ' b row:=by
 refine(hi.rows r row b hr hb).chg hc hμ hM ?_;intro k ds d v hrow hd hv b' hb' hm;subst hrow;refine hn (.cell r k) b' ?_ hm k rfl;simp only[CS,A7,hr,BF,hb,pE,hv,og,hd];exact hb'
theorem D1 (hi:Inv g w μ t u h O) (hc:Chg M g w g' w') (hμ:μ <+: μ') (n:Nat)
  (hn:∀k b',CS t u h w μ (.tmp n k)=some b'→¬M b'):RepD g' w' μ' (t n) (u n):=
 (hi.rep n).chg hc hμ λk b hb=>hn k b hb
theorem Inv.newRow (hi:Inv g w μ t u h O) (T:TypeId) (ha:All2 (RepE g w μ) zs vs) (h1:∀v∈vs,v.oneCell'=true)
  (h0:∀(i:Nat) z v,zs[i]?=some z→vs[i]?=some v→Ac z v=none):
  Inv g (w.alloc (.cells vs.toArray T)) (μ++[w.heap.size]) t u (h++[.cells zs]) O:=by
 have hc:=By (λ_=>False) g w (.cells vs.toArray T);have hpre:μ <+: μ++[w.heap.size]:=py _ _;have hold:∀r,r <h.length→(h++[Row.cells zs])[r]?=h[r]?:=λr hr=>ov hr;have holdμ:∀r,r <h.length→(μ++[w.heap.size])[r]?=μ[r]?:=λr hr=>ov (hi.len▸hr);have hnewμ:(μ++[w.heap.size])[h.length]?=some w.heap.size:=by rw[←hi.len];simp
 have hnew:(h++[Row.cells zs])[h.length]?=some (.cells zs):=by simp
 refine hi.upd hc (DL hi.agree _) (λn=>D1 hi hc hpre n λ_ _ _ h=>h) (by simp[hi.len]) ?_ ?_ ?_ (λp=>some p) (λp q r hp hq=>by simp at hp hq;rw[hp,hq]) (.tmp 0 0) ?_
 ·intro r row b hr hb;by_cases hlt:r <h.length
  ·rw[hold r hlt]at hr;rw[holdμ r hlt]at hb;exact hi.rowChg hc hpre hr hb (λh=>h) (λ_ _ _ h=>h.elim)
  ·have:r=h.length:=by
    have:=(oM.1 hr).1;simp at this;omega
   subst this;rw[hnew]at hr;rw[hnewμ]at hb;simp only[oH]at hr hb;subst hr;subst hb;refine⟨vs,T,heap_alloc_new w _,⟨ha.1,λi x v hx hv=>(ha.2 i x v hx hv).chg hc hpre λ_ _ h=>h⟩,h1,λo=>Gh.lt_of hi.agree (oN _) o⟩
 ·intro r r' b hr hr';have hlen:∀x,(μ++[w.heap.size])[x]?=some b→x <h.length+1:=λx hx=>by
   have:=(oM.1 hx).1;simp[hi.len]at this;omega
  have l1:=hlen r hr;have l2:=hlen r' hr';by_cases a1:r <h.length<;>by_cases a2:r' <h.length
  ·rw[holdμ r a1]at hr;rw[holdμ r' a2]at hr';exact hi.nod r r' b hr hr'
  ·have:r'=h.length:=by omega
   subst this;rw[hnewμ]at hr';rw[holdμ r a1]at hr;simp only[oH]at hr';subst hr';have:=hi.mem_lt (oK hr);omega
  ·have:r=h.length:=by omega
   subst this;rw[hnewμ]at hr;rw[holdμ r' a2]at hr';simp only[oH]at hr;subst hr;have:=hi.mem_lt (oK hr');omega
  ·omega
 ·intro b hb;simp only[oc,oS]at hb;rcases hb with h|h
  ·exact .inl h
  ·exact .inr (by omega)
 ·intro p b hb;refine .inl ⟨p,rfl,?_⟩;cases p with
  |tmp n k=>exact hb
  |cell r k=>
   simp only[CS]at hb ⊢;by_cases hlt:r <h.length
   ·have e1:A7 (h++[.cells zs]) r k=A7 h r k:=by simp only[A7,hold r hlt]
    have e2:BF (w.alloc (.cells vs.toArray T)) (μ++[w.heap.size]) r k=BF w μ r k:=by
     simp only[BF,holdμ r hlt];cases hm:μ[r]? with
     |none=>rfl
     |some b'=>
      have:=hi.mem_lt (oK hm);simp only[pE];rw[World.cell?_alloc_lt w _ ⟨b',k,none⟩ this]
    rw[e1,e2]at hb;exact hb
   ·by_cases he:r=h.length
    ·subst he;simp only[A7,hnew]at hb;cases hz:zs[k]? with
     |none=>simp[hz,Ac]at hb
     |some z=>
      obtain⟨v,hv,_⟩:=ha.get hz;have e2:BF (w.alloc (.cells vs.toArray T)) (μ++[w.heap.size]) h.length k=v:=
       DK hnewμ (heap_alloc_new w _) hv
      rw[e2,hz]at hb;simp only[og]at hb;rw[h0 k z v hz hv]at hb;cases hb
    ·have:(h++[Row.cells zs])[r]?=none:=by simp;omega
     simp[A7,this,Ac]at hb
theorem Inv.newAny (hi:Inv g w μ t u h O) (row:Row) (ob:Obj) (hR:RowOK g (w.alloc ob) (μ++[w.heap.size]) w.heap.size row)
  (h0:∀k ds d,row= .cells ds→ds[k]?=some d→Ac d (BF (w.alloc ob) (μ++[w.heap.size]) h.length k)=none):
  Inv g (w.alloc ob) (μ++[w.heap.size]) t u (h++[row]) O:=by
 have hc:=By (λ_=>False) g w ob;have hpre:μ <+: μ++[w.heap.size]:=py _ _;have hold:∀r,r <h.length→(h++[row])[r]?=h[r]?:=λr hr=>ov hr;have holdμ:∀r,r <h.length→(μ++[w.heap.size])[r]?=μ[r]?:=λr hr=>ov (hi.len▸hr);have hnewμ:(μ++[w.heap.size])[h.length]?=some w.heap.size:=by rw[←hi.len];simp
 have hnew:(h++[row])[h.length]?=some row:=by simp
 refine hi.upd hc (DL hi.agree _) (λn=>D1 hi hc hpre n λ_ _ _ h=>h) (by simp[hi.len]) ?_ ?_ ?_ (λp=>some p) (λp q r hp hq=>by simp at hp hq;rw[hp,hq]) (.tmp 0 0) ?_
 ·intro r row b hr hb;by_cases hlt:r <h.length
  ·rw[hold r hlt]at hr;rw[holdμ r hlt]at hb;exact hi.rowChg hc hpre hr hb (λh=>h) (λ_ _ _ h=>h.elim)
  ·have:r=h.length:=by
    have:=(oM.1 hr).1;simp at this;omega
   subst this;rw[hnew]at hr;rw[hnewμ]at hb;simp only[oH]at hr hb;subst hr;subst hb;exact hR
 ·intro r r' b hr hr';have hlen:∀x,(μ++[w.heap.size])[x]?=some b→x <h.length+1:=λx hx=>by
   have:=(oM.1 hx).1;simp[hi.len]at this;omega
  have l1:=hlen r hr;have l2:=hlen r' hr';by_cases a1:r <h.length<;>by_cases a2:r' <h.length
  ·rw[holdμ r a1]at hr;rw[holdμ r' a2]at hr';exact hi.nod r r' b hr hr'
  ·have:r'=h.length:=by omega
   subst this;rw[hnewμ]at hr';rw[holdμ r a1]at hr;simp only[oH]at hr';subst hr';have:=hi.mem_lt (oK hr);omega
  ·have:r=h.length:=by omega
   subst this;rw[hnewμ]at hr;rw[holdμ r' a2]at hr';simp only[oH]at hr;subst hr;have:=hi.mem_lt (oK hr');omega
  ·omega
 ·intro b hb;simp only[oc,oS]at hb;rcases hb with h|h
  ·exact .inl h
  ·exact .inr (by omega)
 ·intro p b hb;refine .inl ⟨p,rfl,?_⟩;cases p with
  |tmp n k=>exact hb
  |cell r k=>
   simp only[CS]at hb ⊢;by_cases hlt:r <h.length
   ·have e1:A7 (h++[row]) r k=A7 h r k:=by simp only[A7,hold r hlt]
    have e2:BF (w.alloc ob) (μ++[w.heap.size]) r k=BF w μ r k:=by
     simp only[BF,holdμ r hlt];cases hm:μ[r]? with
     |none=>rfl
     |some b'=>
      have:=hi.mem_lt (oK hm);simp only[pE];rw[World.cell?_alloc_lt w _ ⟨b',k,none⟩ this]
    rw[e1,e2]at hb;exact hb
   ·by_cases he:r=h.length
    ·subst he;simp only[A7,hnew]at hb;cases row with
     |cells ds=>
      cases hz:ds[k]? with
      |none=>simp[hz,Ac]at hb
      |some z=>simp only[hz,og]at hb;rw[h0 k ds z rfl hz]at hb;cases hb
     |_=>simp[Ac]at hb
    ·have:(h++[row])[r]?=none:=by simp;omega
     simp[A7,this,Ac]at hb
end
end
section
variable {b k n r:Nat} {vs:List Value} {ds:List D} {xs:List V} {w':World} {g':Gh}
section
variable {g:Gh} {w:World} {μ:List Nat} {t:Nat→D} {u:Nat→Value} {h:List Row} {O:Nat→Prop}
theorem EN (g:Gh) (w:World) (b:Nat) (cs:Array Value):Chg (λx=>x=b) g w g (w.setRow b cs):=
 ⟨Gh.le.refl g,by simp,λb' _ hb=>setRow_other w b b' cs hb,λ_ _ _ _=>rfl,rfl,rfl⟩
theorem JL (hag:∀b o v,g.m b o=some v→w.cell? ⟨b,o,none⟩=some v) (hg:∀o,g.m b o=none) (cs:Array Value):
  ∀b' o v,g.m b' o=some v→(w.setRow b cs).cell? ⟨b',o,none⟩=some v:=by
 intro b' o v hv;by_cases hb:b'=b
 ·subst hb;rw[hg o]at hv;cases hv
 ·rw[World.cell?_of_block (a:=⟨b',o,none⟩) (setRow_other w b b' cs hb)];exact hag b' o v hv
theorem Inv.storeRow (hi:Inv g w μ t u h O) (hr:h[r]?=some (.cells ds)) (hb:μ[r]?=some b) {T:TypeId}
  (hheap:w.heap[b]?=some (.cells vs.toArray T (0,0))) (ds':List D) (vs':List Value)
  (ha:All2 (RepE g w μ) ds' vs') (h1:∀v∈vs',v.oneCell'=true)
  (h0:∀(i:Nat) z v,ds'[i]?=some z→vs'[i]?=some v→Ac z v=none∨(ds[i]?=some z∧vs[i]?=some v)):
  Inv g (w.setRow b vs'.toArray) μ t u (h.set r (.cells ds')) O:=by
 have hbm:b∈μ:=oK hb;obtain⟨_,_,hheap',_,_,hg⟩:=hi.row hb hr;have hc:=EN g w b vs'.toArray;have hrl:r <h.length:=(oM.1 hr).1;have hnb:∀p b',CS t u h w μ p=some b'→b'≠b:=λp b' hp he=>(hi.sep p b' hp).1 (he▸hbm);have hcellU:∀k,(∀v,vs[k]?=some v→BF w μ r k=v):=λk v hv=>DK hb hheap hv;have hnew:(w.setRow b vs'.toArray).heap[b]?=some (.cells vs'.toArray T (0,0)):=setRow_heap w b _ _ T _ hheap;have hblk:∀p b',CS t u (h.set r (.cells ds')) (w.setRow b vs'.toArray) μ p=some b'→CS t u h w μ p=some b':=by
  intro p b' hp;cases p with
  |tmp n k=>exact hp
  |cell r' k=>
   simp only[CS]at hp ⊢;by_cases he:r'=r
   ·subst he;simp only[A7,pF hrl]at hp;cases hz:ds'[k]? with
    |none=>simp[hz,Ac]at hp
    |some z=>
     obtain⟨v,hv,_⟩:=ha.get hz;rw[DK hb hnew hv,hz]at hp;simp only[og]at hp;rcases h0 k z v hz hv with h3|⟨h3,h4⟩
     ·rw[h3]at hp;cases hp
     ·simp only[A7,hr,h3,og,hcellU k v h4];exact hp
   ·have e1:A7 (h.set r (.cells ds')) r' k=A7 h r' k:=by simp only[A7,ot (Ne.symm he)]
    have e2:BF (w.setRow b vs'.toArray) μ r' k=BF w μ r' k:=by
     simp only[BF];cases hm:μ[r']? with
     |none=>rfl
     |some b2=>
      simp only[pE];have hne:b2≠b:=λe=>he (hi.nod r' r b (e▸hm) hb);rw[World.cell?_of_block (a:=⟨b2,k,none⟩) (setRow_other w b b2 _ hne)]
    rw[e1,e2]at hp;exact hp
 refine hi.upd hc (JL hi.agree hg _) (λn=>D1 hi hc (oQ μ) n λk b' hb'=>hnb _ b' hb') (by simp[hi.len]) ?_ hi.nod (λb hb=> .inl hb)
  (λp=>some p) (λp q r hp hq=>by simp at hp hq;rw[hp,hq]) (.tmp 0 0) (λp b' hp=> .inl ⟨p,rfl,hblk p b' hp⟩)
 intro r' row b' hrow hb';by_cases he:r'=r
 ·subst he;rw[pF hrl]at hrow;simp only[oH]at hrow;subst hrow;rw[hb]at hb';simp only[oH]at hb';subst hb';refine⟨vs',T,hnew,⟨ha.1,λi x v hx hv=>(ha.2 i x v hx hv).chg hc (oQ μ) λb2 hb2=>?_⟩,h1,hg⟩;rcases h0 i x v hx hv with h3|⟨h3,h4⟩
  ·rw[h3]at hb2;cases hb2
  ·refine hnb (.cell r' i) b2 ?_;simp only[CS,A7,hr,h3,og,hcellU i v h4];exact hb2
 ·rw[ot (Ne.symm he)]at hrow;have hne:b'≠b:=λe=>he (hi.nod r' r b (e▸hb') hb);exact hi.rowChg hc (oQ μ) hrow hb' hne λp b2 hp hm k=>absurd hm (hnb p b2 hp)
theorem Inv.giveD (hi:Inv g w μ t u h O) (hr:h[r]?=some (.cells ds)) (hb:μ[r]?=some b) {T:TypeId}
  (hheap:w.heap[b]?=some (.cells vs.toArray T (0,0))) (hk:k <ds.length) {d0:D} (ht:t n=d0) (hrn:RepE g w μ d0 (u n)) (hbl:Af d0 (u n) 0=Ac d0 (u n)) (h1:(u n).oneCell'=true) {d1:D} (hd1:∀w',RepD g w' μ d1 (u n)) (ho1:∀j,Af d1 (u n) j=none):
  Inv g (w.setRow b (vs.set k (u n)).toArray) μ (λm=>if n=m then d1 else t m) u (h.set r (.cells (ds.set k d0))) O:=by
 have hbm:b∈μ:=oK hb;obtain⟨vs0,T0,hheap',hall0,hone0,hg⟩:=hi.row hb hr;rw[hheap]at hheap';simp only[oH,Obj.cells.injEq,true_and,and_true]at hheap';obtain⟨hvv,rfl⟩:=hheap';have hvv':vs=vs0:=by simpa using congrArg Array.toList hvv
 subst hvv';have hc:=EN g w b (vs.set k (u n)).toArray;have hrl:r <h.length:=(oM.1 hr).1;have hnb:∀p b',CS t u h w μ p=some b'→b'≠b:=λp b' hp he=>(hi.sep p b' hp).1 (he▸hbm);have hnew:(w.setRow b (vs.set k (u n)).toArray).heap[b]?=some (.cells (vs.set k (u n)).toArray T (0,0)):=setRow_heap w b _ _ T _ hheap;have hkv:k <vs.length:=hall0.1▸hk;have hblkn:CS t u h w μ (.tmp n 0)=Ac d0 (u n):=by simp only[CS,ht];exact hbl
 refine hi.upd hc (JL hi.agree hg _) (λm=>?_) (by simp[hi.len]) ?_ hi.nod (λb hb=> .inl hb)
  (λp=>match p with| .tmp m j=>if n=m then none else some (.tmp m j)| .cell r' j=>if r'=r∧j=k then some (.tmp n 0) else some (.cell r' j)) ?_ (.tmp 0 0) ?_
 ·by_cases hm:n=m
  ·subst hm;simp only[if_true];exact hd1 _
  ·simp only[hm,if_false];exact D1 hi hc (oQ μ) m λk b' hb'=>hnb _ b' hb'
 ·intro r' row b' hrow hb';by_cases he:r'=r
  ·subst he;rw[pF hrl]at hrow;simp only[oH]at hrow;subst hrow;rw[hb]at hb';simp only[oH]at hb';subst hb';refine⟨vs.set k (u n),T,hnew,⟨by simp[hall0.1],λi x v hx hv=>?_⟩,?_,hg⟩
   ·rw[pU]at hx hv;by_cases hik:k=i
    ·subst hik;simp only[if_true,hk,hkv]at hx hv;simp only[oH]at hx hv;subst hx;subst hv;exact hrn.chg hc (oQ μ) λb2 hb2=>hnb (.tmp n 0) b2 (by rw[hblkn];exact hb2)
    ·simp only[hik,if_false]at hx hv;refine(hall0.2 i x v hx hv).chg hc (oQ μ) λb2 hb2=>hnb (.cell r' i) b2 ?_;simp only[CS,A7,hr,hx,og,DK hb hheap hv];exact hb2
   ·intro v hv;rcases pk hv with h|h
    ·exact hone0 v h
    ·rw[h];exact h1
  ·rw[ot (Ne.symm he)]at hrow;have hne:b'≠b:=λe=>he (hi.nod r' r b (e▸hb') hb);exact hi.rowChg hc (oQ μ) hrow hb' hne λp b2 hp hm k=>absurd hm (hnb p b2 hp)
 ·intro p q z hp hq;cases p<;>cases q<;>simp only[]at hp hq
  ·rename_i m j m' j';by_cases a1:n=m<;>by_cases a2:n=m'<;>simp_all
  ·rename_i m j r' j';by_cases a1:n=m<;>by_cases a2:r'=r∧j'=k<;>simp_all
   all_goals (try (subst_vars;simp_all))
  ·rename_i r' j' m j;by_cases a1:n=m<;>by_cases a2:r'=r∧j'=k<;>simp_all
   all_goals (try (subst_vars;simp_all))
  ·rename_i r1 j1 r2 j2;by_cases a1:r1=r∧j1=k<;>by_cases a2:r2=r∧j2=k<;>simp_all
   all_goals (try (subst_vars;simp_all))
 ·intro p b' hp;cases p with
  |tmp m j=>
   simp only[CS]at hp;by_cases hm:n=m
   ·subst hm;simp only[if_true,ho1]at hp;cases hp
   ·simp only[hm,if_false]at hp;exact .inl ⟨.tmp m j,by simp[hm],hp⟩
  |cell r' j=>
   simp only[CS]at hp;by_cases he:r'=r
   ·subst he;simp only[A7,pF hrl]at hp;by_cases hj:j=k
    ·subst hj;have hv:(vs.set j (u n))[j]?=some (u n):=by simp[hkv]
     rw[DK hb hnew hv]at hp;simp only[pF hk,og]at hp;exact .inl ⟨.tmp n 0,by simp,by rw[hblkn];exact hp⟩
    ·refine .inl ⟨.cell r' j,by simp[hj],?_⟩;rw[ot (Ne.symm hj)]at hp;simp only[CS,A7,hr];cases hz:ds[j]? with
     |none=>simp[hz,Ac]at hp
     |some z=>
      obtain⟨v,hv,_⟩:=hall0.get hz;have hv':(vs.set k (u n))[j]?=some v:=by rw[ot (Ne.symm hj)];exact hv
      rw[DK hb hnew hv',hz]at hp;rw[DK hb hheap hv];exact hp
   ·refine .inl ⟨.cell r' j,by simp[he],?_⟩;have e1:A7 (h.set r (.cells (ds.set k d0))) r' j=A7 h r' j:=by simp only[A7,ot (Ne.symm he)]
    have e2:BF (w.setRow b (vs.set k (u n)).toArray) μ r' j=BF w μ r' j:=by
     simp only[BF];cases hm:μ[r']? with
     |none=>rfl
     |some b2=>
      simp only[pE];have hne:b2≠b:=λe=>he (hi.nod r' r b (e▸hm) hb);rw[World.cell?_of_block (a:=⟨b2,j,none⟩) (setRow_other w b b2 _ hne)]
    rw[e1,e2]at hp;exact hp
theorem Inv.give (hi:Inv g w μ t u h O) (hr:h[r]?=some (.cells ds)) (hb:μ[r]?=some b) {T:TypeId}
  (hheap:w.heap[b]?=some (.cells vs.toArray T (0,0))) (hk:k <ds.length) {e s:Nat} (ht:t n= .own e s xs) (h1:(u n).oneCell'=true):
  Inv g (w.setRow b (vs.set k (u n)).toArray) μ (λm=>if n=m then .any else t m) u (h.set r (.cells (ds.set k (.own e s xs)))) O:=
 hi.giveD hr hb hheap hk ht (by have:=hi.rep n;rw[ht]at this;exact this) (by cases u n<;>rfl) h1 (d1:= .any) (λ_=>by simp[RepD,RepG,RepE]) (λj=>by cases j<;>simp[Af,Ac])
theorem Inv.setAny (hi:Inv g w μ t u h O) {row0:Row} (hr:h[r]?=some row0) (hb:μ[r]?=some b) (row:Row) (hc:Chg (λx=>x=b) g w g' w')
  (hag:∀b o v,g'.m b o=some v→w'.cell? ⟨b,o,none⟩=some v) (hR:RowOK g' w' μ b row)
  (h0:∀k ds d,row= .cells ds→ds[k]?=some d→Ac d (BF w' μ r k)=none):Inv g' w' μ t u (h.set r row) O:=by
 have hbm:b∈μ:=oK hb;have hrl:r <h.length:=(oM.1 hr).1;have hnb:∀p b',CS t u h w μ p=some b'→b'≠b:=λp b' hp he=>(hi.sep p b' hp).1 (he▸hbm);have hblk:∀p b',CS t u (h.set r row) w' μ p=some b'→CS t u h w μ p=some b':=by
  intro p b' hp;cases p with
  |tmp n k=>exact hp
  |cell r' k=>
   simp only[CS]at hp ⊢;by_cases he:r'=r
   ·subst he;exfalso;simp only[A7,pF hrl]at hp;cases row with
    |cells ds=>
     cases hz:ds[k]? with
     |none=>simp[hz,Ac]at hp
     |some z=>simp only[hz,og]at hp;rw[h0 k ds z rfl hz]at hp;cases hp
    |_=>simp[Ac]at hp
   ·have e1:A7 (h.set r row) r' k=A7 h r' k:=by simp only[A7,ot (Ne.symm he)]
    have e2:BF w' μ r' k=BF w μ r' k:=by
     simp only[BF];cases hm:μ[r']? with
     |none=>rfl
     |some b2=>
      simp only[pE];have hne:b2≠b:=λe=>he (hi.nod r' r b (e▸hm) hb);rw[World.cell?_of_block (a:=⟨b2,k,none⟩) (hc.heap b2 (hi.mem_lt (oK hm)) hne)]
    rw[e1,e2]at hp;exact hp
 refine hi.upd hc hag (λn=>D1 hi hc (oQ μ) n λk b' hb'=>hnb _ b' hb') (by simp[hi.len]) ?_ hi.nod (λb hb=> .inl hb)
  (λp=>some p) (λp q r hp hq=>by simp at hp hq;rw[hp,hq]) (.tmp 0 0) (λp b' hp=> .inl ⟨p,rfl,hblk p b' hp⟩)
 intro r' row' b' hrow hb';by_cases he:r'=r
 ·subst he;rw[hb]at hb';cases hb';rw[pF hrl]at hrow;cases hrow;exact hR
 ·rw[ot (Ne.symm he)]at hrow;have hne:b'≠b:=λe=>he (hi.nod r' r b (e▸hb') hb);exact hi.rowChg hc (oQ μ) hrow hb' hne λp b2 hp hm=>absurd hm (hnb p b2 hp)
end
end
section
def σtake (d r k:Nat):Pl→Option Pl
 | .tmp m j=>if d=m then (if j=0 then some (.cell r k) else none) else some (.tmp m j)
 | .cell r' j=>if r'=r∧j=k then none else some (.cell r' j)
theorem σtake_inj (d r k:Nat) (p q z:Pl) (hp:σtake d r k p=some z) (hq:σtake d r k q=some z):p=q:=by
 cases p<;>cases q<;>simp only[σtake]at hp hq<;>(repeat' split at hp)<;>(repeat' split at hq)<;>
  first
   |(cases hp;done)
   |(cases hq;done)
   |(simp only[oH]at hp hq;subst hp;(simp only[Pl.tmp.injEq,Pl.cell.injEq,reduceCtorEq]at hq<;>simp_all);done)
def σgrow (d n:Nat):Pl→Option Pl
 | .tmp m k=>if d=m then (if k=0 then some (.tmp n 0) else none) else if n=m then none else some (.tmp m k)
 | .cell r k=>some (.cell r k)
theorem σgrow_inj (d n:Nat) (p q z:Pl) (hp:σgrow d n p=some z) (hq:σgrow d n q=some z):p=q:=by
 cases p<;>cases q<;>simp only[σgrow]at hp hq<;>(repeat' split at hp)<;>(repeat' split at hq)<;>
  first
   |(cases hp;done)
   |(cases hq;done)
   |(simp only[oH]at hp hq;subst hp;(simp only[Pl.tmp.injEq,Pl.cell.injEq,reduceCtorEq]at hq<;>simp_all);done)
variable {xs:List V} {ds:List D} {b k n r:Nat} {v:Value} {w':World} {g':Gh}
section
variable {g:Gh} {w:World} {μ:List Nat} {t:Nat→D} {u:Nat→Value} {h:List Row} {O:Nat→Prop}
theorem Inv.take (hi:Inv g w μ t u h O) {d:Nat} (hr:h[r]?=some (.cells ds)) {e s:Nat} (hk:ds[k]?=some (.own e s xs)):
  Inv g w μ (λn=>if d=n then .own e s xs else t n) (λn=>if d=n then BF w μ r k else u n) (h.set r (.cells (ds.set k (.v (.list xs))))) O:=by
 have hrl:r <h.length:=(oM.1 hr).1;have hkl:k <ds.length:=(oM.1 hk).1;have hμr:r <μ.length:=hi.len▸hrl;have hb:μ[r]?=some μ[r]:=oI hμr;have hcell:=hi.cell hr hb hk;have hblk0:CS t u h w μ (.cell r k)=Ac (.own e s xs) (BF w μ r k):=by simp only[CS,A7,hr,hk,og]
 refine hi.upd (Chg.refl (λ_=>False) g w) hi.agree (λn=>?_) (by simp[hi.len]) ?_ hi.nod (λb hb=> .inl hb)
  (σtake d r k) (σtake_inj d r k) (.tmp 0 0) ?_
 ·by_cases hn:d=n
  ·simp only[hn,if_true];exact hcell
  ·simp only[hn,if_false];exact hi.rep n
 ·intro r' row b' hrow hb';by_cases he:r'=r
  ·subst he;rw[pF hrl]at hrow;simp only[oH]at hrow;subst hrow;obtain⟨vs,T,hheap,hall,hone,hg⟩:=hi.row hb' hr;refine⟨vs,T,hheap,⟨by simp[hall.1],λi x v hx hv=>?_⟩,hone,hg⟩;rw[pU]at hx;by_cases hik:k=i
   ·subst hik;simp only[if_true,hkl,oH]at hx;subst hx;exact RepOwn.list (hall.2 k _ v hk hv).1
   ·simp only[hik,if_false]at hx;exact hall.2 i x v hx hv
  ·rw[ot (Ne.symm he)]at hrow;exact hi.rows r' row b' hrow hb'
 ·intro p b' hp;cases p with
  |tmp m j=>
   simp only[CS]at hp;by_cases hm:d=m
   ·simp only[hm,if_true]at hp;cases j with
    |zero=>exact .inl ⟨.cell r k,by simp[σtake,hm],by rw[hblk0];simpa[Af]using hp⟩
    |succ j=>simp[Af]at hp
   ·simp only[hm,if_false]at hp;exact .inl ⟨.tmp m j,by simp[σtake,hm],hp⟩
  |cell r' j=>
   simp only[CS]at hp;by_cases he:r'=r
   ·subst he;simp only[A7,pF hrl]at hp;by_cases hj:j=k
    ·subst hj;simp[pF hkl,Ac]at hp
    ·rw[ot (Ne.symm hj)]at hp;exact .inl ⟨.cell r' j,by simp[σtake,hj],by simp only[CS,A7,hr];exact hp⟩
   ·have e1:A7 (h.set r (.cells (ds.set k (.v (.list xs))))) r' j=A7 h r' j:=by simp only[A7,ot (Ne.symm he)]
    rw[e1]at hp;exact .inl ⟨.cell r' j,by simp[σtake,he],hp⟩
theorem Inv.newD (hi:Inv g w μ t u h O) (hc:Chg (λ_=>False) g w g' w') (hag:∀b o v,g'.m b o=some v→w'.cell? ⟨b,o,none⟩=some v)
  {d:Nat} {d0:D} (hv:RepD g' w' μ d0 v) (hs:∀k,Af d0 v k=if k=0 then Ac d0 v else none) (hn:∀b,Ac d0 v=some b→w.heap.size≤b):
  Inv g' w' μ (λn=>if d=n then d0 else t n) (λn=>if d=n then v else u n) h O:=by
 have hcellU:∀r k,BF w' μ r k=BF w μ r k:=by
  intro r k;simp only[BF];cases hm:μ[r]? with
  |none=>rfl
  |some b=>
   have:=hi.mem_lt (oK hm);simp only[pE];rw[World.cell?_of_block (a:=⟨b,k,none⟩) (hc.heap b this (λh=>h))]
 refine hi.upd hc hag (λn=>?_) hi.len (λr row b hr hb=>hi.rowChg hc (oQ μ) hr hb (λh=>h) (λ_ _ _ h=>h.elim)) hi.nod (λb hb=> .inl hb)
  (λp=>some p) (λp q r hp hq=>by simp at hp hq;rw[hp,hq]) (.tmp d 0) ?_
 ·by_cases hnn:d=n
  ·simp only[hnn,if_true];exact hv
  ·simp only[hnn,if_false];exact D1 hi hc (oQ μ) n λ_ _ _ h=>h
 ·intro p b hp;cases p with
  |tmp m j=>
   simp only[CS]at hp;by_cases hm:d=m
   ·subst hm;simp only[if_true]at hp;cases j with
    |zero=>
     have hb:=hn b (by simpa[hs]using hp);exact .inr ⟨rfl,hb,λhmem=>by have:=hi.mem_lt hmem;omega⟩
    |succ j=>simp[hs]at hp
   ·simp only[hm,if_false]at hp;exact .inl ⟨.tmp m j,rfl,hp⟩
  |cell r k=>
   simp only[CS,hcellU]at hp;exact .inl ⟨.cell r k,rfl,hp⟩
theorem Inv.newOwn (hi:Inv g w μ t u h O) (hc:Chg (λ_=>False) g w g' w') (hag:∀b o v,g'.m b o=some v→w'.cell? ⟨b,o,none⟩=some v)
  {d e s:Nat} (hv:RepOwn g' w' e s xs v) (h0:xs=[]→e≠84→∃a,v= .slice a 0 0) (hn:∀b,Ac (.own e s xs) v=some b→w.heap.size≤b):
  Inv g' w' μ (λn=>if d=n then .own e s xs else t n) (λn=>if d=n then v else u n) h O:=
 hi.newD hc hag ⟨hv,h0⟩ (λk=>by cases k<;>rfl) hn
theorem Inv.growD (hi:Inv g w μ t u h O) {d:Nat} (hb:Ac (t n) (u n)=some b) (hc:Chg (λx=>x=b) g w g' w')
  (hag:∀b o v,g'.m b o=some v→w'.cell? ⟨b,o,none⟩=some v) {d0:D} (hv:RepD g' w' μ d0 v) (hs:∀k,Af d0 v k=if k=0 then Ac d0 v else none) (hn:Ac d0 v=some b):
  Inv g' w' μ (λm=>if d=m then d0 else if n=m then (t n).copy else t m) (λm=>if d=m then v else u m) h O:=by
 have hblkn:CS t u h w μ (.tmp n 0)=some b:=by
  simp only[CS];generalize t n=x at hb;generalize u n=y at hb;cases x with
  |own e s xs=>
   cases y<;>simp[Af,Ac]at hb ⊢
   exact hb
  |pend b' e s xs=>simpa[Af,Ac]using hb
  |_=>simp[Ac]at hb
 obtain⟨hbμ,_⟩:=hi.sep _ b hblkn;have honly:∀p b',CS t u h w μ p=some b'→b'=b→p= .tmp n 0:=λp b' hp he=>hi.uniq p (.tmp n 0) b (he▸hp) hblkn;have hcellU:∀r k,BF w' μ r k=BF w μ r k:=by
  intro r k;simp only[BF];cases hm:μ[r]? with
  |none=>rfl
  |some b'=>
   have hmem:=oK hm;have:=hi.mem_lt hmem;simp only[pE];rw[World.cell?_of_block (a:=⟨b',k,none⟩) (hc.heap b' this (λhe=>hbμ (he▸hmem)))]
 refine hi.upd hc hag (λm=>?_) hi.len (λr row b' hr hb'=>hi.rowChg hc (oQ μ) hr hb' (λhe=>hbμ (he▸oK hb')) (λp b2 hp he k=>by rw[honly p b2 hp he];simp))
  hi.nod (λb hb=> .inl hb)
  (σgrow d n) (σgrow_inj d n) (.tmp 0 0) ?_
 ·by_cases hd:d=m
  ·simp only[hd,if_true];exact hv
  ·by_cases hm:n=m
   ·subst hm;have h1:=(hi.rep n).copy;simp only[hd,if_true,if_false];cases ht:t n with
    |own e s xs=>rw[ht]at h1;exact RepV.mono hc.le h1
    |pend=>trivial
    |_=>rw[ht]at hb;simp[Ac]at hb
   ·simp only[hd,hm,if_false];exact D1 hi hc (oQ μ) m λk b' hb' he=>by
     have:=honly _ b' hb' he;simp only[Pl.tmp.injEq]at this;exact hm this.1.symm
 ·intro p b' hp;cases p with
  |tmp m k=>
   simp only[CS]at hp;by_cases hd:d=m
   ·simp only[hd,if_true]at hp;cases k with
    |zero=>
     refine .inl ⟨.tmp n 0,by simp[σgrow,hd],?_⟩;rw[hblkn];have:Ac d0 v=some b':=by simpa[hs]using hp
     rw[←hn,this]
    |succ k=>simp[hs]at hp
   ·by_cases hm:n=m
    ·simp[hd,hm,Bw]at hp
    ·simp only[hd,hm,if_false]at hp;exact .inl ⟨.tmp m k,by simp[σgrow,hd,hm],hp⟩
  |cell r k=>
   simp only[CS,hcellU]at hp;exact .inl ⟨.cell r k,rfl,hp⟩
theorem Inv.growOwn (hi:Inv g w μ t u h O) {d:Nat} (hb:Ac (t n) (u n)=some b) (hc:Chg (λx=>x=b) g w g' w')
  (hag:∀b o v,g'.m b o=some v→w'.cell? ⟨b,o,none⟩=some v) {e s:Nat} (hv:RepOwn g' w' e s xs v) (h0:xs=[]→e≠84→∃a,v= .slice a 0 0) (hn:Ac (.own e s xs) v=some b):
  Inv g' w' μ (λm=>if d=m then .own e s xs else if n=m then (t n).copy else t m) (λm=>if d=m then v else u m) h O:=
 hi.growD hb hc hag ⟨hv,h0⟩ (λk=>by cases k<;>rfl) hn
theorem Inv.growCell (hi:Inv g w μ t u h O) {br:Nat} {x d0:D} (hr:h[r]?=some (.cells ds)) (hbr:μ[r]?=some br) (hk:ds[k]?=some x) (hb:Ac x (BF w μ r k)=some b)
 (hc:Chg (λx=>x=b) g w g' w') (hag:∀b o v,g'.m b o=some v→w'.cell? ⟨b,o,none⟩=some v) (hv:RepE g' w' μ d0 (BF w μ r k)) (hn:∀b',Ac d0 (BF w μ r k)=some b'→b'=b):
  Inv g' w' μ t u (h.set r (.cells (ds.set k d0))) O:=by
 have hrl:r <h.length:=(oM.1 hr).1;have hkl:k <ds.length:=(oM.1 hk).1;have hblkn:CS t u h w μ (.cell r k)=some b:=by simp only[CS,A7,hr,hk,og];exact hb
 obtain⟨hbμ,_⟩:=hi.sep _ b hblkn;have honly:∀p b',CS t u h w μ p=some b'→b'=b→p= .cell r k:=λp b' hp he=>hi.uniq p (.cell r k) b (he▸hp) hblkn;obtain⟨vs,T,hheap,hall,hone,hgn⟩:=hi.row hbr hr;have hneb:br≠b:=λhe=>hbμ (he▸oK hbr);have hheap':w'.heap[br]?=some (.cells vs.toArray T (0,0)):=(hc.heap br (BP hheap) hneb).trans hheap;have hcellU:∀r k,BF w' μ r k=BF w μ r k:=by
  intro r k;simp only[BF];cases hm:μ[r]? with
  |none=>rfl
  |some b'=>
   have hmem:=oK hm;have:=hi.mem_lt hmem;simp only[pE];rw[World.cell?_of_block (a:=⟨b',k,none⟩) (hc.heap b' this (λhe=>hbμ (he▸hmem)))]
 refine hi.upd hc hag (λm=>?_) (by simp[hi.len]) ?_ hi.nod (λb hb=> .inl hb) (λp=>some p) (λp q r hp hq=>by simp at hp hq;rw[hp,hq]) (.tmp 0 0) ?_
 ·exact D1 hi hc (oQ μ) m λj b' hb' he=>by have:=honly _ b' hb' he;cases this
 ·intro r' row b' hrow hb';by_cases he:r'=r
  ·subst he;rw[pF hrl]at hrow;simp only[oH]at hrow;subst hrow;rw[hbr]at hb';simp only[oH]at hb';subst hb';refine⟨vs,T,hheap',⟨by simp[hall.1],λi y v hy hv2=>?_⟩,hone,λo=>(hc.gh br (BP hheap) hneb o).trans (hgn o)⟩;rw[pU]at hy;by_cases hik:k=i
   ·subst hik;simp only[if_true,hkl]at hy;simp only[oH]at hy;subst hy;rw[DK hbr hheap hv2]at hv;exact hv
   ·simp only[hik,if_false]at hy;refine(hall.2 i y v hy hv2).chg hc (oQ μ) λb2 hb2 he=>?_;have h3:CS t u h w μ (.cell r' i)=some b2:=by simp only[CS,A7,hr,hy,og,DK hbr hheap hv2];exact hb2
    have:=honly _ b2 h3 he;simp only[Pl.cell.injEq]at this;exact hik this.2.symm
  ·rw[ot (Ne.symm he)]at hrow;have hne:¬b'=b:=λe=>hbμ (e▸oK hb');exact hi.rowChg hc (oQ μ) hrow hb' hne λp b2 hp hm j hpj=>by
    have:=honly p b2 hp hm;rw[hpj]at this;simp only[Pl.cell.injEq]at this;exact he this.1
 ·intro p b' hp;refine .inl ⟨p,rfl,?_⟩;cases p with
  |tmp m j=>exact hp
  |cell r' j=>
   simp only[CS,hcellU]at hp ⊢;by_cases he:r'=r
   ·subst he;simp only[A7,pF hrl,pU]at hp;by_cases hj:k=j
    ·subst hj;simp only[if_true,hkl,og]at hp;have:=hn b' hp;subst this;simpa[A7,hr,hk]using hb
    ·simp only[hj,if_false]at hp;simpa[A7,hr]using hp
   ·have e1:A7 (h.set r (.cells (ds.set k d0))) r' j=A7 h r' j:=by simp only[A7,ot (Ne.symm he)]
    rw[e1]at hp;exact hp
theorem Inv.chg (hi:Inv g w μ t u h O) (hc:Chg (λ_=>False) g w g' w') (hag:∀b o v,g'.m b o=some v→w'.cell? ⟨b,o,none⟩=some v):Inv g' w' μ t u h O:=by
 have hcellU:∀r k,BF w' μ r k=BF w μ r k:=by
  intro r k;simp only[BF];cases hm:μ[r]? with
  |none=>rfl
  |some b=>
   have:=hi.mem_lt (oK hm);simp only[pE];rw[World.cell?_of_block (a:=⟨b,k,none⟩) (hc.heap b this (λh=>h))]
 refine hi.upd hc hag (λn=>D1 hi hc (oQ μ) n λ_ _ _ h=>h) hi.len
  (λr row b hr hb=>hi.rowChg hc (oQ μ) hr hb (λh=>h) (λ_ _ _ h=>h.elim)) hi.nod (λb hb=> .inl hb)
  (λp=>some p) (λp q r hp hq=>by simp at hp hq;rw[hp,hq]) (.tmp 0 0) ?_
 intro p b hp;cases p with
 |tmp m j=>exact .inl ⟨.tmp m j,rfl,hp⟩
 |cell r k=>simp only[CS,hcellU]at hp;exact .inl ⟨.cell r k,rfl,hp⟩
theorem Inv.weaken (hi:Inv g w μ t u h O) (t':Nat→D) (ht:∀n,t' n=t n∨(∀v,RepD g w μ (t n) v→RepD g w μ (t' n) v)∧∀v k,Af (t' n) v k=none):Inv g w μ t' u h O:=by
 refine hi.upd (Chg.refl (λ_=>False) g w) hi.agree (λn=>?_) hi.len hi.rows hi.nod (λb hb=> .inl hb) (λp=>some p) (λp q r hp hq=>by simp at hp hq;rw[hp,hq]) (.tmp 0 0) ?_
 ·rcases ht n with h|h
  ·rw[h];exact hi.rep n
  ·exact h.1 _ (hi.rep n)
 ·intro p b hp;cases p with
  |tmp m j=>
   simp only[CS]at hp;rcases ht m with h|h
   ·rw[h]at hp;exact .inl ⟨.tmp m j,rfl,hp⟩
   ·rw[h.2]at hp;cases hp
  |cell r k=>exact .inl ⟨.cell r k,rfl,hp⟩
end
end
section
structure St where
 e:CB
 h:List Row
 deriving Inhabited
inductive AI where
 |p (d:Nat) (i:PI)
 |mv (d:Nat) (x:Opd)
 |alloc (d:Nat) (zs:List D)
 |box (d:Nat) (x:Opd)
 |store (a x:Opd) (n:Nat)
 |take (d:Nat) (a:Opd)
 |app (d:Nat) (x y:Opd) (e s by_:Nat)
 |appS (d:Nat) (x y:Opd) (e by_:Nat)
 |bsl (d e s:Nat) (ps:List Opd)
 |s2b (d:Nat) (x:Opd)
 |nilS (d:Nat) (ne:Bool) (x:Opd)
 |mkm (d:Nat)
 |mksl (d:Nat) (x:Opd) (z:D)
 |ment (d:Nat) (m k:Opd) (st:Bool) (ks:List Nat)
 |mest (m b v:Opd)
 |mput (m k v:Opd) (st:Bool) (ks:List Nat)
 |mdel (d:Option Nat) (m k:Opd) (st:Bool) (ks:List Nat)
 |call (d:Option Nat) (f:Opd) (args:List Opd)
 |callF (d:Option Nat) (f:Opd) (args:List Opd)
 |callC (d:Option Nat) (f:Opd) (args:List Opd)
 |callO (d:Option Nat) (f q:Opd) (args:List Opd)
 |appR (d:Nat) (x y:Opd) (e s by_:Nat)
 |frz (d:Nat) (x:Opd) (s:Nat)
 |mksz (d:Nat) (x:Opd) (zs:List D)
 |cpy (d:Option Nat) (x y:Opd) (s:Nat)
 |callN (d:Option Nat) (f:Opd) (args:List Opd)
 |appP (d:Nat) (x y:Opd) (e s by_:Nat)
 |fin (m:Nat) (a p x:Opd) (s:Nat)
 deriving Inhabited
def D.toRow:D→D
 | .nil e s=> .own e s []
 |d=>d
def Opd.clear (e:CB):Opd→CB
 | .t n true=>(n,(AG e n).copy)::e
 |_=>e
def Bu (e:CB):Option Nat→D→CB
 |some d,x=>(d,x)::e
 |none,_=>e
def IE (e:CB):List Opd→Option (List V)
 |[]=>some []
 |x::xs=>match (x.ev e).toV,IE e xs with
  |some v,some vs=>some (v::vs)
  |_,_=>none
def Dr (e s:Nat):D→Option (List V)
 | .own e' s' xs=>if e'=e∧s'=s then some xs else none
 | .nil _ _=>some []
 |_=>none
def AU (n by_:Nat):Bool:=decide (n*by_≤140737488355328∧n≤140737488355328)
def AI.step (s:St):AI→Option St
 | .p d i=>(i.val s.e s.h).map λx=>⟨(d,x)::s.e,s.h⟩
 | .mv d x=>some ⟨(d,x.ev s.e)::x.clear s.e,s.h⟩
 | .alloc d zs=>some ⟨(d,.ref s.h.length 0)::s.e,s.h++[.cells zs]⟩
 | .box d x=>match (x.ev s.e).copy.cells? with
  |some cs=>some ⟨(d,.ref s.h.length 0)::s.e,s.h++[.cells (cs.map D.toRow)]⟩
  |none=>none
 | .store a x n=>match a.ev s.e with
  | .ref r off=>match s.h[r]? with
   |some (.cells ds)=>match x.ev s.e with
    | .own e sz xs=>match x with
     | .t m true=>if off <ds.length∧n=1 then some ⟨(m,.any)::s.e,s.h.set r (.cells (ds.set off (.own e sz xs)))⟩ else none
     |_=>none
    | .pend bb e sz xs=>match x with
     | .t m true=>if off <ds.length∧n=1 then some ⟨(m,.pptr bb 0 xs.length)::s.e,s.h.set r (.cells (ds.set off (.pend bb e sz xs)))⟩ else none
     |_=>none
    |d=>match d.copy.cells? with
     |some cs=>if cs.length=n∧off+n≤ds.length then some ⟨s.e,s.h.set r (.cells (AO ds off (cs.map D.toRow)))⟩ else none
     |none=>none
   |_=>none
  |_=>none
 | .take d a=>match a.ev s.e with
  | .ref r off=>match s.h[r]? with
   |some (.cells ds)=>match ds[off]? with
    |some (.own e sz xs)=>some ⟨(d,.own e sz xs)::s.e,s.h.set r (.cells (ds.set off (.v (.list xs))))⟩
    |_=>none
   |_=>none
  |_=>none
 | .app d x y e sz by_=>match Dr e sz (x.ev s.e),(y.ev s.e).toV with
  |some xs,some (.list ys)=>if BM sz ys=true∧AU (xs.length+ys.length) by_=true then some ⟨(d,.own e sz (xs++ys))::x.clear s.e,s.h⟩ else none
  |_,_=>none
 | .appS d x y e by_=>match Dr e 1 (x.ev s.e),y.ev s.e with
  |some xs,.v (.str b)=>if AU (xs.length+b.size) by_=true then some ⟨(d,.own e 1 (xs++b.data.toList.map λc=> .int .u8 c.toNat))::x.clear s.e,s.h⟩ else none
  |_,_=>none
 | .bsl d e sz ps=>match IE s.e ps with
  |some vs=>if vs.all (λv=>v.cells.length==sz)=true then
    match vs with
    |[]=>some ⟨(d,.nil e sz)::s.e,s.h⟩
    |vs=>some ⟨(d,.own e sz vs)::s.e,s.h⟩
   else none
  |none=>none
 | .s2b d x=>match x.ev s.e with
  | .v (.str b)=>some ⟨(d,.v (.list (b.data.toList.map λc=> .int .u8 c.toNat)))::s.e,s.h⟩
  |_=>none
 | .nilS _ _ _=>none
 | .mkm d=>some ⟨(d,.mref s.h.length)::s.e,s.h++[.map [] [] 0]⟩
 | .mksl d x z=>match x.ev s.e with
  | .v (.int _ n)=>if 0≤n∧n≤16777216 then some ⟨(d,.sref s.h.length n.toNat)::s.e,s.h++[.cells (List.replicate n.toNat z)]⟩ else none
  |_=>none
 | .mput m k v st ks=>match m.ev s.e with
  | .mref r=>match s.h[r]? with
   |some (.map es bs ck)=>match (k.ev s.e).toV,(v.ev s.e).toV with
    |some kv,some vv=>if Bj st ks kv=true then
      match Cv st ks kv es with
      |some none=>some ⟨s.e,s.h.set r (.map (es++[(kv,vv)]) (bs++[ck]) (ck+1))⟩
      |some (some i)=>some ⟨s.e,s.h.set r (.map (es.set i (kv,vv)) bs ck)⟩
      |none=>none
     else none
    |_,_=>none
   |_=>none
  |_=>none
 | .ment d m k st ks=>match m.ev s.e with
  | .mref r=>match s.h[r]? with
   |some (.map es bs _)=>match (k.ev s.e).toV with
    |some kv=>if Bj st ks kv=true then
      match Cv st ks kv es with
      |some (some i)=>match es[i]?,bs[i]? with
       |some en,some n=>some ⟨(d,.tup [.v en.2,.v (.int .i64 n)])::s.e,s.h⟩
       |_,_=>none
      |_=>none
     else none
    |_=>none
   |_=>none
  |_=>none
 | .mest m b v=>match m.ev s.e with
  | .mref r=>match s.h[r]? with
   |some (.map es bs ck)=>match b.ev s.e,(v.ev s.e).toV with
    | .v (.int _ n),some vv=>match bs.findIdx? (λx:Nat=>(x:Int)==n)with
     |some i=>match es[i]? with
      |some en=>some ⟨s.e,s.h.set r (.map (es.set i (en.1,vv)) bs ck)⟩
      |none=>none
     |none=>none
    |_,_=>none
   |_=>none
  |_=>none
 | .mdel d m k st ks=>match m.ev s.e with
  | .mref r=>match s.h[r]? with
   |some (.map es bs ck)=>match (k.ev s.e).toV with
    |some kv=>if Bj st ks kv=true then
      match Cv st ks kv es with
      |some none=>some ⟨Bu s.e d (.tup []),s.h⟩
      |some (some i)=>some ⟨Bu s.e d (.tup []),s.h.set r (.map (es.eraseIdx i) (bs.eraseIdx i) ck)⟩
      |none=>none
     else none
    |_=>none
   |_=>none
  |_=>none
 | .call _ _ _=>none
 | .callF _ _ _=>none
 | .callC _ _ _=>none
 | .callO _ _ _ _=>none
 | .appR _ _ _ _ _ _=>none
 | .frz _ _ _=>none
 | .callN _ _ _=>none
 | .appP _ _ _ _ _ _=>none
 | .fin m ad pp x sz=>match pp.ev s.e,(x.ev s.e).toV with
  | .pptr b s' n,some y=>match AG s.e m with
   | .pend b' e s2 xs=>if (b'=b∧s'=sz∧s2=sz)∧n=xs.length∧y.cells.length=sz∧0 <sz then some ⟨(m,.own e sz (xs++[y]))::s.e,s.h⟩ else none
   |_=>match ad.ev s.e with
    | .ref r off=>match s.h[r]? with
     |some (.cells ds)=>match ds[off]? with
      |some (.pend b' e s2 xs)=>if (b'=b∧s'=sz∧s2=sz)∧n=xs.length∧y.cells.length=sz∧0 <sz then some ⟨s.e,s.h.set r (.cells (ds.set off (.own e sz (xs++[y]))))⟩ else none
      |_=>none
     |_=>none
    |_=>none
  |_,_=>none
 | .mksz d x zs=>match x.ev s.e with
  | .v (.int _ n)=>if 0≤n∧n≤16777216 then some ⟨(d,.sref s.h.length n.toNat)::s.e,s.h++[.cells (List.replicate n.toNat zs).flatten]⟩ else none
  |_=>none
 | .cpy d x y sz=>match x.ev s.e with
  | .sref r n=>match (y.ev s.e).copy with
   | .v (.list ys)=>match s.h[r]? with
    |some (.cells ds)=>if (ys.length=n∧ds.length=n*sz)∧0 <sz∧BM sz ys=true then some ⟨Bu s.e d (.v (.int .i64 n)),s.h.set r (.cells ((ys.flatMap V.cells).map .v))⟩ else none
    |_=>none
   |_=>none
  |_=>none
structure Gs (GL:Aa) (N:Nat) (g:Gh) (w:World) (μ:List Nat) (s:St) (a:Act) (O:Nat→Prop):Prop where
 inv:Inv g w μ (AG s.e) (λn=>a.tmps.getD n undef) s.h O
 glob:GlobOK GL g
 sz:a.tmps.size=N
variable {O:Nat→Prop} {a:Act} {s:St} {μ:List Nat} {w:World} {g:Gh} {N:Nat}
theorem Gs.gd {GL:Aa} (h:Gs GL N g w μ s a O) (P:Program):Gd P GL g w μ s.e a s.h O:=⟨h.inv,h.glob⟩
theorem GlobOK.mono {GL:Aa} {g g':Gh} (h:GlobOK GL g) (hl:g.le g'):GlobOK GL g':=λp hp=>(h p hp).mono hl
def Dm (P:Program) (GL:Aa) (N:Nat) (o:Oper) (ai:AI):Prop:=
 ∀ {g:Gh} {w:World} {μ:List Nat} {s s':St} {a:Act} {O:Nat→Prop},Gs GL N g w μ s a O→ai.step s=some s'→
  ∃v w' g' μ',((execOp a.eval o).run P w= .ok (.value v) w'∨((execOp a.eval o).run P w= .ok .skip w'∧v=undef))∧
   Gs GL N g' w' μ' s' (a.put o.dst v) O∧Chg (λb=>¬O b) g w g' w'∧μ <+: μ'
variable {o:Oper} {q:Opd} {p x:Operand} {zs:List D} {vs:List Value} {b el n t:Nat} {u v:Value} {d:D}
section
variable {P:Program} {GL:Aa} {N:Nat}
theorem BD (a:Act) (d:Option Nat) (v:Value):(a.put d v).tmps.size=a.tmps.size:=by cases d<;>simp[Act.put]
theorem Db {d:Nat} (v:Value) (hd:d <a.tmps.size):(λn=>(a.put (some d) v).tmps.getD n undef)=λn=>if d=n then v else a.tmps.getD n undef:=by
 funext n
 simp only[Act.put];by_cases h:d=n
 ·subst h;simp[hd]
 ·simp[h]
theorem Gs.set {g:Gh} {w:World} {μ:List Nat} {s:St} {a:Act} {O:Nat→Prop} (h:Gs GL N g w μ s a O) {d:Nat} (hd:d <N) {x:D} {v:Value} (hx:RepD g w μ x v)
  (h0:∀k,Af x v k=none):Gs GL N g w μ ⟨(d,x)::s.e,s.h⟩ (a.put (some d) v) O where
 inv:=by
  rw[Db v (h.sz▸hd)];exact h.inv.set hx h0
 glob:=h.glob
 sz:=by rw[BD,h.sz]
theorem eH {d:Nat} {i:PI} (ho:o.dst=some d) (hd:d <N) (hk:Tn P GL o.op i=true):Dm P GL N o (.p d i):=by
 intro g w μ s s' a O hg hs;simp only[AI.step,oU]at hs;obtain⟨x,hx,rfl⟩:=hs;obtain⟨v,h1,h2,h3⟩:=W7 hk (hg.gd P) hx o rfl;exact⟨v,w,g,μ,.inl h1,by rw[ho];exact hg.set hd h2 h3,Chg.refl _ _ _,oQ _⟩
def Qa (q:Opd):Bool:=match q with| .c (.own _ _ (_::_))=>false| .c (.tup _)=>false| .c (.pend _ _ _ _)=>false|_=>true
theorem WO {d:Nat} (ho:o.dst=some d) (hop:o.op= .move x∨o.op= .assign x) (hd:d <N) (hk:oe GL x q=true) (hm:Qa q=true):Dm P GL N o (.mv d q):=by
 intro g w μ s s' a O hg hs;simp only[AI.step,oH]at hs;subst hs;have hrun:(execOp a.eval o).run P w= .ok (.value (a.eval x)) w:=by rcases hop with h|h<;>simp[execOp,h]
 have hr:=(hg.gd P).ev hk;refine⟨a.eval x,w,g,μ,.inl hrun,?_,Chg.refl _ _ _,oQ _⟩;rw[ho];have N9:(∀k,Af (q.ev s.e) (a.eval x) k=none)→Gs GL N g w μ ⟨(d,q.ev s.e)::s.e,s.h⟩ (a.put (some d) (a.eval x)) O:=λh0=>hg.set hd hr h0;cases q with
 |t n mv=>
  cases mv with
  |false=>exact N9 λk=>Bw _ _ _
  |true=>
   cases x with
   |tmp n'=>
    have:n'=n:=by simpa[oe]using hk
    subst this;refine⟨?_,hg.glob,by rw[BD,hg.sz]⟩;rw[Db _ (hg.sz▸hd)];have:=hg.inv.move (d:=d) (s:=n');have e1:(λm=>if d=m then a.eval (.tmp n') else a.tmps.getD m undef)=λn=>if d=n then a.tmps.getD n' undef else if n'=n then a.tmps.getD n' undef else a.tmps.getD n undef:=by
     funext m
     by_cases h1:d=m
     ·simp[h1,Act.eval]
     ·by_cases h2:n'=m
      ·subst h2;simp[h1]
      ·simp[h1,h2]
    rw[e1];have e2:AG ((d,Opd.ev s.e (.t n' true))::Opd.clear s.e (.t n' true))=λn=>if d=n then AG s.e n' else if n'=n then (AG s.e n').copy else AG s.e n:=rfl;rw[e2];exact this
   |const v=>simp[oe]at hk
   |global g=>simp[oe]at hk
   |func f=>simp[oe]at hk
 |c dd=>
  refine N9 λk=>?_;cases x with
  |tmp n=>simp[oe]at hk
  |global n=>simp[oe]at hk
  |const v=>
   rcases LC hk with hk|⟨cs,xs,rfl,rfl⟩
   case inr=>exact Bo _ _ _
   simp only[Opd.ev,Act.eval];unfold Ff at hk;split at hk
   ·cases k<;>simp[Af,Ac]
   ·cases k<;>simp[Af,Ac]
   ·exact Bo _ _ _
   ·cases hk
  |func f=>
   cases dd<;>simp[oe]at hk
   exact Bo _ _ _
 |g n cs=>exact N9 λk=>Bo _ _ _
theorem Gp (h:Ao Ff vs zs=true):
  All2 (RepE g w μ) zs vs∧(∀v∈vs,v.oneCell'=true)∧∀(i:Nat) z v,zs[i]?=some z→vs[i]?=some v→Ac z v=none:=by
 have key:∀v d,Ff v d=true→RepE g w μ d v∧v.oneCell'=true∧Ac d v=none:=by
  intro v d hvd;unfold Ff at hvd;split at hvd
  ·exact⟨⟨none,rfl,by simp⟩,rfl,rfl⟩
  ·exact⟨⟨.inl ⟨none,rfl,rfl,by simp⟩,λ_ _=>⟨none,rfl⟩⟩,rfl,rfl⟩
  ·exact⟨FG hvd,GN hvd,by simp[Ac]⟩
  ·cases hvd
 have ha:All2 (λd v=>RepE g w μ d v∧v.oneCell'=true∧Ac d v=none) zs vs:=CT (λv d h=>key v d h) h;refine⟨ha.imp λ_ _ h=>h.1,λv hv=>?_,λi z v hz hv=>(ha.2 i z v hz hv).2.2⟩;obtain⟨i,hi,rfl⟩:=qM.1 hv;have hi':i <zs.length:=ha.1▸hi;exact(ha.2 i _ _ (oI hi') (oI hi)).2.1
theorem Gs.newRow {g:Gh} {w:World} {μ:List Nat} {s:St} {a:Act} {O:Nat→Prop} (hg:Gs GL N g w μ s a O) {d:Nat} (hd:d <N) {zs:List D} {vs:List Value} (T:TypeId)
  (ha:All2 (RepE g w μ) zs vs) (h1:∀v∈vs,v.oneCell'=true) (h0:∀(i:Nat) z v,zs[i]?=some z→vs[i]?=some v→Ac z v=none):
  Gs GL N g (w.alloc (.cells vs.toArray T)) (μ++[w.heap.size]) ⟨(d,.ref s.h.length 0)::s.e,s.h++[.cells zs]⟩ (a.put (some d) (.pointer (some ⟨w.heap.size,0,none⟩))) O where
 inv:=by
  rw[Db _ (hg.sz▸hd)];refine(hg.inv.newRow T ha h1 h0).set ⟨w.heap.size,?_,rfl⟩ λk=>Kc _ _ _ _;rw[←hg.inv.len];simp
 glob:=hg.glob
 sz:=by rw[BD,hg.sz]
theorem UH {d:Nat} (ho:o.dst=some d) (hop:o.op= .alloc t) (hd:d <N) (hz:Fx P t zs=true):Dm P GL N o (.alloc d zs):=by
 intro g w μ s s' a O hg hs;simp only[AI.step,oH]at hs;subst hs;unfold Fx at hz;split at hz
 ·rename_i z hzz;cases hit:P.info? t with
  |none=>simp[hit]at hzz
  |some it=>
   have hz1:it.zero=some z:=by simpa[hit]using hzz
   obtain⟨r1,r2,r3⟩:=Gp (g:=g) (w:=w) (μ:=μ) hz;refine⟨_,_,g,_,.inl ?_,by rw[ho];exact hg.newRow hd t r1 r2 r3,By _ g w _,py _ _⟩;simp[execOp,hop,Instr.alloc,zeroValue,typeInfo,hit,hz1,newVar,newRow]
 ·cases hz
theorem MF (h:RepE g w μ d v) (h0:∀u,Ac d u=none):RepE g w μ d.toRow v∧Ac d.toRow v=none:=by
 cases d<;>first
  |exact⟨h,h0 v⟩
  |(obtain⟨a,rfl,hs⟩:=h
    exact⟨⟨.inl ⟨a,rfl,rfl,hs⟩,λ_ _=>⟨a,rfl⟩⟩,by cases a<;>simp[D.toRow,Ac]⟩)
theorem Mh (h:RepD g w μ d u) {cs:List D} (hc:d.cells?=some cs):
  All2 (RepE g w μ) (cs.map D.toRow) u.cells.toList∧(∀v∈u.cells.toList,v.oneCell'=true)∧∀(i:Nat) z v,(cs.map D.toRow)[i]?=some z→u.cells.toList[i]?=some v→Ac z v=none:=by
 obtain⟨h1,h2,h3⟩:=Tf h hc;refine⟨⟨by simp[h1.1],λi x v hx hv=>?_⟩,h2,λi z v hz hv=>?_⟩
 ·simp only[oX,oU]at hx;obtain⟨y,hy,rfl⟩:=hx;exact(MF (h1.2 i y v hy hv) (h3 y (oK hy))).1
 ·simp only[oX,oU]at hz;obtain⟨y,hy,rfl⟩:=hz;exact(MF (h1.2 i y v hy hv) (h3 y (oK hy))).2
theorem Yt {d:Nat} (ho:o.dst=some d) (hop:o.op= .box t x) (hd:d <N) (hk:oe GL x q=true):Dm P GL N o (.box d q):=by
 intro g w μ s s' a O hg hs;simp only[AI.step]at hs;split at hs
 ·rename_i cs hcs;simp only[oH]at hs;subst hs;obtain⟨r1,r2,r3⟩:=Mh ((hg.gd P).ev hk).copy hcs;refine⟨_,_,g,_,.inl ?_,by rw[ho];exact hg.newRow hd t r1 r2 r3,By _ g w _,py _ _⟩;simp[execOp,hop,Instr.box,newVar,newRow]
 ·cases hs
theorem DU (O:Nat→Prop) (hg:Gs GL N g w μ s a O) (hb:b∈μ):∀x,x=b→¬O x:=λx hx=>hx▸hg.inv.mo b hb
theorem SP {p':Opd} (ho:o.dst=none) (hop:o.op= .store t p x) (hp:oe GL p p'=true) (hk:oe GL x q=true) (hsz:BZ P t n=true):
  Dm P GL N o (.store p' q n):=by
 intro g w μ s s' a O hg hs;simp only[AI.step]at hs;have hrp:=(hg.gd P).ev hp;have hrx:=(hg.gd P).ev hk;split at hs
 ·rename_i r off hc;rw[hc]at hrp;obtain⟨b,hb,hpv⟩:=hrp;have hbm:=oK hb;split at hs
  ·rename_i ds hr;obtain⟨vs,T,hheap,hall,hone,hgn⟩:=hg.inv.row hb hr;have hrun:∀u:Value,a.eval x=u→u.cells.size=n→off+n≤vs.length→(∀v∈u.cells.toList,v.oneCell'=true)→
     (execOp a.eval o).run P w= .ok .skip (w.setRow b (AO vs off u.cells.toList).toArray):=by
    intro u hu hun hl h1;have hst:=run_storeCells_at P b off T u.cells.toList 0 vs.toArray w hheap (by simp;omega) h1;simp only[ql]at hst;simp[execOp,hop,hpv,hu,Instr.storeAt,Instr.sureAddr,storeVar,Ba hsz,hun,AO]at hst ⊢;simp[hst]
   split at hs
   ·rename_i e sz xs hown;split at hs
    ·rename_i m;split at hs
     ·rename_i hcond;obtain⟨hlt,rfl⟩:=hcond;simp only[oH]at hs;subst hs;cases x with
      |tmp m'=>
       have:m'=m:=by simpa[oe]using hk
       subst this;have hfind:AG s.e m'= .own e sz xs:=by simpa[Opd.ev]using hown
       have hrep:RepOwn g w e sz xs (a.tmps.getD m' undef):=by have:=hg.inv.rep m';rw[hfind]at this;exact this.1
       have hone1:(a.tmps.getD m' undef).oneCell'=true:=by
        rcases hrep with ⟨a',h,_⟩|⟨_,_,_,_,h,_⟩<;>rw[h]<;>rfl
       have hcell:(a.tmps.getD m' undef).cells= #[a.tmps.getD m' undef]:=GP hone1;have hgive:=hg.inv.give hr hb hheap hlt hfind hone1;refine⟨undef,_,g,μ,.inr ⟨hrun (a.tmps.getD m' undef) rfl (by rw[hcell];rfl) (by rw[hall.1];omega) (by rw[hcell];simpa using hone1),rfl⟩,⟨?_,hg.glob,by rw[BD,hg.sz]⟩,?_,oQ _⟩
       ·rw[ho];refine Eq.mp ?_ hgive
        congr 1
        ·congr 1
         rw[hcell]
         congr 1
         have hlv:off <vs.length:=by rw[hall.1];exact hlt
         simp only[AO,oj,qP];rw[rx,if_pos hlv];simp
       ·exact(EN g w b _).mono (DU O hg hbm)
      |const v=>simp[oe]at hk
      |global g=>simp[oe]at hk
      |func f=>simp[oe]at hk
     ·cases hs
    ·cases hs
   ·rename_i bb e sz xs hown;split at hs
    ·rename_i m;split at hs
     ·rename_i hcond;obtain⟨hlt,rfl⟩:=hcond;simp only[oH]at hs;subst hs;cases x with
      |tmp m'=>
       have:m'=m:=by simpa[oe]using hk
       subst this;have hfind:AG s.e m'= .pend bb e sz xs:=by simpa[Opd.ev]using hown
       have hrep:RepE g w μ (.pend bb e sz xs) (a.tmps.getD m' undef):=by have:=hg.inv.rep m';rw[hfind]at this;exact this
       have hone1:(a.tmps.getD m' undef).oneCell'=true:=by
        obtain⟨cap,h,_⟩:=hrep;rw[h];rfl
       have hcell:(a.tmps.getD m' undef).cells= #[a.tmps.getD m' undef]:=GP hone1;have hgive:=hg.inv.giveD hr hb hheap hlt hfind hrep rfl hone1 (d1:= .pptr bb 0 xs.length) (λw'=>by
        obtain⟨cap,h,_⟩:=hrep;exact .inl ⟨rfl,cap,h⟩) (λj=>by cases j<;>simp[Af,Ac])
       refine⟨undef,_,g,μ,.inr ⟨hrun (a.tmps.getD m' undef) rfl (by rw[hcell];rfl) (by rw[hall.1];omega) (by rw[hcell];simpa using hone1),rfl⟩,⟨?_,hg.glob,by rw[BD,hg.sz]⟩,?_,oQ _⟩
       ·rw[ho];refine Eq.mp ?_ hgive
        congr 1
        ·congr 1
         rw[hcell]
         congr 1
         have hlv:off <vs.length:=by rw[hall.1];exact hlt
         simp only[AO,oj,qP];rw[rx,if_pos hlv];simp
       ·exact(EN g w b _).mono (DU O hg hbm)
      |const v=>simp[oe]at hk
      |global g=>simp[oe]at hk
      |func f=>simp[oe]at hk
     ·cases hs
    ·cases hs
   ·rename_i dd hne _;split at hs
    ·rename_i cs hcs;split at hs
     ·rename_i hcond;simp only[oH]at hs;subst hs;obtain⟨r1,r2,r3⟩:=Mh hrx.copy hcs;have hlen:(a.eval x).cells.size=n:=by have:=r1.1;simp at this;omega
      have hvl:vs.length=ds.length:=hall.1;have hcl:cs.length=n:=hcond.1;refine⟨undef,_,g,μ,.inr ⟨hrun (a.eval x) rfl hlen (by omega) r2,rfl⟩,⟨?_,hg.glob,by rw[BD,hg.sz]⟩,(EN g w b _).mono (DU O hg hbm),oQ _⟩;rw[ho];refine hg.inv.storeRow hr hb hheap _ (AO vs off (a.eval x).cells.toList) (hall.putL r1 off) (λv hv=>(K3 hv).elim (hone v) (r2 v)) ?_;intro i z v hz hv;rw[Fl _ _ _ (by simp;omega)]at hz hv;have hl1:(cs.map D.toRow).length=n:=by simp[hcl]
      have hl2:(a.eval x).cells.toList.length=n:=by simpa using hlen
      rw[hl1]at hz;rw[hl2]at hv;by_cases c1:i <off
      ·simp only[c1,if_true]at hz hv;exact .inr ⟨hz,hv⟩
      ·by_cases c2:i <off+n
       ·simp only[c1,c2,if_true,if_false]at hz hv;exact .inl (r3 _ z v hz hv)
       ·simp only[c1,c2,if_false]at hz hv;exact .inr ⟨hz,hv⟩
     ·cases hs
    ·cases hs
  ·cases hs
 ·cases hs
theorem UV {d:Nat} {p':Opd} (ho:o.dst=some d) (hop:o.op= .load t p) (hd:d <N) (hp:oe GL p p'=true) (hu:P.underlying t=some (.slice el)):
  Dm P GL N o (.take d p'):=by
 intro g w μ s s' a O hg hs;simp only[AI.step]at hs;have hrp:=(hg.gd P).ev hp;split at hs
 ·rename_i r off hc;rw[hc]at hrp;obtain⟨b,hb,hpv⟩:=hrp;split at hs
  ·rename_i ds hr;obtain⟨vs,T,hheap,hall,hone,hgn⟩:=hg.inv.row hb hr;split at hs
   ·rename_i e sz xs hk;simp only[oH]at hs;subst hs;obtain⟨v,hv,_⟩:=hall.get hk;have hcell:w.cell? ⟨b,off,none⟩=some v:=by simp[World.cell?,hheap,hv]
    have hcu:BF w μ r off=v:=DK hb hheap hv;refine⟨v,w,g,μ,.inl ?_,⟨?_,hg.glob,by rw[BD,hg.sz]⟩,Chg.refl _ _ _,oQ _⟩
    ·have hag:(isAgg t).run P w= .ok false w:=by simp[isAgg,run_underlying hu]
     simp[execOp,hop,hpv,Instr.loadAt,Instr.sureAddr,loadVar,hag,hcell]
    ·rw[ho,Db _ (hg.sz▸hd),←hcu];exact hg.inv.take hr hk
   ·cases hs
  ·cases hs
 ·cases hs
end
end
section
def BK (n:Nat) (vs:Nat→Value):List Value:=(List.range n).flatMap λi=>(vs i).cells.toList
theorem MV (n:Nat) (vs:Nat→Value):BK (n+1) vs=BK n vs++(vs n).cells.toList:=by simp[BK,po]
variable {n:Nat}
theorem Cy {s:Nat} {vs:Nat→Value} (h:∀i,i <n→(vs i).cells.size=s):(BK n vs).length=n*s:=by
 induction n with
 |zero=>simp[BK]
 |succ n ih=>rw[MV,oL,ih λi hi=>h i (by omega),pT];simp[h n (by omega)]
variable {i j:Nat}
theorem Dw {s:Nat} {vs:Nat→Value} (h:∀i,i <n→(vs i).cells.size=s) (hi:i <n) (hj:j <s):(BK n vs)[i*s+j]?=(vs i).cells.toList[j]?:=by
 induction n with
 |zero=>omega
 |succ n ih=>
  have hl:=Cy λi (hi:i <n)=>h i (by omega);rw[MV];by_cases h1:i <n
  ·have:i*s+j <n*s:=by
    have:(i+1)*s≤n*s:=qV s h1;rw[pT]at this;omega
   rw[ov (by rw[hl];exact this)];exact ih (λi hi=>h i (by omega)) h1
  ·have:i=n:=by omega
   subst this;rw[pC (by rw[hl];omega),hl]
   congr 1;omega
variable {v:Value}
theorem I9 {vs:Nat→Value} (h:v∈BK n vs):∃i,i <n∧v∈(vs i).cells.toList:=by
 simp only[BK,pP,oy]at h;exact h
theorem NT {s:Nat} {vs:Nat→Value} (hs:0 <s) (h:∀i,i <n→(vs i).cells.size=s) {f:Nat→Option Value} {o:Nat}
  (hf:∀i,i <n→∀(j:Nat) v,(vs i).cells.toList[j]?=some v→f (o+i*s+j)=some v):∀(k:Nat) v,(BK n vs)[k]?=some v→f (o+k)=some v:=by
 intro k v hv;have hl:=Cy h;have hk:=(oM.1 hv).1;rw[hl]at hk;have hq:k/s <n:=Nat.div_lt_of_lt_mul (by rw[Nat.mul_comm];exact hk);have hm:=Nat.mod_lt k hs;have he:k/s*s+k%s=k:=by rw[Nat.mul_comm];exact Nat.div_add_mod k s
 rw[←he,Dw h hq hm]at hv;have:=hf _ hq _ v hv
 rwa [Nat.add_assoc,he]at this
variable {src:Value} {by_ cap len t ty:Nat} {w:World} {xs:List V} {q:Opd} {x:Operand} {O:Nat→Prop} {a:Act} {s:St} {μ:List Nat} {g:Gh}
section
variable {P:Program} {GL:Aa} {N:Nat}
structure Src (P:Program) (w:World) (size:Nat) (src:Value) (n:Nat) (newc:List Value):Prop where
 len:∀w',(Builtin.lenOf src).run P w'= .ok n w'
 cells:(Builtin.firstCells size n src).run P w= .ok newc.toArray w
 drew:(Builtin.firstCells size n src).run P w.drew= .ok newc.toArray w.drew
theorem If {t2 e:Nat} {i:TypeInfo} {d2:TypeDesc} (ht:P.underlying t=some (.slice e)) (ht2:P.underlying t2=some d2) (hd2:∀k,d2≠ .int k) (hi:P.info? e=some i)
 {newc:List Value} (hsrc:Src P w i.size src 0 newc) (hn:newc=[]) (base:Option Addr) (len cap:Nat) (hc:len≤cap):
  (Builtin.append_ #[t,t2] ty #[.slice base len cap,src]).run P w= .ok (.slice base len cap) w:=by
 have hz:(match (generalizing:=false) d2 with| .int _=>true|_=>false)=false:=by cases d2<;>first|rfl|exact absurd rfl (hd2 _)
 cases base<;>simp[Builtin.append_,run_underlying ht,run_underlying ht2,sizeOf,typeInfo,hi,hz,hsrc.len,hsrc.cells,hc,hn,storeCells]
theorem Ig {t2 e:Nat} {i:TypeInfo} {d2:TypeDesc} (ht:P.underlying t=some (.slice e)) (ht2:P.underlying t2=some d2) (hd2:∀k,d2≠ .int k) (hi:P.info? e=some i)
 {newc:List Value} (hsrc:Src P w i.size src n newc) {g:Nat} {cur:Array Value} (hg:w.heap[g]?=some (.cells cur e (0,0))) (hroom:len+n≤cap)
  (hfit:len*i.size+newc.length≤cur.size) (h1:∀v∈newc,v.oneCell'=true):
  (Builtin.append_ #[t,t2] ty #[.slice (some ⟨g,0,none⟩) len cap,src]).run P w=
   .ok (.slice (some ⟨g,0,none⟩) (len+n) cap) (w.setRow g (AO cur.toList (len*i.size) newc).toArray):=by
 have hz:(match (generalizing:=false) d2 with| .int _=>true|_=>false)=false:=by cases d2<;>first|rfl|exact absurd rfl (hd2 _)
 have hst:=run_storeCells_at P g (len*i.size) e newc 0 cur w hg (by simpa using hfit) h1;simp only[ql]at hst;have hadd:(⟨g,0,none⟩:Addr).add (len*i.size)=⟨g,len*i.size,none⟩:=by rw[Ca rfl];simp
 simp[Builtin.append_,run_underlying ht,run_underlying ht2,sizeOf,typeInfo,hi,hz,hsrc.len,hsrc.cells,hroom,hadd,hst,AO]
theorem F2 {t2 e:Nat} {i:TypeInfo} {z:Value} {d2:TypeDesc} (ht:P.underlying t=some (.slice e)) (ht2:P.underlying t2=some d2) (hd2:∀k,d2≠ .int k) (hi:P.info? e=some i)
  (hz:i.zero=some z) {newc:List Value} (hsrc:Src P w i.size src n newc) {base:Option Addr} {olds:List Value}
  (hold:∀w',(∀b o,w'.cell? ⟨b,o,none⟩=w.cell? ⟨b,o,none⟩)→(Builtin.firstCells i.size len (.slice base len cap)).run P w'= .ok olds.toArray w')
  (hgr:cap <len+n) (h63:((len+n:Nat):Int)≤9223372036854775807) (hfit:Builtin.nextslicecap (len+n) cap*i.bytes≤281474976710656):
  (Builtin.append_ #[t,t2] ty #[.slice base len cap,src]).run P w=
   .ok (.slice (some ⟨w.heap.size,0,none⟩) (len+n) (grownCap w (len+n) cap e))
    (w.drew.alloc (.cells (olds.toArray++newc.toArray++Builtin.zeroCells z.cells (grownCap w (len+n) cap e-(len+n))) e)):=by
 have hzz:(match (generalizing:=false) d2 with| .int _=>true|_=>false)=false:=by cases d2<;>first|rfl|exact absurd rfl (hd2 _)
 have hn:¬(len+n≤cap):=by omega
 have h63':¬(9223372036854775807 <((len:Int)+(n:Int))):=by omega
 have h48':¬(281474976710656 <Builtin.nextslicecap (len+n) cap*i.bytes):=by omega
 have ho:=hold w.drew λ_ _=>rfl;simp[Builtin.append_,run_underlying ht,run_underlying ht2,sizeOf,typeInfo,zeroValue,hi,hz,hzz,hsrc.len,hn,h63',h48',Question.forced,ho,hsrc.drew,newRow,grownCap];rw[←Array.append_assoc];simp
theorem IM (h:AU n by_=true) (hc:cap <n):((n:Nat):Int)≤9223372036854775807∧Builtin.nextslicecap n cap*by_≤281474976710656:=by
 simp only[AU,decide_eq_true_eq]at h;exact⟨by omega,growslice_fits hc h.1⟩
theorem O5 (hg:Gs GL N g w μ s a O) {t2 e:Nat} {i:TypeInfo} {z:Value} {d2:TypeDesc}
  (ht:P.underlying t=some (.slice e)) (ht2:P.underlying t2=some d2) (hd2:∀k,d2≠ .int k) (hi:P.info? e=some i) (hz:i.zero=some z) (hzs:z.cells.size=i.size) (hs0:0 <i.size)
 (hk:oe GL x q=true) (hx:Dr e i.size (q.ev s.e)=some xs) (hmv:∀e' s' ys,q.ev s.e= .own e' s' ys→(∃m,q= .t m true)∨a.eval x= .slice none 0 0)
 {ys:List V} {vy:Nat→Value} (hsrc:Src P w i.size src ys.length (BK ys.length vy)) (hyr:∀j y,ys[j]?=some y→RepV g y (vy j)) (hyz:∀j,j <ys.length→(vy j).cells.size=i.size)
  (hy1:∀j,j <ys.length→∀v∈(vy j).cells.toList,v.oneCell'=true) (hroom:AU (xs.length+ys.length) i.bytes=true) {d:Nat} (hd:d <N):
  ∃v w' g',(Builtin.append_ #[t,t2] ty #[a.eval x,src]).run P w= .ok v w'∧Gs GL N g' w' μ ⟨(d,.own e i.size (xs++ys))::q.clear s.e,s.h⟩ (a.put (some d) v) O∧Chg (λb=>¬O b) g w g' w':=by
 have hfl:(BK ys.length vy).length=ys.length*i.size:=Cy hyz;have hf1:∀v∈BK ys.length vy,v.oneCell'=true:=λv hv=>by obtain⟨j,hj,hm⟩:=I9 hv;exact hy1 j hj v hm
 have hclear:AG (q.clear s.e)=AG s.e∨∃m,q= .t m true∧AG (q.clear s.e)=λn=>if m=n then (AG s.e m).copy else AG s.e n:=by
  cases q with
  |t m mv=>cases mv with
   |false=>exact .inl rfl
   |true=>exact .inr ⟨m,rfl,rfl⟩
  |c d=>exact .inl rfl
  |g n cs=>exact .inl rfl
 have hInvC:Inv g w μ (AG (q.clear s.e)) (λn=>a.tmps.getD n undef) s.h O:=by
  rcases hclear with h|⟨m,_,h⟩
  ·rw[h];exact hg.inv
  ·rw[h];refine hg.inv.weaken _ λn=>?_;by_cases hn:m=n
   ·subst hn;exact .inr ⟨λv h=>by simpa using RepD.copy h,λv k=>by simpa using Bw _ v k⟩
   ·exact .inl (by simp[hn])
 have newA:∀(base:Option Addr) (cap:Nat) (olds:List Value) (vs:Nat→Value),a.eval x= .slice base xs.length cap→cap <xs.length+ys.length→
   (∀j y,xs[j]?=some y→RepV g y (vs j))→(∀j,j <xs.length→(vs j).cells.size=i.size)→olds=BK xs.length vs→
   (∀w',(∀b o,w'.cell? ⟨b,o,none⟩=w.cell? ⟨b,o,none⟩)→(Builtin.firstCells i.size xs.length (.slice base xs.length cap)).run P w'= .ok olds.toArray w')→
   ∃v w' g',(Builtin.append_ #[t,t2] ty #[a.eval x,src]).run P w= .ok v w'∧Gs GL N g' w' μ ⟨(d,.own e i.size (xs++ys))::q.clear s.e,s.h⟩ (a.put (some d) v) O∧Chg (λb=>¬O b) g w g' w':=by
  intro base cap olds vs hev hgr hvr hvz hol hold;obtain⟨hf63,hfit⟩:=IM hroom hgr;have hrun:=F2 (ty:=ty) ht ht2 hd2 hi hz hsrc hold hgr hf63 hfit;have hge:=grownCap_ge w (xs.length+ys.length) cap e;have hol2:olds.length=xs.length*i.size:=by rw[hol];exact Cy hvz
  have hcl:(olds++BK ys.length vy).length=(xs.length+ys.length)*i.size:=by rw[oL,hol2,hfl,pT]
  let w':=w.drew.alloc (.cells (olds.toArray++(BK ys.length vy).toArray++Builtin.zeroCells z.cells (grownCap w (xs.length+ys.length) cap e-(xs.length+ys.length))) e)
  let g':=g.put w.heap.size 0 (olds++BK ys.length vy)
  have hnone:∀o,g.m w.heap.size o=none:=λo=>Gh.lt_of hg.inv.agree (oN _) o;have hgle:g.le g':=Gh.le_put _ λo _ _=>hnone o;have hheap:w'.heap[w.heap.size]?=some (.cells (olds.toArray++(BK ys.length vy).toArray++Builtin.zeroCells z.cells (grownCap w (xs.length+ys.length) cap e-(xs.length+ys.length))) e (0,0)):=
   heap_alloc_new w.drew _
  have hchg:Chg (λ_=>False) g w g' w':=
   ⟨hgle,by simp[w'],λb hb _=>heap_alloc_old w.drew _ b hb,λb hb _ o=>Gh.put_other (by omega) o,rfl,rfl⟩
  have hag:∀b o v,g'.m b o=some v→w'.cell? ⟨b,o,none⟩=some v:=by
   intro b o v hv;simp only[g',Gh.put]at hv;split at hv
   ·rename_i hc;obtain⟨rfl,_,hc2⟩:=hc;simp only[qy]at hv;rw[cell_of_row w' w.heap.size o _ e (0,0) hheap];simp only[←pV,Array.toList_append,oR];rw[←oR,ov (by simpa using hc2)];exact hv
   ·exact DL (w:=w.drew) hg.inv.agree _ b o v hv
  have hrep:RepOwn g' w' e i.size (xs++ys) (.slice (some ⟨w.heap.size,0,none⟩) (xs.length+ys.length) (grownCap w (xs.length+ys.length) cap e)):=by
   refine .inr ⟨w.heap.size,_,_,λj=>if j <xs.length then vs j else vy (j-xs.length),by rw[oL],by omega,hheap,by rw[oL];exact hge,?_,?_,?_,?_⟩
   ·simp only[Array.size_append,qn,size_zeroCells,hzs,hol2,hfl,←pT]
    congr 1;omega
   ·intro j y hj;by_cases hlt:j <xs.length
    ·simp only[hlt,if_true];rw[ov hlt]at hj;exact(hvr j y hj).mono hgle
    ·simp only[hlt,if_false];rw[pC (by omega)]at hj;exact(hyr _ y hj).mono hgle
   ·intro j hj;rw[oL]at hj;by_cases hlt:j <xs.length
    ·simp only[hlt,if_true];refine⟨hvz j hlt,λk v hv=>?_⟩;have hk:=(oM.1 hv).1;have hks:k <i.size:=by have:=hvz j hlt;simp at hk;omega
     have:=Gh.put_at g w.heap.size 0 (olds++BK ys.length vy) (j*i.size+k) v (by
      have hb:j*i.size+k <xs.length*i.size:=by
       have:(j+1)*i.size≤xs.length*i.size:=qV _ hlt;rw[pT]at this;omega
      rw[ov (by rw[hol2];exact hb),hol,Dw hvz hlt hks];exact hv)
     simpa using this
    ·simp only[hlt,if_false];have hjl:j-xs.length <ys.length:=by omega
     refine⟨hyz _ hjl,λk v hv=>?_⟩;have hk:=(oM.1 hv).1;have hks:k <i.size:=by have:=hyz _ hjl;simp at hk;omega
     have hje:j*i.size=xs.length*i.size+(j-xs.length)*i.size:=by rw[←pT];congr 1;omega
     have:=Gh.put_at g w.heap.size 0 (olds++BK ys.length vy) (j*i.size+k) v (by
      rw[pC (by rw[hol2];omega),hol2,show j*i.size+k-xs.length*i.size=(j-xs.length)*i.size+k by omega,Dw hyz hjl hks];exact hv)
     simpa using this
   ·intro o ho;simp only[g',Gh.put];rw[if_neg,hnone o];rw[hcl];rw[oL]at ho;omega
  refine⟨_,w',g',by rw[hev];exact hrun,⟨?_,hg.glob.mono hgle,by rw[BD,hg.sz]⟩,hchg.mono λ_ h=>h.elim⟩;rw[Db _ (hg.sz▸hd)];refine hInvC.newOwn hchg hag hrep (λh _=>by rw[←oL,h]at hgr;simp at hgr) λb hb=>?_;simp only[Ac]at hb;split at hb
  ·cases hb
  ·simp only[oH]at hb;omega
 have same:∀(base:Option Addr) (cap:Nat),a.eval x= .slice base xs.length cap→xs.length≤cap→ys=[]→
   (Gs GL N g w μ ⟨(d,.own e i.size (xs++ys))::q.clear s.e,s.h⟩ (a.put (some d) (a.eval x)) O)→
   ∃v w' g',(Builtin.append_ #[t,t2] ty #[a.eval x,src]).run P w= .ok v w'∧Gs GL N g' w' μ ⟨(d,.own e i.size (xs++ys))::q.clear s.e,s.h⟩ (a.put (some d) v) O∧Chg (λb=>¬O b) g w g' w':=by
  intro base cap hev hc hy0 hgs;subst hy0;exact⟨a.eval x,w,g,by rw[hev];exact If ht ht2 hd2 hi hsrc rfl base _ _ hc,hgs,Chg.refl _ _ _⟩
 have empty:∀base:Option Addr,a.eval x= .slice base 0 0→xs=[]→(∀y,base=some y→y.spot=none)→
   ∃v w' g',(Builtin.append_ #[t,t2] ty #[a.eval x,src]).run P w= .ok v w'∧Gs GL N g' w' μ ⟨(d,.own e i.size (xs++ys))::q.clear s.e,s.h⟩ (a.put (some d) v) O∧Chg (λb=>¬O b) g w g' w':=by
  intro base hev hx0 hsp;subst hx0;by_cases hy0:ys=[]
  ·refine same base 0 hev (oN _) hy0 ⟨?_,hg.glob,by rw[BD,hg.sz]⟩;rw[Db _ (hg.sz▸hd),hev];subst hy0;refine hInvC.set (x:= .own e i.size []) ⟨.inl ⟨base,rfl,rfl,hsp⟩,λ_ _=>⟨base,rfl⟩⟩ λk=>?_;cases k<;>cases base<;>simp[Af,Ac]
  ·have hpos:0 <ys.length:=List.length_pos_iff.2 hy0;refine newA base 0 [] (λ_=> .bool true) hev (by simpa using hpos) (by simp) (by simp) (by simp[BK]) λw' _=>?_;cases base<;>simp[Builtin.firstCells,loadCells,loadCellsFrom]
 have hrq:=(hg.gd P).ev hk;unfold Dr at hx;split at hx
 ·rename_i e' s' xs' hqe;split at hx
  ·rename_i hes;obtain⟨rfl,rfl⟩:=hes;simp only[oH]at hx;subst hx;rw[hqe]at hrq;have hne0:=hrq.2;rcases hrq.1 with ⟨base,hev,hx0,hsp⟩|⟨b,cap,cur,vs,hev,hcap,hheap,hlc,hcs,hvr,hvz,hvn⟩
   ·exact empty base hev hx0 hsp
   ·have hold:∀w',(∀b o,w'.cell? ⟨b,o,none⟩=w.cell? ⟨b,o,none⟩)→(Builtin.firstCells i.size xs'.length (.slice (some ⟨b,0,none⟩) xs'.length cap)).run P w'= .ok (BK xs'.length vs).toArray w':=by
     intro w' hw';refine run_firstCells_some (P:=P) w' i.size xs'.length ⟨b,0,none⟩ _ _ _ (Cy λj hj=>(hvz j hj).1) λk v hv=>?_;rw[Ca rfl,hw'];refine NT (f:=λo=>w.cell? ⟨b,o,none⟩) (o:=0) hs0 (λj hj=>(hvz j hj).1) (λj hj k v hv=>?_) k v hv;have:=hg.inv.agree b _ v ((hvz j hj).2 k v hv);simpa using this
    by_cases hrm:xs'.length+ys.length≤cap
    ·rcases hmv e' i.size xs' hqe with ⟨m,rfl⟩|hnil
     ·cases x with
      |tmp m'=>
       have hmm:m'=m:=by simpa[oe]using hk
       subst hmm;have hfind:AG s.e m'= .own e' i.size xs':=by simpa[Opd.ev]using hqe
       have hevt:a.tmps.getD m' undef= .slice (some ⟨b,0,none⟩) xs'.length cap:=hev;have hbo:Ac (AG s.e m') (a.tmps.getD m' undef)=some b:=by rw[hfind,hevt];simp[Ac];omega
       have hne:xs'++ys=[]→e'≠84→∃a:Option Addr,Value.slice (some ⟨b,0,none⟩) (xs'.length+ys.length) cap= .slice a 0 0:=λh h84=>by
        obtain⟨a',ha'⟩:=hne0 (List.append_eq_nil_iff.1 h).1 h84;rw[hev]at ha';simp at ha';omega
       have hfit:xs'.length*i.size+(BK ys.length vy).length≤cur.size:=by rw[hfl,hcs,←pT];exact qV _ hrm
       have hrun:=Ig (ty:=ty) ht ht2 hd2 hi hsrc hheap hrm hfit hf1
       let w':=w.setRow b (AO cur.toList (xs'.length*i.size) (BK ys.length vy)).toArray
       let g':=g.put b (xs'.length*i.size) (BK ys.length vy)
       have hgle:g.le g':=Gh.le_put _ λo h1 _=>hvn o h1;have hheap':w'.heap[b]?=some (.cells (AO cur.toList (xs'.length*i.size) (BK ys.length vy)).toArray e' (0,0)):=setRow_heap w b _ _ _ _ hheap;have hchg:Chg (λz=>z=b) g w g' w':=⟨hgle,by simp[w'],λb' _ hb'=>setRow_other w b b' _ hb',λb' _ hb' o=>Gh.put_other hb' o,rfl,rfl⟩;have hag:∀b' o v,g'.m b' o=some v→w'.cell? ⟨b',o,none⟩=some v:=by
        intro b' o v hv;by_cases hb':b'=b
        ·subst hb';rw[cell_of_row w' b' o _ _ _ hheap',←pV,qw,Fl _ _ _ (by simpa using hfit)];simp only[g',Gh.put]at hv;split at hv
         ·rename_i hc;rw[if_neg (by omega),if_pos hc.2.2];exact hv
         ·rename_i hc;have hc1:o <xs'.length*i.size:=by
           rcases om o (xs'.length*i.size)with h|h
           ·exact h
           ·rw[hvn o h]at hv;cases hv
          rw[if_pos hc1];have:=hg.inv.agree b' o v hv;rw[cell_of_row w b' o _ _ _ hheap]at this;rw[pV];exact this
        ·simp only[g',Gh.put_other hb']at hv;rw[World.cell?_of_block (a:=⟨b',o,none⟩) (setRow_other w b b' _ hb')];exact hg.inv.agree b' o v hv
       have hrep:RepOwn g' w' e' i.size (xs'++ys) (.slice (some ⟨b,0,none⟩) (xs'.length+ys.length) cap):=by
        refine .inr ⟨b,_,_,λj=>if j <xs'.length then vs j else vy (j-xs'.length),by rw[oL],hcap,hheap',by rw[oL];exact hrm,?_,?_,?_,?_⟩
        ·simp only[qn];rw[FR _ _ _ (by simpa using hfit)];simpa using hcs
        ·intro j y hj;by_cases hlt:j <xs'.length
         ·simp only[hlt,if_true];rw[ov hlt]at hj;exact(hvr j y hj).mono hgle
         ·simp only[hlt,if_false];rw[pC (by omega)]at hj;exact(hyr _ y hj).mono hgle
        ·intro j hj;rw[oL]at hj;by_cases hlt:j <xs'.length
         ·simp only[hlt,if_true];exact⟨(hvz j hlt).1,(hvz j hlt).2.mono hgle⟩
         ·simp only[hlt,if_false];have hjl:j-xs'.length <ys.length:=by omega
          refine⟨hyz _ hjl,λk v hv=>?_⟩;have hk:=(oM.1 hv).1;have hks:k <i.size:=by have:=hyz _ hjl;simp at hk;omega
          have hje:j*i.size=xs'.length*i.size+(j-xs'.length)*i.size:=by rw[←pT];congr 1;omega
          have:=Gh.put_at g b (xs'.length*i.size) (BK ys.length vy) ((j-xs'.length)*i.size+k) v (by rw[Dw hyz hjl hks];exact hv)
          rwa [←Nat.add_assoc,←hje]at this
        ·intro o ho;rw[oL,pT]at ho;simp only[g',Gh.put];rw[if_neg (by rw[hfl];omega)];exact hvn o (by omega)
       refine⟨_,w',g',by rw[hev];exact hrun,⟨?_,hg.glob.mono hgle,by rw[BD,hg.sz]⟩,hchg.mono λz hz ho=>?_⟩
       ·rw[Db _ (hg.sz▸hd)];have e2:AG ((d,D.own e' i.size (xs'++ys))::Opd.clear s.e (.t m' true))=λn=>if d=n then .own e' i.size (xs'++ys) else if m'=n then (AG s.e m').copy else AG s.e n:=rfl;rw[e2];exact hg.inv.growOwn (n:=m') hbo hchg hag hrep hne (by simp[Ac];omega)
       ·subst hz;exact(hg.inv.sep (.tmp m' 0) z (by
         simp only[CS,hfind,hevt,Af,Ac];rw[if_neg (by omega)])).2 ho
      |const v=>simp[oe]at hk
      |global g=>simp[oe]at hk
      |func f=>simp[oe]at hk
     ·rw[hnil]at hev;cases hev
    ·exact newA _ cap _ vs hev (by omega) hvr (λj hj=>(hvz j hj).1) rfl hold
  ·cases hx
 ·rename_i e' s' hqe;simp only[oH]at hx;rw[hqe]at hrq;obtain⟨base,hev,hsp⟩:=hrq;exact empty base hev hx.symm hsp
 ·cases hx
theorem Rs (hg:Gs GL N g w μ s a O) {t2 e:Nat} {i:TypeInfo} {z:Value} {d2:TypeDesc}
  (ht:P.underlying t=some (.slice e)) (ht2:P.underlying t2=some d2) (hd2:∀k,d2≠ .int k) (hi:P.info? e=some i) (hz:i.zero=some z) (hzs:z.cells.size=i.size) (hs0:0 <i.size)
 (hk:oe GL x q=true) (hx:Dr e i.size (q.ev s.e)=some xs) (hmv:∀e' s' ys,q.ev s.e= .own e' s' ys→(∃m,q= .t m true)∨a.eval x= .slice none 0 0)
 {vy:Nat→Value} (hsrc:Src P w i.size src 1 (BK 1 vy)) (hyz:∀j,j <1→(vy j).cells.size=i.size)
  (hy1:∀j,j <1→∀v∈(vy j).cells.toList,v.oneCell'=true) (hroom:AU (xs.length+1) i.bytes=true) {d:Nat} (hd:d <N):
  ∃v w' g' b,(Builtin.append_ #[t,t2] ty #[a.eval x,src]).run P w= .ok v w'∧Gs GL N g' w' μ ⟨(d,.pend b e i.size xs)::q.clear s.e,s.h⟩ (a.put (some d) v) O∧Chg (λb=>¬O b) g w g' w':=by
 have hfl:(BK 1 vy).length=1*i.size:=Cy hyz;have hf1:∀v∈BK 1 vy,v.oneCell'=true:=λv hv=>by obtain⟨j,hj,hm⟩:=I9 hv;exact hy1 j hj v hm
 have hclear:AG (q.clear s.e)=AG s.e∨∃m,q= .t m true∧AG (q.clear s.e)=λn=>if m=n then (AG s.e m).copy else AG s.e n:=by
  cases q with
  |t m mv=>cases mv with
   |false=>exact .inl rfl
   |true=>exact .inr ⟨m,rfl,rfl⟩
  |c d=>exact .inl rfl
  |g n cs=>exact .inl rfl
 have hInvC:Inv g w μ (AG (q.clear s.e)) (λn=>a.tmps.getD n undef) s.h O:=by
  rcases hclear with h|⟨m,_,h⟩
  ·rw[h];exact hg.inv
  ·rw[h];refine hg.inv.weaken _ λn=>?_;by_cases hn:m=n
   ·subst hn;exact .inr ⟨λv h=>by simpa using RepD.copy h,λv k=>by simpa using Bw _ v k⟩
   ·exact .inl (by simp[hn])
 have newA:∀(base:Option Addr) (cap:Nat) (olds:List Value) (vs:Nat→Value),a.eval x= .slice base xs.length cap→cap <xs.length+1→
   (∀j y,xs[j]?=some y→RepV g y (vs j))→(∀j,j <xs.length→(vs j).cells.size=i.size)→olds=BK xs.length vs→
   (∀w',(∀b o,w'.cell? ⟨b,o,none⟩=w.cell? ⟨b,o,none⟩)→(Builtin.firstCells i.size xs.length (.slice base xs.length cap)).run P w'= .ok olds.toArray w')→
   ∃v w' g' b,(Builtin.append_ #[t,t2] ty #[a.eval x,src]).run P w= .ok v w'∧Gs GL N g' w' μ ⟨(d,.pend b e i.size xs)::q.clear s.e,s.h⟩ (a.put (some d) v) O∧Chg (λb=>¬O b) g w g' w':=by
  intro base cap olds vs hev hgr hvr hvz hol hold;obtain⟨hf63,hfit⟩:=IM hroom hgr;have hrun:=F2 (ty:=ty) ht ht2 hd2 hi hz hsrc hold hgr hf63 hfit;have hge:=grownCap_ge w (xs.length+1) cap e;have hol2:olds.length=xs.length*i.size:=by rw[hol];exact Cy hvz
  let w':=w.drew.alloc (.cells (olds.toArray++(BK 1 vy).toArray++Builtin.zeroCells z.cells (grownCap w (xs.length+1) cap e-(xs.length+1))) e)
  let g':=g.put w.heap.size 0 olds
  have hnone:∀o,g.m w.heap.size o=none:=λo=>Gh.lt_of hg.inv.agree (oN _) o;have hgle:g.le g':=Gh.le_put _ λo _ _=>hnone o;have hheap:w'.heap[w.heap.size]?=some (.cells (olds.toArray++(BK 1 vy).toArray++Builtin.zeroCells z.cells (grownCap w (xs.length+1) cap e-(xs.length+1))) e (0,0)):=
   heap_alloc_new w.drew _
  have hchg:Chg (λ_=>False) g w g' w':=
   ⟨hgle,by simp[w'],λb hb _=>heap_alloc_old w.drew _ b hb,λb hb _ o=>Gh.put_other (by omega) o,rfl,rfl⟩
  have hag:∀b o v,g'.m b o=some v→w'.cell? ⟨b,o,none⟩=some v:=by
   intro b o v hv;simp only[g',Gh.put]at hv;split at hv
   ·rename_i hc;obtain⟨rfl,_,hc2⟩:=hc;simp only[qy]at hv;rw[cell_of_row w' w.heap.size o _ e (0,0) hheap];simp only[←pV,Array.toList_append,oR];rw[ov (by simpa using hc2)];simpa using hv
   ·exact DL (w:=w.drew) hg.inv.agree _ b o v hv
  have hrep:RepOwn g' w' e i.size xs (.slice (some ⟨w.heap.size,0,none⟩) xs.length (grownCap w (xs.length+1) cap e)):=by
   refine .inr ⟨w.heap.size,_,_,vs,rfl,by omega,hheap,by omega,?_,?_,?_,?_⟩
   ·simp only[Array.size_append,qn,size_zeroCells,hzs,hol2,hfl,←pT]
    congr 1;omega
   ·intro j y hj;exact(hvr j y hj).mono hgle
   ·intro j hlt;refine⟨hvz j hlt,λk v hv=>?_⟩;have hk:=(oM.1 hv).1;have hks:k <i.size:=by have:=hvz j hlt;simp at hk;omega
    have:=Gh.put_at g w.heap.size 0 olds (j*i.size+k) v (by rw[hol,Dw hvz hlt hks];exact hv);simpa using this
   ·intro o ho;simp only[g',Gh.put];rw[if_neg,hnone o];rw[hol2];omega
  refine⟨_,w',g',w.heap.size,by rw[hev];exact hrun,⟨?_,hg.glob.mono hgle,by rw[BD,hg.sz]⟩,hchg.mono λ_ h=>h.elim⟩;rw[Db _ (hg.sz▸hd)];exact hInvC.newD (d0:= .pend w.heap.size e i.size xs) hchg hag ⟨_,rfl,hge,hrep⟩ (λk=>by cases k<;>rfl) λb hb=>by
   simp only[Ac,oH]at hb;omega
 have hrq:=(hg.gd P).ev hk;have empty:∀base:Option Addr,a.eval x= .slice base 0 0→xs=[]→(∀y,base=some y→y.spot=none)→
   ∃v w' g' b,(Builtin.append_ #[t,t2] ty #[a.eval x,src]).run P w= .ok v w'∧Gs GL N g' w' μ ⟨(d,.pend b e i.size xs)::q.clear s.e,s.h⟩ (a.put (some d) v) O∧Chg (λb=>¬O b) g w g' w':=by
  intro base hev hx0 hsp;subst hx0;refine newA base 0 [] (λ_=> .bool true) hev (by simp) (by simp) (by simp) (by simp[BK]) λw' _=>?_;cases base<;>simp[Builtin.firstCells,loadCells,loadCellsFrom]
 unfold Dr at hx;split at hx
 ·rename_i e' s' xs' hqe;split at hx
  ·rename_i hes;obtain⟨rfl,rfl⟩:=hes;simp only[oH]at hx;subst hx;rw[hqe]at hrq;have hne0:=hrq.2;rcases hrq.1 with ⟨base,hev,hx0,hsp⟩|⟨b,cap,cur,vs,hev,hcap,hheap,hlc,hcs,hvr,hvz,hvn⟩
   ·exact empty base hev hx0 hsp
   ·have hold:∀w',(∀b o,w'.cell? ⟨b,o,none⟩=w.cell? ⟨b,o,none⟩)→(Builtin.firstCells i.size xs'.length (.slice (some ⟨b,0,none⟩) xs'.length cap)).run P w'= .ok (BK xs'.length vs).toArray w':=by
     intro w' hw';refine run_firstCells_some (P:=P) w' i.size xs'.length ⟨b,0,none⟩ _ _ _ (Cy λj hj=>(hvz j hj).1) λk v hv=>?_;rw[Ca rfl,hw'];refine NT (f:=λo=>w.cell? ⟨b,o,none⟩) (o:=0) hs0 (λj hj=>(hvz j hj).1) (λj hj k v hv=>?_) k v hv;have:=hg.inv.agree b _ v ((hvz j hj).2 k v hv);simpa using this
    by_cases hrm:xs'.length+1≤cap
    ·rcases hmv e' i.size xs' hqe with ⟨m,rfl⟩|hnil
     ·cases x with
      |tmp m'=>
       have hmm:m'=m:=by simpa[oe]using hk
       subst hmm;have hfind:AG s.e m'= .own e' i.size xs':=by simpa[Opd.ev]using hqe
       have hevt:a.tmps.getD m' undef= .slice (some ⟨b,0,none⟩) xs'.length cap:=hev;have hbo:Ac (AG s.e m') (a.tmps.getD m' undef)=some b:=by rw[hfind,hevt];simp[Ac];omega
       have hfit:xs'.length*i.size+(BK 1 vy).length≤cur.size:=by rw[hfl,hcs,←pT];exact qV _ hrm
       have hrun:=Ig (ty:=ty) ht ht2 hd2 hi hsrc hheap hrm hfit hf1
       let w':=w.setRow b (AO cur.toList (xs'.length*i.size) (BK 1 vy)).toArray
       have hheap':w'.heap[b]?=some (.cells (AO cur.toList (xs'.length*i.size) (BK 1 vy)).toArray e' (0,0)):=setRow_heap w b _ _ _ _ hheap;have hchg:Chg (λz=>z=b) g w g w':=⟨Gh.le.refl g,by simp[w'],λb' _ hb'=>setRow_other w b b' _ hb',λb' _ hb' o=>rfl,rfl,rfl⟩;have hag:∀b' o v,g.m b' o=some v→w'.cell? ⟨b',o,none⟩=some v:=by
        intro b' o v hv;by_cases hb':b'=b
        ·subst hb';rw[cell_of_row w' b' o _ _ _ hheap',←pV,qw,Fl _ _ _ (by simpa using hfit)];have hc1:o <xs'.length*i.size:=by
          rcases om o (xs'.length*i.size)with h|h
          ·exact h
          ·rw[hvn o h]at hv;cases hv
         rw[if_pos hc1];have:=hg.inv.agree b' o v hv;rw[cell_of_row w b' o _ _ _ hheap]at this;rw[pV];exact this
        ·rw[World.cell?_of_block (a:=⟨b',o,none⟩) (setRow_other w b b' _ hb')];exact hg.inv.agree b' o v hv
       have hrep:RepOwn g w' e' i.size xs' (.slice (some ⟨b,0,none⟩) xs'.length cap):=by
        refine .inr ⟨b,_,_,vs,rfl,hcap,hheap',by omega,?_,hvr,hvz,hvn⟩;simp only[qn];rw[FR _ _ _ (by simpa using hfit)];simpa using hcs
       refine⟨_,w',g,b,by rw[hev];exact hrun,⟨?_,hg.glob,by rw[BD,hg.sz]⟩,hchg.mono λz hz ho=>?_⟩
       ·rw[Db _ (hg.sz▸hd)];have e2:AG ((d,D.pend b e' i.size xs')::Opd.clear s.e (.t m' true))=λn=>if d=n then .pend b e' i.size xs' else if m'=n then (AG s.e m').copy else AG s.e n:=rfl;rw[e2];exact hg.inv.growD (n:=m') (d0:= .pend b e' i.size xs') hbo hchg hag ⟨_,rfl,hrm,hrep⟩ (λk=>by cases k<;>rfl) rfl
       ·subst hz;exact(hg.inv.sep (.tmp m' 0) z (by
         simp only[CS,hfind,hevt,Af,Ac];rw[if_neg (by omega)])).2 ho
      |const v=>simp[oe]at hk
      |global g=>simp[oe]at hk
      |func f=>simp[oe]at hk
     ·rw[hnil]at hev;cases hev
    ·exact newA _ cap _ vs hev (by omega) hvr (λj hj=>(hvz j hj).1) rfl hold
  ·cases hx
 ·rename_i e' s' hqe;simp only[oH]at hx;rw[hqe]at hrq;obtain⟨base,hev,hsp⟩:=hrq;exact empty base hev hx.symm hsp
 ·cases hx
end
end
section
variable {u:Value} {w:World} {g:Gh} {by_ n t:Nat} {q:Opd} {x y:Operand} {O:Nat→Prop} {a:Act} {s:St} {μ:List Nat} {o:Oper}
section
variable {P:Program} {GL:Aa} {N:Nat}
theorem Ib (hag:∀b o v,g.m b o=some v→w.cell? ⟨b,o,none⟩=some v) {ys:List V} (h:RepV g (.list ys) u) {s:Nat} (hs:0 <s) (hh:BM s ys=true):
  ∃vy,Src P w s u ys.length (BK ys.length vy)∧(∀j y,ys[j]?=some y→RepV g y (vy j))∧(∀j,j <ys.length→(vy j).cells.size=s)∧∀j,j <ys.length→∀v∈(vy j).cells.toList,v.oneCell'=true:=by
 cases h with
 |lnil=>
  refine⟨λ_=> .bool true,⟨λw'=>by simp[Builtin.lenOf],by simp[Builtin.firstCells,BK],by simp[Builtin.firstCells,BK]⟩,by simp,by simp,by simp⟩
 |list _ a cap s' vs hsp hc hr hz=>
  have hss:0 <ys.length→s'=s:=by
   intro h0;have hx0:ys[0]?=some ys[0]:=oI _;have h1:ys.head?=some ys[0]:=by rw[List.head?_eq_getElem?];exact hx0
   simp[BM,h1]at hh;have h3:=(hr 0 _ hx0).cells.1.1;have h4:=(hz 0 h0).1;simp at h3;omega
  have hzz:∀j,j <ys.length→(vs j).cells.size=s:=λj hj=>by rw[←hss (by omega)];exact(hz j hj).1
  have hcells:∀w',(∀b o,w'.cell? ⟨b,o,none⟩=w.cell? ⟨b,o,none⟩)→(Builtin.firstCells s ys.length (.slice (some a) ys.length cap)).run P w'= .ok (BK ys.length vs).toArray w':=by
   intro w' hw';refine run_firstCells_some (P:=P) w' s ys.length a _ _ _ (Cy hzz) λk v hv=>?_;rw[Ca hsp,hw'];refine NT (f:=λo=>w.cell? ⟨a.block,o,none⟩) (o:=a.off) hs hzz (λj hj k v hv=>?_) k v hv;have h2:=(hz j hj).2;rw[hss (by omega)]at h2;exact hag _ _ v (h2 k v hv)
  refine⟨vs,⟨λw'=>by simp[Builtin.lenOf],hcells w λ_ _=>rfl,hcells w.drew λ_ _=>rfl⟩,hr,hzz,λj hj v hv=>?_⟩;have hj':ys[j]?=some ys[j]:=oI hj;exact(hr j _ hj').cells.2 v hv
def Fd (P:Program) (e s by_:Nat):Bool:=
 match P.info? e with
 |some i=>i.size==s&&i.bytes==by_&&decide (0 <s)&&(match i.zero with|some z=>z.cells.size==s|none=>false)
 |none=>false
theorem FF {e s:Nat} (h:Fd P e s by_=true):∃i z,P.info? e=some i∧i.size=s∧i.bytes=by_∧0 <i.size∧i.zero=some z∧z.cells.size=i.size:=by
 unfold Fd at h;split at h
 ·rename_i i hi;simp only[oJ,beq_iff_eq,decide_eq_true_eq]at h;obtain⟨⟨⟨rfl,rfl⟩,h0⟩,hz⟩:=h;split at hz
  ·rename_i z hzz;exact⟨i,z,hi,rfl,rfl,h0,hzz,by simpa using hz⟩
  ·cases hz
 ·cases h
def Da (P:Program) (t e:Nat):Bool:=match P.underlying t with|some (.slice e')=>e==e'|_=>false
theorem DE {e:Nat} (h:Da P t e=true):P.underlying t=some (.slice e):=by
 unfold Da at h;split at h
 ·rename_i e' he;have:e=e':=by simpa using h
  rw[this];exact he
 ·cases h
def Eh (q:Opd):Bool:=match q with| .t _ mv=>mv| .c (.own _ _ [])=>true| .c (.nil _ _)=>true|_=>false
theorem Nf (hg:Gs GL N g w μ s a O) (hk:oe GL x q=true) (hb:Eh q=true):
  ∀e' s' ys,q.ev s.e= .own e' s' ys→(∃m,q= .t m true)∨a.eval x= .slice none 0 0:=by
 intro e' s' ys hq;cases q with
 |t m mv=>
  simp only[Eh]at hb;subst hb;exact .inl ⟨m,rfl⟩
 |c d=>
  simp only[Opd.ev]at hq;subst hq;cases x with
  |const v=>
   right
   rcases LC hk with hk|⟨cs,xs,rfl,hq⟩
   case inr=>cases hq
   unfold Ff at hk;split at hk<;>first|rfl|(rename_i h _;cases h)|cases hk
   all_goals simp_all [Act.eval]
  |tmp n=>simp[oe]at hk
  |global n=>simp[oe]at hk
  |func f=>simp[oe]at hk
 |g n cs=>simp[Opd.ev]at hq
theorem Y4 {d:Nat} {r:Opd} {t2 e s e2:Nat} (ho:o.dst=some d) (hop:o.op= .call {callee:= .builtin .append,args:= #[x,y],argTypes:= #[t,t2]}) (hd:d <N)
  (hk:oe GL x q=true) (hk2:oe GL y r=true) (hb:Eh q=true) (ht:Da P t e=true) (ht2:Da P t2 e2=true) (he:Fd P e s by_=true):Dm P GL N o (.app d q r e s by_):=by
 intro g w μ st st' a O hg hs;obtain⟨i,z,hi,rfl,rfl,h0,hz,hzs⟩:=FF he;simp only[AI.step]at hs;split at hs
 ·rename_i xs ys hx hy;split at hs
  ·rename_i hcond;simp only[oH]at hs;subst hs;have hry:=CW ((hg.gd P).ev hk2) hy;obtain⟨vy,h1,h2,h3,h4⟩:=Ib (P:=P) hg.inv.agree hry h0 hcond.1;obtain⟨v,w',g',hrun,hgs,hch⟩:=O5 hg (ty:=o.type) (DE ht) (DE ht2) (by simp) hi hz hzs h0 hk hx (Nf hg hk hb) h1 h2 h3 h4 hcond.2 hd;exact⟨v,w',g',μ,.inl (by simp[execOp,hop,resolve,invoke,builtin,hrun]),by rw[ho];exact hgs,hch,oQ _⟩
  ·cases hs
 ·cases hs
theorem UY (w:World) (b:ByteArray):Src P w 1 (.string b) (b.data.toList.map λc=>V.int .u8 c.toNat).length (BK (b.data.toList.map λc=>V.int .u8 c.toNat).length λj=> .int .u8 ((b.data.toList[j]?.map (·.toNat)).getD 0:Nat)):=by
 have hfl:BK (b.data.toList.map λc=>V.int .u8 c.toNat).length (λj=>Value.int .u8 ((b.data.toList[j]?.map (·.toNat)).getD 0:Nat))=b.data.toList.map λc=>Value.int .u8 c.toNat:=by
  apply pe;intro k;have hl:=Cy (s:=1) (n:=(b.data.toList.map λc=>V.int .u8 c.toNat).length) (vs:=λj=>Value.int .u8 ((b.data.toList[j]?.map (·.toNat)).getD 0:Nat)) (λ_ _=>by simp[Value.cells]);by_cases hk:k <b.data.toList.length
  ·have:=Dw (s:=1) (n:=(b.data.toList.map λc=>V.int .u8 c.toNat).length) (vs:=λj=>Value.int .u8 ((b.data.toList[j]?.map (·.toNat)).getD 0:Nat)) (λ_ _=>by simp[Value.cells]) (i:=k) (j:=0) (by simpa using hk) (by omega);simp only[Nat.mul_one,ql]at this;rw[this];simp[Value.cells,oI hk]
  ·rw[pN (by rw[hl];simp at hk ⊢;omega),pN (by simp at hk ⊢;omega)]
 rw[hfl];have hx:∀w',(Builtin.firstCells 1 (b.data.toList.map λc=>V.int .u8 c.toNat).length (.string b)).run P w'= .ok (b.data.toList.map λc=>Value.int .u8 c.toNat).toArray w':=by
  intro w';have hsz:(b.data.toList.map λc=>V.int .u8 c.toNat).length=b.size:=by simp
  rw[hsz];simp only[Builtin.firstCells,Sem.run_pure]
  congr 1
  have:b.extract 0 b.size=b:=by simp
  rw[this];rw[←pj];simp
 exact⟨λw'=>by simp[Builtin.lenOf],hx w,hx w.drew⟩
theorem bx (h:FO P t (λ| .string=>true|_=>false)=true):P.underlying t=some .string:=Df h
theorem Vm {d:Nat} {r:Opd} {t2 e:Nat} (ho:o.dst=some d) (hop:o.op= .call {callee:= .builtin .append,args:= #[x,y],argTypes:= #[t,t2]}) (hd:d <N)
  (hk:oe GL x q=true) (hk2:oe GL y r=true) (hb:Eh q=true) (ht:Da P t e=true) (ht2:FO P t2 (λ| .string=>true|_=>false)=true) (he:Fd P e 1 by_=true):
  Dm P GL N o (.appS d q r e by_):=by
 intro g w μ st st' a O hg hs;obtain⟨i,z,hi,hi1,rfl,h0,hz,hzs⟩:=FF he;simp only[AI.step]at hs;split at hs
 ·rename_i xs b hx hy;split at hs
  ·rename_i hcond;simp only[oH]at hs;subst hs;have hry:=(hg.gd P).ev hk2;rw[hy]at hry;have hyv:=F3 hry;have hsrc:=UY (P:=P) w b;rw[←hi1]at hsrc hx;obtain⟨v,w',g',hrun,hgs,hch⟩:=O5 hg (ty:=o.type) (DE ht) (Df ht2) (by simp) hi hz hzs h0 hk hx (Nf hg hk hb) hsrc
    (λj y hj=>by
     simp only[oX,oU]at hj;obtain⟨c,hc,rfl⟩:=hj;simp only[hc,o9,og];exact .int _ _)
    (λj _=>by rw[hi1];simp[Value.cells]) (λj _ v hv=>by simp[Value.cells]at hv;rw[hv];rfl) (by simpa using hcond) hd
   rw[hi1]at hgs;exact⟨v,w',g',μ,.inl (by simp[execOp,hop,resolve,invoke,builtin,hyv,hrun]),by rw[ho];exact hgs,hch,oQ _⟩
  ·cases hs
 ·cases hs
theorem Nr {g:Gh} {w:World} {μ:List Nat} {st:St} {a:Act} {h:List Row} {O:Nat→Prop} (hg:Gd P GL g w μ st.e a h O):∀ {ps:List Operand} {qs:List Opd} {vs:List V},Ao (oe GL) ps qs=true→IE st.e qs=some vs→
  All2 (RepV g) vs (ps.map a.eval)
 |[],[],vs,_,hv=>by simp only[IE,oH]at hv;subst hv;exact .nil
 |p::ps,q::qs,vs,hk,hv=>by
  simp only[Ao,oJ]at hk;simp only[IE]at hv;split at hv
  ·rename_i x xs hx hxs;simp only[oH]at hv;subst hv;exact .cons (CW (hg.ev hk.1) hx) (Nr hg hk.2 hxs)
  ·cases hv
 |[],_::_,_,hk,_=>by simp[Ao]at hk
 |_::_,[],_,hk,_=>by simp[Ao]at hk
def GF (GL:Aa):Nat→List (Nat×Operand)→List Opd→Bool
 |_,[],[]=>true
 |k,p::ps,q::qs=>p.1==k&&oe GL p.2 q&&GF GL (k+1) ps qs
 |_,_,_=>false
theorem J8:∀ {k:Nat} {ps:List (Nat×Operand)} {qs:List Opd},GF GL k ps qs=true→Ao (oe GL) (ps.map (·.2)) qs=true∧∀f:Operand→Value,ps.map (λp=>(p.1,f p.2))=((ps.map λp=>f p.2).zipIdx k).map λx=>(x.2,x.1)
 |_,[],[],_=>⟨rfl,λ_=>rfl⟩
 |k,p::ps,q::qs,h=>by
  simp only[GF,oJ,beq_iff_eq]at h;obtain⟨⟨h1,h2⟩,h3⟩:=h;obtain⟨r1,r2⟩:=J8 h3;refine⟨by simp[Ao,h2,r1],λf=>?_⟩;simp only[oV,rt,h1,r2 f]
 |_,[],_::_,h=>by simp[GF]at h
 |_,_::_,[],h=>by simp[GF]at h
theorem Ys {d e s:Nat} {ps:Array (Nat×Operand)} {qs:List Opd} (ho:o.dst=some d) (hop:o.op= .buildSlice t n ps) (hd:d <N) (ht:Da P t e=true) (he:Fd P e s by_=true)
  (hn:ps.toList.length=n) (hsm:n*s≤2^24) (hk:GF GL 0 ps.toList qs=true):Dm P GL N o (.bsl d e s qs):=by
 intro g w μ st st' a O hg hs;obtain⟨i,z,hi,rfl,rfl,h0,hz,hzs⟩:=FF he;obtain⟨k1,k2⟩:=J8 hk;simp only[AI.step]at hs;split at hs
 ·rename_i vs hvs;split at hs
  ·rename_i hall;have hrep:=Nr (hg.gd P) k1 hvs;have hlen:vs.length=n:=by have:=hrep.1;simp at this;rw[←hn];simp;omega
   have hparts:(ps.map λp=>(p.1,a.eval p.2)).toList=(((ps.toList.map λp=>a.eval p.2)).zipIdx 0).map λx=>(x.2,x.1):=by
    rw[Array.toList_map];exact k2 a.eval
   have hmm:(ps.toList.map (·.2)).map a.eval=ps.toList.map λp=>a.eval p.2:=by simp
   rw[hmm]at hrep;have hpl:(ps.toList.map λp=>a.eval p.2).length=n:=by simpa using hn
   have hcell:∀(j:Nat) (v:Value) (x:V),(ps.toList.map λp=>a.eval p.2)[j]?=some v→vs[j]?=some x→v.cells.size=i.size:=by
    intro j v x hv hx;have h1:=(hrep.2 j x v hx hv).cells.1.1;have h2:=oY.1 hall x (oK hx);simp at h1 h2;omega
   cases vs with
   |nil=>
    simp only[oH]at hs;subst hs;have hn0:n=0:=by simpa using hlen.symm
    subst hn0;have hp0:ps= #[]:=by rw[←pj];simpa using pK hn
    subst hp0;have hch:=By (λ_=>False) g w (.cells #[] e);refine⟨.slice (some ⟨w.heap.size,0,none⟩) 0 0,w.alloc (.cells #[] e),g,μ,.inl ?_,?_,hch.mono λ_ h=>h.elim,oQ _⟩
    ·simp[execOp,hop,Instr.buildSlice,run_underlying (DE ht),sizeOf,typeInfo,hi,Instr.fill,newRow,show Array.range 0= #[] from rfl]
    ·rw[ho];have h2:Gs GL N g (w.alloc (.cells #[] e)) μ st a O:=⟨hg.inv.chg hch (DL hg.inv.agree _),hg.glob,hg.sz⟩;refine h2.set hd ⟨_,rfl,λx hx=>by cases hx;rfl⟩ λk=>by cases k<;>simp[Af,Ac]
   |cons x0 xs0=>
    simp only[oH]at hs;subst hs;have hn0:0 <n:=by simp at hlen;omega
    let vv:Nat→Value:=λj=>((ps.toList.map λp=>a.eval p.2)[j]?).getD (.bool true)
    have hvz:∀j,j <n→(vv j).cells.size=i.size:=by
     intro j hj;have e1:(ps.toList.map λp=>a.eval p.2)[j]?=some (ps.toList.map λp=>a.eval p.2)[j]:=oI (by omega);have e2:(x0::xs0)[j]?=some (x0::xs0)[j]:=oI (by omega);simp only[vv,e1,og];exact hcell j _ _ e1 e2
    have hfl:((ps.toList.map λp=>a.eval p.2).flatMap λv=>v.cells.toList)=BK n vv:=by
     have:(ps.toList.map λp=>a.eval p.2)=(List.range n).map vv:=by
      apply pe;intro j;by_cases hj:j <n
      ·have e1:(ps.toList.map λp=>a.eval p.2)[j]?=some (ps.toList.map λp=>a.eval p.2)[j]:=oI (by omega);rw[e1,oX (l:=List.range n),qI hj];simp only[o9,vv,e1,og]
      ·rw[pN (by omega),pN (by simp;omega)]
     rw[this,BK,ry]
    have hfill:=Great.fill_whole h0 (ps.toList.map λp=>a.eval p.2) ((Array.range (n*i.size)).map (z.cells[· %z.cells.size]!)) (λv hv=>by
     obtain⟨j,hj,rfl⟩:=qM.1 hv;have e1:(ps.toList.map λp=>a.eval p.2)[j]?=some (ps.toList.map λp=>a.eval p.2)[j]:=oI hj;have e2:(x0::xs0)[j]?=some (x0::xs0)[j]:=oI (by omega);exact hcell j _ _ e1 e2) (by rw[hpl];simp)
    rw[hfl,←hparts]at hfill;have hns:¬n*i.size>2^24:=by omega
    have hnp:¬n*i.size=0:=by
     intro h;rcases Nat.mul_eq_zero.1 h with h|h<;>omega
    have hrun:=run_buildSlice (P:=P) w t e n _ _ i z (DE ht) hi hz hns hnp hfill
    let w':=w.alloc (.cells (BK n vv).toArray e)
    let g':=g.put w.heap.size 0 (BK n vv)
    have hnone:∀o,g.m w.heap.size o=none:=λo=>Gh.lt_of hg.inv.agree (oN _) o;have hgle:g.le g':=Gh.le_put _ λo _ _=>hnone o;have hheap:w'.heap[w.heap.size]?=some (.cells (BK n vv).toArray e (0,0)):=heap_alloc_new w _;have hchg:Chg (λ_=>False) g w g' w':=⟨hgle,by simp[w'],λb hb _=>heap_alloc_old w _ b hb,λb hb _ o=>Gh.put_other (by omega) o,rfl,rfl⟩;have hfll:(BK n vv).length=n*i.size:=Cy hvz;have hag:∀b o v,g'.m b o=some v→w'.cell? ⟨b,o,none⟩=some v:=by
     intro b o v hv;simp only[g',Gh.put]at hv;split at hv
     ·rename_i hc;obtain⟨rfl,_,hc2⟩:=hc;simp only[qy]at hv;rw[cell_of_row w' w.heap.size o _ e (0,0) hheap];simpa using hv
     ·exact DL hg.inv.agree _ b o v hv
    have hown:RepOwn g' w' e i.size (x0::xs0) (.slice (some ⟨w.heap.size,0,none⟩) n n):=by
     refine .inr ⟨w.heap.size,n,_,vv,by rw[hlen],hn0,hheap,by omega,by simpa using hfll,?_,?_,?_⟩
     ·intro j x hx;have hj:=(oM.1 hx).1;have e1:(ps.toList.map λp=>a.eval p.2)[j]?=some (ps.toList.map λp=>a.eval p.2)[j]:=oI (by omega);have:=hrep.2 j x _ hx e1;simp only[vv,e1,og];exact this.mono hgle
     ·intro j hj;have hjn:j <n:=by omega
      refine⟨hvz j hjn,λk v hv=>?_⟩;have hks:k <i.size:=by have:=hvz j hjn;have:=(oM.1 hv).1;simp at this;omega
      have:=Gh.put_at g w.heap.size 0 (BK n vv) (j*i.size+k) v (by rw[Dw hvz hjn hks];exact hv);simpa using this
     ·intro o ho;simp only[g',Gh.put];rw[if_neg (by rw[hfll];rw[hlen]at ho;omega),hnone o]
    refine⟨.slice (some ⟨w.heap.size,0,none⟩) n n,w',g',μ,.inl ?_,⟨?_,hg.glob.mono hgle,by rw[BD,hg.sz]⟩,hchg.mono λ_ h=>h.elim,oQ _⟩
    ·simp[execOp,hop,hrun,w']
    ·rw[ho,Db _ (hg.sz▸hd)];refine hg.inv.newOwn hchg hag hown (λh=>by simp at h) λb hb=>?_;simp only[Ac]at hb;split at hb
     ·cases hb
     ·simp only[oH]at hb;omega
  ·cases hs
 ·cases hs
end
end
section
abbrev Jt:Nat→D:=λ_=> .any
abbrev L9:Nat→Value:=λ_=> .bool false
def D.norm (d:D):D:=match d.toV with|some x=> .v x|none=>d
def D.arg (d:D):D:=d.copy.norm
def Av (e:CB) (qs:List Opd):List D:=qs.map λq=>(q.ev e).arg
def DS (d:D):Option (Nat×List D):=
 match d.norm with
 | .v (.func f cs)=>some (f,cs.map .v)
 | .func f ds=>some (f,ds)
 |_=>none
variable {d:D}
theorem QW {x:V} (h:d.toV=some x):d.norm= .v x:=by simp[D.norm,h]
theorem SD {x:V} (h:d.toV=some x):d.copy.toV=some x:=by
 cases d<;>first
  |exact h
  |(simp[D.toV,D.v?]at h;done)
theorem Y2 {x:V} (h:d.toV=some x):d.arg= .v x:=QW (SD h)
variable {cs:List V} {f:Nat}
theorem VP (h:d.toV=some (.func f cs)):DS d=some (f,cs.map .v):=by simp[DS,QW h]
theorem Mn {e:CB}:∀ {qs:List Opd} {vs:List V},IE e qs=some vs→Av e qs=vs.map .v
 |[],vs,h=>by simp only[IE,oH]at h;subst h;rfl
 |q::qs,vs,h=>by
  simp only[IE]at h;split at h
  ·rename_i x xs hx hxs;simp only[oH]at h;subst h;have:=Mn hxs;simp only[Av]at this;simp only[Av,oV,Y2 hx,this]
  ·cases h
def BY:List D→D
 |[x]=>x
 |xs=> .tup xs
variable {u:Value} {ds:List D}
section
variable {P:Program} {GL:Aa} {N:Nat} {g:Gh} {w:World} {μ:List Nat}
theorem RepD.norm {d:D} {u:Value} (h:RepD g w μ d u):RepD g w μ d.norm u:=by
 unfold D.norm;split
 ·rename_i x hx;exact CW h hx
 ·exact h
theorem Wm (h:RepD g w μ d u):RepG g w μ d.copy u:=by
 cases d<;>first
  |exact h
  |exact RepOwn.list h.1
  |trivial
theorem RepD.arg {d:D} {u:Value} (h:RepD g w μ d u):RepG g w μ d.arg u:=by
 unfold D.arg D.norm;split
 ·rename_i x hx;exact CW h.copy hx
 ·exact Wm h
theorem K9 (d:D) (u:Value):Ac d.arg u=none:=by
 unfold D.arg D.norm;split
 ·simp[Ac]
 ·exact JY d u
def Tame (ds:List D) (us:List Value):Prop:=∀(i:Nat) d v,ds[i]?=some d→us[i]?=some v→Ac d v=none
theorem Tame.append {ds':List D} {us us':List Value} (hl:us.length=ds.length) (h:Tame ds us) (h':Tame ds' us'):Tame (ds++ds') (us++us'):=by
 intro i d v hd hv;by_cases hi:i <ds.length
 ·rw[ov hi]at hd;rw[ov (by omega)]at hv;exact h i d v hd hv
 ·rw[pC (by omega)]at hd;rw[pC (by omega),hl]at hv;exact h' _ d v hd hv
theorem FI {st:St} {a:Act} {h:List Row} {O:Nat→Prop} (hg:Gd P GL g w μ st.e a h O):∀ {ps:List Operand} {qs:List Opd},Ao (oe GL) ps qs=true→
  All2 (RepG g w μ) (Av st.e qs) (ps.map a.eval)∧Tame (Av st.e qs) (ps.map a.eval)
 |[],[],_=>⟨.nil,λi d v h=>by simp[Av]at h⟩
 |p::ps,q::qs,hk=>by
  simp only[Ao,oJ]at hk;obtain⟨h1,h2⟩:=FI hg hk.2;refine⟨.cons (hg.ev hk.1).arg h1,λi d v hd hv=>?_⟩;cases i with
  |zero=>simp[Av]at hd;subst hd;exact K9 _ _
  |succ i=>exact h2 i d v (by simpa[Av]using hd) (by simpa using hv)
 |[],_::_,hk=>by simp[Ao]at hk
 |_::_,[],hk=>by simp[Ao]at hk
theorem I7 (h:RepD g w μ d u) {caps:List D} (hf:DS d=some (f,caps)):∃cvs:List Value,u= .func (.func f) #[] cvs.toArray∧All2 (RepG g w μ) caps cvs∧Tame caps cvs:=by
 have h:=h.norm;unfold DS at hf;generalize d.norm=d at h hf;split at hf
 ·rename_i f' cs;simp only[oH,rY]at hf;obtain⟨rfl,rfl⟩:=hf;cases h with
  |func _ _ vs hl hr=>
   refine⟨vs,rfl,All2.map_left (f:=D.v) (R:=RepV g) (λx y h=>h) ⟨hl,hr⟩,λi d v hd hv=>?_⟩;simp only[oX,oU]at hd;obtain⟨y,_,rfl⟩:=hd;simp[Ac]
 ·rename_i f' ds;simp only[oH,rY]at hf;obtain⟨rfl,rfl⟩:=hf;obtain⟨vs,rfl,hall⟩:=h;refine⟨vs,rfl,hall.imp λd v h=>?_,λi d v hd hv=>?_⟩
  ·cases d<;>first|exact h|exact h.elim
  ·have:=hall.2 i d v hd hv;cases d<;>first|rfl|exact this.elim
 ·cases hf
end
variable {b k n:Nat} {μ μ':List Nat} {w w':World} {h h':List Row} {g':Gh} {v:Value}
section
variable {g:Gh} {w:World} {μ:List Nat} {t:Nat→D} {u:Nat→Value} {h:List Row} {O:Nat→Prop}
def Mq (t:Nat→D) (u:Nat→Value) (O:Nat→Prop) (b:Nat):Prop:=O b∨∃n k,Af (t n) (u n) k=some b
theorem Hp:¬CS Jt L9 h w μ (.tmp n k)=some b:=by
 cases k<;>simp[CS,Af,Ac]
theorem Inv.call (hi:Inv g w μ t u h O):Inv g w μ Jt L9 h (Mq t u O) where
 agree:=hi.agree
 olt:=λb hb=>by
  rcases hb with hb|⟨n,k,hb⟩
  ·exact hi.olt b hb
  ·exact hi.blk_lt (p:= .tmp n k) hb
 rep:=λn=>trivial
 len:=hi.len
 rows:=hi.rows
 nod:=hi.nod
 mo:=λb hb ho=>by
  rcases ho with ho|⟨n,k,ho⟩
  ·exact hi.mo b hb ho
  ·exact(hi.sep (.tmp n k) b ho).1 hb
 uniq:=λp q b hp hq=>by
  cases p with
  |tmp n k=>exact absurd hp Hp
  |cell r k=>cases q with
   |tmp n k=>exact absurd hq Hp
   |cell r' k'=>exact hi.uniq _ _ b hp hq
 sep:=λp b hp=>by
  cases p with
  |tmp n k=>exact absurd hp Hp
  |cell r k=>
   obtain⟨h1,h2⟩:=hi.sep (.cell r k) b hp;refine⟨h1,λho=>?_⟩;rcases ho with ho|⟨n,k',ho⟩
   ·exact h2 ho
   ·have:=hi.uniq (.cell r k) (.tmp n k') b hp ho;cases this
theorem Inv.ret (hi:Inv g w μ t u h O) (hi':Inv g' w' μ' Jt L9 h' (Mq t u O))
  (hc:Chg (λb=>¬Mq t u O b) g w g' w') (hμ:μ <+: μ'):Inv g' w' μ' t u h' O where
 agree:=hi'.agree
 olt:=λb hb=>hi'.olt b (.inl hb)
 rep:=λn=>D1 hi hc hμ n λk b hb hn=>hn (.inr ⟨n,k,hb⟩)
 len:=hi'.len
 rows:=hi'.rows
 nod:=hi'.nod
 mo:=λb hb ho=>hi'.mo b hb (.inl ho)
 uniq:=λp q b hp hq=>by
  cases p with
  |tmp n k=>cases q with
   |tmp n' k'=>exact hi.uniq (.tmp n k) (.tmp n' k') b hp hq
   |cell r' k'=>exact absurd (.inr ⟨n,k,hp⟩) (hi'.sep (.cell r' k') b hq).2
  |cell r k=>cases q with
   |tmp n' k'=>exact absurd (.inr ⟨n',k',hq⟩) (hi'.sep (.cell r k) b hp).2
   |cell r' k'=>exact hi'.uniq _ _ b hp hq
 sep:=λp b hp=>by
  cases p with
  |tmp n k=>exact⟨λhm=>hi'.mo b hm (.inr ⟨n,k,hp⟩),(hi.sep (.tmp n k) b hp).2⟩
  |cell r k=>
   obtain⟨h1,h2⟩:=hi'.sep (.cell r k) b hp;exact⟨h1,λho=>h2 (.inl ho)⟩
def Ge {α:Type} (z x:α):Nat→α:=λn=>if 0=n then x else z
theorem Inv.retV (hi:Inv g w μ t u h O) {x:D} (hi':Inv g' w' μ' (Ge .any x) (Ge (.bool false) v) h' (Mq t u O))
  (hb:Inv g' w' μ' t u h' O) (d:Nat):Inv g' w' μ' (λn=>if d=n then x else t n) (λn=>if d=n then v else u n) h' O:=by
 have htd:∀k b,CS (λn=>if d=n then x else t n) (λn=>if d=n then v else u n) h' w' μ' (.tmp d k)=some b→CS (Ge .any x) (Ge (.bool false) v) h' w' μ' (.tmp 0 k)=some b:=by
  intro k b hb;simpa[CS,Ge]using hb
 have htn:∀n k b,d≠n→CS (λn=>if d=n then x else t n) (λn=>if d=n then v else u n) h' w' μ' (.tmp n k)=some b→CS t u h' w' μ' (.tmp n k)=some b:=by
  intro n k b hn hb;simpa[CS,hn]using hb
 have hO:∀n k b,CS t u h' w' μ' (.tmp n k)=some b→Mq t u O b:=λn k b hb=> .inr ⟨n,k,hb⟩;refine⟨hb.agree,hb.olt,λn=>?_,hb.len,hb.rows,hb.nod,hb.mo,?_,?_⟩
 ·by_cases hn:d=n
  ·simp only[hn,if_true];simpa[Ge]using hi'.rep 0
  ·simp only[hn,if_false];exact hb.rep n
 ·intro p q b hp hq;cases p with
  |tmp n k=>
   cases q with
   |tmp n' k'=>
    by_cases hn:d=n
    ·subst hn;by_cases hn':d=n'
     ·subst hn';have:=hi'.uniq _ _ b (htd k b hp) (htd k' b hq);simp only[Pl.tmp.injEq,true_and]at this;rw[this]
     ·exact absurd (hO _ _ _ (htn n' k' b hn' hq)) (hi'.sep _ b (htd k b hp)).2
    ·by_cases hn':d=n'
     ·subst hn';exact absurd (hO _ _ _ (htn n k b hn hp)) (hi'.sep _ b (htd k' b hq)).2
     ·exact hb.uniq _ _ b (htn n k b hn hp) (htn n' k' b hn' hq)
   |cell r k'=>
    by_cases hn:d=n
    ·subst hn;have:=hi'.uniq (.tmp 0 k) (.cell r k') b (htd k b hp) hq;cases this
    ·exact hb.uniq _ _ b (htn n k b hn hp) hq
  |cell r k=>
   cases q with
   |tmp n' k'=>
    by_cases hn':d=n'
    ·subst hn';have:=hi'.uniq (.cell r k) (.tmp 0 k') b hp (htd k' b hq);cases this
    ·exact hb.uniq _ _ b hp (htn n' k' b hn' hq)
   |cell r' k'=>exact hb.uniq (.cell r k) (.cell r' k') b hp hq
 ·intro p b hp;cases p with
  |tmp n k=>
   by_cases hn:d=n
   ·subst hn;obtain⟨h1,h2⟩:=hi'.sep _ b (htd k b hp);exact⟨h1,λho=>h2 (.inl ho)⟩
   ·exact hb.sep _ b (htn n k b hn hp)
  |cell r k=>exact hb.sep (.cell r k) b hp
theorem Inv.enter (hi:Inv g w μ Jt L9 h O) (hr:∀n,RepD g w μ (t n) (u n)) (h0:∀n k,Af (t n) (u n) k=none):Inv g w μ t u h O where
 agree:=hi.agree
 olt:=hi.olt
 rep:=hr
 len:=hi.len
 rows:=hi.rows
 nod:=hi.nod
 mo:=hi.mo
 uniq:=λp q b hp hq=>by
  cases p with
  |tmp n k=>simp[CS,h0]at hp
  |cell r k=>cases q with
   |tmp n k=>simp[CS,h0]at hq
   |cell r' k'=>exact hi.uniq _ _ b hp hq
 sep:=λp b hp=>by
  cases p with
  |tmp n k=>simp[CS,h0]at hp
  |cell r k=>exact hi.sep (.cell r k) b hp
theorem Inv.leave (hi:Inv g w μ t u h O):Inv g w μ Jt L9 h O where
 agree:=hi.agree
 olt:=hi.olt
 rep:=λn=>trivial
 len:=hi.len
 rows:=hi.rows
 nod:=hi.nod
 mo:=hi.mo
 uniq:=λp q b hp hq=>by
  cases p with
  |tmp n k=>exact absurd hp Hp
  |cell r k=>cases q with
   |tmp n k=>exact absurd hq Hp
   |cell r' k'=>exact hi.uniq _ _ b hp hq
 sep:=λp b hp=>by
  cases p with
  |tmp n k=>exact absurd hp Hp
  |cell r k=>exact hi.sep (.cell r k) b hp
end
end
section
variable {q:Opd} {p x:Operand} {o:Oper} {u:Value} {xs:List V} {b cap m sz t:Nat} {w:World} {g:Gh}
section
variable {P:Program} {GL:Aa} {N:Nat}
def P7 (P:Program) (t:Nat):Bool:=match P.underlying t with|some (.slice e)=>FO P e (λ| .int .u8=>true|_=>false)|_=>false
theorem Xu {e:Nat} (hs:FO P e (λ| .int .u8=>true|_=>false)=true):P.underlying e=some (.int .u8):=by
 unfold FO at hs;split at hs
 ·rename_i d' hd2;cases d'<;>simp at hs
  rename_i k;cases k<;>simp at hs
  exact hd2
 ·cases hs
theorem L6 (w:World) (e:TypeId) (s:ByteArray):(Lib.bytesWorld w e s).os=w.os:=by
 unfold Lib.bytesWorld World.freeze;split<;>rfl
theorem Lb (w:World) (e:TypeId) (s:ByteArray):(Lib.bytesWorld w e s).output=w.output:=by
 unfold Lib.bytesWorld World.freeze;split<;>rfl
theorem XD {d src dst:Nat} (ho:o.dst=some d) (hop:o.op= .convert src dst x) (hd:d <N) (hk:oe GL x q=true)
  (hs:FO P src (λ| .string=>true|_=>false)=true) (ht:P7 P dst=true):Dm P GL N o (.s2b d q):=by
 intro g w μ st st' a O hg hst;unfold P7 at ht;split at ht
 ·rename_i e hu;have he:=Xu ht;simp only[AI.step]at hst;split at hst
  ·rename_i b hb;simp only[oH]at hst;subst hst;have hr:=(hg.gd P).ev hk;rw[hb]at hr;have hxv:=F3 hr;have hrun:=Lib.run_convert_string_bytes (P:=P) w src dst e b (Df hs) hu he
   let bs:List Value:=b.data.toList.map λc=> .int .u8 c.toNat
   let g':=g.put w.heap.size 0 bs
   have hnone:∀o,g.m w.heap.size o=none:=λo=>Gh.lt_of hg.inv.agree (oN _) o;have hgle:g.le g':=Gh.le_put _ λo _ _=>hnone o;have hch:Chg (λ_=>False) g w g' (Lib.bytesWorld w e b):=⟨hgle,by rw[Lib.bytesWorld_size];omega,λj hj _=>Lib.bytesWorld_at_old w e b j hj,λj hj _ o=>Gh.put_other (by omega) o,L6 w e b,Lb w e b⟩;have hag:∀j o v,g'.m j o=some v→(Lib.bytesWorld w e b).cell? ⟨j,o,none⟩=some v:=by
    intro j o v hv;simp only[g',Gh.put]at hv;split at hv
    ·rename_i hc;obtain⟨rfl,_,hc2⟩:=hc;simp only[qy]at hv;have hlt:o <b.size:=by have:=(oM.1 hv).1;simpa[bs]using this
     rw[Lib.bytesWorld_cell w e b o hlt];simp only[bs,oX,oU]at hv;obtain⟨c,hc',rfl⟩:=hv;simp[List.getD,hc']
    ·have hj:j <w.heap.size:=by
      have:=hg.inv.agree j o v hv;rcases om j w.heap.size with h'|h'
      ·exact h'
      ·simp[World.cell?,qh h']at this
     rw[Lib.bytesWorld_old w e b _ hj];exact hg.inv.agree j o v hv
   have hg2:Gs GL N g' (Lib.bytesWorld w e b) μ st a O:=⟨hg.inv.chg hch hag,hg.glob.mono hgle,hg.sz⟩;refine⟨.slice (some ⟨w.heap.size,0,none⟩) b.size (grownCap w b.size 0 e),_,g',μ,.inl (by simp[execOp,hop,hxv,hrun]),?_,hch.mono λ_ h=>h.elim,oQ _⟩;rw[ho];refine hg2.set hd ?_ λk=>Bo _ _ _;have hlen:(b.data.toList.map λc=>V.int .u8 c.toNat).length=b.size:=by simp
   have:=RepV.list (g:=g') (b.data.toList.map λc=>V.int .u8 c.toNat) ⟨w.heap.size,0,none⟩ (grownCap w b.size 0 e) 1 (λi=> .int .u8 ((b.data.toList.getD i 0).toNat:Int)) rfl
    (by rw[hlen];simp only[grownCap];exact Nat.le_add_right _ _) (λi x hx=>by
     simp only[oX,oU]at hx;obtain⟨c,hc,rfl⟩:=hx;simp only[List.getD,hc,og];exact .int _ _) (λi hi=>by
     rw[hlen]at hi;refine⟨by simp[Value.cells],λk v hv=>?_⟩;have hv':k=0∧v= .int .u8 ((b.data.toList.getD i 0).toNat:Int):=by
      cases k with
      |zero=>exact⟨rfl,by simpa only[Value.cells,rX,oH,eq_comm]using hv⟩
      |succ k=>simp[Value.cells]at hv
     obtain⟨rfl,rfl⟩:=hv';have hbi:bs[i]?=some (.int .u8 ((b.data.toList.getD i 0).toNat:Int)):=by
      have hi':i <b.data.toList.length:=by simpa using hi
      simp only[bs,oX,oI hi',o9,List.getD,og]
     have:=Gh.put_at g w.heap.size 0 bs i _ hbi;simpa using this)
   rw[hlen]at this;exact this
  ·cases hst
 ·cases ht
theorem QU (hag0:∀b o v,g.m b o=some v→w.cell? ⟨b,o,none⟩=some v) {e s:Nat} (h:RepOwn g w e s xs (.slice (some ⟨b,0,none⟩) xs.length cap)) (hrm:xs.length+1≤cap) {y:V}
  (hr:RepV g y u) (hu:u.cells.size=s):
  ∃cur:Array Value,w.heap[b]?=some (.cells cur e (0,0))∧xs.length*s+u.cells.toList.length≤cur.size∧
   RepOwn (g.put b (xs.length*s) u.cells.toList) (w.setRow b (AO cur.toList (xs.length*s) u.cells.toList).toArray) e s (xs++[y]) (.slice (some ⟨b,0,none⟩) (xs.length+1) cap)∧
   Chg (λz=>z=b) g w (g.put b (xs.length*s) u.cells.toList) (w.setRow b (AO cur.toList (xs.length*s) u.cells.toList).toArray)∧
   ∀b' o v,(g.put b (xs.length*s) u.cells.toList).m b' o=some v→(w.setRow b (AO cur.toList (xs.length*s) u.cells.toList).toArray).cell? ⟨b',o,none⟩=some v:=by
 rcases h with ⟨a,h1,h2,_⟩|⟨b',cap',cur,vs,h1,hcap,hheap,hlc,hcs,hvr,hvz,hvn⟩
 ·simp only[Value.slice.injEq]at h1;omega
 simp only[Value.slice.injEq,oH,Addr.mk.injEq,true_and,and_true]at h1;obtain⟨rfl,rfl⟩:=h1;have hul:u.cells.toList.length=s:=by simpa using hu
 have hfit:xs.length*s+u.cells.toList.length≤cur.size:=by
  rw[hul,hcs];have:=qV s hrm;rw[pT,Nat.one_mul]at this;exact this
 have hgle:g.le (g.put b (xs.length*s) u.cells.toList):=Gh.le_put _ λo h1 _=>hvn o h1;have hheap':(w.setRow b (AO cur.toList (xs.length*s) u.cells.toList).toArray).heap[b]?=some (.cells (AO cur.toList (xs.length*s) u.cells.toList).toArray e (0,0)):=setRow_heap w b _ _ _ _ hheap;have hchg:Chg (λz=>z=b) g w (g.put b (xs.length*s) u.cells.toList) (w.setRow b (AO cur.toList (xs.length*s) u.cells.toList).toArray):=
  ⟨hgle,by simp,λb' _ hb'=>setRow_other w b b' _ hb',λb' _ hb' o=>Gh.put_other hb' o,rfl,rfl⟩
 refine⟨cur,hheap,hfit,?_,hchg,?_⟩
 ·refine .inr ⟨b,cap,_,λj=>if j <xs.length then vs j else u,by rw[oL];rfl,by omega,hheap',by rw[oL];exact hrm,?_,?_,?_,?_⟩
  ·simp only[qn];rw[FR _ _ _ (by simpa using hfit)];simpa using hcs
  ·intro j z hj;by_cases hlt:j <xs.length
   ·simp only[hlt,if_true];rw[ov hlt]at hj;exact(hvr j z hj).mono hgle
   ·simp only[hlt,if_false];rw[pC (by omega)]at hj;have hj0:j-xs.length=0:=by
     have:=(oM.1 hj).1;simp at this;omega
    rw[hj0]at hj;simp only[rX,oH]at hj;subst hj;exact hr.mono hgle
  ·intro j hj;rw[oL]at hj;by_cases hlt:j <xs.length
   ·simp only[hlt,if_true];exact⟨(hvz j hlt).1,(hvz j hlt).2.mono hgle⟩
   ·simp only[hlt,if_false];have hj0:j=xs.length:=by simp at hj;omega
    subst hj0;exact⟨hu,Gh.put_at g b (xs.length*s) u.cells.toList⟩
  ·intro o ho;rw[oL,rz,pT,Nat.one_mul]at ho;simp only[Gh.put];rw[if_neg (by rw[hul];omega)];exact hvn o (by omega)
 ·intro b' o v hv;by_cases hb':b'=b
  ·subst hb';rw[cell_of_row _ b' o _ _ _ hheap',←pV,qw,Fl _ _ _ (by simpa using hfit)];simp only[Gh.put]at hv;split at hv
   ·rename_i hc;rw[if_neg (by omega),if_pos hc.2.2];exact hv
   ·have hc1:o <xs.length*s:=by
     rcases om o (xs.length*s)with h|h
     ·exact h
     ·rw[hvn o h]at hv;cases hv
    rw[if_pos hc1];have:=hag0 b' o v hv;rw[cell_of_row w b' o _ _ _ hheap]at this;rw[pV];exact this
  ·simp only[Gh.put_other hb']at hv;rw[World.cell?_of_block (a:=⟨b',o,none⟩) (setRow_other w b b' _ hb')];exact hag0 b' o v hv
theorem YJ {ad p':Opd} (ho:o.dst=none) (hop:o.op= .store t p x) (hm:m <N) (hp:oe GL p p'=true) (hk:oe GL x q=true) (hsz:BZ P t sz=true):
  Dm P GL N o (.fin m ad p' q sz):=by
 intro g w μ s s' a O hg hs;simp only[AI.step]at hs;have hrp:=(hg.gd P).ev hp;have hrx:=(hg.gd P).ev hk;split at hs
 ·rename_i b s0 n y hc hy;rw[hc]at hrp;have hpv:0 <s0→a.eval p= .pointer (some ⟨b,n*s0,none⟩):=λh0=>by
   obtain⟨h1,_⟩|⟨_,h2⟩:=hrp
   ·omega
   ·exact h2
  have hry:=CW hrx hy;have hrun:∀(cur:Array Value) (e:Nat),w.heap[b]?=some (.cells cur e (0,0))→n*s0+(a.eval x).cells.toList.length≤cur.size→(a.eval x).cells.size=sz→0 <s0→
    (execOp a.eval o).run P w= .ok .skip (w.setRow b (AO cur.toList (n*s0) (a.eval x).cells.toList).toArray):=by
   intro cur e hheap hfit hun h0;have hpv:=hpv h0;have hst:=run_storeCells_at P b (n*s0) e (a.eval x).cells.toList 0 cur w hheap (by simpa using hfit) (RepV.cells hry).2;simp only[ql]at hst;simp[execOp,hop,hpv,Instr.storeAt,Instr.sureAddr,storeVar,Ba hsz,hun,AO]at hst ⊢;simp[hst]
  have hul:y.cells.length=sz→(a.eval x).cells.size=sz:=λh=>by have:=(RepV.cells hry).1.1;simp at this;omega
  split at hs
  ·rename_i b' e s2 xs hfind;split at hs
   ·rename_i hcond;obtain⟨⟨rfl,rfl,rfl⟩,rfl,hyl,hpos⟩:=hcond;simp only[oH]at hs;subst hs;have hrm:=hg.inv.rep m;rw[hfind]at hrm;obtain⟨cap,hmv,hcap,hown⟩:=hrm;obtain⟨cur,hheap,hfit,hrep,hchg,hag⟩:=QU hg.inv.agree hown hcap hry (hul hyl);have hbo:Ac (AG s.e m) (a.tmps.getD m undef)=some b':=by rw[hfind];rfl
    have hinv:=hg.inv.growOwn (d:=m) (n:=m) hbo hchg hag hrep (λh=>by simp at h) (by simp[Ac];omega);refine⟨undef,_,_,μ,.inr ⟨hrun cur _ hheap hfit (hul hyl) hpos,rfl⟩,⟨?_,hg.glob.mono hchg.le,by rw[BD,hg.sz]⟩,hchg.mono λz hz hO=>?_,oQ _⟩
    ·rw[ho];refine Eq.mp ?_ hinv
     congr 1
     ·funext k
      by_cases hkm:m=k
      ·subst hkm;simp[AG]
      ·simp[AG,hkm]
     ·funext k
      by_cases hkm:m=k
      ·subst hkm;simp only[if_true];exact hmv.symm
      ·simp[hkm,Act.put]
    ·subst hz;exact(hg.inv.sep (.tmp m 0) z (by simp only[CS,hfind];rfl)).2 hO
   ·cases hs
  ·split at hs
   ·rename_i r off had;split at hs
    ·rename_i ds hr;split at hs
     ·rename_i b' e s2 xs hd;split at hs
      ·rename_i hcond;obtain⟨⟨rfl,rfl,rfl⟩,rfl,hyl,hpos⟩:=hcond;simp only[oH]at hs;subst hs;have hrl:r <μ.length:=by rw[hg.inv.len];exact(oM.1 hr).1
       obtain⟨br,hbr⟩:∃br,μ[r]?=some br:=⟨_,oI hrl⟩;have hcell:=hg.inv.cell hr hbr hd;obtain⟨cap,hmv,hcap,hown⟩:=hcell;obtain⟨cur,hheap,hfit,hrep,hchg,hag⟩:=QU hg.inv.agree hown hcap hry (hul hyl);have hinv:=hg.inv.growCell (d0:= .own e s2 (xs++[y])) hr hbr hd rfl hchg hag (by rw[hmv];exact⟨hrep,λh=>by simp at h⟩) (λb2 hb2=>by
        rw[hmv]at hb2;simp only[Ac]at hb2;split at hb2
        ·cases hb2
        ·simp only[oH]at hb2;exact hb2.symm)
       refine⟨undef,_,_,μ,.inr ⟨hrun cur _ hheap hfit (hul hyl) hpos,rfl⟩,⟨?_,hg.glob.mono hchg.le,by rw[BD,hg.sz]⟩,hchg.mono λz hz hO=>?_,oQ _⟩
       ·rw[ho];exact hinv
       ·subst hz;exact(hg.inv.sep (.cell r off) z (by simp only[CS,A7,hr,hd,og];rfl)).2 hO
      ·cases hs
     ·cases hs
    ·cases hs
   ·cases hs
 ·cases hs
end
end
section
variable {b r sz t:Nat} {o:Oper} {q:Opd} {x y:Operand} {zs:List D} {w:World} {ks:List Nat}
section
variable {P:Program} {GL:Aa} {N:Nat}
theorem Xm {d:Nat} {rs:Option Operand} (ho:o.dst=some d) (hop:o.op= .makeMap t rs) (hrs:rs=none) (hd:d <N):Dm P GL N o (.mkm d):=by
 intro g w μ s s' a O hg hs;simp only[AI.step,oH]at hs;subst hs;subst hrs;have hinv:=hg.inv.newAny (.map [] [] 0) (.map #[] 0) ⟨#[],heap_alloc_new w _,MapKept.stamped_empty 0,rfl,.nil,λo=>Gh.lt_of hg.inv.agree (oN _) o⟩ (λk ds d h=>by cases h);refine⟨.map (some w.heap.size),w.alloc (.map #[] 0),g,μ++[w.heap.size],.inl ?_,⟨?_,hg.glob,by rw[BD,hg.sz]⟩,By _ g w _,py _ _⟩
 ·simp[execOp,hop,Instr.makeMap]
 ·rw[ho,Db _ (hg.sz▸hd)];refine hinv.set ⟨w.heap.size,?_,rfl⟩ λk=>by cases k<;>simp[Af,Ac]
  rw[←hg.inv.len];simp
theorem U6 {d e:Nat} {c:Operand} {z:D} (ho:o.dst=some d) (hop:o.op= .makeSlice t x c) (hd:d <N) (hxc:c=x) (hk:oe GL x q=true)
  (hu:P.underlying t=some (.slice e)) (hz:Fx P e [z]=true) (hsz:BZ P e 1=true) (hby:((P.info? e).map λi=>decide (i.bytes≤1048576))=some true):Dm P GL N o (.mksl d q z):=by
 intro g w μ s s' a O hg hs;subst hxc;simp only[AI.step]at hs;have hr:=(hg.gd P).ev hk;split at hs
 ·rename_i k n hn;rw[hn]at hr;have hxv:=Ep hr;split at hs
  ·rename_i hlt;simp only[oH]at hs;subst hs;unfold Fx at hz;split at hz
   ·rename_i zv hzz;cases hit:P.info? e with
    |none=>simp[hit]at hzz
    |some it=>
     have hz1:it.zero=some zv:=by simpa[hit]using hzz
     have hsz1:it.size=1:=by simpa[BZ,hit]using hsz
     have hby1:it.bytes≤1048576:=by simpa[hit]using hby
     obtain⟨r1,r2,r3⟩:=Gp (g:=g) (w:=w) (μ:=μ) hz;obtain⟨v0,hv0⟩:∃v0,zv.cells.toList=[v0]:=by
      have:=r1.1
      match hq:zv.cells.toList,this with
      |[v0],_=>exact⟨v0,rfl⟩
     rw[hv0]at r1 r2 r3;have hcell:zv.cells= #[v0]:=by rw[←pj,hv0]
     have hrep:=(All2.cons_iff.1 r1).1;have hrun:=run_make (P:=P) w t e it zv hu hit hz1 k k n n hlt.1 (Int.le_refl _) (by
      have h1:(it.bytes:Int)≤1048576:=by omega
      have h2:(it.bytes:Int)*n≤1048576*n:=qJ h1 hlt.1;omega) (by omega)
     have hmade:madeCells zv.cells (n.toNat*it.size)=(List.replicate n.toNat v0).toArray:=by
      rw[←pj,hcell,hsz1,Nat.mul_one,toList_madeCells_one]
     rw[hmade]at hrun;have hnew:=hg.inv.newRow (zs:=List.replicate n.toNat z) (vs:=List.replicate n.toNat v0) e
      ⟨by simp,λi x v hx hv=>by
       have h1:=(qo.1 (oK hx)).2;have h2:=(qo.1 (oK hv)).2;subst h1;subst h2;exact hrep⟩
      (λv hv=>by have:=(qo.1 hv).2;subst this;exact r2 _ (by simp))
      (λi x v hx hv=>by
       have h1:=(qo.1 (oK hx)).2;have h2:=(qo.1 (oK hv)).2;subst h1;subst h2;exact r3 0 _ _ rfl rfl)
     refine⟨.slice (some ⟨w.heap.size,0,none⟩) n.toNat n.toNat,w.alloc (.cells (List.replicate n.toNat v0).toArray e),g,μ++[w.heap.size],.inl (by simp[execOp,hop,hxv,hrun]),?_,By _ g w _,py _ _⟩;rw[ho];have hgn:Gs GL N g (w.alloc (.cells (List.replicate n.toNat v0).toArray e)) (μ++[w.heap.size]) ⟨s.e,s.h++[.cells (List.replicate n.toNat z)]⟩ a O:=⟨hnew,hg.glob,hg.sz⟩;have hrd:RepD g (w.alloc (.cells (List.replicate n.toNat v0).toArray e)) (μ++[w.heap.size]) (.sref s.h.length n.toNat) (.slice (some ⟨w.heap.size,0,none⟩) n.toNat n.toNat):=⟨w.heap.size,n.toNat,by rw[←hg.inv.len];simp,rfl,oN _⟩;exact hgn.set hd hrd λk=>by cases k<;>simp[Af,Ac]
   ·cases hz
  ·cases hs
 ·cases hs
theorem NS {α:Type} (zs:List α) (n:Nat):(List.replicate n zs).flatten.length=n*zs.length:=by
 induction n with
 |zero=>simp
 |succ n ih=>rw[r7,List.flatten_cons,oL,ih,qK];omega
theorem GH {α:Type} (zs:List α):∀(n i:Nat),i <n*zs.length→(List.replicate n zs).flatten[i]?=zs[i%zs.length]?
 |0,i,h=>by omega
 |n+1,i,h=>by
  rw[r7,List.flatten_cons];by_cases hi:i <zs.length
  ·rw[ov hi,Nat.mod_eq_of_lt hi]
  ·rw[qK]at h;rw[pC (by omega),GH zs n (i-zs.length) (by omega),←Nat.mod_eq_sub_mod (show zs.length≤i by omega)]
theorem U5 {d e:Nat} {c:Operand} (ho:o.dst=some d) (hop:o.op= .makeSlice t x c) (hd:d <N) (hxc:c=x) (hk:oe GL x q=true)
  (hu:P.underlying t=some (.slice e)) (hz:Fx P e zs=true) (hsz:BZ P e zs.length=true) (hby:((P.info? e).map λi=>decide (i.bytes≤1048576))=some true):Dm P GL N o (.mksz d q zs):=by
 intro g w μ s s' a O hg hs;subst hxc;simp only[AI.step]at hs;have hr:=(hg.gd P).ev hk;split at hs
 ·rename_i k n hn;rw[hn]at hr;have hxv:=Ep hr;split at hs
  ·rename_i hlt;simp only[oH]at hs;subst hs;unfold Fx at hz;split at hz
   ·rename_i zv hzz;cases hit:P.info? e with
    |none=>simp[hit]at hzz
    |some it=>
     have hz1:it.zero=some zv:=by simpa[hit]using hzz
     have hsz1:it.size=zs.length:=by simpa[BZ,hit]using hsz
     have hby1:it.bytes≤1048576:=by simpa[hit]using hby
     obtain⟨r1,r2,r3⟩:=Gp (g:=g) (w:=w) (μ:=μ) hz;have hzl:zv.cells.size=zs.length:=by have:=r1.1;simpa using this
     have hrun:=run_make (P:=P) w t e it zv hu hit hz1 k k n n hlt.1 (Int.le_refl _) (by
      have h1:(it.bytes:Int)≤1048576:=by omega
      have h2:(it.bytes:Int)*n≤1048576*n:=qJ h1 hlt.1;omega) (by omega)
     obtain⟨vs,hvs⟩:∃vs,vs=(madeCells zv.cells (n.toNat*it.size)).toList:=⟨_,rfl⟩;have hmade:madeCells zv.cells (n.toNat*it.size)=vs.toArray:=by rw[hvs]
     have hvl:vs.length=n.toNat*zs.length:=by rw[hvs,rZ,size_madeCells,hsz1]
     have hvg:∀i v,vs[i]?=some v→i <n.toNat*zs.length∧zv.cells.toList[i%zs.length]?=some v:=by
      intro i v hv;have hi:i <n.toNat*zs.length:=by rw[←hvl];exact(oM.1 hv).1
      refine⟨hi,?_⟩;have hpos:0 <zs.length:=by
       rcases ra zs.length with h0|h0
       ·rw[h0]at hi;omega
       ·exact h0
      have hm:i%zs.length <zv.cells.size:=by rw[hzl];exact Nat.mod_lt _ hpos
      rw[hvs,pV]at hv;unfold madeCells at hv;rw[Array.getElem?_map,Array.getElem?_range,if_pos (by rw[hsz1];exact hi)]at hv;simp only[o9,oH]at hv;rw[pV,Array.getElem?_eq_getElem hm,←hv]
      congr 1
      simp only[hzl];rw[getElem!_pos zv.cells (i%zs.length) hm]
     rw[hmade]at hrun;have hnew:=hg.inv.newRow (zs:=(List.replicate n.toNat zs).flatten) (vs:=vs) e
      ⟨by rw[hvl,NS],λi x v hx hv=>by
       obtain⟨h1,h2⟩:=hvg i v hv;rw[GH zs _ _ h1]at hx;exact r1.2 _ x v hx h2⟩
      (λv hv=>by
       obtain⟨i,hi⟩:=qW.1 hv;exact r2 v (oK (hvg i v hi).2))
      (λi x v hx hv=>by
       obtain⟨h1,h2⟩:=hvg i v hv;rw[GH zs _ _ h1]at hx;exact r3 _ x v hx h2)
     refine⟨.slice (some ⟨w.heap.size,0,none⟩) n.toNat n.toNat,w.alloc (.cells vs.toArray e),g,μ++[w.heap.size],.inl (by simp[execOp,hop,hxv,hrun]),?_,By _ g w _,py _ _⟩;rw[ho];have hgn:Gs GL N g (w.alloc (.cells vs.toArray e)) (μ++[w.heap.size]) ⟨s.e,s.h++[.cells (List.replicate n.toNat zs).flatten]⟩ a O:=⟨hnew,hg.glob,hg.sz⟩;have hrd:RepD g (w.alloc (.cells vs.toArray e)) (μ++[w.heap.size]) (.sref s.h.length n.toNat) (.slice (some ⟨w.heap.size,0,none⟩) n.toNat n.toNat):=⟨w.heap.size,n.toNat,by rw[←hg.inv.len];simp,rfl,oN _⟩;exact hgn.set hd hrd λk=>by cases k<;>simp[Af,Ac]
   ·cases hz
  ·cases hs
 ·cases hs
theorem MW {g:Gh}:∀(ys:List V) (vy:Nat→Value),(∀(j:Nat) y,ys[j]?=some y→RepV g y (vy j))→All2 (RepV g) (ys.flatMap V.cells) (BK ys.length vy)
 |[],vy,_=> .nil
 |y::ys,vy,hvy=>by
  have e2:BK (y::ys).length vy=(vy 0).cells.toList++BK ys.length (λj=>vy (j+1)):=by simp[BK,r9,ry]
  rw[e2,oZ];exact(hvy 0 y rfl).cells.1.append (MW ys _ λj x hx=>hvy (j+1) x (by simpa using hx))
theorem YU {d:Option Nat} {r:Opd} {t2:Nat} (ho:o.dst=d) (hd:∀n,d=some n→n <N) (hop:o.op= .call {callee:= .builtin .copy,args:= #[x,y],argTypes:= #[t,t2]})
  (hk:oe GL x q=true) (hk2:oe GL y r=true) (ht:(match P.underlying t with|some (.slice e)=>BZ P e sz|_=>false)=true):Dm P GL N o (.cpy d q r sz):=by
 intro g w μ s s' a O hg hs;simp only[AI.step]at hs;have hrx:=(hg.gd P).ev hk;have hry:=((hg.gd P).ev hk2).copy;split at ht
 ·rename_i e hu;split at hs
  ·rename_i rr n hq;rw[hq]at hrx;obtain⟨b,cap,hb,hxv,hn⟩:=hrx;split at hs
   ·rename_i ys hy;rw[hy]at hry;split at hs
    ·rename_i ds hr;split at hs
     ·rename_i hc;obtain⟨⟨hc1,hc2⟩,h0,hh⟩:=hc;simp only[oH]at hs;subst hs;obtain⟨vs,T,hheap,hall,hone,hgn⟩:=hg.inv.row hb hr;obtain⟨vy,h1,h2,h3,h4⟩:=Ib (P:=P) hg.inv.agree hry h0 hh;have hfl:(BK ys.length vy).length=n*sz:=by rw[Cy h3,hc1]
      have h5:∀v∈BK ys.length vy,v.oneCell'=true:=by
       intro v hv;obtain⟨j,hj,hm⟩:=I9 hv;exact h4 j hj v hm
      have hst:=run_storeCells_at P b 0 T (BK ys.length vy) 0 vs.toArray w hheap (by simp[hfl,hall.1,hc2]) h5;have hdrop:vs.drop (BK ys.length vy).length=[]:=sV.2 (by rw[hfl,hall.1,hc2];exact oN _);simp only[ql,px,List.take_zero,qz,hdrop,pz]at hst;have hmin:min n n=n:=Nat.min_self n;have hrun:(execOp a.eval o).run P w= .ok (.value (goInt n)) (w.setRow b (BK ys.length vy).toArray):=by
       have hl:=h1.len w;have hcl:=h1.cells;rw[hc1]at hl hcl;simp[execOp,hop,resolve,invoke,builtin,hxv,Builtin.copy_,run_underlying hu,hl,Ba ht,hcl,hmin];rw[hc1]at hst;simp[hst,hc1]
      have hst2:=hg.inv.storeRow hr hb hheap ((ys.flatMap V.cells).map .v) (BK ys.length vy) (All2.map_left (f:=D.v) (R:=RepV g) (λx y h=>h) (MW ys vy h2)) h5 (λi z v hz hv=>by
       simp only[oX,oU]at hz;obtain⟨y,_,rfl⟩:=hz;exact .inl (by simp[Ac]))
      have hch:Chg (λb=>¬O b) g w g (w.setRow b (BK ys.length vy).toArray):=(EN g w b _).mono (DU O hg (oK hb));refine⟨goInt n,_,g,μ,.inl hrun,?_,hch,oQ _⟩;have hgs:Gs GL N g (w.setRow b (BK ys.length vy).toArray) μ ⟨s.e,s.h.set rr (.cells ((ys.flatMap V.cells).map .v))⟩ a O:=⟨hst2,hg.glob,hg.sz⟩;rw[ho];cases d with
      |none=>exact hgs
      |some d=>exact hgs.set (hd d rfl) (x:= .v (.int .i64 n)) (.int _ _) λk=>by cases k<;>simp[Af,Ac]
     ·cases hs
    ·cases hs
   ·cases hs
  ·cases hs
 ·cases ht
theorem Fp {o o':Obj} (hb:w.heap[b]?=some o) (g:Gh) (hg:∀o,g.m b o=none) (hag:∀b o v,g.m b o=some v→w.cell? ⟨b,o,none⟩=some v):
  ({w with heap:=w.heap.setIfInBounds b o'}:World).heap[b]?=some o'∧Chg (λx=>x=b) g w g {w with heap:=w.heap.setIfInBounds b o'}∧
  ∀b' o v,g.m b' o=some v→({w with heap:=w.heap.setIfInBounds b o'}:World).cell? ⟨b',o,none⟩=some v:=by
 have h:=MapKept.heap_set (o':=o') hb;refine⟨h.1,⟨Gh.le.refl g,by simp,λb' _ hne=>h.2 b' hne,λ_ _ _ _=>rfl,rfl,rfl⟩,λb' o v hv=>?_⟩;by_cases hbb:b'=b
 ·subst hbb;rw[hg o]at hv;cases hv
 ·rw[World.cell?_of_block (a:=⟨b',o,none⟩) (h.2 b' hbb)];exact hag b' o v hv
theorem H7 {α β:Type} (f:α→β):∀(l:List α) (i:Nat),(l.eraseIdx i).map f=(l.map f).eraseIdx i
 |[],_=>by simp
 |x::l,0=>by simp
 |x::l,i+1=>by simp[H7 f l i]
theorem KJ (ents:Array MapEntry) (j:Nat) (f:MapEntry→MapEntry) (hf:∀e,(f e).born=e.born):(ents.modify j f).toList.map (·.born)=ents.toList.map (·.born):=by
 apply pe;intro i;simp only[oX,pV,sD];by_cases hij:j=i
 ·subst hij;cases ents[j]?<;>simp[hf]
 ·simp[hij]
theorem U3 {k v:Operand} {m' k' v':Opd} {st:Bool} (ho:o.dst=none) (hop:o.op= .mapUpdate t x k v)
  (ht:(match P.underlying t with|some (.map kt _)=>Ek P kt st ks|_=>false)=true) (hm:oe GL x m'=true) (hk:oe GL k k'=true) (hv:oe GL v v'=true):Dm P GL N o (.mput m' k' v' st ks):=by
 intro g w μ s s' a O hg hs;simp only[AI.step]at hs;have hrm:=(hg.gd P).ev hm;have hrk:=(hg.gd P).ev hk;have hrv:=(hg.gd P).ev hv;split at ht
 ·rename_i kt el hu;split at hs
  ·rename_i r hmv;rw[hmv]at hrm;obtain⟨b,hb,hxv⟩:=hrm;have hbm:=oK hb;split at hs
   ·rename_i es bs clock hr;obtain⟨ents,hheap,hst,hbs,hall,hgn⟩:=Jb hg.inv hr hb;have Br:=MapKept.run_getObj_map (P:=P) hheap;split at hs
    ·rename_i kv vv hkv hvv;have hkr:=CW hrk hkv;have hvr:=CW hrv hvv;split at hs
     ·rename_i hko;have hck:=λe=>F1 (P:=P) (w:=w) hkr ht hko e;split at hs
      ·rename_i hf;simp only[oH]at hs;subst hs;have hfk:=Ck (P:=P) (w:=w) hkr ht hko hall hf;have hno:=(Fs (P:=P) (w:=w) hkr ht hko hall hf).2.2 rfl;obtain⟨p1,p2,p3⟩:=Fp (o':= .map (ents.push {key:=a.eval k,val:=a.eval v,born:=clock}) (clock+1)) hheap g hgn hg.inv.agree;refine⟨undef,_,g,μ,.inr ⟨?_,rfl⟩,⟨?_,hg.glob,by rw[BD,hg.sz]⟩,p2.mono (DU O hg hbm),oQ _⟩
       ·simp[execOp,hop,hxv,Instr.mapUpdate,run_underlying hu,Br,hck,hfk,MapKept.run_setObj_map _ hheap,Result.andThen]
       ·rw[ho];refine hg.inv.setAny hr hb (.map (es++[(kv,vv)]) (bs++[clock]) (clock+1)) p2 p3 ⟨_,p1,MapKept.stamped_push hst hno,by simp[hbs],?_,hgn⟩ (λk ds d h=>by cases h);simp only[Array.toList_push];exact hall.append (.cons ⟨hkr,hvr⟩ .nil)
      ·rename_i j hf;simp only[oH]at hs;subst hs;have hfk:=Ck (P:=P) (w:=w) hkr ht hko hall hf;obtain⟨e,he,hek⟩:=(Fs (P:=P) (w:=w) hkr ht hko hall hf).2.1 j rfl;simp only[pE,he,o9]at hfk;have hej:ents[j]?=some e:=by simpa using he
       have hsb:(Instr.keyThatStays (a.eval k) (a.eval k)).run P w= .ok (a.eval k) w:=by
        have:=(Iz hkr hkr hko hko (b:=true) (by
         simp only[Bj,oJ]at hko;cases h2:V.eqL ks kv.cells kv.cells with
         |none=>simp[h2]at hko
         |some b=>cases b<;>simp[h2]at hko ⊢)).2 9999
        simp[Instr.keyThatStays,this]
       obtain⟨p1,p2,p3⟩:=Fp (o':= .map (ents.modify j λe=>{e with key:=a.eval k,val:=a.eval v}) clock) hheap g hgn hg.inv.agree;refine⟨undef,_,g,μ,.inr ⟨?_,rfl⟩,⟨?_,hg.glob,by rw[BD,hg.sz]⟩,p2.mono (DU O hg hbm),oQ _⟩
       ·simp[execOp,hop,hxv,Instr.mapUpdate,run_underlying hu,Br,hck,hfk,hej,hek,hsb,MapKept.run_setObj_map _ hheap,Result.andThen]
       ·rw[ho];refine hg.inv.setAny hr hb (.map (es.set j (kv,vv)) bs clock) p2 p3 ⟨_,p1,MapKept.stamped_modify hst _ _ (λ_ _=>rfl) (λe' _ he'=>?_),?_,?_,hgn⟩ (λk ds d h=>by cases h)
        ·rw[hej]at he';cases he';exact hek.symm
        ·rw[←hbs];exact KJ _ _ _ λ_=>rfl
        ·have hset:(ents.modify j λe=>{e with key:=a.eval k,val:=a.eval v}).toList=ents.toList.set j {e with key:=a.eval k,val:=a.eval v}:=by
          apply pe;intro i;simp only[pV,sD,pU];by_cases hij:j=i
          ·subst hij;obtain⟨hlt,heq⟩:=qX.1 hej;simp[hlt,heq]
          ·simp[hij]
         rw[hset];exact hall.set ⟨hkr,hvr⟩
      ·cases hs
     ·cases hs
    ·cases hs
   ·cases hs
  ·cases hs
 ·cases ht
theorem Gw {α:Type} {l:List α} {x:α} (h:l[r]?=some x):l.set r x=l:=by
 apply pe;intro i;rw[pU];by_cases hi:r=i
 ·subst hi;have:=(oM.1 h).1;simp[this,h];exact((oM.1 h).2).symm
 ·simp[hi]
theorem Lz {α β:Type} {R:α→β→Prop} {xs:List α} {ys:List β} (h:All2 R xs ys) (i:Nat):All2 R (xs.eraseIdx i) (ys.eraseIdx i):=by
 induction xs generalizing ys i with
 |nil=>
  have:=pK h.1;subst this;simpa using (All2.nil:All2 R [] [])
 |cons x xs ih=>
  cases ys with
  |nil=>simp[All2]at h
  |cons y ys=>
   rw[All2.cons_iff]at h;cases i with
   |zero=>simpa using h.2
   |succ i=>simp only[List.eraseIdx_cons_succ];exact .cons h.1 (ih h.2 i)
theorem VA {d:Option Nat} {t2:Nat} {k:Operand} {m' k':Opd} {st:Bool} (ho:o.dst=d) (hd:∀n,d=some n→n <N) (hop:o.op= .call {callee:= .builtin .delete,args:= #[x,k],argTypes:= #[t,t2]})
  (ht:(match P.underlying t with|some (.map kt _)=>Ek P kt st ks|_=>false)=true) (hm:oe GL x m'=true) (hk:oe GL k k'=true):Dm P GL N o (.mdel d m' k' st ks):=by
 intro g w μ s s' a O hg hs;simp only[AI.step]at hs;have hrm:=(hg.gd P).ev hm;have hrk:=(hg.gd P).ev hk;have fin:∀ {g':Gh} {w':World} {h':List Row},Gs GL N g' w' μ ⟨s.e,h'⟩ a O→Gs GL N g' w' μ ⟨Bu s.e d (.tup []),h'⟩ (a.put o.dst (.tuple #[])) O:=by
  intro g' w' h' hgs;rw[ho];cases d with
  |none=>exact⟨hgs.inv,hgs.glob,by rw[BD,hgs.sz]⟩
  |some n=>exact hgs.set (hd n rfl) ⟨[],rfl,.nil⟩ λk=>by simp[Af,Ac]
 split at ht
 ·rename_i kt el hu;split at hs
  ·rename_i r hmv;rw[hmv]at hrm;obtain⟨b,hb,hxv⟩:=hrm;have hbm:=oK hb;split at hs
   ·rename_i es bs clock hr;obtain⟨ents,hheap,hst,hbs,hall,hgn⟩:=Jb hg.inv hr hb;have Br:=MapKept.run_getObj_map (P:=P) hheap;split at hs
    ·rename_i kv hkv;have hkr:=CW hrk hkv;split at hs
     ·rename_i hko;have hck:=λe=>F1 (P:=P) (w:=w) hkr ht hko e;split at hs
      ·rename_i hf;simp only[oH]at hs;subst hs;have hfk:=Ck (P:=P) (w:=w) hkr ht hko hall hf;obtain⟨p1,p2,p3⟩:=Fp (o':= .map ents clock) hheap g hgn hg.inv.agree;refine⟨.tuple #[],_,g,μ,.inl ?_,fin ⟨?_,hg.glob,hg.sz⟩,p2.mono (DU O hg hbm),oQ _⟩
       ·simp[execOp,hop,hxv,resolve,invoke,builtin,Builtin.delete_,run_underlying hu,Br,hck,hfk,MapKept.run_setObj_map _ hheap,Result.andThen]
       ·have:=hg.inv.setAny hr hb (.map es bs clock) p2 p3 ⟨_,p1,hst,hbs,hall,hgn⟩ (λk ds d h=>by cases h)
        rwa [Gw hr]at this
      ·rename_i j hf;simp only[oH]at hs;subst hs;have hfk:=Ck (P:=P) (w:=w) hkr ht hko hall hf;obtain⟨e,he,hek⟩:=(Fs (P:=P) (w:=w) hkr ht hko hall hf).2.1 j rfl;simp only[pE,he,o9]at hfk;obtain⟨p1,p2,p3⟩:=Fp (o':= .map (ents.eraseIdxIfInBounds j) clock) hheap g hgn hg.inv.agree;refine⟨.tuple #[],_,g,μ,.inl ?_,fin ⟨?_,hg.glob,hg.sz⟩,p2.mono (DU O hg hbm),oQ _⟩
       ·simp[execOp,hop,hxv,resolve,invoke,builtin,Builtin.delete_,run_underlying hu,Br,hck,hfk,MapKept.run_setObj_map _ hheap,Result.andThen]
       ·refine hg.inv.setAny hr hb (.map (es.eraseIdx j) (bs.eraseIdx j) clock) p2 p3 ⟨_,p1,MapKept.stamped_erase hst j,?_,?_,hgn⟩ (λk ds d h=>by cases h)
        all_goals
         have hj:j <ents.size:=by have:=(oM.1 he).1;simpa using this
         have:(ents.eraseIdxIfInBounds j).toList=ents.toList.eraseIdx j:=by simp[Array.eraseIdxIfInBounds,hj]
        ·rw[this,←hbs,H7]
        ·rw[this];exact Lz hall j
      ·cases hs
     ·cases hs
    ·cases hs
   ·cases hs
  ·cases hs
 ·cases ht
theorem U9 {d:Nat} {k:Operand} {m' k':Opd} {st:Bool} (ho:o.dst=some d) (hd:d <N) (hop:o.op= .mapEntry t x k)
  (ht:(match P.underlying t with|some (.map kt _)=>Ek P kt st ks|_=>false)=true) (hm:oe GL x m'=true) (hk:oe GL k k'=true):Dm P GL N o (.ment d m' k' st ks):=by
 intro g w μ s s' a O hg hs;simp only[AI.step]at hs;have hrm:=(hg.gd P).ev hm;have hrk:=(hg.gd P).ev hk;split at ht
 ·rename_i kt el hu;split at hs
  ·rename_i r hmv;rw[hmv]at hrm;obtain⟨b,hb,hxv⟩:=hrm;have hbm:=oK hb;split at hs
   ·rename_i es bs clock hr;obtain⟨ents,hheap,hst,hbs,hall,hgn⟩:=Jb hg.inv hr hb;have Br:=MapKept.run_getObj_map (P:=P) hheap;split at hs
    ·rename_i kv hkv;have hkr:=CW hrk hkv;split at hs
     ·rename_i hko;have hck:=λe=>F1 (P:=P) (w:=w) hkr ht hko e;split at hs
      ·rename_i j hf;split at hs
       ·rename_i p n hp hn;simp only[oH]at hs;subst hs;have hfk:=Ck (P:=P) (w:=w) hkr ht hko hall hf;obtain⟨e,he,hek⟩:=(Fs (P:=P) (w:=w) hkr ht hko hall hf).2.1 j rfl;simp only[pE,he,o9]at hfk;have hej:ents[j]?=some e:=by simpa using he
        have hsb:(Instr.keyThatStays (a.eval k) (a.eval k)).run P w= .ok (a.eval k) w:=by
         have:=(Iz hkr hkr hko hko (b:=true) (by
          simp only[Bj,oJ]at hko;cases h2:V.eqL ks kv.cells kv.cells with
          |none=>simp[h2]at hko
          |some b=>cases b<;>simp[h2]at hko ⊢)).2 9999
         simp[Instr.keyThatStays,this]
        have hborn:e.born=n:=by
         have:bs[j]?=some e.born:=by rw[←hbs];simp[hej]
         rw[hn]at this;simpa using this.symm
        have hval:RepV g p.2 e.val:=(hall.2 j p e hp he).2;have hsame:ents.modify j (λe=>{e with key:=a.eval k})=ents:=by
         apply Array.ext_getElem?;intro i;rw[sD];by_cases hij:j=i
         ·subst hij;simp[hej,←hek]
         ·simp[hij]
        obtain⟨p1,p2,p3⟩:=Fp (o':= .map ents clock) hheap g hgn hg.inv.agree;refine⟨.tuple #[e.val,.int .i64 n],_,g,μ,.inl ?_,?_,p2.mono (DU O hg hbm),oQ _⟩
        ·simp[execOp,hop,hxv,Instr.mapEntry,run_underlying hu,Br,hck,hfk,hej,hek,hsb,hsame,MapKept.run_setObj_map _ hheap,Result.andThen,goInt,hborn]
        ·have h1:=hg.inv.setAny hr hb (.map es bs clock) p2 p3 ⟨_,p1,hst,hbs,hall,hgn⟩ (λk ds d h=>by cases h);rw[Gw hr]at h1;rw[ho];have hgs:Gs GL N g {w with heap:=w.heap.setIfInBounds b (.map ents clock)} μ s a O:=⟨h1,hg.glob,hg.sz⟩;refine hgs.set hd (x:= .tup [.v p.2,.v (.int .i64 n)]) ⟨[e.val,.int .i64 n],rfl,.cons hval (.cons (.int _ _) .nil)⟩ λk=>?_;simp only[Af,qw];cases k with
         |zero=>rfl
         |succ k=>cases k with
          |zero=>rfl
          |succ k=>simp[Ac]
       ·cases hs
      ·cases hs
     ·cases hs
    ·cases hs
   ·cases hs
  ·cases hs
 ·cases ht
theorem U8 {b0 v:Operand} {m' b' v':Opd} (ho:o.dst=none) (hop:o.op= .entryStore t x b0 v) (hm:oe GL x m'=true) (hk:oe GL b0 b'=true) (hv:oe GL v v'=true):
  Dm P GL N o (.mest m' b' v'):=by
 intro g w μ s s' a O hg hs;simp only[AI.step]at hs;have hrm:=(hg.gd P).ev hm;have hrk:=(hg.gd P).ev hk;have hrv:=(hg.gd P).ev hv;split at hs
 ·rename_i r hmv;rw[hmv]at hrm;obtain⟨b,hb,hxv⟩:=hrm;have hbm:=oK hb;split at hs
  ·rename_i es bs clock hr;obtain⟨ents,hheap,hst,hbs,hall,hgn⟩:=Jb hg.inv hr hb;have Br:=MapKept.run_getObj_map (P:=P) hheap;split at hs
   ·rename_i kk n vv hbv hvv;rw[hbv]at hrk;have hbi:=Ep hrk;have hvr:=CW hrv hvv;split at hs
    ·rename_i j hj;split at hs
     ·rename_i p hp;simp only[oH]at hs;subst hs;have hidx:ents.findIdx? (λe=>(e.born:Int)==n)=some j:=by
       rw[←hbs,List.findIdx?_map]at hj;have:ents=ents.toList.toArray:=by simp
       rw[this,List.findIdx?_toArray];exact hj
      obtain⟨p1,p2,p3⟩:=Fp (o':= .map (ents.modify j λe=>{e with val:=a.eval v}) clock) hheap g hgn hg.inv.agree;obtain⟨e,he,hep⟩:=hall.get hp;have hej:ents[j]?=some e:=by simpa using he
      refine⟨undef,_,g,μ,.inr ⟨?_,rfl⟩,⟨?_,hg.glob,by rw[BD,hg.sz]⟩,p2.mono (DU O hg hbm),oQ _⟩
      ·simp[execOp,hop,hxv,hbi,Instr.entryStore,Br,asInt,asIntOf,hidx,MapKept.run_setObj_map _ hheap,Result.andThen]
      ·rw[ho];refine hg.inv.setAny hr hb (.map (es.set j (p.1,vv)) bs clock) p2 p3 ⟨_,p1,MapKept.stamped_modify hst _ _ (λ_ _=>rfl) (λe' _ he'=>rfl),?_,?_,hgn⟩ (λk ds d h=>by cases h)
       ·rw[←hbs];exact KJ _ _ _ λ_=>rfl
       ·have hset:(ents.modify j λe=>{e with val:=a.eval v}).toList=ents.toList.set j {e with val:=a.eval v}:=by
         apply pe;intro i;simp only[pV,sD,pU];by_cases hij:j=i
         ·subst hij;obtain⟨hlt,heq⟩:=qX.1 hej;simp[hlt,heq]
         ·simp[hij]
        rw[hset];exact hall.set ⟨hep.1,hvr⟩
     ·cases hs
    ·cases hs
   ·cases hs
  ·cases hs
 ·cases hs
end
end
section
def DM:List (Nat×Nat)→Nat→Nat
 |[],r=>r
 |p::π,r=>if p.1=r then p.2 else DM π r
def CC (π:List (Nat×Nat)):List (Nat×Nat):=π.map λp=>(p.2,p.1)
mutual
def D.ren (π:List (Nat×Nat)):D→D
 | .ref r o=> .ref (DM π r) o
 | .sref r n=> .sref (DM π r) n
 | .mref r=> .mref (DM π r)
 | .yld r=> .yld (DM π r)
 | .agg ds=> .agg (D.rens π ds)
 | .tup ds=> .tup (D.rens π ds)
 | .func f ds=> .func f (D.rens π ds)
 | .meth f ds=> .meth f (D.rens π ds)
 | .v x=> .v x
 | .any=> .any
 | .nil e s=> .nil e s
 | .own e s xs=> .own e s xs
 | .pend b e s xs=> .pend b e s xs
 | .pptr b s n=> .pptr b s n
def D.rens (π:List (Nat×Nat)):List D→List D
 |[]=>[]
 |d::ds=>D.ren π d::D.rens π ds
end
theorem Cf (π:List (Nat×Nat)):∀ds:List D,D.rens π ds=ds.map (D.ren π)
 |[]=>rfl
 |d::ds=>by simp only[D.rens,oV,Cf π ds]
def Row.ren (π:List (Nat×Nat)):Row→Row
 | .cells ds=> .cells (D.rens π ds)
 |x=>x
def K6 (n0 len:Nat) (π:List (Nat×Nat)):Bool:=
 (List.range len).all λr=>decide (DM π r <len)&&decide (DM (CC π) r <len)&&DM (CC π) (DM π r)==r&&DM π (DM (CC π) r)==r&&(decide (n0≤r)||DM (CC π) r==r)
def Row.isObj:Row→Bool
 | .obj _ _ _=>true
 |_=>false
def MQ (h:List Row):Bool:=h.all λr=> !r.isObj
def Ay (π:List (Nat×Nat)) (h:List Row):List Row:=(List.range h.length).map λi=>((h[DM (CC π) i]?).getD .dead).ren π
def K0 (π:List (Nat×Nat)) (μ:List Nat):List Nat:=(List.range μ.length).map λi=>(μ[DM (CC π) i]?).getD 0
def PC (n0:Nat) (s s2:St):Prop:=
 s2=s∨∃π,K6 n0 s.h.length π=true∧MQ s.h=true∧(∀n,AG s2.e n=(AG s.e n).ren π)∧s2.h=Ay π s.h
section
variable {g:Gh} {w:World} {μ:List Nat} {π:List (Nat×Nat)}
theorem RepC.ren {μ':List Nat} (hπ:∀r b,μ[r]?=some b→μ'[DM π r]?=some b) {d:D} {u:Value} (h:RepC g μ d u):RepC g μ' (d.ren π) u:=by
 cases d<;>simp only[RepC,D.ren]at h ⊢
 ·exact h
 ·obtain⟨b,hb,rfl⟩:=h;exact⟨b,hπ _ _ hb,rfl⟩
theorem RepE.ren {μ':List Nat} (hπ:∀r b,μ[r]?=some b→μ'[DM π r]?=some b) {d:D} {u:Value} (h:RepE g w μ d u):RepE g w μ' (d.ren π) u:=by
 cases d<;>simp only[RepE,D.ren]at h ⊢
 ·exact h
 ·exact h
 ·exact h
 ·obtain⟨b,hb,rfl⟩:=h;exact⟨b,hπ _ _ hb,rfl⟩
 ·obtain⟨b,cap,hb,rfl,hn⟩:=h;exact⟨b,cap,hπ _ _ hb,rfl,hn⟩
 ·obtain⟨b,hb,rfl⟩:=h;exact⟨b,hπ _ _ hb,rfl⟩
 ·obtain⟨vs,rfl,h⟩:=h;refine⟨vs,rfl,?_⟩;rw[Cf];exact All2.map_left (λx y hx=>RepC.ren hπ hx) h
 ·obtain⟨vs,rfl,h⟩:=h;refine⟨vs,rfl,?_⟩;rw[Cf];exact All2.map_left (λx y hx=>RepC.ren hπ hx) h
 ·obtain⟨b,hb,rfl⟩:=h;exact⟨b,hπ _ _ hb,rfl⟩
 ·exact h
 ·exact h
theorem K8 (d:D) (v:Value):Ac (d.ren π) v=Ac d v:=by cases d<;>simp only[D.ren]<;>simp only[Ac]
theorem RepG.ren {μ':List Nat} (hπ:∀r b,μ[r]?=some b→μ'[DM π r]?=some b) {d:D} {u:Value} (h:RepG g w μ d u):RepG g w μ' (d.ren π) u:=by
 have key:RepE g w μ d u→RepE g w μ' (d.ren π) u:=λh=>RepE.ren hπ h;cases d with
 |agg ds=>
  obtain⟨vs,rfl,ha,h1,h2⟩:=h;simp only[D.ren];refine⟨vs,rfl,?_,h1,λd hd v=>?_⟩
  ·rw[Cf];exact All2.map_left (λx y hx=>RepE.ren hπ hx) ha
  ·rw[Cf,oP]at hd;obtain⟨d',hd',rfl⟩:=hd;rw[K8];exact h2 d' hd' v
 |_=>simp only[D.ren]at key ⊢;exact key h
theorem RepD.ren {μ':List Nat} (hπ:∀r b,μ[r]?=some b→μ'[DM π r]?=some b) {d:D} {u:Value} (h:RepD g w μ d u):RepD g w μ' (d.ren π) u:=by
 have key:RepG g w μ d u→RepG g w μ' (d.ren π) u:=λh=>RepG.ren hπ h;cases d with
 |tup ds=>
  obtain⟨vs,rfl,ha⟩:=h;simp only[D.ren];refine⟨vs,rfl,?_⟩;rw[Cf];exact All2.map_left (λx y hx=>RepG.ren hπ hx) ha
 |_=>simp only[D.ren]at key ⊢;exact key h
theorem RF (d:D) (v:Value) (k:Nat):Af (d.ren π) v k=Af d v k:=by
 cases d with
 |tup ds=>
  have e:∀v:Value,Ac ((ds.map (D.ren π))[k]?.getD .any) v=Ac (ds[k]?.getD .any) v:=by
   intro v;simp only[oX];cases ds[k]? with
   |none=>rfl
   |some d=>simp[K8]
  have e2:∀(ds:List D) (v:Value),Ac (.tup ds) v=none:=λ_ _=>rfl;simp only[D.ren,Cf];cases v<;>cases k<;>simp only[Af,e,e2]
 |_=>cases k<;>simp only[D.ren,Af,Ac]
theorem Inv.ren {t t':Nat→D} {u:Nat→Value} {h:List Row} {O:Nat→Prop} {n0:Nat} (hi:Inv g w μ t u h O) (hp:K6 n0 h.length π=true) (ho:MQ h=true) (ht:∀n,t' n=(t n).ren π):
  Inv g w (K0 π μ) t' u (Ay π h) O:=by
 have hlen:μ.length=h.length:=hi.len;have hp':∀r,r <h.length→DM π r <h.length∧DM (CC π) r <h.length∧DM (CC π) (DM π r)=r∧DM π (DM (CC π) r)=r:=by
  intro r hr;have:=oY.1 hp r (oy.2 hr);simp only[oJ,decide_eq_true_eq,beq_iff_eq]at this;exact⟨this.1.1.1.1,this.1.1.1.2,this.1.1.2,this.1.2⟩
 have hμ:∀r b,(K0 π μ)[r]?=some b↔r <h.length∧μ[DM (CC π) r]?=some b:=by
  intro r b;simp only[K0,oX];by_cases hr:r <h.length
  ·have:(List.range μ.length)[r]?=some r:=qI (by omega);have hlt:=(hp' r hr).2.1;have e1:μ[DM (CC π) r]?=some μ[DM (CC π) r]:=oI (by omega);simp only[this,o9,e1,og,hr,true_and]
  ·have:(List.range μ.length)[r]?=none:=by simp;omega
   simp[this,hr]
 have hh:∀r row,(Ay π h)[r]?=some row↔r <h.length∧∃row0,h[DM (CC π) r]?=some row0∧row=row0.ren π:=by
  intro r row;simp only[Ay,oX];by_cases hr:r <h.length
  ·have:(List.range h.length)[r]?=some r:=qI hr;have hlt:=(hp' r hr).2.1;have e1:h[DM (CC π) r]?=some h[DM (CC π) r]:=oI hlt;simp only[this,o9,e1,og,hr,true_and,oH];exact⟨λh=>⟨_,rfl,h.symm⟩,λ⟨x,hx,hr⟩=>by rw[hr,hx]⟩
  ·have:(List.range h.length)[r]?=none:=by simp;omega
   simp[this,hr]
 have hπ:∀r b,μ[r]?=some b→(K0 π μ)[DM π r]?=some b:=by
  intro r b hb;have hr:r <h.length:=by have:=(oM.1 hb).1;omega
  rw[hμ];exact⟨(hp' r hr).1,by rw[(hp' r hr).2.2.1];exact hb⟩
 have hcellU:∀r k,r <h.length→BF w (K0 π μ) r k=BF w μ (DM (CC π) r) k:=by
  intro r k hr;simp only[BF];have hlt:=(hp' r hr).2.1;have e1:μ[DM (CC π) r]?=some μ[DM (CC π) r]:=oI (by omega);rw[(hμ r _).2 ⟨hr,e1⟩,e1]
 have hcellD:∀r k v,r <h.length→Ac (A7 (Ay π h) r k) v=Ac (A7 h (DM (CC π) r) k) v:=by
  intro r k v hr;have hlt:=(hp' r hr).2.1;have e1:h[DM (CC π) r]?=some h[DM (CC π) r]:=oI hlt;simp only[A7,(hh r _).2 ⟨hr,_,e1,rfl⟩,e1];cases h[DM (CC π) r]with
  |cells ds=>
   simp only[Row.ren,Cf,oX];cases ds[k]? with
   |none=>rfl
   |some d=>simp[K8]
  |_=>rfl
 have hout:∀r k v,¬r <h.length→Ac (A7 (Ay π h) r k) v=none:=by
  intro r k v hr;have:(Ay π h)[r]?=none:=by simp[Ay];omega
  simp[A7,this,Ac]
 have hblk:∀p b,CS t' u (Ay π h) w (K0 π μ) p=some b→CS t u h w μ (match p with| .tmp n k=> .tmp n k| .cell r k=> .cell (DM (CC π) r) k)=some b:=by
  intro p b hb;cases p with
  |tmp n k=>simp only[CS,ht,RF]at hb ⊢;exact hb
  |cell r k=>
   simp only[CS]at hb ⊢;by_cases hr:r <h.length
   ·rw[hcellD r k _ hr,hcellU r k hr]at hb;exact hb
   ·rw[hout r k _ hr]at hb;cases hb
 have hblt:∀r k b,CS t' u (Ay π h) w (K0 π μ) (.cell r k)=some b→r <h.length:=by
  intro r k b hb;by_cases hr:r <h.length
  ·exact hr
  ·simp only[CS,hout r k _ hr]at hb;cases hb
 have hmem:∀b,b∈K0 π μ→b∈μ:=by
  intro b hb;obtain⟨r,hr⟩:=qW.1 hb;exact oK ((hμ r b).1 hr).2
 refine⟨hi.agree,hi.olt,λn=>by rw[ht];exact(hi.rep n).ren hπ,by simp[K0,Ay,hlen],?_,?_,λb hb=>hi.mo b (hmem b hb),?_,λp b hb=>⟨λhm=>(hi.sep _ b (hblk p b hb)).1 (hmem b hm),(hi.sep _ b (hblk p b hb)).2⟩⟩
 ·intro r row b hr hb;obtain⟨_,row0,hr0,rfl⟩:=(hh r row).1 hr;have hb0:=((hμ r b).1 hb).2;have:=hi.rows _ row0 b hr0 hb0;cases row0 with
  |cells ds=>
   obtain⟨vs,T,h1,h2,h3,h4⟩:=this;exact⟨vs,T,h1,by rw[Cf];exact All2.map_left (λx y hx=>RepE.ren hπ hx) h2,h3,h4⟩
  |map es st ck=>exact this
  |obj tag p m=>
   have:=oY.1 ho _ (oK hr0);simp[Row.isObj]at this
  |dead=>exact this
 ·intro r r' b hb hb';obtain⟨hr,h1⟩:=(hμ r b).1 hb;obtain⟨hr',h2⟩:=(hμ r' b).1 hb';have:=hi.nod _ _ b h1 h2;rw[←(hp' r hr).2.2.2,←(hp' r' hr').2.2.2,this]
 ·intro p q b hp hq;have h1:=hblk p b hp;have h2:=hblk q b hq;have:=hi.uniq _ _ b h1 h2;cases p with
  |tmp n k=>cases q with
   |tmp n' k'=>exact this
   |cell r' k'=>cases this
  |cell r k=>cases q with
   |tmp n' k'=>cases this
   |cell r' k'=>
    simp only[Pl.cell.injEq]at this;have hr:=hblt r k b hp;have hr':=hblt r' k' b hq;rw[←(hp' r hr).2.2.2,←(hp' r' hr').2.2.2,this.1,this.2]
end
section
variable {GL:Aa} {N:Nat}
theorem Gs.ren {g:Gh} {w:World} {μ:List Nat} {s s2:St} {a:Act} {O:Nat→Prop} {n0:Nat} (hg:Gs GL N g w μ s a O) (hr:PC n0 s s2):∃μ2,Gs GL N g w μ2 s2 a O∧∀μ0:List Nat,μ0.length≤n0→μ0 <+: μ→μ0 <+: μ2:=by
 rcases hr with rfl|⟨π,hp,ho,he,hh⟩
 ·exact⟨μ,hg,λ_ _ h=>h⟩
 ·refine⟨K0 π μ,⟨?_,hg.glob,hg.sz⟩,λμ0 hl hpre=>?_⟩
  ·rw[hh];exact hg.inv.ren hp ho he
  ·have hlen:μ.length=s.h.length:=hg.inv.len;rw[List.prefix_iff_eq_take];apply pe;intro i;rw[oz];by_cases hi:i <μ0.length
   ·rw[if_pos hi];have h1:μ0[i]?=some μ0[i]:=oI hi;have h2:μ[i]?=some μ0[i]:=Er hpre h1;have hi2:i <s.h.length:=by have:=(oM.1 h2).1;omega
    have:=oY.1 hp i (oy.2 hi2);simp only[oJ,qY,decide_eq_true_eq,beq_iff_eq]at this;have h3:DM (CC π) i=i:=by
     rcases this.2 with h|h
     ·omega
     ·exact h
    simp only[K0,oX,qI (show i <μ.length by omega),o9,h3,h2,og,h1]
   ·rw[if_neg hi,pN (by omega)]
end
end
end Go.Va
