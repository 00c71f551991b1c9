/- Part 1 of the proof that ExtractOther returns true for every input and leaves its arguments alone. Condition: the variable that the row lists holds what the text of the program lays. Texts joined here: VaA VaB VaC VaD VaE VaF VaFa VaFb VaG VaH VaI VaJ VaK VaL VaM VaN VaNa VaNb VaNc VaNd. -/
import Derived.CallsIn
import Derived.Laws.AppendOwn
import Derived.Laws.Cells
import Derived.MapKept
import Derived.Laws.Panics
import Derived.Laws.StructEq
import Derived.Laws.IdiomStrings
import Derived.WideKeyRuns
import Derived.Great.BuildSlice
import Derived.Lib.AppendStr
import Derived.Lib.ConvBytes
import Derived.Laws.MakeOwn
import Derived.Laws.OwnMore
set_option linter.all false
set_option maxRecDepth 100000
namespace Go.Va
def AT0:=@Option.some.injEq
def AT1:=@Bool.and_eq_true
def AT2:=@List.getElem?_eq_getElem
def AT3:=@List.mem_of_getElem?
def AT4:=@List.getElem?_eq_some_iff
def AT5:=@List.length_append
def AT6:=@Nat.le_refl
def AT7:=@List.mem_cons
def AT8:=@List.prefix_refl
def AT9:=@List.mem_map
def AUA:=@Option.map_eq_some_iff
def AUB:=@List.append_assoc
def AUC:=@List.mem_singleton
def AUD:=@List.map_cons
def AUE:=@List.not_mem_nil
def AUF:=@Bool.false_eq_true
def AUG:=@List.getElem?_map
def AUH:=@Option.getD_some
def AUI:=@List.all_eq_true
def AUJ:=@List.getElem?_set_ne
def AUK:=@List.mem_append
def AUL:=@Array.getD_eq_getD_getElem?
def AUM:=@List.length_map
def AUN:=@List.flatMap_cons
def AUO:=@List.length_cons
def AUP:=@List.take_add_one
def AUQ:=@List.getElem?_append_left
def AUR:=@List.mem_range
def AUS:=@Nat.lt_or_ge
def AUT:=@List.length_take
def AUU:=@Option.map_some
def AUV:=@List.getElem?_take
def AUW:=@List.getElem?_eq_none
def AUX:=@Option.bind_some
def AUY:=@List.getElem?_set_self
def AUZ:=@List.map_append
def AUa:=@List.getElem?_append_right
def AUb:=@List.take_length
def AUc:=@List.take_of_length_le
def AUd:=@List.map_take
def AUe:=@List.getElem?_set
def AUf:=@Array.getElem?_setIfInBounds
def AUg:=@List.eq_nil_of_length_eq_zero
def AUh:=@Bool.true_and
def AUi:=@List.mem_of_mem_take
def AUj:=@List.ext_getElem?
def AUk:=@Nat.le_trans
def AUl:=@Array.getElem?_toList
def AUm:=@List.forall_mem_cons
def AUn:=@List.length_filter_le
def AUo:=@Nat.add_mul
def AUp:=@List.mem_flatMap
def AUq:=@List.append_nil
def AUr:=@List.take_append_drop
def AUs:=@List.getElem_mem
def AUt:=@List.length_set
def AUu:=@Array.toList_inj
def AUv:=@List.mem_or_eq_of_mem_set
def AUw:=@Bool.not_eq_true'
def AUx:=@List.cons_append
def AUy:=@List.findIdx?_cons
def AUz:=@List.prefix_append
def AU0:=@List.range_succ
def AU1:=@List.pairwise_append
def AU2:=@Int.pow_succ
def AU3:=@Bool.eq_iff_iff
def AU4:=@List.getElem?_range
def AU5:=@Int.mul_le_mul_of_nonneg_right
def AU6:=@Nat.zero_le
def AU7:=@Int.natCast_add
def AU8:=@List.mem_iff_getElem
def AU9:=@Nat.zero_add
def AVA:=@List.length_nil
def AVB:=@List.set_set
def AVC:=@List.take_succ_eq_append_getElem
def AVD:=@Bool.exists_bool
def AVE:=@List.sum_cons
def AVF:=@List.getElem?_drop
def AVG:=@Nat.min_eq_left
def AVH:=@List.getElem?_cons_succ
def AVI:=@Array.getElem?_eq_some_iff
def AVJ:=@Bool.or_eq_true
def AVK:=@Prod.ext
def AVL:=@Int.mul_comm
def AVM:=@List.map_map
def AVN:=@List.filter_append
def AVO:=@List.drop_eq_getElem_cons
def AVP:=@Array.getElem?_eq_none
def AVQ:=@List.foldl_cons
def AVR:=@Nat.add_zero
def AVS:=@Nat.mul_le_mul_right
def AVT:=@List.size_toArray
def AVU:=@List.mem_replicate
def AVV:=@Nat.succ_mul
def AVW:=@List.mem_iff_getElem?
def AVX:=@List.mem_cons_of_mem
def AVY:=@List.rel_of_pairwise_cons
def AVZ:=@List.mem_of_mem_erase
def AVa:=@List.pairwise_lt_range
def AVb:=@List.nodup_cons
def AVc:=@List.set_append_left
def AVd:=@List.mem_filter
def AVe:=@List.map_nil
def AVf:=@List.foldl_append
def AVg:=@List.any_eq_false
def AVh:=@Bool.and_true
def AVi:=@List.filter_cons
def AVj:=@List.findIdx?_eq_some_iff_getElem
def AVk:=@List.mem_of_mem_drop
def AVl:=@List.all_cons
def AVm:=@List.toList_toArray
def AVn:=@Nat.sub_zero
def AVo:=@List.mem_append_right
def AVp:=@List.set_append_right
def AVq:=@Int.fdiv_eq_ediv_of_nonneg
def AVr:=@List.flatMap_append
def AVs:=@Int.toNat_natCast
def AVt:=@Int.tmod_lt_of_pos
def AVu:=@List.length_filterMap_le
def AVv:=@Nat.mul_succ
def AVw:=@List.flatMap_nil
def AVx:=@Int.natCast_one
def AVy:=@Option.some.inj
def AVz:=@Nat.lt_of_lt_of_le
def AV0:=@Prod.mk.injEq
def AV1:=@Array.length_toList
def AV2:=@Nat.eq_zero_or_pos
def AV3:=@List.take_append_of_le_length
def AV4:=@List.mem_append_left
def AV5:=@Bool.false_and
def AV6:=@Nat.pow_le_pow_right
def AV7:=@Nat.sub_self
def AV8:=@Int.mul_assoc
def AV9:=@Int.pow_pos
def AWA:=@Int.mul_nonneg
def AWB:=@Nat.mul_le_mul_left
def AWC:=@List.length_range
def AWD:=@List.find?_eq_none
def AWE:=@Int.le_of_lt
def AWF:=@List.filter_nil
def AWG:=@List.getElem?_cons_zero
def AWH:=@List.zipIdx_cons
def AWI:=@List.set_eq_take_append_cons_drop
def AWJ:=@List.flatMap_map
def AWK:=@List.length_singleton
def AWL:=@List.range_succ_eq_map
def AWM:=@List.nil_append
def AWN:=@Array.getElem?_modify
def AWO:=@List.map_drop
def AWP:=@List.mem_erase_of_ne
def AWQ:=@List.length_erase_of_mem
def AWR:=@List.nodup_range
def AWS:=@Int.natCast_pow
def AWT:=@List.mem_cons_self
def AWU:=@Function.comp_def
def AWV:=@Bool.false_ne_true
def AWW:=@List.length_flatMap
def AWX:=@List.length_eq_zero_iff
def AWY:=@List.map_congr_left
def AWZ:=@List.getElem?_of_mem
def AWa:=@Int.tmod_nonneg
def AWb:=@Int.add_mul
def AWc:=@List.set_getElem_self
def AWd:=@Int.toNat_of_nonneg
def AWe:=@List.mergeSort_perm
def AWf:=@List.any_eq_true
def AWg:=@List.replicate_succ
def AWh:=@List.eq_nil_iff_forall_not_mem
def AWi:=@List.Sublist.append_left
def AWj:=@List.sublist_cons_self
def AWk:=@Option.bind_eq_some_iff
def AWl:=@Int.ediv_lt_of_lt_mul
def AWm:=@List.getD_eq_getElem?_getD
def AWn:=@List.findIdx?_eq_none_iff
def AWo:=@List.singleton_append
def AWp:=@List.drop_eq_nil_iff
def AWq:=@Int.tmod_eq_emod_of_nonneg
def AWr:=@Int.tdiv_eq_ediv_of_nonneg
inductive V where
 |int (k:IntKind) (n:Int)
 |bool (b:Bool)
 |str (s:ByteArray)
 |list (xs:List V)
 |agg (cs:List V)
 |ptr (cs:List V)
 |nilp
 |func (f:Nat) (caps:List V)
 |nilf
 |nilm
 deriving Inhabited
inductive D where
 |v (x:V)
 |any
 |nil (e s:Nat)
 |own (e s:Nat) (xs:List V)
 |agg (ds:List D)
 |tup (ds:List D)
 |ref (r off:Nat)
 |sref (r n:Nat)
 |mref (r:Nat)
 |func (f:Nat) (caps:List D)
 |meth (f:Nat) (caps:List D)
 |yld (r:Nat)
 |pend (b e s:Nat) (xs:List V)
 |pptr (b s n:Nat)
 deriving Inhabited
def V.cells:V→List V
 | .agg cs=>cs
 |x=>[x]
structure Gh where
 m:Nat→Nat→Option Value
def Gh.at (g:Gh) (b o:Nat) (cs:List Value):Prop:=∀i v,cs[i]?=some v→g.m b (o+i)=some v
def Gh.le (g g':Gh):Prop:=∀b o v,g.m b o=some v→g'.m b o=some v
theorem Gh.le.refl (g:Gh):g.le g:=λ_ _ _ h=>h
theorem Gh.le.trans {a b c:Gh} (h:a.le b) (h':b.le c):a.le c:=λ_ _ _ x=>h' _ _ _ (h _ _ _ x)
theorem Gh.at.mono {g g':Gh} (h:g.le g') {b o:Nat} {cs:List Value} (ha:g.at b o cs):g'.at b o cs:=λi v hv=>h _ _ _ (ha i v hv)
inductive Tag where
 |ready
 |busy
 |done (e:Option Nat)
 deriving Inhabited,DecidableEq
inductive Row where
 |cells (ds:List D)
 |map (es:List (V×V)) (st:List Nat) (ck:Nat)
 |obj (tag:Tag) (p:Gh→List Nat→Obj→Prop) (mono:∀g g' μ μ' o,g.le g'→μ <+: μ'→p g μ o→p g' μ' o)
 |dead
 deriving Inhabited
inductive RepV (g:Gh):V→Value→Prop
 |int (k:IntKind) (n:Int):RepV g (.int k n) (.int k n)
 |bool (b:Bool):RepV g (.bool b) (.bool b)
 |str (s:ByteArray):RepV g (.str s) (.string s)
 |lnil:RepV g (.list []) (.slice none 0 0)
 |list (xs:List V) (a:Addr) (cap s:Nat) (vs:Nat→Value) (hs:a.spot=none) (hc:xs.length≤cap)
   (hr:∀i x,xs[i]?=some x→RepV g x (vs i)) (hz:∀i,i <xs.length→(vs i).cells.size=s∧g.at a.block (a.off+i*s) (vs i).cells.toList):
   RepV g (.list xs) (.slice (some a) xs.length cap)
 |agg (cs:List V) (vs:List Value) (hl:vs.length=cs.length) (hr:∀(i:Nat) x v,cs[i]?=some x→vs[i]?=some v→RepV g x v) (h1:∀v∈vs,v.oneCell'=true):
   RepV g (.agg cs) (.agg vs.toArray)
 |ptr (cs:List V) (a:Addr) (vs:List Value) (hs:a.spot=none) (hl:vs.length=cs.length) (hr:∀(i:Nat) x v,cs[i]?=some x→vs[i]?=some v→RepV g x v)
   (h1:∀v∈vs,v.oneCell'=true) (ha:g.at a.block a.off vs):RepV g (.ptr cs) (.pointer (some a))
 |nilp:RepV g .nilp (.pointer none)
 |func (f:Nat) (caps:List V) (vs:List Value) (hl:vs.length=caps.length) (hr:∀(i:Nat) x v,caps[i]?=some x→vs[i]?=some v→RepV g x v):
   RepV g (.func f caps) (.func (.func f) #[] vs.toArray)
 |nilf:RepV g .nilf .nilFunc
 |nilm:RepV g .nilm (.map none)
theorem RepV.mono {g g':Gh} (h:g.le g') {x:V} {v:Value} (hr:RepV g x v):RepV g' x v:=by
 induction hr with
 |int=>exact .int _ _
 |bool=>exact .bool _
 |str=>exact .str _
 |lnil=>exact .lnil
 |list xs a cap s vs hs hc _ hz ih=>exact .list xs a cap s vs hs hc ih λi hi=>⟨(hz i hi).1,(hz i hi).2.mono h⟩
 |agg cs vs hl _ h1 ih=>exact .agg cs vs hl ih h1
 |ptr cs a vs hs hl _ h1 ha ih=>exact .ptr cs a vs hs hl ih h1 (ha.mono h)
 |nilp=>exact .nilp
 |func f caps vs hl _ ih=>exact .func f caps vs hl ih
 |nilf=>exact .nilf
 |nilm=>exact .nilm
def All2 {α β:Type} (R:α→β→Prop) (xs:List α) (ys:List β):Prop:=
 ys.length=xs.length∧∀(i:Nat) x y,xs[i]?=some x→ys[i]?=some y→R x y
theorem All2.nil {α β:Type} {R:α→β→Prop}:All2 R [] []:=⟨rfl,λi x y h=>by simp at h⟩
theorem All2.cons {α β:Type} {R:α→β→Prop} {x:α} {y:β} {xs:List α} {ys:List β} (h:R x y) (hs:All2 R xs ys):All2 R (x::xs) (y::ys):=by
 refine⟨by simp[hs.1],λi a b ha hb=>?_⟩;cases i with
 |zero=>simp at ha hb;subst ha;subst hb;exact h
 |succ i=>exact hs.2 i a b (by simpa using ha) (by simpa using hb)
theorem All2.cons_iff {α β:Type} {R:α→β→Prop} {x:α} {y:β} {xs:List α} {ys:List β}:All2 R (x::xs) (y::ys)↔R x y∧All2 R xs ys:=by
 constructor
 ·intro h;refine⟨h.2 0 x y rfl rfl,by simpa using h.1,λi a b ha hb=>h.2 (i+1) a b (by simpa using ha) (by simpa using hb)⟩
 ·exact λ⟨h,hs⟩=> .cons h hs
theorem All2.imp {α β:Type} {R S:α→β→Prop} (f:∀x y,R x y→S x y) {xs:List α} {ys:List β} (h:All2 R xs ys):All2 S xs ys:=
 ⟨h.1,λi x y hx hy=>f _ _ (h.2 i x y hx hy)⟩
theorem All2.append {α β:Type} {R:α→β→Prop} {xs:List α} {ys:List β} {xs':List α} {ys':List β} (h:All2 R xs ys) (h':All2 R xs' ys'):All2 R (xs++xs') (ys++ys'):=by
 refine⟨by simp[h.1,h'.1],λi a b ha hb=>?_⟩;by_cases hi:i <xs.length
 ·rw[AUQ hi]at ha;rw[AUQ (h.1▸hi)]at hb;exact h.2 i a b ha hb
 ·rw[AUa (by omega)]at ha;rw[AUa (by have:=h.1;omega),h.1]at hb;exact h'.2 _ a b ha hb
theorem All2.take {α β:Type} {R:α→β→Prop} {xs:List α} {ys:List β} (h:All2 R xs ys) (n:Nat):All2 R (xs.take n) (ys.take n):=by
 refine⟨by simp[h.1],λi a b ha hb=>?_⟩;rw[AUV]at ha hb;split at ha<;>simp_all
 exact h.2 i a b ha hb
theorem All2.drop {α β:Type} {R:α→β→Prop} {xs:List α} {ys:List β} (h:All2 R xs ys) (n:Nat):All2 R (xs.drop n) (ys.drop n):=by
 refine⟨by simp[h.1],λi a b ha hb=>?_⟩;rw[AVF]at ha hb;exact h.2 _ a b ha hb
theorem All2.get {α β:Type} {R:α→β→Prop} {xs:List α} {ys:List β} (h:All2 R xs ys) {i:Nat} {x:α} (hx:xs[i]?=some x):∃y,ys[i]?=some y∧R x y:=by
 have hi:i <xs.length:=(AT4.1 hx).1;have hy:ys[i]?=some (ys[i]'(h.1▸hi)):=AT2 _;exact⟨_,hy,h.2 i x _ hx hy⟩
theorem All2.set {α β:Type} {R:α→β→Prop} {xs:List α} {ys:List β} (h:All2 R xs ys) {i:Nat} {x:α} {y:β} (hxy:R x y):All2 R (xs.set i x) (ys.set i y):=by
 refine⟨by simp[h.1],λj a b ha hb=>?_⟩;rw[AUe]at ha hb;by_cases hij:i=j
 ·subst hij;by_cases hi:i <xs.length
  ·have hi':i <ys.length:=h.1▸hi;simp[hi,hi']at ha hb;subst ha;subst hb;exact hxy
  ·simp[hi]at ha
 ·simp[hij]at ha hb;exact h.2 j a b ha hb
theorem RepV.agg' {g:Gh} {cs:List V} {vs:List Value} (h:All2 (RepV g) cs vs) (h1:∀v∈vs,v.oneCell'=true):RepV g (.agg cs) (.agg vs.toArray):= .agg cs vs h.1 h.2 h1
theorem RepV.agg_inv {g:Gh} {cs:List V} {v:Value} (h:RepV g (.agg cs) v):∃vs:List Value,v= .agg vs.toArray∧All2 (RepV g) cs vs∧∀v∈vs,v.oneCell'=true:=by
 cases h with
 |agg _ vs hl hr h1=>exact⟨vs,rfl,⟨hl,hr⟩,h1⟩
theorem Fd {v:Value} (h:v.oneCell'=true):v.cells= #[v]:=by cases v<;>simp_all [Value.oneCell',Value.cells]
theorem RepV.cells {g:Gh} {x:V} {v:Value} (h:RepV g x v):All2 (RepV g) x.cells v.cells.toList∧∀u∈v.cells.toList,u.oneCell'=true:=by
 cases h with
 |agg cs vs hl hr h1=>simpa[V.cells,Value.cells]using ⟨⟨hl,hr⟩,h1⟩
 |int k n=>exact⟨.cons (.int k n) .nil,by simp[Value.cells,Value.oneCell']⟩
 |bool b=>exact⟨.cons (.bool b) .nil,by simp[Value.cells,Value.oneCell']⟩
 |str s=>exact⟨.cons (.str s) .nil,by simp[Value.cells,Value.oneCell']⟩
 |lnil=>exact⟨.cons .lnil .nil,by simp[Value.cells,Value.oneCell']⟩
 |list xs a cap s vs hs hc hr hz=>exact⟨.cons (.list xs a cap s vs hs hc hr hz) .nil,by simp[Value.cells,Value.oneCell']⟩
 |ptr cs a vs hs hl hr h1 ha=>exact⟨.cons (.ptr cs a vs hs hl hr h1 ha) .nil,by simp[Value.cells,Value.oneCell']⟩
 |nilp=>exact⟨.cons .nilp .nil,by simp[Value.cells,Value.oneCell']⟩
 |func f caps vs hl hr=>exact⟨.cons (.func f caps vs hl hr) .nil,by simp[Value.cells,Value.oneCell']⟩
 |nilf=>exact⟨.cons .nilf .nil,by simp[Value.cells,Value.oneCell']⟩
 |nilm=>exact⟨.cons .nilm .nil,by simp[Value.cells,Value.oneCell']⟩
def AZ:D→Value→Option Nat
 | .own _ _ _,.slice (some a) _ cap=>if cap=0 then none else some a.block
 | .pend b _ _ _,_=>some b
 |_,_=>none
def Ab:D→Value→Nat→Option Nat
 | .tup ds,.tuple vs,k=>AZ (ds[k]?.getD .any) (vs.toList[k]?.getD (.bool false))
 |d,v,0=>AZ d v
 |_,_,_=>none
def RepOwn (g:Gh) (w:World) (e s:Nat) (xs:List V) (v:Value):Prop:=
 (∃a:Option Addr,v= .slice a 0 0∧xs=[]∧(∀x,a=some x→x.spot=none))∨
 ∃b cap cur,∃vs:Nat→Value,v= .slice (some ⟨b,0,none⟩) xs.length cap∧0 <cap∧w.heap[b]?=some (.cells cur e (0,0))∧xs.length≤cap∧cur.size=cap*s∧
  (∀i x,xs[i]?=some x→RepV g x (vs i))∧(∀i,i <xs.length→(vs i).cells.size=s∧g.at b (i*s) (vs i).cells.toList)∧
  (∀o,xs.length*s≤o→g.m b o=none)
def D.copy:D→D
 | .own _ _ xs=> .v (.list xs)
 | .tup _=> .any
 | .pend _ _ _ _=> .any
 |d=>d
def D.v?:D→Option V
 | .v x=>some x
 | .own _ _ xs=>some (.list xs)
 | .nil _ _=>some (.list [])
 |_=>none
def D.vs?:List D→Option (List V)
 |[]=>some []
 |d::ds=>match d.v?,D.vs? ds with
  |some x,some xs=>some (x::xs)
  |_,_=>none
def D.toV:D→Option V
 | .agg ds=>(D.vs? ds).map .agg
 | .func f caps=>(D.vs? caps).map (.func f)
 |d=>d.v?
def RepC (g:Gh) (μ:List Nat):D→Value→Prop
 | .v x,u=>RepV g x u
 | .ref r off,u=>∃b,μ[r]?=some b∧u= .pointer (some ⟨b,off,none⟩)
 |_,_=>False
def RepE (g:Gh) (w:World) (μ:List Nat):D→Value→Prop
 | .v x,u=>RepV g x u
 | .any,_=>True
 | .nil _ _,u=>∃a:Option Addr,u= .slice a 0 0∧∀x,a=some x→x.spot=none
 | .own e s xs,u=>RepOwn g w e s xs u
 | .ref r off,u=>∃b,μ[r]?=some b∧u= .pointer (some ⟨b,off,none⟩)
 | .sref r n,u=>∃b cap,μ[r]?=some b∧u= .slice (some ⟨b,0,none⟩) n cap∧n≤cap
 | .mref r,u=>∃b,μ[r]?=some b∧u= .map (some b)
 | .func f caps,u=>∃vs:List Value,u= .func (.func f) #[] vs.toArray∧All2 (RepC g μ) caps vs
 | .meth f caps,u=>∃vs:List Value,u= .func (.func f) vs.toArray #[]∧All2 (RepC g μ) caps vs
 | .yld r,u=>∃b,μ[r]?=some b∧u= .func (.yield b) #[] #[]
 | .pend b e s xs,u=>∃cap,u= .slice (some ⟨b,0,none⟩) (xs.length+1) cap∧xs.length+1≤cap∧RepOwn g w e s xs (.slice (some ⟨b,0,none⟩) xs.length cap)
 | .pptr b s n,u=>(s=0∧∃cap,u= .slice (some ⟨b,0,none⟩) (n+1) cap)∨(0 <s∧u= .pointer (some ⟨b,n*s,none⟩))
 |_,_=>False
def RepG (g:Gh) (w:World) (μ:List Nat):D→Value→Prop
 | .agg ds,u=>∃vs:List Value,u= .agg vs.toArray∧All2 (RepE g w μ) ds vs∧(∀v∈vs,v.oneCell'=true)∧∀d∈ds,∀v,AZ d v=none
 |d,u=>RepE g w μ d u
def RepD (g:Gh) (w:World) (μ:List Nat):D→Value→Prop
 | .tup ds,u=>∃vs:List Value,u= .tuple vs.toArray∧All2 (RepG g w μ) ds vs
 |d,u=>RepG g w μ d u
structure Chg (M:Nat→Prop) (g:Gh) (w:World) (g':Gh) (w':World):Prop where
 le:g.le g'
 size:w.heap.size≤w'.heap.size
 heap:∀b,b <w.heap.size→¬M b→w'.heap[b]?=w.heap[b]?
 gh:∀b,b <w.heap.size→¬M b→∀o,g'.m b o=g.m b o
 os:w'.os=w.os
 out:w'.output=w.output
theorem Chg.refl (M:Nat→Prop) (g:Gh) (w:World):Chg M g w g w:=⟨Gh.le.refl g,AT6 _,λ_ _ _=>rfl,λ_ _ _ _=>rfl,rfl,rfl⟩
theorem Chg.mono {M M':Nat→Prop} (hm:∀b,M b→M' b) {g g':Gh} {w w':World} (h:Chg M g w g' w'):Chg M' g w g' w':=
 ⟨h.le,h.size,λb hb hn=>h.heap b hb λx=>hn (hm b x),λb hb hn=>h.gh b hb λx=>hn (hm b x),h.os,h.out⟩
theorem Chg.trans {M:Nat→Prop} {g g' g'':Gh} {w w' w'':World} (h:Chg M g w g' w') (h':Chg M g' w' g'' w''):Chg M g w g'' w'':=
 ⟨h.le.trans h'.le,AUk h.size h'.size,λb hb hn=>(h'.heap b (AVz hb h.size) hn).trans (h.heap b hb hn),
  λb hb hn o=>(h'.gh b (AVz hb h.size) hn o).trans (h.gh b hb hn o),h'.os.trans h.os,h'.out.trans h.out⟩
theorem BC {w:World} {b:Nat} {o:Obj} (h:w.heap[b]?=some o):b <w.heap.size:=by
 rcases AUS b w.heap.size with h'|h'
 ·exact h'
 ·simp[AVP h']at h
theorem EA {μ μ':List Nat} (hμ:μ <+: μ') {r b:Nat} (h:μ[r]?=some b):μ'[r]?=some b:=by
 obtain⟨t,rfl⟩:=hμ;rw[AUQ (AT4.1 h).1];exact h
section chg
variable {M:Nat→Prop} {g g':Gh} {w w':World} {μ μ':List Nat}
theorem RepOwn.chg (hc:Chg M g w g' w') {e s:Nat} {xs:List V} {u:Value} (h:RepOwn g w e s xs u)
  (hn:∀b,AZ (.own e s xs) u=some b→¬M b):RepOwn g' w' e s xs u:=by
 rcases h with h|⟨b,cap,cur,vs,rfl,h0,hb,hl,hs,hr,hz,hf⟩
 ·exact .inl h
 ·have hM:¬M b:=hn b (by simp[AZ];omega);have hlt:=BC hb;exact .inr ⟨b,cap,cur,vs,rfl,h0,(hc.heap b hlt hM).trans hb,hl,hs,λi x hx=>(hr i x hx).mono hc.le,λi hi=>⟨(hz i hi).1,(hz i hi).2.mono hc.le⟩,
   λo ho=>(hc.gh b hlt hM o).trans (hf o ho)⟩
theorem RepC.chg (hl:g.le g') (hμ:μ <+: μ') {d:D} {u:Value} (h:RepC g μ d u):RepC g' μ' d u:=by
 cases d<;>simp only[RepC]at h ⊢
 ·exact h.mono hl
 ·obtain⟨b,hb,rfl⟩:=h;exact⟨b,EA hμ hb,rfl⟩
theorem RepE.chg (hc:Chg M g w g' w') (hμ:μ <+: μ') {d:D} {u:Value} (h:RepE g w μ d u) (hn:∀b,AZ d u=some b→¬M b):RepE g' w' μ' d u:=by
 cases d<;>simp only[RepE]at h ⊢
 ·exact h.mono hc.le
 ·exact h
 ·exact RepOwn.chg hc h hn
 ·obtain⟨b,hb,rfl⟩:=h;exact⟨b,EA hμ hb,rfl⟩
 ·obtain⟨b,cap,hb,rfl,hcap⟩:=h;exact⟨b,cap,EA hμ hb,rfl,hcap⟩
 ·obtain⟨b,hb,rfl⟩:=h;exact⟨b,EA hμ hb,rfl⟩
 ·obtain⟨vs,rfl,h⟩:=h;exact⟨vs,rfl,h.imp λ_ _=>RepC.chg hc.le hμ⟩
 ·obtain⟨vs,rfl,h⟩:=h;exact⟨vs,rfl,h.imp λ_ _=>RepC.chg hc.le hμ⟩
 ·obtain⟨b,hb,rfl⟩:=h;exact⟨b,EA hμ hb,rfl⟩
 ·obtain⟨cap,rfl,hcap,ho⟩:=h;refine⟨cap,rfl,hcap,RepOwn.chg hc ho λb' hb'=>hn b' ?_⟩;simp only[AZ]at hb' ⊢;split at hb'
  ·cases hb'
  ·exact hb'
 ·exact h
theorem RepG.chg (hc:Chg M g w g' w') (hμ:μ <+: μ') {d:D} {u:Value} (h:RepG g w μ d u) (hn:∀b,AZ d u=some b→¬M b):RepG g' w' μ' d u:=by
 cases d<;>simp only[RepG]at h ⊢ <;>first
  |exact h.chg hc hμ hn
  |(obtain⟨vs,rfl,ha,h1,h0⟩:=h
    refine⟨vs,rfl,⟨ha.1,λi x v hx hv=>(ha.2 i x v hx hv).chg hc hμ λb hb=>?_⟩,h1,h0⟩;rw[h0 x (AT3 hx) v]at hb;cases hb)
theorem RepD.chg (hc:Chg M g w g' w') (hμ:μ <+: μ') {d:D} {u:Value} (h:RepD g w μ d u) (hn:∀k b,Ab d u k=some b→¬M b):RepD g' w' μ' d u:=by
 cases d<;>simp only[RepD]at h ⊢ <;>first
  |exact h.chg hc hμ λb hb=>hn 0 b (by simpa[Ab]using hb)
  |(obtain⟨vs,rfl,ha⟩:=h
    refine⟨vs,rfl,ha.1,λi x v hx hv=>(ha.2 i x v hx hv).chg hc hμ λb hb=>hn i b ?_⟩;simp[Ab,hx,hv,hb])
end chg
def RowOK (g:Gh) (w:World) (μ:List Nat) (b:Nat):Row→Prop
 | .cells ds=>∃(vs:List Value) (T:TypeId),w.heap[b]?=some (.cells vs.toArray T (0,0))∧All2 (RepE g w μ) ds vs∧(∀v∈vs,v.oneCell'=true)∧∀o,g.m b o=none
 | .map es st ck=>∃(ents:Array MapEntry),w.heap[b]?=some (.map ents ck)∧MapKept.Stamped ents ck∧ents.toList.map (·.born)=st∧All2 (λkv x=>RepV g kv.1 x.key∧RepV g kv.2 x.val) es ents.toList∧∀o,g.m b o=none
 | .obj _ p _=>∃o,w.heap[b]?=some o∧p g μ o∧∀o,g.m b o=none
 | .dead=>b <w.heap.size
def Av (h:List Row) (r k:Nat):D:=
 match h[r]? with
 |some (.cells ds)=>ds[k]?.getD .any
 |_=> .any
def A0 (w:World) (μ:List Nat) (r k:Nat):Value:=((μ[r]?).bind λb=>w.cell? ⟨b,k,none⟩).getD (.bool false)
inductive Pl where
 |tmp (n k:Nat)
 |cell (r k:Nat)
def blk (t:Nat→D) (u:Nat→Value) (h:List Row) (w:World) (μ:List Nat):Pl→Option Nat
 | .tmp n k=>Ab (t n) (u n) k
 | .cell r k=>AZ (Av h r k) (A0 w μ r k)
structure Inv (g:Gh) (w:World) (μ:List Nat) (t:Nat→D) (u:Nat→Value) (h:List Row) (O:Nat→Prop):Prop where
 agree:∀b o v,g.m b o=some v→w.cell? ⟨b,o,none⟩=some v
 olt:∀b,O b→b <w.heap.size
 rep:∀n,RepD g w μ (t n) (u n)
 len:μ.length=h.length
 rows:∀(r:Nat) row b,h[r]?=some row→μ[r]?=some b→RowOK g w μ b row
 nod:∀(r r':Nat) b,μ[r]?=some b→μ[r']?=some b→r=r'
 mo:∀b,b∈μ→¬O b
 uniq:∀p q b,blk t u h w μ p=some b→blk t u h w μ q=some b→p=q
 sep:∀p b,blk t u h w μ p=some b→b∉μ∧¬O b
theorem RowOK.lt {g:Gh} {w:World} {μ:List Nat} {b:Nat} {row:Row} (h:RowOK g w μ b row):b <w.heap.size:=by
 cases row with
 |cells ds=>obtain⟨vs,T,hb,_⟩:=h;exact BC hb
 |map es st ck=>obtain⟨_,hb,_⟩:=h;exact BC hb
 |obj _ p _=>obtain⟨_,hb,_⟩:=h;exact BC hb
 |dead=>exact h
theorem Hl {g:Gh} {w:World} {μ:List Nat} {d:D} {u:Value} (h:RepE g w μ d u) {b:Nat} (hb:AZ d u=some b):b <w.heap.size:=by
 cases d<;>simp only[AZ]at hb<;>try (cases hb;done)
 case pend b' e s xs=>
  obtain⟨cap,rfl,hcap,ho⟩:=h;simp only[AT0]at hb;subst hb;rcases ho with ⟨a,h1,h2,_⟩|⟨b',cap',cur,vs,h1,h0,hb',_⟩
  ·simp only[Value.slice.injEq]at h1;omega
  ·simp only[Value.slice.injEq,AT0,Addr.mk.injEq]at h1;obtain⟨⟨rfl,_,_⟩,_,_⟩:=h1;exact BC hb'
 rcases h with ⟨a,rfl,_⟩|⟨b',cap,cur,vs,rfl,h0,hb',_⟩
 ·cases a<;>simp at hb
 ·simp at hb;obtain⟨_,rfl⟩:=hb;exact BC hb'
theorem Cs {w:World} {μ:List Nat} {r k b:Nat} {vs:List Value} {T:TypeId} (hμ:μ[r]?=some b)
  (hb:w.heap[b]?=some (.cells vs.toArray T (0,0))) {v:Value} (hv:vs[k]?=some v):A0 w μ r k=v:=by
 simp[A0,hμ,World.cell?,hb,hv]
inductive Opd where
 |t (n:Nat) (mv:Bool)
 |c (d:D)
 |g (n:Nat) (cs:List V)
 deriving Inhabited
abbrev Env:=List (Nat×D)
def AH:Env→Nat→D
 |[],_=> .any
 |(k,d)::e,n=>if k=n then d else AH e n
def Opd.ev (e:Env):Opd→D
 | .t n mv=>if mv then AH e n else (AH e n).copy
 | .c d=>d
 | .g _ cs=> .v (.ptr cs)
inductive PI where
 |pick (c a b:Opd)
 |build (zs:List D) (ps:List (Nat×Nat×Opd))
 |load (a:Opd) (n:Nat) (ag:Bool)
 |nilc (x:Opd)
 |bin (op:BinOp) (x y:Opd)
 |eqB (ne:Bool) (x y:Opd)
 |eqA (ne:Bool) (ks:List Nat) (x y:Opd)
 |eqP (ne:Bool) (x y:Opd)
 |not (x:Opd)
 |neg (x:Opd)
 |inv (x:Opd)
 |cint (k:IntKind) (x:Opd)
 |faddr (x:Opd) (off n:Nat)
 |fld (x:Opd) (off n:Nat) (ag:Bool)
 |iaddr (x i:Opd) (s:Nat)
 |iaddrA (x i:Opd) (len s:Nat)
 |iaddrP (x i:Opd) (s:Nat)
 |idxS (x i:Opd)
 |slc (x:Opd) (lo hi:Option Opd) (s:Nat)
 |slcS (x:Opd) (lo hi:Option Opd)
 |slc0 (x:Opd) (e s:Nat)
 |ext (x:Opd) (i:Nat)
 |mkf (f:Nat) (caps:List Opd)
 |mkme (f:Nat) (firsts:List Opd)
 |idxA (x i:Opd) (n s:Nat) (ag:Bool)
 |alen (x:Opd)
 |lenS (x:Opd)
 |minmax (mx:Bool) (x y:Opd)
 |b2s (x:Opd)
 |look (m k:Opd) (st:Bool) (ks:List Nat) (zs:List D) (ag ok:Bool)
 |mlen (m:Opd)
 deriving Inhabited
def V.bin (op:BinOp):V→V→Option V
 | .int k a,.int k' b=>
  match op with
  | .shl=>if 0≤b then some (.int k (k.wrap (a*2^(min b.toNat k.bits)))) else none
  | .shr=>if 0≤b then some (.int k (a.fdiv (2^(min b.toNat k.bits)))) else none
  |op=>if k=k' then
    match op with
    | .add=>some (.int k (k.wrap (a+b)))
    | .sub=>some (.int k (k.wrap (a-b)))
    | .mul=>some (.int k (k.wrap (a*b)))
    | .quo=>if b=0 then none else some (.int k (k.wrap (a.tdiv b)))
    | .rem=>if b=0 then none else some (.int k (a.tmod b))
    | .and=>some (.int k (k.wrap (BitVec.ofInt k.bits a &&& BitVec.ofInt k.bits b).toNat))
    | .or=>some (.int k (k.wrap (BitVec.ofInt k.bits a ||| BitVec.ofInt k.bits b).toNat))
    | .xor=>some (.int k (k.wrap (BitVec.ofInt k.bits a ^^^ BitVec.ofInt k.bits b).toNat))
    | .andNot=>some (.int k (k.wrap (BitVec.ofInt k.bits a &&& ~~~BitVec.ofInt k.bits b).toNat))
    | .eql=>some (.bool (a==b))
    | .neq=>some (.bool (a != b))
    | .lss=>some (.bool (decide (a <b)))
    | .leq=>some (.bool (decide (a≤b)))
    | .gtr=>some (.bool (decide (a>b)))
    | .geq=>some (.bool (decide (a≥b)))
    |_=>none
   else none
 | .str a,.str b=>
  match op with
  | .eql=>some (.bool (a.toList==b.toList))
  | .neq=>some (.bool (!(a.toList==b.toList)))
  |_=>none
 |_,_=>none
def V.eq1:Nat→V→V→Option Bool
 |0,.int k a,.int k' b=>if k=k' then some (a==b) else none
 |1,.bool a,.bool b=>some (a==b)
 |2,.str a,.str b=>some (a.toList==b.toList)
 |_,_,_=>none
def V.eqL:List Nat→List V→List V→Option Bool
 |[],[],[]=>some true
 |k::ks,x::xs,y::ys=>match V.eq1 k x y,V.eqL ks xs ys with
  |some a,some b=>some (a&&b)
  |_,_=>none
 |_,_,_=>none
def D.isNil:D→Option Bool
 | .v .nilp| .v .nilf| .v .nilm=>some true
 | .v (.ptr _)| .v (.func _ _)| .ref _ _| .func _ _| .mref _=>some false
 |_=>none
def D.isNilP:D→Option Bool
 | .v .nilp=>some true
 | .v (.ptr _)| .ref _ _=>some false
 |_=>none
def V.getI (xs:List V) (i:Int):Option V:=if 0≤i then xs[i.toNat]? else none
def V.part (cs:List V) (off n:Nat) (ag:Bool):Option V:=
 if off+n≤cs.length then (if ag then some (.agg ((cs.drop off).take n)) else cs[off]?) else none
def D.part (cs:List D) (off n:Nat) (ag:Bool):Option D:=
 if off+n≤cs.length then (if ag then some (.agg (((cs.drop off).take n).map D.copy)) else (cs[off]?).map D.copy) else none
def CK (s:Nat) (xs:List V):Bool:=xs.head?.all λx=>x.cells.length==s
def Jf (d:Option D) (dflt:Nat):Option Nat:=
 match d with
 |none=>some dflt
 |some (.v (.int _ n))=>if 0≤n then some n.toNat else none
 |_=>none
def AN {α:Type} (cs:List α) (off:Nat) (xs:List α):List α:=cs.take off++xs++cs.drop (off+xs.length)
def D.cells?:D→Option (List D)
 | .agg ds=>some ds
 | .v (.agg cs)=>some (cs.map .v)
 | .any| .tup _| .own _ _ _| .pend _ _ _ _| .pptr _ _ _=>none
 |d=>some [d]
def EU (e:Env):List D→List (Nat×Nat×Opd)→Option (List D)
 |cs,[]=>some cs
 |cs,(off,n,x)::ps=>match (x.ev e).copy.cells? with
  |some xs=>if xs.length=n∧off+n≤cs.length then EU e (AN cs off xs) ps else none
  |none=>none
def D4 (e:Env):List Opd→List D
 |[]=>[]
 |x::xs=>(x.ev e).copy::D4 e xs
def D.isCap:D→Bool
 | .v _| .ref _ _=>true
 |_=>false
def BL (st:Bool) (ks:List Nat) (x:V):Bool:=(match x with| .agg _=>st|_=> !st)&&(match V.eqL ks x.cells x.cells with|some true=>true|_=>false)
def CQ (st:Bool) (ks:List Nat) (x:V):List (V×V)→Option (Option Nat)
 |[]=>some none
 |p::es=>if BL st ks p.1 then (match V.eqL ks x.cells p.1.cells with
  |some true=>some (some 0)
  |some false=>(CQ st ks x es).map λr=>r.map (· +1)
  |none=>none) else none
def C5 (ok:Bool) (d:D) (b:Bool):D:=if ok then .tup [d,.v (.bool b)] else d
def EG:List V→Option (List UInt8)
 |[]=>some []
 | .int .u8 n::xs=>if 0≤n∧n <256 then (EG xs).map (UInt8.ofNat n.toNat::·) else none
 |_=>none
def PI.val (e:Env) (h:List Row):PI→Option D
 | .pick c a b=>match c.ev e with
  | .v (.bool t)=>some (if t then (a.ev e).copy else (b.ev e).copy)
  |_=>none
 | .build zs ps=>(EU e zs ps).map .agg
 | .load a n ag=>match a.ev e with
  | .v (.ptr cs)=>(V.part cs 0 n ag).map .v
  | .ref r off=>match h[r]? with
   |some (.cells ds)=>D.part ds off n ag
   |_=>none
  |_=>none
 | .nilc x=>match (x.ev e).isNil with
  |some false=>some (x.ev e).copy
  |_=>none
 | .bin op x y=>match x.ev e,y.ev e with
  | .v a,.v b=>(V.bin op a b).map .v
  |_,_=>none
 | .eqB ne x y=>match x.ev e,y.ev e with
  | .v (.bool a),.v (.bool b)=>some (.v (.bool ((a==b) != ne)))
  |_,_=>none
 | .eqA ne ks x y=>match (x.ev e).toV,(y.ev e).toV with
  |some (.agg cs),some (.agg ds)=>(V.eqL ks cs ds).map λb=> .v (.bool (b != ne))
  |_,_=>none
 | .eqP ne x y=>match (x.ev e).isNilP,(y.ev e).isNilP with
  |some true,some b=>some (.v (.bool (b != ne)))
  |some b,some true=>some (.v (.bool (b != ne)))
  |_,_=>none
 | .not x=>match x.ev e with
  | .v (.bool a)=>some (.v (.bool (!a)))
  |_=>none
 | .neg x=>match x.ev e with
  | .v (.int k n)=>some (.v (.int k (k.wrap (0-n))))
  |_=>none
 | .inv x=>match x.ev e with
  | .v (.int k n)=>some (.v (.int k (k.wrap (BitVec.ofInt k.bits (if k.signed then -1 else k.max) ^^^ BitVec.ofInt k.bits n).toNat)))
  |_=>none
 | .cint k x=>match x.ev e with
  | .v (.int _ n)=>some (.v (.int k (k.wrap n)))
  |_=>none
 | .faddr x off n=>match x.ev e with
  | .v (.ptr cs)=>if off+n≤cs.length then some (.v (.ptr ((cs.drop off).take n))) else none
  | .ref r o=>some (.ref r (o+off))
  |_=>none
 | .fld x off n ag=>match x.ev e with
  | .v (.agg cs)=>(V.part cs off n ag).map .v
  | .agg ds=>D.part ds off n ag
  |_=>none
 | .iaddr x i s=>match (x.ev e).copy,i.ev e with
  | .v (.list xs),.v (.int _ n)=>match V.getI xs n with
   |some y=>if y.cells.length=s then some (.v (.ptr y.cells)) else none
   |none=>none
  | .sref r m,.v (.int _ n)=>if 0≤n∧n <m then some (.ref r (n.toNat*s)) else none
  |_,_=>none
 | .iaddrA x i len s=>match x.ev e,i.ev e with
  | .v (.ptr cs),.v (.int _ n)=>if 0≤n∧n <len∧len*s=cs.length then some (.v (.ptr ((cs.drop (n.toNat*s)).take s))) else none
  | .ref r o,.v (.int _ n)=>if 0≤n∧n <len then some (.ref r (o+n.toNat*s)) else none
  |_,_=>none
 | .iaddrP x i s=>match x.ev e,i.ev e with
  | .pend b _ s' xs,.v (.int _ n)=>if (n=xs.length∧s'=s)∧0 <s then some (.pptr b s xs.length) else none
  | .pptr b 0 m,.v (.int _ n)=>if n=m∧0 <s then some (.pptr b s m) else none
  |_,_=>none
 | .idxS x i=>match x.ev e,i.ev e with
  | .v (.str s),.v (.int _ n)=>if 0≤n then (s[n.toNat]?).map λb=> .v (.int .u8 b.toNat) else none
  |_,_=>none
 | .slc x lo hi s=>match (x.ev e).copy with
  | .v (.list xs)=>match Jf (lo.map (·.ev e)) 0,Jf (hi.map (·.ev e)) xs.length with
   |some l,some m=>if l≤m∧m≤xs.length∧CK s xs=true then some (.v (.list ((xs.take m).drop l))) else none
   |_,_=>none
  |_=>none
 | .slcS x lo hi=>match x.ev e with
  | .v (.str s)=>match Jf (lo.map (·.ev e)) 0,Jf (hi.map (·.ev e)) s.size with
   |some l,some m=>if l≤m∧m≤s.size then some (.v (.str (s.extract l m))) else none
   |_,_=>none
  |_=>none
 | .slc0 x el s=>match (x.ev e).copy with
  | .v (.list _)=>some (.nil el s)
  |_=>none
 | .ext x i=>match x with
  | .t n _=>match AH e n with
   | .tup ds=>(ds[i]?).map D.copy
   |_=>none
  |_=>none
 | .mkf f caps=>if (D4 e caps).all D.isCap then some (.func f (D4 e caps)) else none
 | .mkme f firsts=>if (D4 e firsts).all D.isCap then some (.meth f (D4 e firsts)) else none
 | .idxA x i n s ag=>match x.ev e,i.ev e with
  | .v (.agg cs),.v (.int _ k)=>if 0≤k∧k <n then (V.part cs (k.toNat*s) s ag).map .v else none
  | .agg ds,.v (.int _ k)=>if 0≤k∧k <n then D.part ds (k.toNat*s) s ag else none
  |_,_=>none
 | .alen x=>match (x.ev e).copy with
  | .v (.list xs)=>some (.v (.int .i64 xs.length))
  | .nil _ _=>some (.v (.int .i64 0))
  | .sref _ n=>some (.v (.int .i64 n))
  |_=>none
 | .lenS x=>match x.ev e with
  | .v (.str s)=>some (.v (.int .i64 s.size))
  |_=>none
 | .b2s x=>match (x.ev e).copy with
  | .v (.list xs)=>(EG xs).map λbs=> .v (.str ⟨bs.toArray⟩)
  | .nil _ _=>some (.v (.str .empty))
  |_=>none
 | .look m k st ks zs ag ok=>match (k.ev e).toV with
  |some kv=>if BL st ks kv=true then
    match (if ag then some (D.agg zs) else zs.head?)with
    |some z=>match m.ev e with
     | .v .nilm=>some (C5 ok z false)
     | .mref r=>match h[r]? with
      |some (.map es _ _)=>match CQ st ks kv es with
       |some (some i)=>(es[i]?).map λp=>C5 ok (.v p.2) true
       |some none=>some (C5 ok z false)
       |none=>none
      |_=>none
     |_=>none
    |none=>none
   else none
  |none=>none
 | .mlen m=>match m.ev e with
  | .v .nilm=>some (.v (.int .i64 0))
  | .mref r=>match h[r]? with
   |some (.map es _ _)=>some (.v (.int .i64 es.length))
   |_=>none
  |_=>none
 | .minmax mx x y=>match x.ev e,y.ev e with
  | .v (.int k a),.v (.int k' b)=>if k=k' then some (.v (.int k (if mx then (if b>a then b else a) else (if b <a then b else a)))) else none
  |_,_=>none
def GM:Value→V→Bool
 | .int k n,.int k' n'=>k==k'&&n==n'
 | .bool b,.bool b'=>b==b'
 | .string s,.str s'=>decide (s=s')
 | .pointer none,.nilp=>true
 | .nilFunc,.nilf=>true
 | .map none,.nilm=>true
 |_,_=>false
def Et:Value→D→Bool
 | .slice none 0 0,.nil _ _=>true
 | .slice none 0 0,.own _ _ []=>true
 |v,.v x=>GM v x
 |_,_=>false
def Aj {α β:Type} (f:α→β→Bool):List α→List β→Bool
 |[],[]=>true
 |x::xs,y::ys=>f x y&&Aj f xs ys
 |_,_=>false
theorem B9 {α β:Type} {f:α→β→Bool} {R:β→α→Prop} (hf:∀x y,f x y=true→R y x):∀ {xs:List α} {ys:List β},Aj f xs ys=true→All2 R ys xs
 |[],[],_=> .nil
 |x::xs,y::ys,h=>by
  simp only[Aj,AT1]at h;exact .cons (hf _ _ h.1) (B9 hf h.2)
 |[],_::_,h=>by simp[Aj]at h
 |_::_,[],h=>by simp[Aj]at h
theorem Fb {v:Value} {x:V} (h:GM v x=true):v.oneCell'=true:=by
 cases v<;>cases x<;>simp_all [GM,Value.oneCell']
theorem EW {g:Gh} {v:Value} {x:V} (h:GM v x=true):RepV g x v:=by
 unfold GM at h;split at h<;>(try simp only[AT1,beq_iff_eq,decide_eq_true_eq]at h)<;>(try (obtain⟨rfl,rfl⟩:=h))<;>(try subst h)
 ·exact .int _ _
 ·exact .bool _
 ·exact .str _
 ·exact .nilp
 ·exact .nilf
 ·exact .nilm
abbrev AX:=List (Nat×List Value)
def Xj (GL:AX) (n:Nat) (cs:List V):Bool:=GL.any λp=>p.1==n&&Aj GM p.2 cs
def Ke:Value→V→Bool
 | .slice none 0 0,.list []=>true
 |v,x=>GM v x
theorem P0 {g:Gh} {v:Value} {x:V} (h:Ke v x=true):RepV g x v:=by
 unfold Ke at h;split at h
 ·exact .lnil
 ·exact EW h
theorem P1 {v:Value} {x:V} (h:Ke v x=true):v.oneCell'=true:=by
 unfold Ke at h;split at h
 ·rfl
 ·exact Fb h
def oe (GL:AX):Operand→Opd→Bool
 | .tmp n,.t n' _=>n==n'
 | .const (.agg cs),.c (.v (.agg xs))=>Aj Ke cs.toList xs
 | .const v,.c d=>Et v d
 | .func f,.c (.v (.func f' []))=>f==f'
 | .global n,.g n' cs=>n==n'&&Xj GL n cs
 |_,_=>false
theorem KL {GL:AX} {v:Value} {d:D} (h:oe GL (.const v) (.c d)=true):Et v d=true∨∃cs xs,v= .agg cs∧d= .v (.agg xs):=by
 unfold oe at h;split at h
 ·rename_i h1 _;cases h1
 ·rename_i h1 h2;cases h1;cases h2;exact .inr ⟨_,_,rfl,rfl⟩
 ·rename_i h1 h2;cases h1;cases h2;exact .inl h
 ·rename_i h1 _;cases h1
 ·rename_i h1 _;cases h1
 ·cases h
def GlobOK (GL:AX) (g:Gh):Prop:=∀p∈GL,g.at p.1 0 p.2
theorem RepOwn.list {g:Gh} {w:World} {e s:Nat} {xs:List V} {u:Value} (h:RepOwn g w e s xs u):RepV g (.list xs) u:=by
 rcases h with ⟨a,rfl,rfl,hs⟩|⟨b,cap,cur,vs,rfl,h0,hb,hl,hs,hr,hz,hf⟩
 ·cases a with
  |none=>exact .lnil
  |some a=>exact .list [] a 0 0 (λ_=> .bool true) (hs a rfl) (AT6 _) (by simp) (by simp)
 ·exact .list xs ⟨b,0,none⟩ cap s vs rfl hl hr λi hi=>by simpa using hz i hi
theorem RepNil.list {g:Gh} {u:Value} (h:∃a:Option Addr,u= .slice a 0 0∧∀x,a=some x→x.spot=none):RepV g (.list []) u:=by
 obtain⟨a,rfl,hs⟩:=h;cases a with
 |none=>exact .lnil
 |some a=>exact .list [] a 0 0 (λ_=> .bool true) (hs a rfl) (AT6 _) (by simp) (by simp)
theorem RepD.copy {g:Gh} {w:World} {μ:List Nat} {d:D} {u:Value} (h:RepD g w μ d u):RepD g w μ d.copy u:=by
 cases d<;>simp only[D.copy]<;>first
  |exact h
  |exact RepOwn.list h
  |trivial
theorem DK (d:D) (u:Value) (k:Nat):Ab d.copy u k=none:=by
 cases d<;>cases k<;>simp[D.copy,Ab,AZ]
theorem Ih (d:D) (u:Value):AZ d.copy u=none:=by cases d<;>simp[D.copy,AZ]
section
variable {GL:AX} {g:Gh} {w:World} {μ:List Nat} {e:Env} {a:Act}
theorem AFI (hr:∀n,RepD g w μ (AH e n) (a.tmps.getD n undef)) (hG:GlobOK GL g) {p:Operand} {q:Opd} (h:oe GL p q=true):RepD g w μ (q.ev e) (a.eval p):=by
 unfold oe at h;split at h
 ·simp at h;subst h;simp only[Opd.ev,Act.eval];split
  ·exact hr _
  ·exact(hr _).copy
 ·rename_i cs xs;simp only[Opd.ev,Act.eval];have h2:All2 (RepV g) xs cs.toList:=B9 (λ_ _=>P0) h;have h3:=B9 (R:=λ_ v=>v.oneCell'=true) (λ_ _=>P1) h;refine RepV.agg' (vs:=cs.toList) h2 λv hv=>?_;obtain⟨i,hi,rfl⟩:=AU8.1 hv;have hi':i <xs.length:=h3.1▸hi;exact h3.2 i _ _ (AT2 hi') (AT2 hi)
 ·rename_i v d _;simp only[Opd.ev,Act.eval];unfold Et at h;split at h
  ·exact⟨none,rfl,by simp⟩
  ·exact .inl ⟨none,rfl,rfl,by simp⟩
  ·exact EW h
  ·cases h
 ·simp at h;subst h;exact RepV.func _ [] [] rfl (by simp)
 ·simp only[AT1,beq_iff_eq]at h;obtain⟨rfl,h⟩:=h;simp only[Xj,AWf,AT1,beq_iff_eq]at h;obtain⟨p,hp,rfl,hz⟩:=h;have h2:All2 (RepV g) _ p.2:=B9 (λ_ _=>EW) hz;refine RepV.ptr _ ⟨p.1,0,none⟩ p.2 rfl h2.1 h2.2 ?_ (hG p hp);have h3:=B9 (R:=λ_ v=>v.oneCell'=true) (λ_ _=>Fb) hz;intro v hv;obtain⟨i,hi,rfl⟩:=AU8.1 hv;have hi':i <_:=h3.1▸hi;exact h3.2 i _ _ (AT2 hi') (AT2 hi)
 ·cases h
end
def BK (P:Program) (t n:Nat):Bool:=((P.info? t).map (·.size))==some n
def GV (P:Program) (t:Nat) (ag:Bool):Bool:=
 match P.underlying t with
 |some (.struct _)|some (.array _ _)=>ag
 |some _=> !ag
 |none=>false
def Gm (P:Program) (t i off n:Nat):Bool:=
 match P.underlying t with
 |some (.struct fs)=>match fs[i]? with
  |some f=>f.offset==off&&BK P f.type n
  |none=>false
 |_=>false
def MR (P:Program) (t i:Nat) (ag:Bool):Bool:=
 match P.underlying t with
 |some (.struct fs)=>match fs[i]? with
  |some f=>GV P f.type ag
  |none=>false
 |_=>false
def APE (P:Program) (t e s:Nat):Bool:=
 match P.underlying t with
 |some (.slice e')=>e==e'&&BK P e s
 |_=>false
def Nq (P:Program) (t len s:Nat):Bool:=
 match P.underlying t with
 |some (.array len' e)=>len==len'&&BK P e s&&decide (2≤len)
 |_=>false
def E9 (P:Program) (t:Nat) (zs:List D):Bool:=
 match (P.info? t).bind (·.zero)with
 |some z=>Aj Et z.cells.toList zs
 |none=>false
def isK (P:Program) (t:Nat) (f:TypeDesc→Bool):Bool:=
 match P.underlying t with
 |some d=>f d
 |none=>false
def Kc:Value→D→Bool
 | .slice none 0 0,.nil _ _=>true
 |v,.v x=>GM v x
 |_,_=>false
def L2 (P:Program) (t:Nat) (zs:List D):Bool:=
 match (P.info? t).bind (·.zero)with
 |some z=>Aj Kc z.cells.toList zs
 |none=>false
def F2 (P:Program) (GL:AX) (t:Nat) (ps:List (Nat×Operand)) (qs:List (Nat×Nat×Opd)):Bool:=
 match P.underlying t with
 |some (.struct fs)=>match fs.toList.mapM (λf=>(P.info? f.type).map λi=>(f.offset,i.size))with
  |some places=>Aj (λp q=>oe GL p.2 q.2.2&&places[p.1]?==some (q.1,q.2.1)) ps qs
  |none=>false
 |_=>false
def Hm {α:Type} (l:List α) (p:α→Bool):Bool:=match l with|[x]=>p x|_=>false
def Fu {α:Type} (l:List α) (p:α→α→Bool):Bool:=match l with|[x,y]=>p x y|_=>false
def D8 (P:Program) (t s:Nat):Bool:=match P.underlying t with|some (.slice e)=>BK P e s|_=>false
def HJ (P:Program) (t k:Nat):Bool:=
 match P.underlying t,k with
 |some (.int _),0=>true
 |some .bool,1=>true
 |some .string,2=>true
 |_,_=>false
def Bi (P:Program):Nat→List Field→List Nat→Bool
 |_,[],[]=>true
 |i,f::fs,k::ks=>f.offset==i&&f.name != "_" &&HJ P f.type k&&Bi P (i+1) fs ks
 |_,_,_=>false
def HP (P:Program) (t:Nat) (ks:List Nat):Bool:=
 match P.underlying t with
 |some (.struct fs)=> !P.stoodInHeld t&& !P.eqGuardType P.depth t&&Bi P 0 fs.toList ks
 |_=>false
def D6 (P:Program) (kt:Nat) (st:Bool) (ks:List Nat):Bool:=
 if st then HP P kt ks else (match ks with|[k]=>HJ P kt k|_=>false)
def TK (P:Program) (el:Nat) (zs:List D) (ag:Bool):Bool:=
 match (P.info? el).bind (·.zero)with
 |some (.agg cs)=>ag&&Aj Kc cs.toList zs
 |some v=> !ag&&(match zs with|[z]=>Kc v z|_=>false)
 |none=>false
def YT (P:Program) (GL:AX):Op→PI→Bool
 | .pick c a b,.pick c' a' b'=>oe GL c c'&&oe GL a a'&&oe GL b b'
 | .load t a,.load a' n ag=>oe GL a a'&&BK P t n&&GV P t ag&&(ag||n==1)
 | .nilCheck x,.nilc x'=>oe GL x x'
 | .binOp op _ x y _,.bin op' x' y'=>(op==op')&&oe GL x x'&&oe GL y y'
 | .binOp op t x y _,.eqB ne x' y'=>(op==if ne then .neq else .eql)&&isK P t (λ| .bool=>true|_=>false)&&oe GL x x'&&oe GL y y'
 | .binOp op t x y _,.eqP ne x' y'=>(op==if ne then .neq else .eql)&&isK P t (λ| .pointer _=>true|_=>false)&&oe GL x x'&&oe GL y y'
 | .binOp op t x y _,.eqA ne ks x' y'=>(op==if ne then .neq else .eql)&&HP P t ks&&oe GL x x'&&oe GL y y'
 | .unOp op _ x,.not x'=>(op== .not)&&oe GL x x'
 | .unOp op _ x,.neg x'=>(op== .neg)&&oe GL x x'
 | .unOp op _ x,.inv x'=>(op== .xor)&&oe GL x x'
 | .convert s d x,.cint k x'=>isK P s (λ| .int _=>true|_=>false)&&isK P d (λ| .int k'=>k==k'|_=>false)&&oe GL x x'
 | .fieldAddr t x i,.faddr x' off n=>Gm P t i off n&&decide (0 <n)&&oe GL x x'
 | .field t x i,.fld x' off n ag=>Gm P t i off n&&MR P t i ag&&(ag||n==1)&&oe GL x x'
 | .indexAddr t x i,.iaddr x' i' s=>D8 P t s&&oe GL x x'&&oe GL i i'
 | .indexAddr t x i,.iaddrP x' i' s=>D8 P t s&&oe GL x x'&&oe GL i i'
 | .indexAddr t x i,.iaddrA x' i' len s=>Nq P t len s&&oe GL x x'&&oe GL i i'
 | .index t x i,.idxS x' i'=>isK P t (λ| .string=>true|_=>false)&&oe GL x x'&&oe GL i i'
 | .extract t i,.ext t' i'=>oe GL t t'&&i==i'
 | .makeFunc (.func f) first caps,.mkf f' caps'=>f==f'&&first.isEmpty&&Aj (oe GL) caps.toList caps'
 | .makeFunc (.func f) first caps,.mkme f' caps'=>f==f'&&caps.isEmpty&&Aj (oe GL) first.toList caps'
 | .index t x i,.idxA x' i' n s ag=>(match P.underlying t with|some (.array n' e)=>n'==n&&BK P e s&&GV P e ag&&(ag||s==1)|_=>false)&&oe GL x x'&&oe GL i i'
 | .call {callee:= .builtin .len,args,argTypes},.alen x'=>Hm args.toList (λx=>oe GL x x')&&Hm argTypes.toList (λt=>isK P t (λ| .slice _=>true|_=>false))
 | .call {callee:= .builtin .len,args,argTypes},.lenS x'=>Hm args.toList (λx=>oe GL x x')&&Hm argTypes.toList (λt=>isK P t (λ| .string=>true|_=>false))
 | .call {callee:= .builtin .max,args,..},.minmax true x' y'=>Fu args.toList (λx y=>oe GL x x'&&oe GL y y')
 | .call {callee:= .builtin .min,args,..},.minmax false x' y'=>Fu args.toList (λx y=>oe GL x x'&&oe GL y y')
 | .slice t x lo hi mx,.slc x' lo' hi' s=>D8 P t s&&oe GL x x'&&mx.isNone&&
   Aj (oe GL) lo.toList lo'.toList&&Aj (oe GL) hi.toList hi'.toList
 | .slice t x lo hi mx,.slcS x' lo' hi'=>isK P t (λ| .string=>true|_=>false)&&oe GL x x'&&mx.isNone&&Aj (oe GL) lo.toList lo'.toList&&Aj (oe GL) hi.toList hi'.toList
 | .slice t x lo hi mx,.slc0 x' el s=>(match P.underlying t with|some (.slice e)=>e==el&&BK P e s|_=>false)&&oe GL x x'&&lo.isNone&&(match hi,mx with|some (.const (.int _ 0)),some (.const (.int _ 0))=>true|_,_=>false)
 | .convert s d x,.b2s x'=>isK P d (λ| .string=>true|_=>false)&&(match P.underlying s with|some (.slice e)=>isK P e (λ| .int .u8=>true|_=>false)|_=>false)&&oe GL x x'
 | .lookup t x i ok',.look m k st ks zs ag ok=>(match P.underlying t with|some (.map kt el)=>D6 P kt st ks&&TK P el zs ag|_=>false)&&oe GL x m&&oe GL i k&&ok'==ok
 | .call {callee:= .builtin .len,args,argTypes},.mlen x'=>Hm args.toList (λx=>oe GL x x')&&Hm argTypes.toList (λt=>isK P t (λ| .map _ _=>true|_=>false))
 | .build t ps,.build zs ps'=>L2 P t zs&&F2 P GL t ps.toList ps'
 |_,_=>false
structure Gd (P:Program) (GL:AX) (g:Gh) (w:World) (μ:List Nat) (e:Env) (a:Act) (h:List Row) (O:Nat→Prop):Prop where
 inv:Inv g w μ (AH e) (λn=>a.tmps.getD n undef) h O
 glob:GlobOK GL g
def Bw (P:Program) (GL:AX) (op:Op) (pi:PI):Prop:=
 ∀ {g:Gh} {w:World} {μ:List Nat} {e:Env} {a:Act} {h:List Row} {O:Nat→Prop} {x:D},Gd P GL g w μ e a h O→pi.val e h=some x→
  ∀o:Oper,o.op=op→∃v,(execOp a.eval o).run P w= .ok (.value v) w∧RepD g w μ x v∧∀k,Ab x v k=none
section
variable {P:Program} {GL:AX}
theorem Gd.ev {g:Gh} {w:World} {μ:List Nat} {e:Env} {a:Act} {h:List Row} {O:Nat→Prop} (hd:Gd P GL g w μ e a h O) {p:Operand} {q:Opd} (hk:oe GL p q=true):
  RepD g w μ (q.ev e) (a.eval p):=AFI hd.inv.rep hd.glob hk
theorem Bf (x:V) (v:Value) (k:Nat):Ab (.v x) v k=none:=by cases k<;>simp[Ab,AZ]
theorem Ez {g:Gh} {w:World} {μ:List Nat} {b:Bool} {v:Value} (h:RepD g w μ (.v (.bool b)) v):v= .bool b:=by cases h;rfl
theorem D9 {g:Gh} {w:World} {μ:List Nat} {k:IntKind} {n:Int} {v:Value} (h:RepD g w μ (.v (.int k n)) v):v= .int k n:=by cases h;rfl
theorem FF {g:Gh} {w:World} {μ:List Nat} {s:ByteArray} {v:Value} (h:RepD g w μ (.v (.str s)) v):v= .string s:=by cases h;rfl
theorem uk {c a b:Operand} {c' a' b':Opd} (hc:oe GL c c'=true) (ha:oe GL a a'=true) (hb:oe GL b b'=true):Bw P GL (.pick c a b) (.pick c' a' b'):=by
 intro g w μ e act h O x hd hx o ho;have h1:=hd.ev hc;simp only[PI.val]at hx;split at hx
 ·rename_i t ht;rw[ht]at h1;have h2:=Ez h1;simp only[AT0]at hx;subst hx;cases t with
  |true=>exact⟨act.eval a,by simp[execOp,ho,h2,asBool],(hd.ev ha).copy,λk=>DK _ _ _⟩
  |false=>exact⟨act.eval b,by simp[execOp,ho,h2,asBool],(hd.ev hb).copy,λk=>DK _ _ _⟩
 ·cases hx
theorem Gc {w:World} {t:Nat} {ag:Bool} (h:GV P t ag=true):(isAgg t).run P w= .ok ag w:=by
 unfold GV at h;split at h<;>simp_all [isAgg,run_underlying]
theorem BS {w:World} {t n:Nat} (h:BK P t n=true):(sizeOf t).run P w= .ok n w:=by
 simp only[BK,beq_iff_eq,AUA]at h;obtain⟨i,hi,rfl⟩:=h;simp[sizeOf,typeInfo,hi]
theorem CI {a:Addr} (hs:a.spot=none) (n:Nat):a.add n=⟨a.block,a.off+n,none⟩:=by
 unfold Addr.add;split
 ·subst_vars;cases a;simp_all
 ·cases a;simp_all
theorem F4 {w:World} {t n:Nat} {ag:Bool} (hs:BK P t n=true) (hg:GV P t ag=true) {a:Addr} (ha:a.spot=none) {vs:List Value} (hn:n≤vs.length)
  (hc:∀i v,vs[i]?=some v→w.cell? ⟨a.block,a.off+i,none⟩=some v) (h1:ag=false→n=1):
  (loadVar t a).run P w= .ok (if ag then .agg (vs.take n).toArray else (vs[0]?.getD undef)) w:=by
 cases ag with
 |true=>
  have hl:=run_loadCells_list (P:=P) w a (vs.take n) (λj v hv=>by
   rw[CI ha];rw[AUV]at hv;split at hv
   ·exact hc j v hv
   ·cases hv)
  rw[AUT,AVG hn]at hl;simp[loadVar,Gc hg,BS hs,hl]
 |false=>
  have hn1:=h1 rfl;subst hn1;have h0:vs[0]?=some vs[0]:=AT2 _;have:=hc 0 _ h0;have e:(⟨a.block,a.off+0,none⟩:Addr)=a:=by cases a;simp_all
  rw[e]at this;simp[loadVar,Gc hg,this,h0]
theorem uJ {g:Gh} {w:World} (hag:∀b o v,g.m b o=some v→w.cell? ⟨b,o,none⟩=some v) {b o:Nat} {vs:List Value} (h:g.at b o vs):
  ∀(i:Nat) v,vs[i]?=some v→w.cell? ⟨b,o+i,none⟩=some v:=λi v hv=>hag _ _ _ (h i v hv)
theorem KI {g:Gh} {w:World} {μ:List Nat} {cs:List V} {vs:List Value} (ha:All2 (RepV g) cs vs) (h1:∀v∈vs,v.oneCell'=true) {off n:Nat} {ag:Bool} {y:V}
  (hy:V.part cs off n ag=some y):RepD g w μ (.v y) (if ag then .agg ((vs.drop off).take n).toArray else (vs[off]?.getD undef))∧off+n≤vs.length:=by
 unfold V.part at hy;split at hy
 ·rename_i hl;refine⟨?_,by rw[ha.1];exact hl⟩;cases ag with
  |true=>
   simp only[if_true,AT0]at hy ⊢;subst hy;exact RepV.agg' ((ha.drop off).take n) λv hv=>h1 v (AVk (AUi hv))
  |false=>
   simp only[AUF,if_false]at hy ⊢;obtain⟨v,hv,hr⟩:=ha.get hy;simp only[hv,AUH];exact hr
 ·cases hy
theorem RepE.copy {g:Gh} {w:World} {μ:List Nat} {d:D} {u:Value} (h:RepE g w μ d u):RepE g w μ d.copy u:=by
 cases d<;>simp only[D.copy]<;>first
  |exact h
  |exact RepOwn.list h
  |trivial
theorem RepE.toG {g:Gh} {w:World} {μ:List Nat} {d:D} {u:Value} (h:RepE g w μ d u):RepG g w μ d u:=by
 cases d<;>first
  |exact h
  |exact h.elim
theorem RepG.toD {g:Gh} {w:World} {μ:List Nat} {d:D} {u:Value} (h:RepG g w μ d u):RepD g w μ d u:=by
 cases d<;>first
  |exact h
  |exact h.elim
theorem All2.map_left {α β γ:Type} {R:α→β→Prop} {S:γ→β→Prop} {f:α→γ} (hf:∀x y,R x y→S (f x) y) {xs:List α} {ys:List β} (h:All2 R xs ys):All2 S (xs.map f) ys:=by
 refine⟨by simp[h.1],λi x y hx hy=>?_⟩;simp only[AUG,AUA]at hx;obtain⟨x',hx',rfl⟩:=hx;exact hf _ _ (h.2 i x' y hx' hy)
theorem Iq {g:Gh} {w:World} {μ:List Nat} {cs:List D} {vs:List Value} (ha:All2 (RepE g w μ) cs vs) (h1:∀v∈vs,v.oneCell'=true) {off n:Nat} {ag:Bool} {y:D}
  (hy:D.part cs off n ag=some y):RepD g w μ y (if ag then .agg ((vs.drop off).take n).toArray else (vs[off]?.getD undef))∧off+n≤vs.length∧∀u k,Ab y u k=none:=by
 unfold D.part at hy;split at hy
 ·rename_i hl;refine⟨?_,by rw[ha.1];exact hl,?_⟩
  ·cases ag with
   |true=>
    simp only[if_true,AT0]at hy ⊢;subst hy;refine⟨_,rfl,(All2.map_left (S:=RepE g w μ) (f:=D.copy) (λ_ _ h=>RepE.copy h) ((ha.drop off).take n)),λv hv=>h1 v (AVk (AUi hv)),?_⟩;intro d hd v;simp only[AT9]at hd;obtain⟨d',_,rfl⟩:=hd;exact Ih _ _
   |false=>
    simp only[AUF,if_false,AUA]at hy ⊢;obtain⟨y',hy',rfl⟩:=hy;obtain⟨v,hv,hr⟩:=ha.get hy';simp only[hv,AUH];exact hr.copy.toG.toD
  ·intro u k;cases ag with
   |true=>simp only[if_true,AT0]at hy;subst hy;cases k<;>simp[Ab,AZ]
   |false=>
    simp only[AUF,if_false,AUA]at hy;obtain⟨y',hy',rfl⟩:=hy;exact DK _ _ _
 ·cases hy
theorem Hj {g:Gh} {w:World} {μ:List Nat} {cs:List V} {u:Value} (h:RepD g w μ (.v (.ptr cs)) u):
  ∃(a:Addr) (vs:List Value),u= .pointer (some a)∧a.spot=none∧All2 (RepV g) cs vs∧(∀v∈vs,v.oneCell'=true)∧g.at a.block a.off vs:=by
 cases h with
 |ptr _ a vs hs hl hr h1 ha=>exact⟨a,vs,rfl,hs,⟨hl,hr⟩,h1,ha⟩
theorem Inv.row {g:Gh} {w:World} {μ:List Nat} {t:Nat→D} {u:Nat→Value} {h:List Row} {O:Nat→Prop} (hi:Inv g w μ t u h O) {r b:Nat} (hb:μ[r]?=some b) {ds:List D}
  (hr:h[r]?=some (.cells ds)):∃(vs:List Value) (T:TypeId),w.heap[b]?=some (.cells vs.toArray T (0,0))∧All2 (RepE g w μ) ds vs∧(∀v∈vs,v.oneCell'=true)∧∀o,g.m b o=none:=
 hi.rows r _ b hr hb
theorem WG {w:World} {b:Nat} {vs:List Value} {T:TypeId} (hb:w.heap[b]?=some (.cells vs.toArray T (0,0))) (off:Nat):
  ∀(i:Nat) v,(vs.drop off)[i]?=some v→w.cell? ⟨b,off+i,none⟩=some v:=by
 intro i v hv;rw[AVF]at hv;simp[World.cell?,hb,hv]
theorem MH {t:Nat} {a:Operand} {a':Opd} {n:Nat} {ag:Bool} (ha:oe GL a a'=true) (hs:BK P t n=true) (hg:GV P t ag=true) (h1:(ag||n==1)=true):
  Bw P GL (.load t a) (.load a' n ag):=by
 intro g w μ e act h O x hd hx o ho;have hr:=hd.ev ha;have hn1:ag=false→n=1:=by intro h;simpa[h]using h1
 simp only[PI.val]at hx;split at hx
 ·rename_i cs hc;rw[hc]at hr;obtain⟨ad,vs,hu,hsp,hall,hone,hat⟩:=Hj hr;simp only[AUA]at hx;obtain⟨y,hy,rfl⟩:=hx;obtain⟨hrep,hlen⟩:=KI (w:=w) (μ:=μ) hall hone hy;have hl:=F4 (w:=w) hs hg hsp (vs:=vs) (by simpa using hlen) (uJ hd.inv.agree hat) hn1;refine⟨if ag then .agg (vs.take n).toArray else (vs[0]?.getD undef),?_,?_,λk=>Bf _ _ _⟩
  ·simp[execOp,ho,hu,Instr.loadAt,Instr.sureAddr,hl]
  ·simpa using hrep
 ·rename_i r off hc;rw[hc]at hr;obtain⟨b,hb,hu⟩:=hr;split at hx
  ·rename_i ds hrow;obtain⟨vs,T,hheap,hall,hone,_⟩:=hd.inv.row hb hrow;obtain⟨hrep,hlen,hown⟩:=Iq hall hone hx;have hl:=F4 (P:=P) (w:=w) hs hg (a:=⟨b,off,none⟩) rfl (vs:=vs.drop off) (by simp;omega) (WG hheap off) hn1;refine⟨if ag then .agg ((vs.drop off).take n).toArray else (vs[off]?.getD undef),?_,hrep,λk=>hown _ _⟩;simp[execOp,ho,hu,Instr.loadAt,Instr.sureAddr,hl,AVF]
  ·cases hx
 ·cases hx
end
theorem v?_rep {g:Gh} {w:World} {μ:List Nat} {d:D} {u:Value} (h:RepE g w μ d u) {x:V} (hx:d.v?=some x):RepV g x u:=by
 cases d<;>simp only[D.v?,AT0,reduceCtorEq]at hx<;>subst hx
 ·exact h
 ·exact RepNil.list h
 ·exact RepOwn.list h
theorem vs?_rep {g:Gh} {R:D→Value→Prop} (hR:∀d u x,R d u→d.v?=some x→RepV g x u):∀ {ds:List D} {us:List Value} {xs:List V},All2 R ds us→D.vs? ds=some xs→All2 (RepV g) xs us
 |[],us,xs,h,hx=>by
  simp only[D.vs?,AT0]at hx;subst hx;have:=AUg h.1;subst this;exact .nil
 |d::ds,[],xs,h,_=>by simp[All2]at h
 |d::ds,u::us,xs,h,hx=>by
  rw[All2.cons_iff]at h;simp only[D.vs?]at hx;split at hx
  ·rename_i y ys hy hys;simp only[AT0]at hx;subst hx;exact .cons (hR _ _ _ h.1 hy) (vs?_rep hR h.2 hys)
  ·cases hx
theorem AEX {g:Gh} {μ:List Nat} {d:D} {u:Value} (h:RepC g μ d u) {x:V} (hx:d.v?=some x):RepV g x u:=by
 cases d<;>simp only[D.v?,AT0,reduceCtorEq]at hx<;>subst hx<;>first|exact h|exact h.elim
theorem CF {g:Gh} {w:World} {μ:List Nat} {d:D} {u:Value} (h:RepD g w μ d u) {x:V} (hx:d.toV=some x):RepV g x u:=by
 cases d with
 |agg ds=>
  simp only[D.toV,AUA]at hx;obtain⟨xs,hxs,rfl⟩:=hx;obtain⟨vs,rfl,ha,h1,_⟩:=h;exact RepV.agg' (vs?_rep (λ_ _ _ h hx=>v?_rep h hx) ha hxs) h1
 |func f caps=>
  simp only[D.toV,AUA]at hx;obtain⟨xs,hxs,rfl⟩:=hx;obtain⟨vs,rfl,ha⟩:=h;have:=vs?_rep (λ_ _ _ h hx=>AEX h hx) ha hxs;exact RepV.func f xs vs this.1 this.2
 |v x'=>exact v?_rep (μ:=μ) (w:=w) (d:= .v x') h hx
 |any=>simp[D.toV,D.v?]at hx
 |nil e s=>exact v?_rep (μ:=μ) (w:=w) (d:= .nil e s) h hx
 |own e s xs=>exact v?_rep (μ:=μ) (d:= .own e s xs) h hx
 |tup ds=>simp[D.toV,D.v?]at hx
 |ref r o=>simp[D.toV,D.v?]at hx
 |sref r n=>simp[D.toV,D.v?]at hx
 |mref r=>simp[D.toV,D.v?]at hx
 |meth f caps=>simp[D.toV,D.v?]at hx
 |yld r=>simp[D.toV,D.v?]at hx
 |pend b e s xs=>simp[D.toV,D.v?]at hx
 |pptr b s n=>simp[D.toV,D.v?]at hx
section
variable {P:Program} {GL:AX}
theorem Jk (r o:Nat) (v:Value) (k:Nat):Ab (.ref r o) v k=none:=by cases k<;>simp[Ab,AZ]
theorem WP {g:Gh} {w:World} {μ:List Nat} {d:D} {u:Value} (h:RepD g w μ d u) {b:Bool} (hb:d.isNil=some b):
  (b=true∧(u= .pointer none∨u= .nilFunc∨u= .map none))∨(b=false∧((∃a,u= .pointer (some a))∨(∃f vs,u= .func (.func f) #[] vs)∨(∃r,u= .map (some r)))):=by
 unfold D.isNil at hb;split at hb<;>simp only[AT0,reduceCtorEq]at hb<;>subst hb
 ·cases h;exact .inl ⟨rfl,.inl rfl⟩
 ·cases h;exact .inl ⟨rfl,.inr (.inl rfl)⟩
 ·cases h;exact .inl ⟨rfl,.inr (.inr rfl)⟩
 ·obtain⟨a,vs,rfl,_⟩:=Hj h;exact .inr ⟨rfl,.inl ⟨a,rfl⟩⟩
 ·cases h;exact .inr ⟨rfl,.inr (.inl ⟨_,_,rfl⟩)⟩
 ·obtain⟨b,_,rfl⟩:=h;exact .inr ⟨rfl,.inl ⟨_,rfl⟩⟩
 ·obtain⟨vs,rfl,_⟩:=h;exact .inr ⟨rfl,.inr (.inl ⟨_,_,rfl⟩)⟩
 ·obtain⟨b,_,rfl⟩:=h;exact .inr ⟨rfl,.inr (.inr ⟨_,rfl⟩)⟩
theorem ur {x:Operand} {x':Opd} (hk:oe GL x x'=true):Bw P GL (.nilCheck x) (.nilc x'):=by
 intro g w μ e act h O y hd hx o ho;have hr:=hd.ev hk;simp only[PI.val]at hx;split at hx
 ·rename_i hn;simp only[AT0]at hx;subst hx;refine⟨act.eval x,?_,hr.copy,λk=>DK _ _ _⟩;rcases WP hr hn with ⟨h,_⟩|⟨_,⟨a,hu⟩|⟨f,vs,hu⟩|⟨r,hu⟩⟩
  ·cases h
  ·simp[execOp,ho,hu]
  ·simp[execOp,ho,hu]
  ·simp[execOp,ho,hu]
 ·cases hx
theorem DW {op:BinOp} {t:Nat} {x y:Operand} {a b:Value} {w:World} (h:(∀cs,a≠ .agg cs)∧a≠ .nilIface):(eqGuard op t x y a b).run P w= .ok () w:=by
 cases a<;>first
  |exact absurd rfl h.2
  |exact absurd rfl (h.1 _)
  |(cases op<;>rfl)
theorem AIv {op:BinOp} {t s:Nat} {x y:Operand} {x' y':Opd} (hx':oe GL x x'=true) (hy':oe GL y y'=true):Bw P GL (.binOp op t x y s) (.bin op x' y'):=by
 intro g w μ e act h O d hd hx o ho;have hr1:=hd.ev hx';have hr2:=hd.ev hy';simp only[PI.val]at hx;split at hx
 ·rename_i a b ha hb;rw[ha]at hr1;rw[hb]at hr2;simp only[AUA]at hx;obtain⟨z,hz,rfl⟩:=hx
  suffices hs:∃v,(eqGuard op t x y (act.eval x) (act.eval y)).run P w= .ok () w∧(binOp op t (act.eval x) (act.eval y)).run P w= .ok v w∧RepV g z v by
   obtain⟨v,h1,h2,h3⟩:=hs;exact⟨v,by simp[execOp,ho,h1,h2],h3,λk=>Bf _ _ _⟩
  unfold V.bin at hz;split at hz
  ·rename_i k a k' b;have e1:=D9 hr1;have e2:=D9 hr2;rw[e1,e2];have hg:(eqGuard op t x y (.int k a) (.int k' b)).run P w= .ok () w:=DW ⟨by simp,by simp⟩;cases op<;>simp only[]at hz
   case shl=>
    split at hz
    ·rename_i h0;simp only[AT0]at hz;subst hz;exact⟨_,hg,by simp[binOp,Op.shift,show ¬b <0 by omega],.int _ _⟩
    ·cases hz
   case shr=>
    split at hz
    ·rename_i h0;simp only[AT0]at hz;subst hz;exact⟨_,hg,by simp[binOp,Op.shift,show ¬b <0 by omega],.int _ _⟩
    ·cases hz
   all_goals
    split at hz
    ·rename_i hkk;subst hkk
     first
      |(cases hz;done)
      |(simp only[AT0]at hz;subst hz
        first
         |(refine⟨_,hg,?_,.int _ _⟩;first|(simp[binOp,Op.intArith];done)|(unfold binOp;simp only[ne_eq,not_true_eq_false,if_false];rfl))
         |(refine⟨_,hg,?_,.bool _⟩;simp[binOp,Op.intCmp];done))
      |(split at hz
        ·cases hz
        ·rename_i h0;simp only[AT0]at hz;subst hz;refine⟨_,hg,?_,.int _ _⟩;simp[binOp,Op.intDiv,h0])
    ·cases hz
  ·rename_i a b;have e1:=FF hr1;have e2:=FF hr2;rw[e1,e2];have hg:(eqGuard op t x y (.string a) (.string b)).run P w= .ok () w:=DW ⟨by simp,by simp⟩;cases op<;>simp only[reduceCtorEq,AT0]at hz<;>subst hz
   ·exact⟨_,hg,by simp[binOp,Op.stringOp],.bool _⟩
   ·exact⟨_,hg,by simp[binOp,Op.stringOp],.bool _⟩
  ·cases hz
 ·cases hx
theorem Ey {t:Nat} {x y:Value} {w:World} {r:Bool} (h:∀d,(Op.equalIn (d+1) t x y).run P w= .ok r w):(Op.equal t x y).run P w= .ok r w:=h 9999
theorem Ic (d:Nat) {t:Nat} {w:World} (hu:P.underlying t=some .bool) (a b:Bool):(Op.equalIn (d+1) t (.bool a) (.bool b)).run P w= .ok (a==b) w:=by
 simp[Op.equalIn,run_underlying hu]
theorem Df (d:Nat) {t el:Nat} {w:World} (hu:P.underlying t=some (.pointer el)) (b:Option Addr):
  (Op.equalIn (d+1) t (.pointer none) (.pointer b)).run P w= .ok b.isNone w:=by
 simp[Op.equalIn,run_underlying hu]
theorem Ib (d:Nat) {t el:Nat} {w:World} (hu:P.underlying t=some (.pointer el)) (a:Addr):
  (Op.equalIn (d+1) t (.pointer (some a)) (.pointer none)).run P w= .ok false w:=by
 simp[Op.equalIn,run_underlying hu]
theorem Gu {op:BinOp} {ne:Bool} (h:(op==if ne then BinOp.neq else BinOp.eql)=true):op=if ne then BinOp.neq else BinOp.eql:=by
 cases ne<;>cases op<;>first|rfl|cases h
theorem AFK {op:BinOp} {ne:Bool} {t s:Nat} {x y:Operand} {x' y':Opd} (hop:(op==if ne then BinOp.neq else BinOp.eql)=true)
  (ht:isK P t (λ| .bool=>true|_=>false)=true) (hx':oe GL x x'=true) (hy':oe GL y y'=true):Bw P GL (.binOp op t x y s) (.eqB ne x' y'):=by
 intro g w μ e act h O d hd hx o ho;have hr1:=hd.ev hx';have hr2:=hd.ev hy';simp only[PI.val]at hx;split at hx
 ·rename_i a b ha hb;rw[ha]at hr1;rw[hb]at hr2;have e1:=Ez hr1;have e2:=Ez hr2;simp only[AT0]at hx;subst hx;have hg:(eqGuard op t x y (.bool a) (.bool b)).run P w= .ok () w:=DW ⟨by simp,by simp⟩;have hu:P.underlying t=some .bool:=by
   unfold isK at ht;split at ht
   ·rename_i d' hd';cases d'<;>simp_all
   ·cases ht
  have heq:(Op.equal t (.bool a) (.bool b)).run P w= .ok (a==b) w:=Ey λd=>Ic d hu a b;refine⟨.bool ((a==b) != ne),?_,.bool _,λk=>Bf _ _ _⟩;have:=Gu hop;subst this;cases ne<;>simp[execOp,ho,e1,e2,binOp,heq]at hg ⊢ <;>simp[hg,heq]
 ·cases hx
theorem AFJ {op:BinOp} {ne:Bool} {t s:Nat} {x y:Operand} {x' y':Opd} (hop:(op==if ne then BinOp.neq else BinOp.eql)=true)
  (ht:isK P t (λ| .pointer _=>true|_=>false)=true) (hx':oe GL x x'=true) (hy':oe GL y y'=true):Bw P GL (.binOp op t x y s) (.eqP ne x' y'):=by
 intro g w μ e act h O d hd hx o ho;have hr1:=hd.ev hx';have hr2:=hd.ev hy';have hu:∃el,P.underlying t=some (.pointer el):=by
  unfold isK at ht;split at ht
  ·rename_i d' hd';cases d'<;>simp_all
  ·cases ht
 obtain⟨el,hu⟩:=hu;have hp:∀ {q:D} {b:Bool} {v:Value},RepD g w μ q v→q.isNilP=some b→(b=true∧v= .pointer none)∨(b=false∧∃a,v= .pointer (some a)):=by
  intro q b v hq hb;unfold D.isNilP at hb;split at hb<;>simp only[AT0,reduceCtorEq]at hb<;>subst hb
  ·cases hq;exact .inl ⟨rfl,rfl⟩
  ·obtain⟨a,vs,rfl,_⟩:=Hj hq;exact .inr ⟨rfl,a,rfl⟩
  ·obtain⟨b,_,rfl⟩:=hq;exact .inr ⟨rfl,_,rfl⟩
 have hop':=Gu hop;subst hop';have fin:∀(r:Bool),(Op.equal t (act.eval x) (act.eval y)).run P w= .ok r w→(∃p1,act.eval x= .pointer p1)→(∃p2,act.eval y= .pointer p2)→
   ∃v,(execOp act.eval o).run P w= .ok (.value v) w∧RepD g w μ (.v (.bool (r != ne))) v∧∀k,Ab (.v (.bool (r != ne))) v k=none:=by
  rintro r hq ⟨p1,h1⟩ ⟨p2,h2⟩;refine⟨.bool (r != ne),?_,.bool _,λk=>Bf _ _ _⟩;have hg:∀op,(eqGuard op t x y (.pointer p1) (.pointer p2)).run P w= .ok () w:=λop=>DW ⟨by simp,by simp⟩;rw[h1,h2]at hq;cases ne<;>simp[execOp,ho,h1,h2,hg,binOp,hq]
 simp only[PI.val]at hx;split at hx
 ·rename_i b h1 h2;simp only[AT0]at hx;subst hx;rcases hp hr1 h1 with ⟨_,e1⟩|⟨h,_⟩
  ·rcases hp hr2 h2 with ⟨rfl,e2⟩|⟨rfl,a2,e2⟩
   ·exact fin true (by rw[e1,e2];exact Ey λd=>Df d hu none) ⟨_,e1⟩ ⟨_,e2⟩
   ·exact fin false (by rw[e1,e2];exact Ey λd=>Df d hu (some a2)) ⟨_,e1⟩ ⟨_,e2⟩
  ·cases h
 ·rename_i b h1 h2;simp only[AT0]at hx;subst hx;rcases hp hr2 h2 with ⟨_,e2⟩|⟨h,_⟩
  ·rcases hp hr1 h1 with ⟨rfl,e1⟩|⟨rfl,a1,e1⟩
   ·exact fin true (by rw[e1,e2];exact Ey λd=>Df d hu none) ⟨_,e1⟩ ⟨_,e2⟩
   ·exact fin false (by rw[e1,e2];exact Ey λd=>Ib d hu a1) ⟨_,e1⟩ ⟨_,e2⟩
  ·cases h
 ·cases hx
theorem AEp {op:UnOp} {t:Nat} {x:Operand} {x':Opd} (hop:(op==UnOp.not)=true) (hk:oe GL x x'=true):Bw P GL (.unOp op t x) (.not x'):=by
 intro g w μ e act h O d hd hx o ho;have hr:=hd.ev hk;have:op= .not:=by cases op<;>first|rfl|cases hop
 subst this;simp only[PI.val]at hx;split at hx
 ·rename_i a ha;rw[ha]at hr;simp only[AT0]at hx;subst hx;exact⟨_,by simp[execOp,ho,Ez hr,Op.unary],.bool _,λk=>Bf _ _ _⟩
 ·cases hx
theorem AEq {op:UnOp} {t:Nat} {x:Operand} {x':Opd} (hop:(op==UnOp.neg)=true) (hk:oe GL x x'=true):Bw P GL (.unOp op t x) (.neg x'):=by
 intro g w μ e act h O d hd hx o ho;have hr:=hd.ev hk;have:op= .neg:=by cases op<;>first|rfl|cases hop
 subst this;simp only[PI.val]at hx;split at hx
 ·rename_i k n ha;rw[ha]at hr;simp only[AT0]at hx;subst hx;exact⟨.int k (k.wrap (0-n)),by simp[execOp,ho,D9 hr,Op.unary,Op.intArith],.int _ _,λk=>Bf _ _ _⟩
 ·cases hx
theorem AE3 {op:UnOp} {t:Nat} {x:Operand} {x':Opd} (hop:(op==UnOp.xor)=true) (hk:oe GL x x'=true):Bw P GL (.unOp op t x) (.inv x'):=by
 intro g w μ e act h O d hd hx o ho;have hr:=hd.ev hk;have:op= .xor:=by cases op<;>first|rfl|cases hop
 subst this;simp only[PI.val]at hx;split at hx
 ·rename_i k n ha;rw[ha]at hr;simp only[AT0]at hx;subst hx;exact⟨_,by simp[execOp,ho,D9 hr,Op.unary,Op.intBits],.int _ _,λk=>Bf _ _ _⟩
 ·cases hx
theorem vA {s:Nat} (h:isK P s (λ| .int _=>true|_=>false)=true):∃k,P.underlying s=some (.int k):=by
 unfold isK at h;split at h
 ·rename_i d hd;cases d<;>simp_all
 ·cases h
theorem vN {s d:Nat} {k:IntKind} {x:Operand} {x':Opd} (hs:isK P s (λ| .int _=>true|_=>false)=true) (hd':isK P d (λ| .int k'=>k==k'|_=>false)=true)
  (hk:oe GL x x'=true):Bw P GL (.convert s d x) (.cint k x'):=by
 intro g w μ e act h O y hd hx o ho;have hr:=hd.ev hk;obtain⟨ks,hs'⟩:=vA hs;have hdd:P.underlying d=some (.int k):=by
  unfold isK at hd';split at hd'
  ·rename_i d' hd2;cases d'<;>simp_all
  ·cases hd'
 simp only[PI.val]at hx;split at hx
 ·rename_i k' n ha;rw[ha]at hr;simp only[AT0]at hx;subst hx;exact⟨_,by simp[execOp,ho,D9 hr,convert,run_underlying hs',run_underlying hdd,Conv.intToInt],.int _ _,λk=>Bf _ _ _⟩
 ·cases hx
end
section
variable {P:Program} {GL:AX}
theorem JN {t i off n:Nat} (h:Gm P t i off n=true):∃fs f,P.underlying t=some (.struct fs)∧fs[i]?=some f∧f.offset=off∧BK P f.type n=true:=by
 unfold Gm at h;split at h
 ·rename_i fs hfs;split at h
  ·rename_i f hf;simp only[AT1,beq_iff_eq]at h;exact⟨fs,f,hfs,hf,h.1,h.2⟩
  ·cases h
 ·cases h
theorem S7 {g:Gh} {w:World} {μ:List Nat} {r o:Nat} {u:Value} (h:RepD g w μ (.ref r o) u):∃b,μ[r]?=some b∧u= .pointer (some ⟨b,o,none⟩):=h
theorem wm {g:Gh} {b o:Nat} {vs:List Value} (h:g.at b o vs) (k n:Nat):g.at b (o+k) ((vs.drop k).take n):=by
 intro i v hv;rw[AUV]at hv;split at hv
 ·rw[AVF]at hv;have:=h _ v hv
  rwa [show o+(k+i)=o+k+i by omega]at this
 ·cases hv
theorem KC {g:Gh} {w:World} {μ:List Nat} {cs:List V} {vs:List Value} {ad:Addr} (hall:All2 (RepV g) cs vs) (hone:∀v∈vs,v.oneCell'=true) (hat:g.at ad.block ad.off vs)
  (k n:Nat):RepD g w μ (.v (.ptr ((cs.drop k).take n))) (.pointer (some ⟨ad.block,ad.off+k,none⟩)):=by
 have h2:=(hall.drop k).take n;exact RepV.ptr _ ⟨ad.block,ad.off+k,none⟩ ((vs.drop k).take n) rfl h2.1 h2.2 (λv hv=>hone v (AVk (AUi hv))) (wm hat k n)
theorem Xo {t i off n:Nat} {x:Operand} {x':Opd} (hf:Gm P t i off n=true) (h0:decide (0 <n)=true) (hk:oe GL x x'=true):Bw P GL (.fieldAddr t x i) (.faddr x' off n):=by
 intro g w μ e act h O y hd hx o ho;have hr:=hd.ev hk;obtain⟨fs,f,hu,hi,rfl,hsz⟩:=JN hf;have hn:n≠0:=by simp at h0;omega
 have run:∀ad:Addr,act.eval x= .pointer (some ad)→ad.spot=none→(execOp act.eval o).run P w= .ok (.value (.pointer (some ⟨ad.block,ad.off+f.offset,none⟩))) w:=by
  intro ad hv hs;simp[execOp,ho,hv,Instr.fieldAt,run_underlying hu,hi,Instr.sureAddr,fieldPlace,BS hsz,hn,CI hs]
 simp only[PI.val]at hx;split at hx
 ·rename_i cs hc;rw[hc]at hr;obtain⟨ad,vs,hv,hs,hall,hone,hat⟩:=Hj hr;split at hx
  ·simp only[AT0]at hx;subst hx;exact⟨_,run ad hv hs,KC hall hone hat _ _,λk=>Bf _ _ _⟩
  ·cases hx
 ·rename_i r off' hc;rw[hc]at hr;obtain⟨b,hb,hv⟩:=S7 hr;simp only[AT0]at hx;subst hx;exact⟨_,run _ hv rfl,⟨b,hb,rfl⟩,λk=>Jk _ _ _ _⟩
 ·cases hx
theorem Hb {w:World} {t n:Nat} {ag:Bool} (hs:BK P t n=true) (hg:GV P t ag=true) {vs:List Value} {off:Nat} (hl:off+n≤vs.length) (h1:ag=false→n=1):
  (part t vs.toArray off).run P w= .ok (if ag then .agg ((vs.drop off).take n).toArray else (vs[off]?.getD undef)) w:=by
 cases ag with
 |true=>
  simp[part,Gc hg,BS hs]
 |false=>
  have:=h1 rfl;subst this;have h0:vs[off]?=some vs[off]:=AT2 _;simp[part,Gc hg,h0]
theorem AFE {t i off n:Nat} {ag:Bool} {x:Operand} {x':Opd} (hf:Gm P t i off n=true) (hga:MR P t i ag=true) (h1:(ag||n==1)=true) (hk:oe GL x x'=true):
  Bw P GL (.field t x i) (.fld x' off n ag):=by
 intro g w μ e act h O y hd hx o ho;have hr:=hd.ev hk;obtain⟨fs,f,hu,hi,rfl,hsz⟩:=JN hf;have hg:GV P f.type ag=true:=by simpa[MR,hu,hi]using hga
 have hn1:ag=false→n=1:=by intro h;simpa[h]using h1
 simp only[PI.val]at hx;split at hx
 ·rename_i cs hc;rw[hc]at hr;obtain⟨vs,hv,hall,hone⟩:=RepV.agg_inv hr;simp only[AUA]at hx;obtain⟨z,hz,rfl⟩:=hx;obtain⟨hrep,hlen⟩:=KI (w:=w) (μ:=μ) hall hone hz;exact⟨_,by simp[execOp,ho,hv,Instr.field,run_underlying hu,hi,asAgg,Hb hsz hg hlen hn1],hrep,λk=>Bf _ _ _⟩
 ·rename_i ds hc;rw[hc]at hr;obtain⟨vs,hv,hall,hone,_⟩:=hr;obtain⟨hrep,hlen,hown⟩:=Iq hall hone hx;exact⟨_,by simp[execOp,ho,hv,Instr.field,run_underlying hu,hi,asAgg,Hb hsz hg hlen hn1],hrep,λk=>hown _ _⟩
 ·cases hx
theorem DV {g:Gh} {w:World} {μ:List Nat} {e:Env} {act:Act} {h:List Row} {O:Nat→Prop} (hd:Gd P GL g w μ e act h O) {i:Operand} {i':Opd} (hk:oe GL i i'=true) {k:IntKind} {n:Int}
  (hc:i'.ev e= .v (.int k n)):act.eval i= .int k n:=by
 have:=hd.ev hk;rw[hc]at this;exact D9 this
theorem L6 {g:Gh} {xs:List V} {u:Value} (h:RepV g (.list xs) u) {i:Nat} {x:V} (hx:xs[i]?=some x):
  ∃(a:Addr) (cap s:Nat) (vs:List Value),u= .slice (some a) xs.length cap∧a.spot=none∧All2 (RepV g) x.cells vs∧(∀v∈vs,v.oneCell'=true)∧g.at a.block (a.off+i*s) vs∧s=x.cells.length:=by
 have hi:=(AT4.1 hx).1;cases h with
 |lnil=>simp at hx
 |list _ a cap s vs hs hc hr hz=>
  have hc2:=(hr i x hx).cells;have hz2:=hz i hi;refine⟨a,cap,s,(vs i).cells.toList,rfl,hs,hc2.1,hc2.2,hz2.2,?_⟩;have:=hc2.1.1;simp at this;omega
theorem Xg {t s:Nat} {x i:Operand} {x' i':Opd} (ht:D8 P t s=true) (hk:oe GL x x'=true) (hki:oe GL i i'=true):
  Bw P GL (.indexAddr t x i) (.iaddr x' i' s):=by
 intro g w μ e act h O y hd hx o ho;have hr:=(hd.ev hk).copy;have hu:∃el,P.underlying t=some (.slice el)∧BK P el s=true:=by
  unfold D8 at ht;split at ht
  ·rename_i el hel;exact⟨el,hel,ht⟩
  ·cases ht
 obtain⟨el,hu,hsz⟩:=hu;simp only[PI.val]at hx;split at hx
 ·rename_i xs k n hc hci;rw[hc]at hr;have hiv:=DV hd hki hci;unfold V.getI at hx;split at hx
  ·rename_i z hz;split at hz
   ·rename_i h0;split at hx
    ·rename_i hs;simp only[AT0]at hx;subst hx;obtain⟨a,cap,s',vs,hv,hsp,hall,hone,hat,hs'⟩:=L6 hr hz;have hss:s'=s:=by omega
     subst hss;have hi:=(AT4.1 hz).1;refine⟨.pointer (some ⟨a.block,a.off+n.toNat*s',none⟩),?_,?_,λk=>Bf _ _ _⟩
     ·have hlt:0≤n∧n <(xs.length:Int):=⟨h0,by omega⟩;simp[execOp,ho,hv,hiv,Instr.indexAt,asIntOf,run_underlying hu,hlt,BS hsz,CI hsp]
     ·exact RepV.ptr _ ⟨a.block,a.off+n.toNat*s',none⟩ vs rfl hall.1 hall.2 hone hat
    ·cases hx
   ·cases hz
  ·cases hx
 ·rename_i r m k n hc hci;rw[hc]at hr;have hiv:=DV hd hki hci;obtain⟨b,cap,hb,hv,_⟩:=hr;split at hx
  ·rename_i h0;simp only[AT0]at hx;subst hx;refine⟨.pointer (some ⟨b,n.toNat*s,none⟩),?_,⟨b,hb,rfl⟩,λk=>Jk _ _ _ _⟩;simp[execOp,ho,hv,hiv,Instr.indexAt,asIntOf,run_underlying hu,h0,BS hsz];rw[CI rfl];simp
  ·cases hx
 ·cases hx
theorem WQ {t s:Nat} {x i:Operand} {x' i':Opd} (ht:D8 P t s=true) (hk:oe GL x x'=true) (hki:oe GL i i'=true):
  Bw P GL (.indexAddr t x i) (.iaddrP x' i' s):=by
 intro g w μ e act h O y hd hx o ho;have hr:=hd.ev hk;have hu:∃el,P.underlying t=some (.slice el)∧BK P el s=true:=by
  unfold D8 at ht;split at ht
  ·rename_i el hel;exact⟨el,hel,ht⟩
  ·cases ht
 obtain⟨el,hu,hsz⟩:=hu;simp only[PI.val]at hx;split at hx
 ·rename_i b el' s' xs k n hc hci;rw[hc]at hr;have hiv:=DV hd hki hci;split at hx
  ·rename_i hn;obtain⟨⟨rfl,rfl⟩,hpos⟩:=hn;simp only[AT0]at hx;subst hx;obtain⟨cap,hv,hcap,_⟩:=hr;refine⟨.pointer (some ⟨b,xs.length*s',none⟩),?_,.inr ⟨hpos,rfl⟩,λk=>by cases k<;>simp[Ab,AZ]⟩
   have hlt:(0:Int)≤xs.length∧(xs.length:Int) <((xs.length+1:Nat):Int):=⟨by omega,by omega⟩;simp[execOp,ho,hv,hiv,Instr.indexAt,asIntOf,run_underlying hu,hlt,BS hsz]
   try (rw[CI rfl];simp)
  ·cases hx
 ·rename_i b m k n hc hci;rw[hc]at hr;have hiv:=DV hd hki hci;split at hx
  ·rename_i hn;obtain⟨rfl,hpos⟩:=hn;simp only[AT0]at hx;subst hx;obtain⟨_,cap,hv⟩|⟨h0,_⟩:=hr
   ·refine⟨.pointer (some ⟨b,m*s,none⟩),?_,.inr ⟨hpos,rfl⟩,λk=>by cases k<;>simp[Ab,AZ]⟩
    have hlt:(0:Int)≤m∧(m:Int) <((m+1:Nat):Int):=⟨by omega,by omega⟩;simp[execOp,ho,hv,hiv,Instr.indexAt,asIntOf,run_underlying hu,hlt,BS hsz]
    try (rw[CI rfl];simp)
   ·omega
  ·cases hx
 ·cases hx
theorem WR {t len s:Nat} {x i:Operand} {x' i':Opd} (ht:Nq P t len s=true) (hk:oe GL x x'=true) (hki:oe GL i i'=true):
  Bw P GL (.indexAddr t x i) (.iaddrA x' i' len s):=by
 intro g w μ e act h O y hd hx o ho;have hr:=hd.ev hk;have hu:∃el,P.underlying t=some (.array len el)∧BK P el s=true:=by
  unfold Nq at ht;split at ht
  ·rename_i l el hel;simp only[AT1,beq_iff_eq]at ht;obtain⟨⟨rfl,h2⟩,_⟩:=ht;exact⟨el,hel,h2⟩
  ·cases ht
 obtain⟨el,hu,hsz⟩:=hu;have run:∀(ad:Addr) (k:IntKind) (n:Int),act.eval x= .pointer (some ad)→ad.spot=none→act.eval i= .int k n→0≤n∧n <(len:Int)→
   (execOp act.eval o).run P w= .ok (.value (.pointer (some ⟨ad.block,ad.off+n.toNat*s,none⟩))) w:=by
  intro ad k n hv hs hi hlt;simp[execOp,ho,hv,hi,Instr.indexAt,asIntOf,run_underlying hu,hlt,BS hsz,Instr.sureAddr,CI hs]
 simp only[PI.val]at hx;split at hx
 ·rename_i cs k n hc hci;rw[hc]at hr;obtain⟨ad,vs,hv,hs,hall,hone,hat⟩:=Hj hr;split at hx
  ·rename_i h0;simp only[AT0]at hx;subst hx;exact⟨_,run ad k n hv hs (DV hd hki hci) ⟨h0.1,h0.2.1⟩,KC hall hone hat _ _,λk=>Bf _ _ _⟩
  ·cases hx
 ·rename_i r off' k n hc hci;rw[hc]at hr;obtain⟨b,hb,hv⟩:=S7 hr;split at hx
  ·rename_i h0;simp only[AT0]at hx;subst hx;exact⟨_,run _ k n hv rfl (DV hd hki hci) h0,⟨b,hb,rfl⟩,λk=>Jk _ _ _ _⟩
  ·cases hx
 ·cases hx
theorem DF {t:Nat} (h:isK P t (λ| .string=>true|_=>false)=true):P.underlying t=some .string:=by
 unfold isK at h;split at h
 ·rename_i d hd;cases d<;>simp_all
 ·cases h
theorem vC {t:Nat} {x i:Operand} {x' i':Opd} (ht:isK P t (λ| .string=>true|_=>false)=true) (hk:oe GL x x'=true) (hki:oe GL i i'=true):
  Bw P GL (.index t x i) (.idxS x' i'):=by
 intro g w μ e act h O y hd hx o ho;have hr:=hd.ev hk;have hu:=DF ht;simp only[PI.val]at hx;split at hx
 ·rename_i s k n hc hci;rw[hc]at hr;split at hx
  ·rename_i h0;simp only[AUA]at hx;obtain⟨b,hb,rfl⟩:=hx;exact⟨.int .u8 b.toNat,by simp[execOp,ho,FF hr,DV hd hki hci,Instr.index,asIntOf,run_underlying hu,h0,hb],.int _ _,λk=>Bf _ _ _⟩
  ·cases hx
 ·cases hx
theorem TE {p:Option Operand} {q:Option Opd} (h:Aj (oe GL) p.toList q.toList=true):(p=none∧q=none)∨∃x y,p=some x∧q=some y∧oe GL x y=true:=by
 cases p<;>cases q<;>simp_all [Aj]
theorem Ge {g:Gh} {w:World} {μ:List Nat} {e:Env} {act:Act} {h:List Row} {O:Nat→Prop} (hd:Gd P GL g w μ e act h O) {p:Operand} {q:Opd} (hk:oe GL p q=true) {dflt l y:Nat}
  (hb:Jf (some (q.ev e)) dflt=some l) (hl:l≤y) (code:BoundsCode):(Instr.sliceBound (act.eval p) y code).run P w= .ok l w:=by
 unfold Jf at hb;split at hb
 ·rename_i h;cases h
 ·rename_i k n h;simp only[AT0]at h;split at hb
  ·rename_i h0;simp only[AT0]at hb;have hv:=DV hd hk h;have:0≤n∧n≤(y:Int):=⟨h0,by omega⟩;simp[Instr.sliceBound,hv,asIntOf,this,hb]
  ·cases hb
 ·cases hb
theorem J9 {g:Gh} {w:World} {μ:List Nat} {e:Env} {act:Act} {h:List Row} {O:Nat→Prop} (hd:Gd P GL g w μ e act h O) {lo hi:Option Operand} {lo' hi':Option Opd}
  (hlo:Aj (oe GL) lo.toList lo'.toList=true) (hhi:Aj (oe GL) hi.toList hi'.toList=true) {l m len cap:Nat} (isS:Bool)
  (hl:Jf (lo'.map (·.ev e)) 0=some l) (hm:Jf (hi'.map (·.ev e)) len=some m) (hlm:l≤m) (hml:m≤len) (hlc:len≤cap):
  (Instr.sliceBounds isS len cap (lo.map act.eval) (hi.map act.eval) none).run P w= .ok (l,m,cap) w:=by
 rcases TE hlo with ⟨rfl,rfl⟩|⟨p,q,rfl,rfl,hpq⟩<;>rcases TE hhi with ⟨rfl,rfl⟩|⟨p',q',rfl,rfl,hpq'⟩
 ·simp[Jf]at hl hm;subst hl;subst hm;simp[Instr.sliceBounds]
 ·simp[Jf]at hl;subst hl;have h2:=Ge hd hpq' (y:=cap) hm (by omega) (if isS then .sliceAcap else .sliceAlen);simp[Instr.sliceBounds,h2]
 ·simp[Jf]at hm;subst hm;have h2:=Ge hd hpq (y:=len) hl (by omega) .sliceB;simp[Instr.sliceBounds,h2]
 ·have h1:=Ge hd hpq' (y:=cap) hm (by omega) (if isS then .sliceAcap else .sliceAlen);have h2:=Ge hd hpq (y:=m) hl (by omega) .sliceB;simp[Instr.sliceBounds,h1,h2]
theorem N7 {g:Gh} {xs:List V} {u:Value} (h:RepV g (.list xs) u) {l m s:Nat} (hlm:l≤m) (hml:m≤xs.length) (hs:CK s xs=true):
  ∃(a:Option Addr) (cap:Nat),u= .slice a xs.length cap∧xs.length≤cap∧RepV g (.list ((xs.take m).drop l)) (.slice (if cap=l then a else a.map (·.add (l*s))) (m-l) (cap-l)):=by
 cases h with
 |lnil=>
  have hm0:m=0:=by simpa using hml
  subst hm0;have hl0:l=0:=by omega
  subst hl0;exact⟨none,0,rfl,AT6 _,by simpa using RepV.lnil⟩
 |list _ a cap s' vs hsp hc hr hz=>
  refine⟨some a,cap,rfl,hc,?_⟩;have hlen:((xs.take m).drop l).length=m-l:=by simp;omega
  have Bc:∀i x,((xs.take m).drop l)[i]?=some x→xs[l+i]?=some x:=by
   intro i x hx;rw[AVF,AUV]at hx;split at hx
   ·exact hx
   ·cases hx
  have hs':0 <xs.length→s'=s:=by
   intro h0;have hx0:xs[0]?=some xs[0]:=AT2 _;have h1:xs.head?=some xs[0]:=by rw[List.head?_eq_getElem?];exact hx0
   simp[CK,h1]at hs;have h3:=(hr 0 _ hx0).cells.1.1;have h4:=(hz 0 h0).1;simp at h3;omega
  rw[←hlen];by_cases hcl:cap=l
  ·simp only[hcl,if_true];refine RepV.list _ a _ s' (λi=>vs (l+i)) hsp (by rw[hlen];omega) (λi x hx=>hr _ x (Bc i x hx)) λi hi=>?_;rw[hlen]at hi;omega
  ·simp only[hcl,if_false,AUU];refine RepV.list _ (a.add (l*s)) _ s' (λi=>vs (l+i)) (by rw[CI hsp]) (by rw[hlen];omega) (λi x hx=>hr _ x (Bc i x hx)) λi hi=>?_;rw[hlen]at hi;have h0:0 <xs.length:=by omega
   have hss:=hs' h0;subst hss;rw[CI hsp];have:=hz (l+i) (by omega);refine⟨this.1,?_⟩;have h2:=this.2;simp only
   rwa [show a.off+(l+i)*s'=a.off+l*s'+i*s' by rw[AUo];omega]at h2
theorem AEV {t s:Nat} {x:Operand} {lo hi mx:Option Operand} {x':Opd} {lo' hi':Option Opd} (ht:D8 P t s=true)
  (hk:oe GL x x'=true) (hmx:mx.isNone=true) (hlo:Aj (oe GL) lo.toList lo'.toList=true) (hhi:Aj (oe GL) hi.toList hi'.toList=true):
  Bw P GL (.slice t x lo hi mx) (.slc x' lo' hi' s):=by
 intro g w μ e act h O y hd hx o ho;have hr:=(hd.ev hk).copy;have hu:∃el,P.underlying t=some (.slice el)∧BK P el s=true:=by
  unfold D8 at ht;split at ht
  ·rename_i el hel;exact⟨el,hel,ht⟩
  ·cases ht
 obtain⟨el,hu,hsz⟩:=hu;have hmx':mx=none:=by simpa using hmx
 subst hmx';simp only[PI.val]at hx;split at hx
 ·rename_i xs hc;rw[hc]at hr;split at hx
  ·rename_i l m hl hm;split at hx
   ·rename_i hcond;simp only[AT0]at hx;subst hx;obtain⟨a,cap,hv,hlc,hrep⟩:=N7 hr hcond.1 hcond.2.1 hcond.2.2;have hb:=J9 (w:=w) hd hlo hhi true hl hm hcond.1 hcond.2.1 hlc;exact⟨_,by simp[execOp,ho,hv,Instr.sliceAt,Instr.slice,run_underlying hu,hb,BS hsz],hrep,λk=>Bf _ _ _⟩
   ·cases hx
  ·cases hx
 ·cases hx
theorem ua {t:Nat} {x:Operand} {lo hi mx:Option Operand} {x':Opd} {lo' hi':Option Opd} (ht:isK P t (λ| .string=>true|_=>false)=true)
  (hk:oe GL x x'=true) (hmx:mx.isNone=true) (hlo:Aj (oe GL) lo.toList lo'.toList=true) (hhi:Aj (oe GL) hi.toList hi'.toList=true):
  Bw P GL (.slice t x lo hi mx) (.slcS x' lo' hi'):=by
 intro g w μ e act h O y hd hx o ho;have hr:=hd.ev hk;have hu:=DF ht;have hmx':mx=none:=by simpa using hmx
 subst hmx';simp only[PI.val]at hx;split at hx
 ·rename_i s hc;rw[hc]at hr;split at hx
  ·rename_i l m hl hm;split at hx
   ·rename_i hcond;simp only[AT0]at hx;subst hx;have hb:=J9 (w:=w) hd hlo hhi false hl hm hcond.1 hcond.2 (AT6 _);exact⟨_,by simp[execOp,ho,FF hr,Instr.sliceAt,Instr.slice,run_underlying hu,hb],.str _,λk=>Bf _ _ _⟩
   ·cases hx
  ·cases hx
 ·cases hx
theorem AFG {t:Operand} {t':Opd} {i i':Nat} (hk:oe GL t t'=true) (hi:(i==i')=true):Bw P GL (.extract t i) (.ext t' i'):=by
 intro g w μ e act h O y hd hx o ho;have:i=i':=by simpa using hi
 subst this;simp only[PI.val]at hx;split at hx
 ·rename_i n mv;cases t with
  |tmp n'=>
   have:n'=n:=by simpa[oe]using hk
   subst this;split at hx
   ·rename_i ds hds;have hr:=hd.inv.rep n';rw[hds]at hr;obtain⟨vs,hv,hall⟩:=hr;simp only[AUA]at hx;obtain⟨z,hz,rfl⟩:=hx;obtain⟨v,hvs,hrep⟩:=hall.get hz;refine⟨v,?_,hrep.toD.copy,λk=>DK _ _ _⟩;simp[execOp,ho,Act.eval,hv,Instr.extract,hvs]
   ·cases hx
  |const v=>simp[oe]at hk
  |global g=>simp[oe]at hk
  |func f=>simp[oe]at hk
 ·cases hx
theorem Kg {g:Gh} {w:World} {μ:List Nat} {e:Env} {act:Act} {h:List Row} {O:Nat→Prop} (hd:Gd P GL g w μ e act h O):
  ∀ {ps:List Operand} {qs:List Opd},Aj (oe GL) ps qs=true→(D4 e qs).all D.isCap=true→All2 (RepC g μ) (D4 e qs) (ps.map act.eval)
 |[],[],_,_=> .nil
 |p::ps,q::qs,hk,hc=>by
  simp only[Aj,AT1]at hk;simp only[D4,AVl,AT1]at hc ⊢;refine .cons ?_ (Kg hd hk.2 hc.2);have hr:=(hd.ev hk.1).copy;generalize (q.ev e).copy=d at hr hc ⊢;cases d<;>simp[D.isCap]at hc<;>exact hr
 |[],_::_,hk,_=>by simp[Aj]at hk
 |_::_,[],hk,_=>by simp[Aj]at hk
theorem AEt {f f':Nat} {first caps:Array Operand} {caps':List Opd} (hf:(f==f')=true) (h1:first.isEmpty=true) (hk:Aj (oe GL) caps.toList caps'=true):
  Bw P GL (.makeFunc (.func f) first caps) (.mkf f' caps'):=by
 intro g w μ e act h O y hd hx o ho;have:f=f':=by simpa using hf
 subst this;have hfe:first= #[]:=by simpa using h1
 subst hfe;simp only[PI.val]at hx;split at hx
 ·rename_i hc;simp only[AT0]at hx;subst hx;refine⟨.func (.func f) #[] (caps.toList.map act.eval).toArray,?_,⟨_,rfl,Kg hd hk hc⟩,λk=>by cases k<;>simp[Ab,AZ]⟩
  simp[execOp,ho,Instr.makeFunc];rw[←AUu];simp
 ·cases hx
theorem uy {f f':Nat} {first caps:Array Operand} {caps':List Opd} (hf:(f==f')=true) (h1:caps.isEmpty=true) (hk:Aj (oe GL) first.toList caps'=true):
  Bw P GL (.makeFunc (.func f) first caps) (.mkme f' caps'):=by
 intro g w μ e act h O y hd hx o ho;have:=eq_of_beq hf;subst this;simp only[PI.val]at hx;split at hx
 ·rename_i hall;simp only[AT0]at hx;subst hx;have h2:caps= #[]:=by simpa using h1
  subst h2;have:=Kg hd hk hall;refine⟨.func (.func f) (first.toList.map act.eval).toArray #[],?_,⟨_,rfl,this⟩,λk=>by cases k<;>simp[Ab,AZ]⟩
  have e1:first.map act.eval=(first.toList.map act.eval).toArray:=by rw[←AUu];simp
  simp[execOp,ho,Instr.makeFunc,e1]
 ·cases hx
theorem vD {t n s:Nat} {ag:Bool} {x i:Operand} {x' i':Opd} (ht:(match P.underlying t with|some (.array n' e)=>n'==n&&BK P e s&&GV P e ag&&(ag||s==1)|_=>false)=true)
  (hk:oe GL x x'=true) (hki:oe GL i i'=true):Bw P GL (.index t x i) (.idxA x' i' n s ag):=by
 intro g w μ e act h O y hd hx o ho;have hr:=hd.ev hk;split at ht
 ·rename_i n' el hu;simp only[AT1,beq_iff_eq]at ht;obtain⟨⟨⟨rfl,hs⟩,hg⟩,h1⟩:=ht;have hn1:ag=false→s=1:=by intro h;simpa[h]using h1
  simp only[PI.val]at hx;split at hx
  ·rename_i cs k z hc hci;rw[hc]at hr;obtain⟨vs,hv,hall,hone⟩:=RepV.agg_inv hr;split at hx
   ·rename_i hlt;simp only[AUA]at hx;obtain⟨z',hz,rfl⟩:=hx;obtain⟨hrep,hlen⟩:=KI (w:=w) (μ:=μ) hall hone hz;exact⟨_,by simp[execOp,ho,hv,DV hd hki hci,Instr.index,asIntOf,run_underlying hu,hlt,BS hs,Hb hs hg hlen hn1],hrep,λk=>Bf _ _ _⟩
   ·cases hx
  ·rename_i ds k z hc hci;rw[hc]at hr;obtain⟨vs,hv,hall,hone,_⟩:=hr;split at hx
   ·rename_i hlt;obtain⟨hrep,hlen,hown⟩:=Iq hall hone hx;exact⟨_,by simp[execOp,ho,hv,DV hd hki hci,Instr.index,asIntOf,run_underlying hu,hlt,BS hs,Hb hs hg hlen hn1],hrep,λk=>hown _ _⟩
   ·cases hx
  ·cases hx
 ·cases ht
theorem Gi {α:Type} {asx:Array α} {p:α→Bool} (h:Hm asx.toList p=true):∃x,asx= #[x]∧p x=true:=by
 unfold Hm at h;split at h
 ·rename_i x hx;exact⟨x,by rw[←Array.toArray_toList (xs:=asx),hx],h⟩
 ·cases h
theorem Cj {α:Type} {asx:Array α} {p:α→α→Bool} (h:Fu asx.toList p=true):∃x y,asx= #[x,y]∧p x y=true:=by
 unfold Fu at h;split at h
 ·rename_i x y hx;exact⟨x,y,by rw[←Array.toArray_toList (xs:=asx),hx],h⟩
 ·cases h
theorem EK {t:Nat} (h:isK P t (λ| .slice _=>true|_=>false)=true):∃el,P.underlying t=some (.slice el):=by
 unfold isK at h;split at h
 ·rename_i d hd;cases d<;>simp_all
 ·cases h
theorem wq {args:Array Operand} {ts:Array TypeId} {x':Opd} (hk:Hm args.toList (λx=>oe GL x x')=true)
  (ht:Hm ts.toList (λt=>isK P t (λ| .slice _=>true|_=>false))=true):Bw P GL (.call {callee:= .builtin .len,args:=args,argTypes:=ts}) (.alen x'):=by
 intro g w μ e act h O y hd hx o ho;obtain⟨x,rfl,hx1⟩:=Gi hk;obtain⟨t,rfl,ht1⟩:=Gi ht;obtain⟨el,hu⟩:=EK ht1;have hr:=(hd.ev hx1).copy;have run:∀a n c,act.eval x= .slice a n c→(execOp act.eval o).run P w= .ok (.value (.int .i64 n)) w:=by
  intro a n c hv;simp[execOp,ho,resolve,invoke,builtin,Builtin.len_,run_underlying hu,hv,goInt]
 simp only[PI.val]at hx;split at hx
 ·rename_i xs hc;rw[hc]at hr;simp only[AT0]at hx;subst hx;refine⟨.int .i64 xs.length,?_,.int _ _,λk=>Bf _ _ _⟩;generalize hv:act.eval x=u at hr;cases hr with
  |lnil=>exact run _ _ _ hv
  |list _ a cap s vs=>exact run _ _ _ hv
 ·rename_i el' s' hc;rw[hc]at hr;simp only[AT0]at hx;subst hx;obtain⟨a,hv,_⟩:=hr;exact⟨.int .i64 0,run _ _ _ hv,.int _ _,λk=>Bf _ _ _⟩
 ·rename_i r n hc;rw[hc]at hr;simp only[AT0]at hx;subst hx;obtain⟨b,cap,_,hv,_⟩:=hr;exact⟨.int .i64 n,run _ _ _ hv,.int _ _,λk=>Bf _ _ _⟩
 ·cases hx
theorem u5 {args:Array Operand} {ts:Array TypeId} {x':Opd} (hk:Hm args.toList (λx=>oe GL x x')=true)
  (ht:Hm ts.toList (λt=>isK P t (λ| .string=>true|_=>false))=true):Bw P GL (.call {callee:= .builtin .len,args:=args,argTypes:=ts}) (.lenS x'):=by
 intro g w μ e act h O y hd hx o ho;obtain⟨x,rfl,hx1⟩:=Gi hk;obtain⟨t,rfl,ht1⟩:=Gi ht;have hu:=DF ht1;have hr:=hd.ev hx1;simp only[PI.val]at hx;split at hx
 ·rename_i s hc;rw[hc]at hr;simp only[AT0]at hx;subst hx;exact⟨.int .i64 s.size,by simp[execOp,ho,resolve,invoke,builtin,Builtin.len_,run_underlying hu,FF hr,goInt],.int _ _,λk=>Bf _ _ _⟩
 ·cases hx
theorem AEw {args:Array Operand} {ts:Array TypeId} {x' y':Opd} (hk:Fu args.toList (λx y=>oe GL x x'&&oe GL y y')=true):
  Bw P GL (.call {callee:= .builtin .max,args:=args,argTypes:=ts}) (.minmax true x' y'):=by
 intro g w μ e act h O z hd hx o ho;obtain⟨x,y,rfl,hxy⟩:=Cj hk;simp only[AT1]at hxy;simp only[PI.val]at hx;split at hx
 ·rename_i k a k' b hc hc';split at hx
  ·rename_i hkk;subst hkk;simp only[if_true,AT0]at hx;subst hx;exact⟨_,by simp[execOp,ho,resolve,invoke,builtin,Builtin.max_,Builtin.max2,DV hd hxy.1 hc,DV hd hxy.2 hc'],.int _ _,λk=>Bf _ _ _⟩
  ·cases hx
 ·cases hx
theorem AEv {args:Array Operand} {ts:Array TypeId} {x' y':Opd} (hk:Fu args.toList (λx y=>oe GL x x'&&oe GL y y')=true):
  Bw P GL (.call {callee:= .builtin .min,args:=args,argTypes:=ts}) (.minmax false x' y'):=by
 intro g w μ e act h O z hd hx o ho;obtain⟨x,y,rfl,hxy⟩:=Cj hk;simp only[AT1]at hxy;simp only[PI.val]at hx;split at hx
 ·rename_i k a k' b hc hc';split at hx
  ·rename_i hkk;subst hkk;simp only[AUF,if_false,AT0]at hx;subst hx;exact⟨_,by simp[execOp,ho,resolve,invoke,builtin,Builtin.min_,Builtin.min2,DV hd hxy.1 hc,DV hd hxy.2 hc'],.int _ _,λk=>Bf _ _ _⟩
  ·cases hx
 ·cases hx
end
section
variable {P:Program} {GL:AX}
theorem vI {g:Gh} {w:World} {x y:V} {u v:Value} (hx:RepV g x u) (hy:RepV g y v) {k:Nat} {b:Bool} (hb:V.eq1 k x y=some b) {t:Nat} (ht:HJ P t k=true) (d:Nat):
  (Op.equalIn (d+1) t u v).run P w= .ok b w∧(part t #[] 0=part t #[] 0)∧(isAgg t).run P w= .ok false w:=by
 unfold HJ at ht;split at ht
 ·rename_i k' hu;cases x<;>cases y<;>simp only[V.eq1,reduceCtorEq]at hb
  rename_i k1 a k2 c;split at hb
  ·rename_i hkk;subst hkk;simp only[AT0]at hb;subst hb;cases hx;cases hy;exact⟨run_equalIn_int w d t k1 _ a c hu,rfl,by simp[isAgg,run_underlying hu]⟩
  ·cases hb
 ·rename_i hu;cases x<;>cases y<;>simp only[V.eq1,reduceCtorEq]at hb
  simp only[AT0]at hb;subst hb;cases hx;cases hy;exact⟨run_equalIn_bool' w d t _ _ hu,rfl,by simp[isAgg,run_underlying hu]⟩
 ·rename_i hu;cases x<;>cases y<;>simp only[V.eq1,reduceCtorEq]at hb
  simp only[AT0]at hb;subst hb;cases hx;cases hy;exact⟨run_equalIn_string w d t _ _ hu,rfl,by simp[isAgg,run_underlying hu]⟩
 ·cases ht
theorem Ia {t:Nat} {w:World} (h:(isAgg t).run P w= .ok false w) {cs:Array Value} {i:Nat} {v:Value} (hv:cs[i]?=some v):(part t cs i).run P w= .ok v w:=by
 simp[part,h,hv]
theorem MT {g:Gh} {w:World} {us vs:List Value} (d:Nat):∀(fs:List Field) (ks:List Nat) (xs ys:List V) (i:Nat) {b:Bool},Bi P i fs ks=true→V.eqL ks xs ys=some b→
  (∀j x,xs[j]?=some x→∃u,us[i+j]?=some u∧RepV g x u)→(∀j y,ys[j]?=some y→∃v,vs[i+j]?=some v∧RepV g y v)→
  (Op.eqFields (d+1) us.toArray vs.toArray fs).run P w= .ok b w
 |[],[],xs,ys,i,b,_,hb,_,_=>by
  cases xs<;>cases ys<;>simp[V.eqL]at hb
  subst hb;rfl
 |[],_::_,_,_,_,_,hf,_,_,_=>by simp[Bi]at hf
 |_::_,[],_,_,_,_,hf,_,_,_=>by simp[Bi]at hf
 |f::fs,k::ks,xs,ys,i,b,hf,hb,hx,hy=>by
  simp only[Bi,AT1,beq_iff_eq,bne_iff_ne,ne_eq]at hf;obtain⟨⟨⟨ho,hn⟩,hk⟩,hrest⟩:=hf;cases xs with
  |nil=>cases ys<;>simp[V.eqL]at hb
  |cons x xs=>
   cases ys with
   |nil=>simp[V.eqL]at hb
   |cons y ys=>
    simp only[V.eqL]at hb;split at hb
    ·rename_i b1 b2 h1 h2;simp only[AT0]at hb;subst hb;obtain⟨u,hu,ru⟩:=hx 0 x rfl;obtain⟨v,hv,rv⟩:=hy 0 y rfl;obtain⟨e1,_,e2⟩:=vI (w:=w) ru rv h1 hk d;have ih:=MT (g:=g) (w:=w) d fs ks xs ys (i+1) hrest h2 (λj z hz=>by
      obtain⟨u',hu',r'⟩:=hx (j+1) z (by simpa using hz);exact⟨u',by rw[show i+1+j=i+(j+1) by omega];exact hu',r'⟩) (λj z hz=>by
      obtain⟨u',hu',r'⟩:=hy (j+1) z (by simpa using hz);exact⟨u',by rw[show i+1+j=i+(j+1) by omega];exact hu',r'⟩)
     have p1:(part f.type us.toArray f.offset).run P w= .ok u w:=Ia e2 (by rw[ho];simpa using hu);have p2:(part f.type vs.toArray f.offset).run P w= .ok v w:=Ia e2 (by rw[ho];simpa using hv);simp only[Op.eqFields,ne_eq,hn,not_false_eq_true,if_true,Sem.run_bind,p1,p2,e1,Result.andThen_ok];cases b1
     ·simp
     ·simpa using ih
    ·cases hb
theorem AFL {op:BinOp} {ne:Bool} {t s:Nat} {ks:List Nat} {x y:Operand} {x' y':Opd} (hop:(op==if ne then BinOp.neq else BinOp.eql)=true)
  (ht:HP P t ks=true) (hx':oe GL x x'=true) (hy':oe GL y y'=true):Bw P GL (.binOp op t x y s) (.eqA ne ks x' y'):=by
 intro g w μ e act h O d hd hx o ho;have hr1:=hd.ev hx';have hr2:=hd.ev hy';simp only[PI.val]at hx;split at hx
 ·rename_i cs ds hc hd2;simp only[AUA]at hx;obtain⟨b,hb,rfl⟩:=hx;obtain⟨us,e1,h1,_⟩:=RepV.agg_inv (CF hr1 hc);obtain⟨vs,e2,h2,_⟩:=RepV.agg_inv (CF hr2 hd2);unfold HP at ht;split at ht
  ·rename_i fs hu;simp only[AT1,AUw]at ht;obtain⟨⟨t1,t2⟩,t3⟩:=ht;have hfs:P.fieldsOf t=fs:=by simp[Program.fieldsOf,hu]
   have hrun:(Op.equalIn 10000 t (.agg us.toArray) (.agg vs.toArray)).run P w= .ok b w:=by
    rw[run_equalIn_struct w 9999 t us.toArray vs.toArray (by rw[hfs];exact hu) t1,hfs];exact MT 9998 fs.toList ks cs ds 0 t3 hb (λj x hx=>by simpa using h1.get hx) (λj x hx=>by simpa using h2.get hx)
   have hg:(eqGuard op t x y (.agg us.toArray) (.agg vs.toArray)).run P w= .ok () w:=run_eqGuard_agg w op t x y _ _ t2;refine⟨.bool (b != ne),?_,.bool _,λk=>Bf _ _ _⟩;have:=Gu hop;subst this;cases ne
   ·simp only[AUF,if_false]at hg;simp[execOp,ho,e1,e2,hg,run_eql_struct,hrun]
   ·simp only[if_true]at hg;simp[execOp,ho,e1,e2,hg,run_neq_struct,hrun]
  ·cases ht
 ·cases hx
theorem ub {t el s:Nat} {x:Operand} {lo hi mx:Option Operand} {x':Opd} (ht:(match P.underlying t with|some (.slice e)=>e==el&&BK P e s|_=>false)=true)
  (hk:oe GL x x'=true) (hlo:lo.isNone=true) (hhm:(match hi,mx with|some (.const (.int _ 0)),some (.const (.int _ 0))=>true|_,_=>false)=true):
  Bw P GL (.slice t x lo hi mx) (.slc0 x' el s):=by
 intro g w μ e act h O y hd hx o ho;have hr:=(hd.ev hk).copy;have hlo':lo=none:=by simpa using hlo
 subst hlo';split at hhm
 ·rename_i k1 k2;split at ht
  ·rename_i e' hu;simp only[AT1,beq_iff_eq]at ht;obtain⟨rfl,hsz⟩:=ht;simp only[PI.val]at hx;split at hx
   ·rename_i xs hc;simp only[AT0]at hx;subst hx;rw[hc]at hr;have hev1:act.eval (.const (.int k1 0))= .int k1 0:=rfl;have hev2:act.eval (.const (.int k2 0))= .int k2 0:=rfl;have key:∃a n cap,act.eval x= .slice a n cap∧∀z,a=some z→z.spot=none:=by
     have hr':RepV g (.list xs) (act.eval x):=hr;generalize act.eval x=u at hr';cases hr' with
     |lnil=>exact⟨none,0,0,rfl,by simp⟩
     |list _ a cap _ _ hs=>exact⟨some a,_,cap,rfl,by simpa using hs⟩
    obtain⟨a,n,cap,hv,hsp⟩:=key;refine⟨.slice a 0 0,?_,⟨a,rfl,hsp⟩,λk=>by cases k<;>cases a<;>simp[Ab,AZ]⟩
    simp[execOp,ho,hv,hev1,hev2,Instr.sliceAt,Instr.slice,run_underlying hu,Instr.sliceBounds,Instr.sliceBound,asIntOf,BS hsz]
   ·cases hx
  ·cases ht
 ·cases hhm
theorem JU {g:Gh}:∀ {xs:List V} {bs:List UInt8},EG xs=some bs→bs.length=xs.length∧∀(i:Nat) b,bs[i]?=some b→∃x,xs[i]?=some x∧∀v,RepV g x v→v= .int .u8 (b.toNat:Int)
 |[],bs,h=>by simp only[EG,AT0]at h;subst h;exact⟨rfl,λi b h=>by simp at h⟩
 |x::xs,bs,h=>by
  cases x with
  |int k n=>
   cases k<;>simp only[EG,reduceCtorEq]at h
   split at h
   ·rename_i hn;simp only[AUA]at h;obtain⟨bs',hb,rfl⟩:=h;obtain⟨h1,h2⟩:=JU hb;refine⟨by simp[h1],λi b hi=>?_⟩;cases i with
    |zero=>
     simp only[AWG,AT0]at hi;subst hi;refine⟨_,rfl,λv hv=>?_⟩;cases hv;have:n.toNat%256=n.toNat:=Nat.mod_eq_of_lt (by omega);simp[this];omega
    |succ i=>simpa using h2 i b (by simpa using hi)
   ·cases h
  |_=>simp[EG]at h
theorem AIw {s d:Nat} {x:Operand} {x':Opd} (hd':isK P d (λ| .string=>true|_=>false)=true)
  (hs:(match P.underlying s with|some (.slice e)=>isK P e (λ| .int .u8=>true|_=>false)|_=>false)=true) (hk:oe GL x x'=true):
  Bw P GL (.convert s d x) (.b2s x'):=by
 intro g w μ e act h O y hd hx o ho;have hr:=(hd.ev hk).copy;have hud:=DF hd';split at hs
 ·rename_i el hus;have hue:P.underlying el=some (.int .u8):=by
   unfold isK at hs;split at hs
   ·rename_i d' hd2;cases d'<;>simp at hs
    rename_i k;cases k<;>simp at hs
    exact hd2
   ·cases hs
  have fin:∀ {v:Value} {sv:ByteArray},act.eval x=v→(convert s d v).run P w= .ok (.string sv) w→y= .v (.str sv)→
    ∃v,(execOp act.eval o).run P w= .ok (.value v) w∧RepD g w μ y v∧∀k,Ab y v k=none:=by
   rintro v sv rfl hrun rfl;exact⟨_,by simp[execOp,ho,hrun],.str _,λk=>Bf _ _ _⟩
  have hnil:∀(a:Option Addr) (c:Nat),(∀z,a=some z→z.spot=none)→(convert s d (.slice a 0 c)).run P w= .ok (.string .empty) w:=by
   intro a c hsp;cases a with
   |none=>rw[run_convert_bytes_string w s d el none 0 c hus hue hud];simp[Conv.bytesToString,Sem.run_pure]
   |some z=>exact run_convert_bytes_back w s d el z c [] hus hue hud (λj hj=>by simp at hj)
  simp only[PI.val]at hx;split at hx
  ·rename_i xs hc;rw[hc]at hr;simp only[AUA]at hx;obtain⟨bs,hb,rfl⟩:=hx;obtain⟨h1,h2⟩:=JU (g:=g) hb;have hr':RepV g (.list xs) (act.eval x):=hr;generalize hu:act.eval x=u at hr';cases hr' with
   |lnil=>
    have:bs=[]:=AUg (by simpa using h1);subst this;exact fin hu (hnil none 0 (by simp)) rfl
   |list _ a cap sz vs hsp hc2 hr2 hz=>
    refine fin hu ?_ rfl;rw[←h1];refine run_convert_bytes_back w s d el a cap bs hus hue hud λj hj=>?_;obtain⟨x0,hx0,hv0⟩:=h2 j _ (AT2 hj);have hvj:=hv0 _ (hr2 j x0 hx0);have hjx:j <xs.length:=by omega
    obtain⟨z1,z2⟩:=hz j hjx;rw[hvj]at z1 z2;have hs1:sz=1:=by simpa[Value.cells]using z1.symm
    have:=hd.inv.agree a.block (a.off+j*sz) _ (by simpa[Value.cells]using z2 0 (.int .u8 (bs[j].toNat:Int)) (by simp[Value.cells]));rw[hs1]at this;rw[CI hsp];simpa using this
  ·rename_i e0 s0 hc;rw[hc]at hr;simp only[AT0]at hx;subst hx;obtain⟨a,hv,hsp⟩:=hr;exact fin hv (hnil a 0 hsp) rfl
  ·cases hx
 ·cases hs
end
section
variable {P:Program} {GL:AX}
theorem HQ {g:Gh} {w:World} {μ:List Nat} {v:Value} {d:D} (h:Kc v d=true):RepE g w μ d v∧v.oneCell'=true∧∀u,AZ d u=none:=by
 unfold Kc at h;split at h
 ·exact⟨⟨none,rfl,by simp⟩,rfl,λu=>by simp[AZ]⟩
 ·exact⟨EW h,Fb h,λu=>by simp[AZ]⟩
 ·cases h
section
variable {g:Gh} {w:World} {μ:List Nat}
theorem E2 {d:D} {u:Value} (hr:RepG g w μ d u) (h:AZ d u=none) (k:Nat):Ab d u k=none:=by
 cases d<;>first
  |exact hr.elim
  |(cases k<;>first|exact h|simp[Ab])
end
theorem N8 {g:Gh} {w:World} {μ:List Nat} {v:Value} (h:RepD g w μ (.v .nilm) v):v= .map none:=by cases h;rfl
theorem FM {t k:Nat} (h:HJ P t k=true):∃d,P.underlying t=some d∧((∃q,d= .int q∧k=0)∨(d= .bool∧k=1)∨(d= .string∧k=2)):=by
 unfold HJ at h;split at h
 ·rename_i q hu;exact⟨_,hu,.inl ⟨q,rfl,rfl⟩⟩
 ·rename_i hu;exact⟨_,hu,.inr (.inl ⟨rfl,rfl⟩)⟩
 ·rename_i hu;exact⟨_,hu,.inr (.inr ⟨rfl,rfl⟩)⟩
 ·cases h
theorem Xu {g:Gh} {x y:V} {u v:Value} (hx:RepV g x u) (hy:RepV g y v) {k:Nat} {b:Bool} (hb:V.eq1 k x y=some b):(b=true↔u=v)∧∀n,Instr.sameBits n u u=true:=by
 unfold V.eq1 at hb;split at hb
 ·split at hb
  ·rename_i hkk;subst hkk;simp only[AT0]at hb;subst hb;cases hx;cases hy;exact⟨by simp,λn=>by cases n<;>simp[Instr.sameBits]⟩
  ·cases hb
 ·simp only[AT0]at hb;subst hb;cases hx;cases hy;exact⟨by simp,λn=>by cases n<;>simp[Instr.sameBits]⟩
 ·rename_i a c;simp only[AT0]at hb;subst hb;cases hx;cases hy;refine⟨?_,λn=>by cases n<;>simp[Instr.sameBits,MapKept.bytes_beq]⟩
  rw[←beq_toListBytes,MapKept.bytes_beq];simp
 ·cases hb
theorem Oj {g:Gh}:∀ {ks:List Nat} {xs ys:List V} {us vs:List Value} {b:Bool},All2 (RepV g) xs us→All2 (RepV g) ys vs→V.eqL ks xs ys=some b→(b=true↔us=vs)∧∀n,∀u∈us,Instr.sameBits n u u=true
 |[],xs,ys,us,vs,b,h1,h2,hb=>by
  cases xs<;>cases ys<;>simp[V.eqL]at hb
  subst hb;have e1:=AUg h1.1;have e2:=AUg h2.1;subst e1;subst e2;simp
 |k::ks,xs,ys,us,vs,b,h1,h2,hb=>by
  cases xs with
  |nil=>cases ys<;>simp[V.eqL]at hb
  |cons x xs=>
   cases ys with
   |nil=>simp[V.eqL]at hb
   |cons y ys=>
    cases us with
    |nil=>simp[All2]at h1
    |cons u us=>
     cases vs with
     |nil=>simp[All2]at h2
     |cons v vs=>
      rw[All2.cons_iff]at h1 h2;simp only[V.eqL]at hb;split at hb
      ·rename_i b1 b2 e1 e2;simp only[AT0]at hb;subst hb;obtain⟨r1,s1⟩:=Xu h1.1 h2.1 e1;obtain⟨r2,s2⟩:=Oj h1.2 h2.2 e2;refine⟨by simp[r1,r2],λn w hw=>?_⟩;rcases AT7.1 hw with rfl|hw
       ·exact s1 n
       ·exact s2 n w hw
      ·cases hb
theorem Hu {g:Gh} {st:Bool} {ks:List Nat} {x y:V} {u v:Value} (hx:RepV g x u) (hy:RepV g y v) (kx:BL st ks x=true) (ky:BL st ks y=true) {b:Bool} (hb:V.eqL ks x.cells y.cells=some b):
  (b=true↔u=v)∧∀n,Instr.sameBits (n+1) u u=true:=by
 simp only[BL,AT1]at kx ky;obtain⟨cx,_⟩:=RepV.cells hx;obtain⟨cy,_⟩:=RepV.cells hy;obtain⟨r,s⟩:=Oj cx cy hb;cases st with
 |true=>
  cases x<;>simp at kx
  cases y<;>simp at ky
  obtain⟨us,rfl,_,_⟩:=RepV.agg_inv hx;obtain⟨vs,rfl,_,_⟩:=RepV.agg_inv hy;simp only[Value.cells]at r s;refine⟨by rw[r];constructor<;>intro h<;>simp_all,λn=>?_⟩
  simp only[Instr.sameBits,beq_self_eq_true,AUh,AUI];intro p hp;have:p.1=p.2∧p.1∈us:=by
   have hz:∀(l:List Value),∀p∈l.zip l,p.1=p.2∧p.1∈l:=by
    intro l;induction l with
    |nil=>simp
    |cons a l ih=>
     intro p hp;simp only[List.zip_cons_cons,AT7]at hp;rcases hp with rfl|hp
     ·exact⟨rfl,by simp⟩
     ·exact⟨(ih p hp).1,by simp[(ih p hp).2]⟩
   exact hz us p (by simpa using hp)
  rw[←this.1];exact s n _ this.2
 |false=>
  have e1:∀ {z:V} {q:Value},RepV g z q→(match z with| .agg _=>false|_=> !false)=true→q.cells.toList=[q]:=by
   intro z q hz hk;cases hz<;>simp at hk<;>rfl
  rw[e1 hx kx.1,e1 hy ky.1]at r;rw[e1 hx kx.1]at s;exact⟨by rw[r];simp,λn=>s (n+1) u (by simp)⟩
theorem Hc {kt k:Nat} {w:World} (hk:HJ P kt k=true) (e:Bool) (n:Nat) (u:Value):(Instr.checkKey e (n+1) kt u).run P w= .ok () w:=by
 obtain⟨d,hu,hd⟩:=FM hk;unfold Instr.checkKey;simp only[Sem.run_bind,run_underlying hu,Result.andThen];rcases hd with ⟨q,rfl,_⟩|⟨rfl,_⟩|⟨rfl,_⟩<;>cases u<;>rfl
theorem Gz {w:World} {cs:Array Value} (e:Bool) (n:Nat):∀(fs:List Field) (ks:List Nat) (i:Nat),Bi P i fs ks=true→(∀j,j <fs.length→∃v,cs[i+j]?=some v)→
  (forIn fs PUnit.unit (λf _=>(if f.name≠ "_" then do
    let a ←part f.type cs f.offset
    Instr.checkKey e (n+1) f.type a
    pure (ForInStep.yield PUnit.unit) else pure (ForInStep.yield PUnit.unit):Sem (ForInStep PUnit)))).run P w= .ok PUnit.unit w
 |[],_,_,_,_=>rfl
 |_::_,[],_,hf,_=>by simp[Bi]at hf
 |f::fs,k::ks,i,hf,hc=>by
  simp only[Bi,AT1,beq_iff_eq,bne_iff_ne,ne_eq]at hf;obtain⟨⟨⟨ho,hn⟩,hk⟩,hrest⟩:=hf;obtain⟨v,hv⟩:=hc 0 (by simp);obtain⟨d,hu,hd⟩:=FM hk;have hag:(isAgg f.type).run P w= .ok false w:=by
   rcases hd with ⟨q,rfl,_⟩|⟨rfl,_⟩|⟨rfl,_⟩<;>simp[isAgg,run_underlying hu]
  have p1:(part f.type cs f.offset).run P w= .ok v w:=Ia hag (by rw[ho];simpa using hv);have ih:=Gz (w:=w) (cs:=cs) e n fs ks (i+1) hrest λj hj=>by
   obtain⟨v,hv⟩:=hc (j+1) (by simp;omega);exact⟨v,by rw[show i+1+j=i+(j+1) by omega];exact hv⟩
  simp only[List.forIn_cons,ne_eq,hn,not_false_eq_true,if_true,Sem.run_bind,p1,Hc hk,Result.andThen_ok,Sem.run_pure];exact ih
theorem GH:∀(fs:List Field) (ks:List Nat) (i:Nat),Bi P i fs ks=true→fs.length=ks.length
 |[],[],_,_=>rfl
 |[],_::_,_,h=>by simp[Bi]at h
 |_::_,[],_,h=>by simp[Bi]at h
 |f::fs,k::ks,i,h=>by
  simp only[Bi,AT1]at h;simp[GH fs ks (i+1) h.2]
theorem Ta:∀ {ks:List Nat} {xs ys:List V} {b:Bool},V.eqL ks xs ys=some b→xs.length=ks.length
 |[],[],[],_,_=>rfl
 |[],[],_::_,_,h=>by simp[V.eqL]at h
 |[],_::_,_,_,h=>by simp[V.eqL]at h
 |_::_,[],_,_,h=>by simp[V.eqL]at h
 |k::ks,x::xs,[],_,h=>by simp[V.eqL]at h
 |k::ks,x::xs,y::ys,b,h=>by
  simp only[V.eqL]at h;split at h
  ·rename_i b1 b2 h1 h2;simp[Ta h2]
  ·cases h
theorem FD {g:Gh} {w:World} {kt:Nat} {st:Bool} {ks:List Nat} {x:V} {u:Value} (hx:RepV g x u) (ht:D6 P kt st ks=true) (kx:BL st ks x=true) (e:Bool):
  (Instr.checkKey e 10000 kt u).run P w= .ok () w:=by
 unfold D6 at ht;cases st with
 |false=>
  simp only[AUF,if_false]at ht;split at ht
  ·exact Hc ht e 9999 u
  ·cases ht
 |true=>
  simp only[if_true]at ht;simp only[BL,AT1]at kx;cases x<;>simp at kx
  rename_i cs;obtain⟨us,rfl,hall,_⟩:=RepV.agg_inv hx;unfold HP at ht;split at ht
  ·rename_i fs hu;simp only[AT1]at ht;have hl:=GH _ _ _ ht.2;have hl2:cs.length=ks.length:=by
    cases h2:V.eqL ks cs cs with
    |none=>simp[V.cells,h2]at kx
    |some b=>exact Ta h2
   unfold Instr.checkKey;simp only[Sem.run_bind,run_underlying hu,Result.andThen_ok];rw[←Array.forIn_toList];have:=Gz (P:=P) (w:=w) (cs:=us.toArray) e 9998 fs.toList ks 0 ht.2 λj hj=>by
    have hj2:j <us.length:=by rw[hall.1];omega
    exact⟨us[j],by simp[hj2]⟩
   exact(congrArg (λr=>Result.andThen r λa w'=>Sem.run P (pure ()) w') this).trans rfl
  ·cases ht
theorem N5 {g:Gh} {x y:V} {u v:Value} (hx:RepV g x u) (hy:RepV g y v) {k:Nat} {b:Bool} (hb:V.eq1 k x y=some b) {d:TypeDesc} (hd:(∃q,d= .int q∧k=0)∨(d= .bool∧k=1)∨(d= .string∧k=2)):
  Instr.sameNow d u v=some b:=by
 unfold V.eq1 at hb;split at hb
 ·split at hb
  ·rename_i hkk;subst hkk;simp only[AT0]at hb;subst hb;cases hx;cases hy;rcases hd with ⟨q,rfl,_⟩|⟨_,h⟩|⟨_,h⟩<;>first|cases h|simp[Instr.sameNow]
  ·cases hb
 ·simp only[AT0]at hb;subst hb;cases hx;cases hy;rcases hd with ⟨q,_,h⟩|⟨rfl,_⟩|⟨_,h⟩<;>first|cases h|simp[Instr.sameNow]
 ·simp only[AT0]at hb;subst hb;cases hx;cases hy;rcases hd with ⟨q,_,h⟩|⟨_,h⟩|⟨rfl,_⟩<;>first|cases h|simp[Instr.sameNow,beq_toListBytes]
 ·cases hb
theorem JS {g:Gh} {x:V} {u:Value} (hx:RepV g x u) {ks:List Nat} (kx:BL false ks x=true):x.cells=[x]:=by
 simp only[BL,AT1]at kx;cases x<;>simp at kx<;>rfl
abbrev AI9 (g:Gh):V×V→MapEntry→Prop:=λkv x=>RepV g kv.1 x.key∧RepV g kv.2 x.val
theorem E5 {g:Gh} {w:World} {kt:Nat} {st:Bool} {ks:List Nat} {x:V} {u:Value} (hx:RepV g x u) (ht:D6 P kt st ks=true) (kx:BL st ks x=true):∀ {es:List (V×V)} {l:List MapEntry} {r:Option Nat},
  All2 (AI9 g) es l→CQ st ks x es=some r→
  ((∀i,(st=false→∀d,P.underlying kt=some d→Instr.findNow d u l i=some (r.bind λj=>(l[j]?).map λe=>(i+j,e.val)))∧
   (st=true→(Instr.findAsking kt u l i).run P w= .ok (r.bind λj=>(l[j]?).map λe=>(i+j,e.val)) w))∧
  (∀j,r=some j→∃e,l[j]?=some e∧e.key=u)∧(r=none→∀e∈l,e.key≠u))
 |[],l,r,hall,hm=>by
  have:=AUg hall.1;subst this;simp only[CQ,AT0]at hm;subst hm;exact⟨λi=>⟨λ_ d _=>rfl,λ_=>rfl⟩,by simp,by simp⟩
 |p::es,[],r,hall,_=>by simp[All2]at hall
 |p::es,e::l,r,hall,hm=>by
  rw[All2.cons_iff]at hall;obtain⟨⟨hk,hv⟩,hall⟩:=hall;simp only[CQ]at hm;split at hm
  ·rename_i kp;have hnow:∀ {b:Bool},V.eqL ks x.cells p.1.cells=some b→st=false→∀d,P.underlying kt=some d→Instr.sameNow d u e.key=some b:=by
    intro b hb hst d hu;subst hst;rw[JS hx kx,JS hk kp]at hb;simp only[D6,AUF,if_false]at ht;split at ht
    ·rename_i k;simp only[V.eqL]at hb;split at hb
     ·rename_i b1 b2 h1 h2;simp only[AT0]at h2 hb;subst h2;subst hb;obtain⟨d',hu',hd⟩:=FM ht;rw[hu]at hu';cases hu';simpa using N5 hx hk h1 hd
     ·cases hb
    ·cases ht
   have hask:∀ {b:Bool},V.eqL ks x.cells p.1.cells=some b→st=true→(Op.equal kt u e.key).run P w= .ok b w:=by
    intro b hb hst;subst hst;have kx':=kx;have kp':=kp;simp only[BL,AT1]at kx' kp';cases x<;>simp at kx'
    obtain⟨k1,k2⟩:=p;cases k1<;>simp at kp'
    obtain⟨us,rfl,h1,_⟩:=RepV.agg_inv hx;obtain⟨vs,h2e,h2,_⟩:=RepV.agg_inv hk;rw[h2e];simp only[D6,if_true]at ht;unfold HP at ht;split at ht
    ·rename_i fs hu;simp only[AT1,AUw]at ht;have hfs:P.fieldsOf kt=fs:=by simp[Program.fieldsOf,hu]
     show (Op.equalIn 10000 kt _ _).run P w=_;rw[run_equalIn_struct w 9999 kt us.toArray vs.toArray (by rw[hfs];exact hu) ht.1.1,hfs];exact MT 9998 fs.toList ks _ _ 0 ht.2 hb (λj x hx=>by simpa using h1.get hx) (λj x hx=>by simpa using h2.get hx)
    ·cases ht
   split at hm
   ·rename_i hb;simp only[AT0]at hm;subst hm;have hsame:=((Hu hx hk kx kp hb).1.1 rfl);refine⟨λi=>⟨λhst d hu=>?_,λhst=>?_⟩,λj hj=>?_,by simp⟩
    ·simp[Instr.findNow,hnow hb hst d hu]
    ·simp[Instr.findAsking,hask hb hst,Result.andThen]
    ·simp only[AT0]at hj;subst hj;exact⟨e,rfl,hsame.symm⟩
   ·rename_i hb;simp only[AUA]at hm;obtain⟨r',hm',rfl⟩:=hm;obtain⟨h1,h2,h3⟩:=E5 hx ht kx hall hm';have hne:e.key≠u:=λq=>by have:=(Hu hx hk kx kp hb).1.2 q.symm;cases this
    refine⟨λi=>⟨λhst d hu=>?_,λhst=>?_⟩,λj hj=>?_,λhr=>?_⟩
    ·rw[Instr.findNow,hnow hb hst d hu,(h1 (i+1)).1 hst d hu];cases r' with
     |none=>rfl
     |some k=>simp only[AUX,AUU,AVH,show i+1+k=i+(k+1) by omega]
    ·rw[Instr.findAsking,Sem.run_bind,hask hb hst,Result.andThen_ok];simp only[AUF,if_false];rw[(h1 (i+1)).2 hst];cases r' with
     |none=>rfl
     |some k=>simp only[AUX,AUU,AVH,show i+1+k=i+(k+1) by omega]
    ·cases r' with
     |none=>cases hj
     |some k=>
      simp only[AUU,AT0]at hj;subst hj;exact h2 k rfl
    ·cases r' with
     |none=>
      intro e' he';rcases AT7.1 he' with rfl|he'
      ·exact hne
      ·exact h3 rfl e' he'
     |some k=>cases hr
   ·cases hm
  ·cases hm
theorem CT {g:Gh} {w:World} {kt:Nat} {st:Bool} {ks:List Nat} {x:V} {u:Value} (hx:RepV g x u) (ht:D6 P kt st ks=true) (kx:BL st ks x=true) {es:List (V×V)} {l:List MapEntry} {r:Option Nat}
  (hall:All2 (AI9 g) es l) (hm:CQ st ks x es=some r):(Instr.findKey kt u l).run P w= .ok (r.bind λj=>(l[j]?).map λe=>(j,e.val)) w:=by
 have h1:=(E5 (w:=w) hx ht kx hall hm).1 0;simp only[AU9]at h1;cases st with
 |false=>
  have hu:∃d,P.underlying kt=some d:=by
   simp only[D6,AUF,if_false]at ht;split at ht
   ·obtain⟨d,hu,_⟩:=FM ht;exact⟨d,hu⟩
   ·cases ht
  obtain⟨d,hu⟩:=hu;exact MapKept.run_findKey hu (h1.1 rfl d hu)
 |true=>
  have hw:(match P.underlying kt with|some (.array _ _)|some (.struct _)=>true|_=>false)=true:=by
   simp only[D6,if_true]at ht;unfold HP at ht;split at ht
   ·rename_i fs hu;simp[hu]
   ·cases ht
  rw[run_findKey_eq w hw];exact h1.2 rfl
theorem WO {g:Gh} {w:World} {μ:List Nat} {el:Nat} {zs:List D} {ag:Bool} (hz:TK P el zs ag=true) {z:D} (h:(if ag then some (D.agg zs) else zs.head?)=some z):
  ∃v,(zeroValue el).run P w= .ok v w∧RepG g w μ z v∧AZ z v=none:=by
 unfold TK at hz;split at hz
 ·rename_i cs hcs;simp only[AT1]at hz;obtain⟨rfl,hz⟩:=hz;simp only[if_true,AT0]at h;subst h;have hall:All2 (λd v=>RepE g w μ d v∧v.oneCell'=true∧∀u,AZ d u=none) zs cs.toList:=B9 (λv d h=>HQ h) hz;cases hi:P.info? el with
  |none=>simp[hi]at hcs
  |some i=>
   have hz1:i.zero=some (.agg cs):=by simpa[hi]using hcs
   refine⟨.agg cs,by simp[zeroValue,typeInfo,hi,hz1],⟨cs.toList,rfl,hall.imp λ_ _ h=>h.1,λv hv=>?_,λd hd v=>?_⟩,rfl⟩
   ·obtain⟨j,hj,rfl⟩:=AU8.1 hv;exact(hall.2 j _ _ (AT2 (by rw[←hall.1];exact hj)) (AT2 hj)).2.1
   ·obtain⟨j,hj,rfl⟩:=AU8.1 hd;have hj':j <cs.toList.length:=by rw[hall.1];exact hj
    exact(hall.2 j _ _ (AT2 hj) (AT2 hj')).2.2 v
 ·rename_i v hv hne;simp only[AT1,AUw]at hz;obtain⟨rfl,hz⟩:=hz;split at hz
  ·rename_i z0;simp only[AUF,if_false,List.head?_cons,AT0]at h;subst h;obtain⟨h1,h2,h3⟩:=HQ (g:=g) (w:=w) (μ:=μ) hz;cases hi:P.info? el with
   |none=>simp[hi]at hne
   |some i=>
    have hz1:i.zero=some v:=by simpa[hi]using hne
    exact⟨v,by simp[zeroValue,typeInfo,hi,hz1],h1.toG,h3 v⟩
  ·cases hz
 ·cases hz
theorem Ij {g:Gh} {w:World} {μ:List Nat} {t:Nat→D} {u:Nat→Value} {h:List Row} {O:Nat→Prop} (hi:Inv g w μ t u h O) {r b:Nat} {es:List (V×V)} {bs:List Nat} {ck:Nat} (hr:h[r]?=some (.map es bs ck)) (hb:μ[r]?=some b):
  ∃(ents:Array MapEntry),w.heap[b]?=some (.map ents ck)∧MapKept.Stamped ents ck∧ents.toList.map (·.born)=bs∧All2 (AI9 g) es ents.toList∧∀o,g.m b o=none:=hi.rows r _ b hr hb
theorem u3 {t:Nat} {x i:Operand} {ok':Bool} {m k:Opd} {st:Bool} {ks:List Nat} {zs:List D} {ag ok:Bool} (ht:(match P.underlying t with|some (.map kt el)=>D6 P kt st ks&&TK P el zs ag|_=>false)=true)
  (hm:oe GL x m=true) (hk:oe GL i k=true) (ho':(ok'==ok)=true):Bw P GL (.lookup t x i ok') (.look m k st ks zs ag ok):=by
 intro g w μ e act h O y hd hx o ho;have hrm:=hd.ev hm;have hrk:=hd.ev hk;have:=eq_of_beq ho';subst this;split at ht
 ·rename_i kt el hu;simp only[AT1]at ht;obtain⟨hkt,hlz⟩:=ht;simp only[PI.val]at hx;split at hx
  ·rename_i kv hkv;split at hx
   ·rename_i hko;have hkr:=CF hrk hkv;have hck:=λe=>FD (P:=P) (w:=w) hkr hkt hko e;split at hx
    ·rename_i z hz;obtain⟨zv,hzrun,hzrep,hzown⟩:=WO (P:=P) (g:=g) (w:=w) (μ:=μ) hlz hz;have fin:∀ {d:D} {v:Value} (b:Bool),RepG g w μ d v→AZ d v=none→C5 ok' d b=y→
       (execOp act.eval o).run P w= .ok (.value (if ok' then .tuple #[v,.bool b] else v)) w→
       ∃v,(execOp act.eval o).run P w= .ok (.value v) w∧RepD g w μ y v∧∀k,Ab y v k=none:=by
      rintro d v b hr hown rfl hrun;refine⟨_,hrun,?_⟩;cases ok' with
      |false=>exact⟨hr.toD,E2 hr hown⟩
      |true=>
       refine⟨⟨[v,.bool b],rfl,.cons hr (.cons (RepV.bool b) .nil)⟩,λk=>?_⟩
       match k with
       |0=>exact hown
       |1=>simp[C5,Ab,AZ]
       |k+2=>simp[C5,Ab,AZ]
     split at hx
     ·rename_i hmv;rw[hmv]at hrm;simp only[AT0]at hx;have hv:act.eval x= .map none:=N8 hrm;have hfk:=CT (P:=P) (w:=w) hkr hkt hko (es:=[]) (l:=[]) (r:=none) .nil rfl;refine fin false hzrep hzown hx ?_;cases ok'<;>simp[execOp,ho,hv,Instr.lookup,run_underlying hu,hck,hfk,hzrun,Result.andThen]
     ·rename_i r hmv;rw[hmv]at hrm;obtain⟨b,hb,hv⟩:=hrm;split at hx
      ·rename_i es bs ck hr;obtain⟨ents,hheap,hst,_,hall,_⟩:=Ij hd.inv hr hb;have Bc:=MapKept.run_getObj_map (P:=P) hheap;split at hx
       ·rename_i j hf;have hfk:=CT (P:=P) (w:=w) hkr hkt hko hall hf;simp only[AUA]at hx;obtain⟨p,hp,hy⟩:=hx;obtain⟨en,hen,h1,h2⟩:=hall.get hp;simp only[AUX,hen,AUU]at hfk;refine fin true (d:= .v p.2) (v:=en.val) h2 (by simp[AZ]) hy ?_;cases ok'<;>simp[execOp,ho,hv,Instr.lookup,run_underlying hu,Bc,hck,hfk,Result.andThen]
       ·rename_i hf;have hfk:=CT (P:=P) (w:=w) hkr hkt hko hall hf;simp only[AT0]at hx;refine fin false hzrep hzown hx ?_;cases ok'<;>simp[execOp,ho,hv,Instr.lookup,run_underlying hu,Bc,hck,hfk,hzrun,Result.andThen]
       ·cases hx
      ·cases hx
     ·cases hx
    ·cases hx
   ·cases hx
  ·cases hx
 ·cases ht
theorem uv {args:Array Operand} {ats:Array TypeId} {x':Opd} (h1:Hm args.toList (λx=>oe GL x x')=true)
  (h2:Hm ats.toList (λt=>isK P t (λ| .map _ _=>true|_=>false))=true):Bw P GL (.call {callee:= .builtin .len,args:=args,argTypes:=ats}) (.mlen x'):=by
 intro g w μ e act h O y hd hx o ho;obtain⟨x,rfl,hk⟩:=Gi h1;obtain⟨t,rfl,ht⟩:=Gi h2;have hu:∃kt el,P.underlying t=some (.map kt el):=by
  unfold isK at ht;split at ht
  ·rename_i d hd;cases d<;>simp at ht;exact⟨_,_,hd⟩
  ·cases ht
 obtain⟨kt,el,hu⟩:=hu;have hr:=hd.ev hk;simp only[PI.val]at hx;split at hx
 ·rename_i hc;rw[hc]at hr;simp only[AT0]at hx;subst hx;exact⟨.int .i64 0,by simp[execOp,ho,resolve,invoke,builtin,Builtin.len_,run_underlying hu,N8 hr,goInt],.int _ _,λk=>Bf _ _ _⟩
 ·rename_i r hc;rw[hc]at hr;obtain⟨b,hb,hv⟩:=hr;split at hx
  ·rename_i es bs ck hr;simp only[AT0]at hx;subst hx;obtain⟨ents,hheap,_,_,hall,_⟩:=Ij hd.inv hr hb;have Bc:=MapKept.run_getObj_map (P:=P) hheap;have hl:ents.size=es.length:=by have:=hall.1;simpa using this
   exact⟨.int .i64 es.length,by simp[execOp,ho,resolve,invoke,builtin,Builtin.len_,run_underlying hu,hv,Bc,goInt,hl],.int _ _,λk=>Bf _ _ _⟩
  ·cases hx
 ·cases hx
end
theorem Ef {α:Type} (cs:List α) (off:Nat) (xs:List α) (h:off+xs.length≤cs.length):(AN cs off xs).length=cs.length:=by
 simp[AN];omega
theorem E0 {α:Type} (cs:List α) (off:Nat) (xs:List α) (h:off+xs.length≤cs.length) (i:Nat):
  (AN cs off xs)[i]?=if i <off then cs[i]? else if i <off+xs.length then xs[i-off]? else cs[i]?:=by
 have hto:(cs.take off).length=off:=by simp;omega
 unfold AN;by_cases h1:i <off
 ·rw[AUB,AUQ (by rw[hto];exact h1),AUV];simp[h1]
 ·by_cases h2:i <off+xs.length
  ·rw[AUB,AUa (by rw[hto];omega),hto,AUQ (by omega)];simp[h1,h2]
  ·rw[AUB,AUa (by rw[hto];omega),hto,AUa (by omega),AVF];simp[h1,h2];congr 1;omega
theorem Xm (cs:List Value):∀(off k:Nat) (A:Array Value),off+k+cs.length≤A.size→
  (cs.zipIdx k).foldl (λacc p=>acc.setIfInBounds (off+p.2) p.1) A=(AN A.toList (off+k) cs).toArray:=by
 induction cs with
 |nil=>intro off k A _;simp[AN]
 |cons c cs ih=>
  intro off k A h;simp only[AUO]at h;simp only[AWH,AVQ];rw[show k+1=k+1 from rfl,ih off (k+1) _ (by simp;omega)];apply congrArg;apply AUj;intro i;rw[E0 _ _ _ (by simp;omega),E0 _ _ _ (by simp;omega)];simp only[Array.toList_setIfInBounds,AUe,AUO];by_cases h1:i <off+k
  ·simp[h1,show i <off+(k+1) by omega,show off+k≠i by omega]
  ·by_cases h2:i=off+k
   ·subst h2;simp[show off+k <off+(k+1) by omega,show off+k <A.size by omega]
   ·simp only[h1,if_false,show ¬i <off+(k+1) by omega];by_cases h3:i <off+k+(cs.length+1)
    ·simp only[show i <off+(k+1)+cs.length by omega,if_true,h3];rw[show i-(off+k)=(i-(off+(k+1)))+1 by omega,AVH]
    ·simp[show ¬i <off+(k+1)+cs.length by omega,h3,show off+k≠i by omega]
theorem All2.putL {α β:Type} {R:α→β→Prop} {xs:List α} {ys:List β} (h:All2 R xs ys) {xs':List α} {ys':List β} (h':All2 R xs' ys') (off:Nat):
  All2 R (AN xs off xs') (AN ys off ys'):=by
 unfold Va.AN;rw[h'.1];exact((h.take off).append h').append (h.drop _)
section
variable {P:Program} {GL:AX}
theorem Xv {g:Gh} {w:World} {μ:List Nat} {d:D} {u:Value} (h:RepD g w μ d u) {cs:List D} (hc:d.cells?=some cs):
  All2 (RepE g w μ) cs u.cells.toList∧(∀v∈u.cells.toList,v.oneCell'=true)∧∀c∈cs,∀v,AZ c v=none:=by
 cases d with
 |agg ds=>
  simp only[D.cells?,AT0]at hc;subst hc;obtain⟨vs,rfl,ha,h1,h0⟩:=h;exact⟨by simpa[Value.cells]using ha,by simpa[Value.cells]using h1,h0⟩
 |v x=>
  have hx:=RepV.cells (show RepV g x u from h);cases x<;>simp only[D.cells?,AT0]at hc<;>subst hc
  case agg cs=>
   refine⟨All2.map_left (S:=RepE g w μ) (f:=D.v) (λ_ _ h=>h) hx.1,hx.2,?_⟩;intro c hc v;simp only[AT9]at hc;obtain⟨_,_,rfl⟩:=hc;simp[AZ]
  all_goals exact⟨All2.map_left (S:=RepE g w μ) (f:=D.v) (λ_ _ h=>h) hx.1,hx.2,by simp[AZ]⟩
 |any=>simp[D.cells?]at hc
 |tup ds=>simp[D.cells?]at hc
 |own e s xs=>simp[D.cells?]at hc
 |nil e s=>
  simp only[D.cells?,AT0]at hc;subst hc;obtain⟨a,rfl,hs⟩:=h;exact⟨.cons ⟨a,rfl,hs⟩ .nil,by simp[Value.cells,Value.oneCell'],by simp[AZ]⟩
 |ref r o=>
  simp only[D.cells?,AT0]at hc;subst hc;obtain⟨b,hb,rfl⟩:=h;exact⟨.cons ⟨b,hb,rfl⟩ .nil,by simp[Value.cells,Value.oneCell'],by simp[AZ]⟩
 |sref r n=>
  simp only[D.cells?,AT0]at hc;subst hc;obtain⟨b,cap,hb,rfl,hn⟩:=h;exact⟨.cons ⟨b,cap,hb,rfl,hn⟩ .nil,by simp[Value.cells,Value.oneCell'],by simp[AZ]⟩
 |mref r=>
  simp only[D.cells?,AT0]at hc;subst hc;obtain⟨b,hb,rfl⟩:=h;exact⟨.cons ⟨b,hb,rfl⟩ .nil,by simp[Value.cells,Value.oneCell'],by simp[AZ]⟩
 |func f caps=>
  simp only[D.cells?,AT0]at hc;subst hc;obtain⟨vs,rfl,ha⟩:=h;exact⟨.cons ⟨vs,rfl,ha⟩ .nil,by simp[Value.cells,Value.oneCell'],by simp[AZ]⟩
 |meth f caps=>
  simp only[D.cells?,AT0]at hc;subst hc;obtain⟨vs,rfl,ha⟩:=h;exact⟨.cons ⟨vs,rfl,ha⟩ .nil,by simp[Value.cells,Value.oneCell'],by simp[AZ]⟩
 |pend b e s xs=>simp[D.cells?]at hc
 |pptr b s n=>simp[D.cells?]at hc
 |yld r=>
  simp only[D.cells?,AT0]at hc;subst hc;obtain⟨b,hb,rfl⟩:=h;exact⟨.cons ⟨b,hb,rfl⟩ .nil,by simp[Value.cells,Value.oneCell'],by simp[AZ]⟩
theorem KF {α:Type} {cs:List α} {off:Nat} {xs:List α} {x:α} (h:x∈AN cs off xs):x∈cs∨x∈xs:=by
 simp only[AN,AUK]at h;rcases h with (h|h)|h
 ·exact .inl (AUi h)
 ·exact .inr h
 ·exact .inl (AVk h)
theorem Oi {g:Gh} {w:World} {μ:List Nat} {e:Env} {place:Nat→Option (Nat×Nat)}:
  ∀ {ps:List (Nat×Value)} {qs:List (Nat×Nat×Opd)} {zs zs':List D} {A:Array Value},
  All2 (λ(q:Nat×Nat×Opd) (p:Nat×Value)=>place p.1=some (q.1,q.2.1)∧RepD g w μ (q.2.2.ev e).copy p.2) qs ps→
  All2 (RepE g w μ) zs A.toList→(∀v∈A.toList,v.oneCell'=true)→(∀d∈zs,∀v,AZ d v=none)→EU e zs qs=some zs'→
  ∃A':Array Value,Instr.fill place A ps=some A'∧All2 (RepE g w μ) zs' A'.toList∧(∀v∈A'.toList,v.oneCell'=true)∧(∀d∈zs',∀v,AZ d v=none)∧A'.size=A.size
 |[],[],zs,zs',A,_,ha,h1,h0,hf=>by
  simp only[EU,AT0]at hf;subst hf;exact⟨A,rfl,ha,h1,h0,rfl⟩
 |[],_::_,_,_,_,h,_,_,_,_=>by simp[All2]at h
 |_::_,[],_,_,_,h,_,_,_,_=>by simp[All2]at h
 |(i,v)::ps,(off,n,q)::qs,zs,zs',A,h,ha,h1,h0,hf=>by
  rw[All2.cons_iff]at h;obtain⟨⟨hp,hr⟩,hrest⟩:=h;simp only[EU]at hf;split at hf
  ·rename_i xs hxs;split at hf
   ·rename_i hcond;obtain⟨hx1,hx2,hx3⟩:=Xv hr hxs;have hsz:v.cells.size=n:=by have:=hx1.1;simp at this;omega
    have hlen:A.size=zs.length:=by have:=ha.1;simpa using this
    have hput:v.cells.zipIdx.foldl (λcs p=>cs.setIfInBounds (off+p.2) p.1) A=(AN A.toList off v.cells.toList).toArray:=by
     have:=Xm v.cells.toList off 0 A (by simp;omega);rw[←Array.foldl_toList,Array.toList_zipIdx];simpa using this
    obtain⟨A',hA',r1,r2,r3,r4⟩:=Oi (place:=place) hrest (zs:=AN zs off xs) (zs':=zs') (A:=(AN A.toList off v.cells.toList).toArray)
     (by simpa using ha.putL hx1 off) (λu hu=>(KF (by simpa using hu)).elim (h1 u) (hx2 u))
     (λd hd=>(KF hd).elim (h0 d) (hx3 d)) hf
    refine⟨A',?_,r1,r2,r3,?_⟩
    ·simp only[Instr.fill,hp,hsz];rw[if_neg (by simp;omega)];rw[hput];exact hA'
    ·rw[r4];simp;rw[Ef _ _ _ (by simp;omega)];simp
   ·cases hf
  ·cases hf
theorem LH {α β γ:Type} {f:α→β→Bool} {R:β→γ→Prop} {m:α→γ} (hf:∀x y,f x y=true→R y (m x)):∀ {xs:List α} {ys:List β},Aj f xs ys=true→All2 R ys (xs.map m)
 |[],[],_=> .nil
 |x::xs,y::ys,h=>by
  simp only[Aj,AT1]at h;exact .cons (hf _ _ h.1) (LH hf h.2)
 |[],_::_,h=>by simp[Aj]at h
 |_::_,[],h=>by simp[Aj]at h
theorem uG {t:Nat} {ps:Array (Nat×Operand)} {zs:List D} {qs:List (Nat×Nat×Opd)} (hz:L2 P t zs=true) (hp:F2 P GL t ps.toList qs=true):
  Bw P GL (.build t ps) (.build zs qs):=by
 intro g w μ e act h O y hd hx o ho;simp only[PI.val,AUA]at hx;obtain⟨zs',hf,rfl⟩:=hx;unfold L2 at hz;split at hz
 ·rename_i z hzz;cases hit:P.info? t with
  |none=>simp[hit]at hzz
  |some it=>
   have hz1:it.zero=some z:=by simpa[hit]using hzz
   unfold F2 at hp;split at hp
   ·rename_i fs hu;split at hp
    ·rename_i places hpl;have h0:All2 (λd v=>RepE g w μ d v∧v.oneCell'=true∧∀u,AZ d u=none) zs z.cells.toList:=B9 (λ_ _=>HQ) hz;have hq:All2 (λ(q:Nat×Nat×Opd) (p:Nat×Value)=>(λi=>places[i]?) p.1=some (q.1,q.2.1)∧RepD g w μ (q.2.2.ev e).copy p.2) qs (ps.toList.map λp=>(p.1,act.eval p.2)):=
      LH (λp q hpq=>by
       simp only[AT1,beq_iff_eq]at hpq;exact⟨hpq.2,(hd.ev hpq.1).copy⟩) hp
     obtain⟨A',hA,r1,r2,r3,_⟩:=Oi (place:=λi=>places[i]?) hq (h0.imp λ_ _ h=>h.1)
      (λv hv=>by
       obtain⟨i,hi,rfl⟩:=AU8.1 hv;have hi':i <zs.length:=h0.1▸hi;exact(h0.2 i _ _ (AT2 hi') (AT2 hi)).2.1)
      (λd hd'=>by
       obtain⟨i,hi,rfl⟩:=AU8.1 hd';have hi':i <z.cells.toList.length:=h0.1.symm▸hi;exact(h0.2 i _ _ (AT2 hi) (AT2 hi')).2.2) hf
     have hb:P.built t (ps.map λp=>(p.1,act.eval p.2)).toList=some A':=by
      simp only[Program.built,hit,hu,hz1,hpl,Array.toList_map];simpa using hA
     refine⟨.agg A',?_,⟨A'.toList,by simp,r1,r2,r3⟩,λk=>by cases k<;>simp[Ab,AZ]⟩
     have:=run_build (P:=P) w t (ps.map λp=>(p.1,act.eval p.2)) A' hb;simp[execOp,ho,this]
    ·cases hp
   ·cases hp
 ·cases hz
theorem AEH {op:Op} {pi:PI} (hk:YT P GL op pi=true):Bw P GL op pi:=by
 unfold YT at hk;split at hk<;>(try simp only[AT1]at hk)
 ·exact uk hk.1.1 hk.1.2 hk.2
 ·exact MH hk.1.1.1 hk.1.1.2 hk.1.2 hk.2
 ·exact ur hk
 ·obtain⟨⟨h1,h2⟩,h3⟩:=hk;have:=eq_of_beq h1;subst this;exact @AIv P GL _ _ _ _ _ _ _ h2 h3
 ·exact AFK hk.1.1.1 hk.1.1.2 hk.1.2 hk.2
 ·exact AFJ hk.1.1.1 hk.1.1.2 hk.1.2 hk.2
 ·exact AFL hk.1.1.1 hk.1.1.2 hk.1.2 hk.2
 ·exact AEp hk.1 hk.2
 ·exact AEq hk.1 hk.2
 ·exact AE3 hk.1 hk.2
 ·exact vN hk.1.1 hk.1.2 hk.2
 ·exact Xo hk.1.1 hk.1.2 hk.2
 ·exact AFE hk.1.1.1 hk.1.1.2 hk.1.2 hk.2
 ·exact Xg hk.1.1 hk.1.2 hk.2
 ·exact WQ hk.1.1 hk.1.2 hk.2
 ·exact WR hk.1.1 hk.1.2 hk.2
 ·exact vC hk.1.1 hk.1.2 hk.2
 ·exact AFG hk.1 hk.2
 ·exact AEt hk.1.1 hk.1.2 hk.2
 ·exact uy hk.1.1 hk.1.2 hk.2
 ·exact vD hk.1.1 hk.1.2 hk.2
 ·exact wq hk.1 hk.2
 ·exact u5 hk.1 hk.2
 ·exact AEw hk
 ·exact AEv hk
 ·exact AEV hk.1.1.1.1 hk.1.1.1.2 hk.1.1.2 hk.1.2 hk.2
 ·exact ua hk.1.1.1.1 hk.1.1.1.2 hk.1.1.2 hk.1.2 hk.2
 ·exact ub hk.1.1.1 hk.1.1.2 hk.1.2 hk.2
 ·exact AIw hk.1.1 hk.1.2 hk.2
 ·exact u3 hk.1.1.1 hk.1.1.2 hk.1.2 hk.2
 ·exact uv hk.1 hk.2
 ·exact uG hk.1 hk.2
 ·cases hk
end
section
variable {g:Gh} {w:World} {μ:List Nat} {t:Nat→D} {u:Nat→Value} {h:List Row} {O:Nat→Prop}
theorem Inv.cell (hi:Inv g w μ t u h O) {r k:Nat} {ds:List D} {b:Nat} (hr:h[r]?=some (.cells ds)) (hb:μ[r]?=some b) {d:D} (hd:ds[k]?=some d):
  RepE g w μ d (A0 w μ r k):=by
 obtain⟨vs,T,hheap,hall,hone,_⟩:=hi.row hb hr;obtain⟨v,hv,hrep⟩:=hall.get hd;rw[Cs hb hheap hv];exact hrep
theorem Inv.blk_lt (hi:Inv g w μ t u h O) {p:Pl} {b:Nat} (hb:blk t u h w μ p=some b):b <w.heap.size:=by
 cases p with
 |tmp n k=>
  have hr:=hi.rep n;simp only[blk]at hb;generalize t n=d at hr hb;generalize u n=v at hr hb;cases d with
  |tup ds=>
   obtain⟨vs,rfl,ha⟩:=hr;simp only[Ab,AVm]at hb;cases hd:ds[k]? with
   |none=>simp[hd,AZ]at hb
   |some d=>
    obtain⟨v,hv,hrv⟩:=ha.get hd;simp only[hd,hv,AUH]at hb;cases d<;>simp only[AZ]at hb<;>try (cases hb;done)
    case pend b' e s xs=>exact Hl (μ:=μ) (d:= .pend b' e s xs) hrv (by simpa[AZ]using hb)
    exact Hl (μ:=μ) (d:= .own _ _ _) hrv (by simpa[AZ]using hb)
  |pend b' e s xs=>cases k with
   |zero=>exact Hl (μ:=μ) (d:= .pend b' e s xs) hr (by simpa[Ab]using hb)
   |succ k=>simp[Ab]at hb
  |own e s xs=>cases k with
   |zero=>exact Hl (μ:=μ) (d:= .own e s xs) hr (by simpa[Ab]using hb)
   |succ k=>simp[Ab]at hb
  |_=>cases k<;>simp[Ab,AZ]at hb
 |cell r k=>
  simp only[blk,Av]at hb;split at hb
  ·rename_i ds hr;cases hd:ds[k]? with
   |none=>simp[hd,AZ]at hb
   |some d=>
    have hlt:r <μ.length:=by rw[hi.len];exact(AT4.1 hr).1
    have:=hi.cell hr (AT2 hlt) hd;exact Hl this (by simpa[hd]using hb)
  ·simp[AZ]at hb
theorem Inv.upd (hi:Inv g w μ t u h O) {g':Gh} {w':World} {μ':List Nat} {t':Nat→D} {u':Nat→Value} {h':List Row} {M:Nat→Prop} (hc:Chg M g w g' w')
  (hag:∀b o v,g'.m b o=some v→w'.cell? ⟨b,o,none⟩=some v) (hrep:∀n,RepD g' w' μ' (t' n) (u' n)) (hlen:μ'.length=h'.length)
  (hrows:∀(r:Nat) row b,h'[r]?=some row→μ'[r]?=some b→RowOK g' w' μ' b row) (hnod:∀(r r':Nat) b,μ'[r]?=some b→μ'[r']?=some b→r=r')
  (hμ:∀b,b∈μ'→b∈μ∨w.heap.size≤b) (σ:Pl→Option Pl) (hσ:∀p q r,σ p=some r→σ q=some r→p=q) (p0:Pl)
  (hb:∀p b,blk t' u' h' w' μ' p=some b→(∃r,σ p=some r∧blk t u h w μ r=some b)∨(p=p0∧w.heap.size≤b∧b∉μ')):Inv g' w' μ' t' u' h' O where
 agree:=hag
 olt:=λb hb=>AVz (hi.olt b hb) hc.size
 rep:=hrep
 len:=hlen
 rows:=hrows
 nod:=hnod
 mo:=λb hb ho=>by
  rcases hμ b hb with h1|h1
  ·exact hi.mo b h1 ho
  ·have:=hi.olt b ho;omega
 uniq:=λp q b hp hq=>by
  rcases hb p b hp with ⟨r,hr,hbr⟩|⟨rfl,h1,_⟩
  ·rcases hb q b hq with ⟨r',hr',hbr'⟩|⟨rfl,h1,_⟩
   ·have:=hi.uniq r r' b hbr hbr';subst this;exact hσ p q r hr hr'
   ·have:=hi.blk_lt hbr;omega
  ·rcases hb q b hq with ⟨r',hr',hbr'⟩|⟨rfl,_,_⟩
   ·have:=hi.blk_lt hbr';omega
   ·rfl
 sep:=λp b hp=>by
  rcases hb p b hp with ⟨r,hr,hbr⟩|⟨rfl,h1,h2⟩
  ·have hlt:=hi.blk_lt hbr;obtain⟨s1,s2⟩:=hi.sep r b hbr;refine⟨λhm=>?_,s2⟩;rcases hμ b hm with h3|h3
   ·exact s1 h3
   ·omega
  ·exact⟨h2,λho=>by have:=hi.olt b ho;omega⟩
theorem Inv.set (hi:Inv g w μ t u h O) {d:Nat} {x:D} {v:Value} (hx:RepD g w μ x v) (h0:∀k,Ab x v k=none):
  Inv g w μ (λn=>if d=n then x else t n) (λn=>if d=n then v else u n) h O:=by
 refine hi.upd (Chg.refl (λ_=>False) g w) hi.agree (λn=>?_) hi.len hi.rows hi.nod (λb hb=> .inl hb) (λp=>some p) (λp q r hp hq=>by simp at hp hq;rw[hp,hq]) (.tmp 0 0) ?_
 ·by_cases hn:d=n
  ·simp[hn,hx]
  ·simp[hn,hi.rep n]
 ·intro p b hb;refine .inl ⟨p,rfl,?_⟩;cases p with
  |tmp n k=>
   simp only[blk]at hb ⊢;by_cases hn:d=n
   ·simp[hn,h0]at hb
   ·simpa[hn]using hb
  |cell r k=>exact hb
theorem Inv.move (hi:Inv g w μ t u h O) {d s:Nat} (z:Value):
  Inv g w μ (λn=>if d=n then t s else if s=n then .any else t n) (λn=>if d=n then u s else if s=n then z else u n) h O:=by
 refine hi.upd (Chg.refl (λ_=>False) g w) hi.agree (λn=>?_) hi.len hi.rows hi.nod (λb hb=> .inl hb)
  (λp=>match p with| .tmp n k=>if d=n then some (.tmp s k) else if s=n then none else some (.tmp n k)| .cell r k=>some (.cell r k)) ?_ (.tmp 0 0) ?_
 ·by_cases hn:d=n
  ·simp[hn,hi.rep s]
  ·by_cases hs:s=n
   ·simp[hn,hs,RepD,RepG,RepE]
   ·simp[hn,hs,hi.rep n]
 ·intro p q r hp hq;cases p<;>cases q<;>simp only[]at hp hq
  ·rename_i n k n' k';by_cases h1:d=n<;>by_cases h2:d=n'<;>by_cases h3:s=n<;>by_cases h4:s=n'<;>simp_all
   all_goals (subst_vars;simp_all)
  ·rename_i n k r' k';by_cases h1:d=n<;>by_cases h3:s=n<;>simp_all
   all_goals (subst_vars;simp_all)
  ·rename_i r' k' n k;by_cases h1:d=n<;>by_cases h3:s=n<;>simp_all
   all_goals (subst_vars;simp_all)
  ·simp_all
 ·intro p b hb;cases p with
  |tmp n k=>
   simp only[blk]at hb;by_cases hn:d=n
   ·exact .inl ⟨.tmp s k,by simp[hn],by simpa[hn,blk]using hb⟩
   ·by_cases hs:s=n
    ·simp[hn,hs]at hb;cases k<;>simp[Ab,AZ]at hb
    ·exact .inl ⟨.tmp n k,by simp[hn,hs],by simpa[hn,hs,blk]using hb⟩
  |cell r k=>exact .inl ⟨.cell r k,rfl,hb⟩
end
theorem Gh.lt_of {g:Gh} {w:World} (hag:∀b o v,g.m b o=some v→w.cell? ⟨b,o,none⟩=some v) {b:Nat} (hb:w.heap.size≤b) (o:Nat):g.m b o=none:=by
 cases hm:g.m b o with
 |none=>rfl
 |some v=>
  have:=World.block_lt_of_cell? w ⟨b,o,none⟩ (hag b o v hm);simp at this;omega
def Gh.put (g:Gh) (b o:Nat) (vs:List Value):Gh where
 m:=λb' o'=>if b'=b∧o≤o'∧o' <o+vs.length then vs[o'-o]? else g.m b' o'
theorem Gh.put_at (g:Gh) (b o:Nat) (vs:List Value):(g.put b o vs).at b o vs:=by
 intro i v hv;have hi:=(AT4.1 hv).1;simp only[Gh.put];rw[if_pos ⟨trivial,by omega,by omega⟩,show o+i-o=i by omega];exact hv
theorem Gh.le_put {g:Gh} {b o:Nat} (vs:List Value) (h:∀o',o≤o'→o' <o+vs.length→g.m b o'=none):g.le (g.put b o vs):=by
 intro b' o' v hv;simp only[Gh.put];split
 ·rename_i hc;rw[hc.1]at hv;rw[h o' hc.2.1 hc.2.2]at hv;cases hv
 ·exact hv
theorem Gh.put_other {g:Gh} {b o:Nat} {vs:List Value} {b':Nat} (h:b'≠b) (o':Nat):(g.put b o vs).m b' o'=g.m b' o':=by simp[Gh.put,h]
section
variable {g:Gh} {w:World} {μ:List Nat} {t:Nat→D} {u:Nat→Value} {h:List Row} {O:Nat→Prop}
theorem Bj (M:Nat→Prop) (g:Gh) (w:World) (o:Obj):Chg M g w g (w.alloc o):=
 ⟨Gh.le.refl g,by simp,λb hb _=>heap_alloc_old w o b hb,λ_ _ _ _=>rfl,rfl,rfl⟩
theorem Ct (hag:∀b o v,g.m b o=some v→w.cell? ⟨b,o,none⟩=some v) (ob:Obj):∀b o v,g.m b o=some v→(w.alloc ob).cell? ⟨b,o,none⟩=some v:=by
 intro b o v hv;have:=hag b o v hv;rw[World.cell?_alloc_lt w ob _ (World.block_lt_of_cell? w _ this)];exact this
theorem Inv.mem_lt (hi:Inv g w μ t u h O) {b:Nat} (hb:b∈μ):b <w.heap.size:=by
 obtain⟨r,hr,rfl⟩:=AU8.1 hb;have hr':r <h.length:=hi.len▸hr;exact(hi.rows r _ _ (AT2 hr') (AT2 hr)).lt
theorem RowOK.chg {M:Nat→Prop} {g':Gh} {w':World} {μ':List Nat} (hc:Chg M g w g' w') (hμ:μ <+: μ') {b:Nat} {row:Row} (hr:RowOK g w μ b row) (hb:¬M b)
  (hn:∀k ds d v,row= .cells ds→ds[k]?=some d→w.cell? ⟨b,k,none⟩=some v→∀b',AZ d v=some b'→¬M b'):RowOK g' w' μ' b row:=by
 have hlt:=hr.lt;cases row with
 |cells ds=>
  obtain⟨vs,T,hheap,hall,hone,hg⟩:=hr;refine⟨vs,T,(hc.heap b hlt hb).trans hheap,⟨hall.1,λk d v hd hv=>(hall.2 k d v hd hv).chg hc hμ λb' hb'=>?_⟩,hone,λo=>(hc.gh b hlt hb o).trans (hg o)⟩;exact hn k ds d v rfl hd (by simp[World.cell?,hheap,hv]) b' hb'
 |map es st ck=>
  obtain⟨ents,hheap,hst,hbs,hall,hg⟩:=hr;exact⟨ents,(hc.heap b hlt hb).trans hheap,hst,hbs,hall.imp λ_ _ h=>⟨h.1.mono hc.le,h.2.mono hc.le⟩,λo=>(hc.gh b hlt hb o).trans (hg o)⟩
 |obj tag p mono=>
  obtain⟨o,hheap,hp,hg⟩:=hr;exact⟨o,(hc.heap b hlt hb).trans hheap,mono _ _ _ _ _ hc.le hμ hp,λo=>(hc.gh b hlt hb o).trans (hg o)⟩
 |dead=>exact AVz hlt hc.size
theorem Inv.rowChg (hi:Inv g w μ t u h O) {M:Nat→Prop} {g':Gh} {w':World} {μ':List Nat} (hc:Chg M g w g' w') (hμ:μ <+: μ') {r b:Nat} {row:Row} (hr:h[r]?=some row) (hb:μ[r]?=some b)
  (hM:¬M b) (hn:∀p b',blk t u h w μ p=some b'→M b'→∀k,p≠ .cell r k):RowOK g' w' μ' b row:=by
 refine(hi.rows r row b hr hb).chg hc hμ hM ?_;intro k ds d v hrow hd hv b' hb' hm;subst hrow;refine hn (.cell r k) b' ?_ hm k rfl;simp only[blk,Av,hr,A0,hb,AUX,hv,AUH,hd];exact hb'
theorem DY (hi:Inv g w μ t u h O) {M:Nat→Prop} {g':Gh} {w':World} {μ':List Nat} (hc:Chg M g w g' w') (hμ:μ <+: μ') (n:Nat)
  (hn:∀k b',blk t u h w μ (.tmp n k)=some b'→¬M b'):RepD g' w' μ' (t n) (u n):=
 (hi.rep n).chg hc hμ λk b hb=>hn k b hb
theorem Inv.newRow (hi:Inv g w μ t u h O) {zs:List D} {vs:List Value} (T:TypeId) (ha:All2 (RepE g w μ) zs vs) (h1:∀v∈vs,v.oneCell'=true)
  (h0:∀(i:Nat) z v,zs[i]?=some z→vs[i]?=some v→AZ z v=none):
  Inv g (w.alloc (.cells vs.toArray T)) (μ++[w.heap.size]) t u (h++[.cells zs]) O:=by
 have hc:=Bj (λ_=>False) g w (.cells vs.toArray T);have hpre:μ <+: μ++[w.heap.size]:=AUz _ _;have hold:∀r,r <h.length→(h++[Row.cells zs])[r]?=h[r]?:=λr hr=>AUQ hr;have holdμ:∀r,r <h.length→(μ++[w.heap.size])[r]?=μ[r]?:=λr hr=>AUQ (hi.len▸hr);have hnewμ:(μ++[w.heap.size])[h.length]?=some w.heap.size:=by rw[←hi.len];simp
 have hnew:(h++[Row.cells zs])[h.length]?=some (.cells zs):=by simp
 refine hi.upd hc (Ct hi.agree _) (λn=>DY hi hc hpre n λ_ _ _ h=>h) (by simp[hi.len]) ?_ ?_ ?_ (λp=>some p) (λp q r hp hq=>by simp at hp hq;rw[hp,hq]) (.tmp 0 0) ?_
 ·intro r row b hr hb;by_cases hlt:r <h.length
  ·rw[hold r hlt]at hr;rw[holdμ r hlt]at hb;exact hi.rowChg hc hpre hr hb (λh=>h) (λ_ _ _ h=>h.elim)
  ·have:r=h.length:=by
    have:=(AT4.1 hr).1;simp at this;omega
   subst this;rw[hnew]at hr;rw[hnewμ]at hb;simp only[AT0]at hr hb;subst hr;subst hb;refine⟨vs,T,heap_alloc_new w _,⟨ha.1,λi x v hx hv=>(ha.2 i x v hx hv).chg hc hpre λ_ _ h=>h⟩,h1,λo=>Gh.lt_of hi.agree (AT6 _) o⟩
 ·intro r r' b hr hr';have hlen:∀x,(μ++[w.heap.size])[x]?=some b→x <h.length+1:=λx hx=>by
   have:=(AT4.1 hx).1;simp[hi.len]at this;omega
  have l1:=hlen r hr;have l2:=hlen r' hr';by_cases a1:r <h.length<;>by_cases a2:r' <h.length
  ·rw[holdμ r a1]at hr;rw[holdμ r' a2]at hr';exact hi.nod r r' b hr hr'
  ·have:r'=h.length:=by omega
   subst this;rw[hnewμ]at hr';rw[holdμ r a1]at hr;simp only[AT0]at hr';subst hr';have:=hi.mem_lt (AT3 hr);omega
  ·have:r=h.length:=by omega
   subst this;rw[hnewμ]at hr;rw[holdμ r' a2]at hr';simp only[AT0]at hr;subst hr;have:=hi.mem_lt (AT3 hr');omega
  ·omega
 ·intro b hb;simp only[AUK,AUC]at hb;rcases hb with h|h
  ·exact .inl h
  ·exact .inr (by omega)
 ·intro p b hb;refine .inl ⟨p,rfl,?_⟩;cases p with
  |tmp n k=>exact hb
  |cell r k=>
   simp only[blk]at hb ⊢;by_cases hlt:r <h.length
   ·have e1:Av (h++[.cells zs]) r k=Av h r k:=by simp only[Av,hold r hlt]
    have e2:A0 (w.alloc (.cells vs.toArray T)) (μ++[w.heap.size]) r k=A0 w μ r k:=by
     simp only[A0,holdμ r hlt];cases hm:μ[r]? with
     |none=>rfl
     |some b'=>
      have:=hi.mem_lt (AT3 hm);simp only[AUX];rw[World.cell?_alloc_lt w _ ⟨b',k,none⟩ this]
    rw[e1,e2]at hb;exact hb
   ·by_cases he:r=h.length
    ·subst he;simp only[Av,hnew]at hb;cases hz:zs[k]? with
     |none=>simp[hz,AZ]at hb
     |some z=>
      obtain⟨v,hv,_⟩:=ha.get hz;have e2:A0 (w.alloc (.cells vs.toArray T)) (μ++[w.heap.size]) h.length k=v:=
       Cs hnewμ (heap_alloc_new w _) hv
      rw[e2,hz]at hb;simp only[AUH]at hb;rw[h0 k z v hz hv]at hb;cases hb
    ·have:(h++[Row.cells zs])[r]?=none:=by simp;omega
     simp[Av,this,AZ]at hb
theorem Inv.newAny (hi:Inv g w μ t u h O) (row:Row) (ob:Obj) (hR:RowOK g (w.alloc ob) (μ++[w.heap.size]) w.heap.size row)
  (h0:∀k ds d,row= .cells ds→ds[k]?=some d→AZ d (A0 (w.alloc ob) (μ++[w.heap.size]) h.length k)=none):
  Inv g (w.alloc ob) (μ++[w.heap.size]) t u (h++[row]) O:=by
 have hc:=Bj (λ_=>False) g w ob;have hpre:μ <+: μ++[w.heap.size]:=AUz _ _;have hold:∀r,r <h.length→(h++[row])[r]?=h[r]?:=λr hr=>AUQ hr;have holdμ:∀r,r <h.length→(μ++[w.heap.size])[r]?=μ[r]?:=λr hr=>AUQ (hi.len▸hr);have hnewμ:(μ++[w.heap.size])[h.length]?=some w.heap.size:=by rw[←hi.len];simp
 have hnew:(h++[row])[h.length]?=some row:=by simp
 refine hi.upd hc (Ct hi.agree _) (λn=>DY hi hc hpre n λ_ _ _ h=>h) (by simp[hi.len]) ?_ ?_ ?_ (λp=>some p) (λp q r hp hq=>by simp at hp hq;rw[hp,hq]) (.tmp 0 0) ?_
 ·intro r row b hr hb;by_cases hlt:r <h.length
  ·rw[hold r hlt]at hr;rw[holdμ r hlt]at hb;exact hi.rowChg hc hpre hr hb (λh=>h) (λ_ _ _ h=>h.elim)
  ·have:r=h.length:=by
    have:=(AT4.1 hr).1;simp at this;omega
   subst this;rw[hnew]at hr;rw[hnewμ]at hb;simp only[AT0]at hr hb;subst hr;subst hb;exact hR
 ·intro r r' b hr hr';have hlen:∀x,(μ++[w.heap.size])[x]?=some b→x <h.length+1:=λx hx=>by
   have:=(AT4.1 hx).1;simp[hi.len]at this;omega
  have l1:=hlen r hr;have l2:=hlen r' hr';by_cases a1:r <h.length<;>by_cases a2:r' <h.length
  ·rw[holdμ r a1]at hr;rw[holdμ r' a2]at hr';exact hi.nod r r' b hr hr'
  ·have:r'=h.length:=by omega
   subst this;rw[hnewμ]at hr';rw[holdμ r a1]at hr;simp only[AT0]at hr';subst hr';have:=hi.mem_lt (AT3 hr);omega
  ·have:r=h.length:=by omega
   subst this;rw[hnewμ]at hr;rw[holdμ r' a2]at hr';simp only[AT0]at hr;subst hr;have:=hi.mem_lt (AT3 hr');omega
  ·omega
 ·intro b hb;simp only[AUK,AUC]at hb;rcases hb with h|h
  ·exact .inl h
  ·exact .inr (by omega)
 ·intro p b hb;refine .inl ⟨p,rfl,?_⟩;cases p with
  |tmp n k=>exact hb
  |cell r k=>
   simp only[blk]at hb ⊢;by_cases hlt:r <h.length
   ·have e1:Av (h++[row]) r k=Av h r k:=by simp only[Av,hold r hlt]
    have e2:A0 (w.alloc ob) (μ++[w.heap.size]) r k=A0 w μ r k:=by
     simp only[A0,holdμ r hlt];cases hm:μ[r]? with
     |none=>rfl
     |some b'=>
      have:=hi.mem_lt (AT3 hm);simp only[AUX];rw[World.cell?_alloc_lt w _ ⟨b',k,none⟩ this]
    rw[e1,e2]at hb;exact hb
   ·by_cases he:r=h.length
    ·subst he;simp only[Av,hnew]at hb;cases row with
     |cells ds=>
      cases hz:ds[k]? with
      |none=>simp[hz,AZ]at hb
      |some z=>simp only[hz,AUH]at hb;rw[h0 k ds z rfl hz]at hb;cases hb
     |_=>simp[AZ]at hb
    ·have:(h++[row])[r]?=none:=by simp;omega
     simp[Av,this,AZ]at hb
end
section
variable {g:Gh} {w:World} {μ:List Nat} {t:Nat→D} {u:Nat→Value} {h:List Row} {O:Nat→Prop}
theorem Dm (g:Gh) (w:World) (b:Nat) (cs:Array Value):Chg (λx=>x=b) g w g (w.setRow b cs):=
 ⟨Gh.le.refl g,by simp,λb' _ hb=>setRow_other w b b' cs hb,λ_ _ _ _=>rfl,rfl,rfl⟩
theorem IV (hag:∀b o v,g.m b o=some v→w.cell? ⟨b,o,none⟩=some v) {b:Nat} (hg:∀o,g.m b o=none) (cs:Array Value):
  ∀b' o v,g.m b' o=some v→(w.setRow b cs).cell? ⟨b',o,none⟩=some v:=by
 intro b' o v hv;by_cases hb:b'=b
 ·subst hb;rw[hg o]at hv;cases hv
 ·rw[World.cell?_of_block (a:=⟨b',o,none⟩) (setRow_other w b b' cs hb)];exact hag b' o v hv
theorem Inv.storeRow (hi:Inv g w μ t u h O) {r b:Nat} {ds:List D} (hr:h[r]?=some (.cells ds)) (hb:μ[r]?=some b) {vs:List Value} {T:TypeId}
  (hheap:w.heap[b]?=some (.cells vs.toArray T (0,0))) (ds':List D) (vs':List Value)
  (ha:All2 (RepE g w μ) ds' vs') (h1:∀v∈vs',v.oneCell'=true)
  (h0:∀(i:Nat) z v,ds'[i]?=some z→vs'[i]?=some v→AZ z v=none∨(ds[i]?=some z∧vs[i]?=some v)):
  Inv g (w.setRow b vs'.toArray) μ t u (h.set r (.cells ds')) O:=by
 have hbm:b∈μ:=AT3 hb;obtain⟨_,_,hheap',_,_,hg⟩:=hi.row hb hr;have hc:=Dm g w b vs'.toArray;have hrl:r <h.length:=(AT4.1 hr).1;have hnb:∀p b',blk t u h w μ p=some b'→b'≠b:=λp b' hp he=>(hi.sep p b' hp).1 (he▸hbm);have hcellU:∀k,(∀v,vs[k]?=some v→A0 w μ r k=v):=λk v hv=>Cs hb hheap hv;have hnew:(w.setRow b vs'.toArray).heap[b]?=some (.cells vs'.toArray T (0,0)):=setRow_heap w b _ _ T _ hheap;have hblk:∀p b',blk t u (h.set r (.cells ds')) (w.setRow b vs'.toArray) μ p=some b'→blk t u h w μ p=some b':=by
  intro p b' hp;cases p with
  |tmp n k=>exact hp
  |cell r' k=>
   simp only[blk]at hp ⊢;by_cases he:r'=r
   ·subst he;simp only[Av,AUY hrl]at hp;cases hz:ds'[k]? with
    |none=>simp[hz,AZ]at hp
    |some z=>
     obtain⟨v,hv,_⟩:=ha.get hz;rw[Cs hb hnew hv,hz]at hp;simp only[AUH]at hp;rcases h0 k z v hz hv with h3|⟨h3,h4⟩
     ·rw[h3]at hp;cases hp
     ·simp only[Av,hr,h3,AUH,hcellU k v h4];exact hp
   ·have e1:Av (h.set r (.cells ds')) r' k=Av h r' k:=by simp only[Av,AUJ (Ne.symm he)]
    have e2:A0 (w.setRow b vs'.toArray) μ r' k=A0 w μ r' k:=by
     simp only[A0];cases hm:μ[r']? with
     |none=>rfl
     |some b2=>
      simp only[AUX];have hne:b2≠b:=λe=>he (hi.nod r' r b (e▸hm) hb);rw[World.cell?_of_block (a:=⟨b2,k,none⟩) (setRow_other w b b2 _ hne)]
    rw[e1,e2]at hp;exact hp
 refine hi.upd hc (IV hi.agree hg _) (λn=>DY hi hc (AT8 μ) n λk b' hb'=>hnb _ b' hb') (by simp[hi.len]) ?_ hi.nod (λb hb=> .inl hb)
  (λp=>some p) (λp q r hp hq=>by simp at hp hq;rw[hp,hq]) (.tmp 0 0) (λp b' hp=> .inl ⟨p,rfl,hblk p b' hp⟩)
 intro r' row b' hrow hb';by_cases he:r'=r
 ·subst he;rw[AUY hrl]at hrow;simp only[AT0]at hrow;subst hrow;rw[hb]at hb';simp only[AT0]at hb';subst hb';refine⟨vs',T,hnew,⟨ha.1,λi x v hx hv=>(ha.2 i x v hx hv).chg hc (AT8 μ) λb2 hb2=>?_⟩,h1,hg⟩;rcases h0 i x v hx hv with h3|⟨h3,h4⟩
  ·rw[h3]at hb2;cases hb2
  ·refine hnb (.cell r' i) b2 ?_;simp only[blk,Av,hr,h3,AUH,hcellU i v h4];exact hb2
 ·rw[AUJ (Ne.symm he)]at hrow;have hne:b'≠b:=λe=>he (hi.nod r' r b (e▸hb') hb);exact hi.rowChg hc (AT8 μ) hrow hb' hne λp b2 hp hm k=>absurd hm (hnb p b2 hp)
theorem Inv.giveD (hi:Inv g w μ t u h O) {r b k n:Nat} {ds:List D} (hr:h[r]?=some (.cells ds)) (hb:μ[r]?=some b) {vs:List Value} {T:TypeId}
  (hheap:w.heap[b]?=some (.cells vs.toArray T (0,0))) (hk:k <ds.length) {d0:D} (ht:t n=d0) (hrn:RepE g w μ d0 (u n)) (hbl:Ab d0 (u n) 0=AZ d0 (u n)) (h1:(u n).oneCell'=true) {d1:D} (hd1:∀w',RepD g w' μ d1 (u n)) (ho1:∀j,Ab d1 (u n) j=none):
  Inv g (w.setRow b (vs.set k (u n)).toArray) μ (λm=>if n=m then d1 else t m) u (h.set r (.cells (ds.set k d0))) O:=by
 have hbm:b∈μ:=AT3 hb;obtain⟨vs0,T0,hheap',hall0,hone0,hg⟩:=hi.row hb hr;rw[hheap]at hheap';simp only[AT0,Obj.cells.injEq,true_and,and_true]at hheap';obtain⟨hvv,rfl⟩:=hheap';have hvv':vs=vs0:=by simpa using congrArg Array.toList hvv
 subst hvv';have hc:=Dm g w b (vs.set k (u n)).toArray;have hrl:r <h.length:=(AT4.1 hr).1;have hnb:∀p b',blk t u h w μ p=some b'→b'≠b:=λp b' hp he=>(hi.sep p b' hp).1 (he▸hbm);have hnew:(w.setRow b (vs.set k (u n)).toArray).heap[b]?=some (.cells (vs.set k (u n)).toArray T (0,0)):=setRow_heap w b _ _ T _ hheap;have hkv:k <vs.length:=hall0.1▸hk;have hblkn:blk t u h w μ (.tmp n 0)=AZ d0 (u n):=by simp only[blk,ht];exact hbl
 refine hi.upd hc (IV hi.agree hg _) (λm=>?_) (by simp[hi.len]) ?_ hi.nod (λb hb=> .inl hb)
  (λp=>match p with| .tmp m j=>if n=m then none else some (.tmp m j)| .cell r' j=>if r'=r∧j=k then some (.tmp n 0) else some (.cell r' j)) ?_ (.tmp 0 0) ?_
 ·by_cases hm:n=m
  ·subst hm;simp only[if_true];exact hd1 _
  ·simp only[hm,if_false];exact DY hi hc (AT8 μ) m λk b' hb'=>hnb _ b' hb'
 ·intro r' row b' hrow hb';by_cases he:r'=r
  ·subst he;rw[AUY hrl]at hrow;simp only[AT0]at hrow;subst hrow;rw[hb]at hb';simp only[AT0]at hb';subst hb';refine⟨vs.set k (u n),T,hnew,⟨by simp[hall0.1],λi x v hx hv=>?_⟩,?_,hg⟩
   ·rw[AUe]at hx hv;by_cases hik:k=i
    ·subst hik;simp only[if_true,hk,hkv]at hx hv;simp only[AT0]at hx hv;subst hx;subst hv;exact hrn.chg hc (AT8 μ) λb2 hb2=>hnb (.tmp n 0) b2 (by rw[hblkn];exact hb2)
    ·simp only[hik,if_false]at hx hv;refine(hall0.2 i x v hx hv).chg hc (AT8 μ) λb2 hb2=>hnb (.cell r' i) b2 ?_;simp only[blk,Av,hr,hx,AUH,Cs hb hheap hv];exact hb2
   ·intro v hv;rcases AUv hv with h|h
    ·exact hone0 v h
    ·rw[h];exact h1
  ·rw[AUJ (Ne.symm he)]at hrow;have hne:b'≠b:=λe=>he (hi.nod r' r b (e▸hb') hb);exact hi.rowChg hc (AT8 μ) hrow hb' hne λp b2 hp hm k=>absurd hm (hnb p b2 hp)
 ·intro p q z hp hq;cases p<;>cases q<;>simp only[]at hp hq
  ·rename_i m j m' j';by_cases a1:n=m<;>by_cases a2:n=m'<;>simp_all
  ·rename_i m j r' j';by_cases a1:n=m<;>by_cases a2:r'=r∧j'=k<;>simp_all
   all_goals (try (subst_vars;simp_all))
  ·rename_i r' j' m j;by_cases a1:n=m<;>by_cases a2:r'=r∧j'=k<;>simp_all
   all_goals (try (subst_vars;simp_all))
  ·rename_i r1 j1 r2 j2;by_cases a1:r1=r∧j1=k<;>by_cases a2:r2=r∧j2=k<;>simp_all
   all_goals (try (subst_vars;simp_all))
 ·intro p b' hp;cases p with
  |tmp m j=>
   simp only[blk]at hp;by_cases hm:n=m
   ·subst hm;simp only[if_true,ho1]at hp;cases hp
   ·simp only[hm,if_false]at hp;exact .inl ⟨.tmp m j,by simp[hm],hp⟩
  |cell r' j=>
   simp only[blk]at hp;by_cases he:r'=r
   ·subst he;simp only[Av,AUY hrl]at hp;by_cases hj:j=k
    ·subst hj;have hv:(vs.set j (u n))[j]?=some (u n):=by simp[hkv]
     rw[Cs hb hnew hv]at hp;simp only[AUY hk,AUH]at hp;exact .inl ⟨.tmp n 0,by simp,by rw[hblkn];exact hp⟩
    ·refine .inl ⟨.cell r' j,by simp[hj],?_⟩;rw[AUJ (Ne.symm hj)]at hp;simp only[blk,Av,hr];cases hz:ds[j]? with
     |none=>simp[hz,AZ]at hp
     |some z=>
      obtain⟨v,hv,_⟩:=hall0.get hz;have hv':(vs.set k (u n))[j]?=some v:=by rw[AUJ (Ne.symm hj)];exact hv
      rw[Cs hb hnew hv',hz]at hp;rw[Cs hb hheap hv];exact hp
   ·refine .inl ⟨.cell r' j,by simp[he],?_⟩;have e1:Av (h.set r (.cells (ds.set k d0))) r' j=Av h r' j:=by simp only[Av,AUJ (Ne.symm he)]
    have e2:A0 (w.setRow b (vs.set k (u n)).toArray) μ r' j=A0 w μ r' j:=by
     simp only[A0];cases hm:μ[r']? with
     |none=>rfl
     |some b2=>
      simp only[AUX];have hne:b2≠b:=λe=>he (hi.nod r' r b (e▸hm) hb);rw[World.cell?_of_block (a:=⟨b2,j,none⟩) (setRow_other w b b2 _ hne)]
    rw[e1,e2]at hp;exact hp
theorem Inv.give (hi:Inv g w μ t u h O) {r b k n:Nat} {ds:List D} (hr:h[r]?=some (.cells ds)) (hb:μ[r]?=some b) {vs:List Value} {T:TypeId}
  (hheap:w.heap[b]?=some (.cells vs.toArray T (0,0))) (hk:k <ds.length) {e s:Nat} {xs:List V} (ht:t n= .own e s xs) (h1:(u n).oneCell'=true):
  Inv g (w.setRow b (vs.set k (u n)).toArray) μ (λm=>if n=m then .any else t m) u (h.set r (.cells (ds.set k (.own e s xs)))) O:=
 hi.giveD hr hb hheap hk ht (by have:=hi.rep n;rw[ht]at this;exact this) (by cases u n<;>rfl) h1 (d1:= .any) (λ_=>by simp[RepD,RepG,RepE]) (λj=>by cases j<;>simp[Ab,AZ])
theorem Inv.setAny (hi:Inv g w μ t u h O) {r b:Nat} {row0:Row} (hr:h[r]?=some row0) (hb:μ[r]?=some b) (row:Row) {g':Gh} {w':World} (hc:Chg (λx=>x=b) g w g' w')
  (hag:∀b o v,g'.m b o=some v→w'.cell? ⟨b,o,none⟩=some v) (hR:RowOK g' w' μ b row)
  (h0:∀k ds d,row= .cells ds→ds[k]?=some d→AZ d (A0 w' μ r k)=none):Inv g' w' μ t u (h.set r row) O:=by
 have hbm:b∈μ:=AT3 hb;have hrl:r <h.length:=(AT4.1 hr).1;have hnb:∀p b',blk t u h w μ p=some b'→b'≠b:=λp b' hp he=>(hi.sep p b' hp).1 (he▸hbm);have hblk:∀p b',blk t u (h.set r row) w' μ p=some b'→blk t u h w μ p=some b':=by
  intro p b' hp;cases p with
  |tmp n k=>exact hp
  |cell r' k=>
   simp only[blk]at hp ⊢;by_cases he:r'=r
   ·subst he;exfalso;simp only[Av,AUY hrl]at hp;cases row with
    |cells ds=>
     cases hz:ds[k]? with
     |none=>simp[hz,AZ]at hp
     |some z=>simp only[hz,AUH]at hp;rw[h0 k ds z rfl hz]at hp;cases hp
    |_=>simp[AZ]at hp
   ·have e1:Av (h.set r row) r' k=Av h r' k:=by simp only[Av,AUJ (Ne.symm he)]
    have e2:A0 w' μ r' k=A0 w μ r' k:=by
     simp only[A0];cases hm:μ[r']? with
     |none=>rfl
     |some b2=>
      simp only[AUX];have hne:b2≠b:=λe=>he (hi.nod r' r b (e▸hm) hb);rw[World.cell?_of_block (a:=⟨b2,k,none⟩) (hc.heap b2 (hi.mem_lt (AT3 hm)) hne)]
    rw[e1,e2]at hp;exact hp
 refine hi.upd hc hag (λn=>DY hi hc (AT8 μ) n λk b' hb'=>hnb _ b' hb') (by simp[hi.len]) ?_ hi.nod (λb hb=> .inl hb)
  (λp=>some p) (λp q r hp hq=>by simp at hp hq;rw[hp,hq]) (.tmp 0 0) (λp b' hp=> .inl ⟨p,rfl,hblk p b' hp⟩)
 intro r' row' b' hrow hb';by_cases he:r'=r
 ·subst he;rw[hb]at hb';cases hb';rw[AUY hrl]at hrow;cases hrow;exact hR
 ·rw[AUJ (Ne.symm he)]at hrow;have hne:b'≠b:=λe=>he (hi.nod r' r b (e▸hb') hb);exact hi.rowChg hc (AT8 μ) hrow hb' hne λp b2 hp hm=>absurd hm (hnb p b2 hp)
end
def σtake (d r k:Nat):Pl→Option Pl
 | .tmp m j=>if d=m then (if j=0 then some (.cell r k) else none) else some (.tmp m j)
 | .cell r' j=>if r'=r∧j=k then none else some (.cell r' j)
theorem σtake_inj (d r k:Nat) (p q z:Pl) (hp:σtake d r k p=some z) (hq:σtake d r k q=some z):p=q:=by
 cases p<;>cases q<;>simp only[σtake]at hp hq<;>(repeat' split at hp)<;>(repeat' split at hq)<;>
  first
   |(cases hp;done)
   |(cases hq;done)
   |(simp only[AT0]at hp hq;subst hp;(simp only[Pl.tmp.injEq,Pl.cell.injEq,reduceCtorEq]at hq<;>simp_all);done)
def σgrow (d n:Nat):Pl→Option Pl
 | .tmp m k=>if d=m then (if k=0 then some (.tmp n 0) else none) else if n=m then none else some (.tmp m k)
 | .cell r k=>some (.cell r k)
theorem σgrow_inj (d n:Nat) (p q z:Pl) (hp:σgrow d n p=some z) (hq:σgrow d n q=some z):p=q:=by
 cases p<;>cases q<;>simp only[σgrow]at hp hq<;>(repeat' split at hp)<;>(repeat' split at hq)<;>
  first
   |(cases hp;done)
   |(cases hq;done)
   |(simp only[AT0]at hp hq;subst hp;(simp only[Pl.tmp.injEq,Pl.cell.injEq,reduceCtorEq]at hq<;>simp_all);done)
section
variable {g:Gh} {w:World} {μ:List Nat} {t:Nat→D} {u:Nat→Value} {h:List Row} {O:Nat→Prop}
theorem Inv.take (hi:Inv g w μ t u h O) {r k d:Nat} {ds:List D} (hr:h[r]?=some (.cells ds)) {e s:Nat} {xs:List V} (hk:ds[k]?=some (.own e s xs)):
  Inv g w μ (λn=>if d=n then .own e s xs else t n) (λn=>if d=n then A0 w μ r k else u n) (h.set r (.cells (ds.set k (.v (.list xs))))) O:=by
 have hrl:r <h.length:=(AT4.1 hr).1;have hkl:k <ds.length:=(AT4.1 hk).1;have hμr:r <μ.length:=hi.len▸hrl;have hb:μ[r]?=some μ[r]:=AT2 hμr;have hcell:=hi.cell hr hb hk;have hblk0:blk t u h w μ (.cell r k)=AZ (.own e s xs) (A0 w μ r k):=by simp only[blk,Av,hr,hk,AUH]
 refine hi.upd (Chg.refl (λ_=>False) g w) hi.agree (λn=>?_) (by simp[hi.len]) ?_ hi.nod (λb hb=> .inl hb)
  (σtake d r k) (σtake_inj d r k) (.tmp 0 0) ?_
 ·by_cases hn:d=n
  ·simp only[hn,if_true];exact hcell
  ·simp only[hn,if_false];exact hi.rep n
 ·intro r' row b' hrow hb';by_cases he:r'=r
  ·subst he;rw[AUY hrl]at hrow;simp only[AT0]at hrow;subst hrow;obtain⟨vs,T,hheap,hall,hone,hg⟩:=hi.row hb' hr;refine⟨vs,T,hheap,⟨by simp[hall.1],λi x v hx hv=>?_⟩,hone,hg⟩;rw[AUe]at hx;by_cases hik:k=i
   ·subst hik;simp only[if_true,hkl,AT0]at hx;subst hx;exact RepOwn.list (hall.2 k _ v hk hv)
   ·simp only[hik,if_false]at hx;exact hall.2 i x v hx hv
  ·rw[AUJ (Ne.symm he)]at hrow;exact hi.rows r' row b' hrow hb'
 ·intro p b' hp;cases p with
  |tmp m j=>
   simp only[blk]at hp;by_cases hm:d=m
   ·simp only[hm,if_true]at hp;cases j with
    |zero=>exact .inl ⟨.cell r k,by simp[σtake,hm],by rw[hblk0];simpa[Ab]using hp⟩
    |succ j=>simp[Ab]at hp
   ·simp only[hm,if_false]at hp;exact .inl ⟨.tmp m j,by simp[σtake,hm],hp⟩
  |cell r' j=>
   simp only[blk]at hp;by_cases he:r'=r
   ·subst he;simp only[Av,AUY hrl]at hp;by_cases hj:j=k
    ·subst hj;simp[AUY hkl,AZ]at hp
    ·rw[AUJ (Ne.symm hj)]at hp;exact .inl ⟨.cell r' j,by simp[σtake,hj],by simp only[blk,Av,hr];exact hp⟩
   ·have e1:Av (h.set r (.cells (ds.set k (.v (.list xs))))) r' j=Av h r' j:=by simp only[Av,AUJ (Ne.symm he)]
    rw[e1]at hp;exact .inl ⟨.cell r' j,by simp[σtake,he],hp⟩
theorem Inv.newD (hi:Inv g w μ t u h O) {g':Gh} {w':World} (hc:Chg (λ_=>False) g w g' w') (hag:∀b o v,g'.m b o=some v→w'.cell? ⟨b,o,none⟩=some v)
  {d:Nat} {d0:D} {v:Value} (hv:RepD g' w' μ d0 v) (hs:∀k,Ab d0 v k=if k=0 then AZ d0 v else none) (hn:∀b,AZ d0 v=some b→w.heap.size≤b):
  Inv g' w' μ (λn=>if d=n then d0 else t n) (λn=>if d=n then v else u n) h O:=by
 have hcellU:∀r k,A0 w' μ r k=A0 w μ r k:=by
  intro r k;simp only[A0];cases hm:μ[r]? with
  |none=>rfl
  |some b=>
   have:=hi.mem_lt (AT3 hm);simp only[AUX];rw[World.cell?_of_block (a:=⟨b,k,none⟩) (hc.heap b this (λh=>h))]
 refine hi.upd hc hag (λn=>?_) hi.len (λr row b hr hb=>hi.rowChg hc (AT8 μ) hr hb (λh=>h) (λ_ _ _ h=>h.elim)) hi.nod (λb hb=> .inl hb)
  (λp=>some p) (λp q r hp hq=>by simp at hp hq;rw[hp,hq]) (.tmp d 0) ?_
 ·by_cases hnn:d=n
  ·simp only[hnn,if_true];exact hv
  ·simp only[hnn,if_false];exact DY hi hc (AT8 μ) n λ_ _ _ h=>h
 ·intro p b hp;cases p with
  |tmp m j=>
   simp only[blk]at hp;by_cases hm:d=m
   ·subst hm;simp only[if_true]at hp;cases j with
    |zero=>
     have hb:=hn b (by simpa[hs]using hp);exact .inr ⟨rfl,hb,λhmem=>by have:=hi.mem_lt hmem;omega⟩
    |succ j=>simp[hs]at hp
   ·simp only[hm,if_false]at hp;exact .inl ⟨.tmp m j,rfl,hp⟩
  |cell r k=>
   simp only[blk,hcellU]at hp;exact .inl ⟨.cell r k,rfl,hp⟩
theorem Inv.newOwn (hi:Inv g w μ t u h O) {g':Gh} {w':World} (hc:Chg (λ_=>False) g w g' w') (hag:∀b o v,g'.m b o=some v→w'.cell? ⟨b,o,none⟩=some v)
  {d e s:Nat} {xs:List V} {v:Value} (hv:RepOwn g' w' e s xs v) (hn:∀b,AZ (.own e s xs) v=some b→w.heap.size≤b):
  Inv g' w' μ (λn=>if d=n then .own e s xs else t n) (λn=>if d=n then v else u n) h O:=
 hi.newD hc hag hv (λk=>by cases k<;>rfl) hn
theorem Inv.growD (hi:Inv g w μ t u h O) {n d b:Nat} (hb:AZ (t n) (u n)=some b) {g':Gh} {w':World} (hc:Chg (λx=>x=b) g w g' w')
  (hag:∀b o v,g'.m b o=some v→w'.cell? ⟨b,o,none⟩=some v) {d0:D} {v:Value} (hv:RepD g' w' μ d0 v) (hs:∀k,Ab d0 v k=if k=0 then AZ d0 v else none) (hn:AZ d0 v=some b):
  Inv g' w' μ (λm=>if d=m then d0 else if n=m then .any else t m) (λm=>if d=m then v else u m) h O:=by
 have hblkn:blk t u h w μ (.tmp n 0)=some b:=by
  simp only[blk];generalize t n=x at hb;generalize u n=y at hb;cases x with
  |own e s xs=>
   cases y<;>simp[Ab,AZ]at hb ⊢
   exact hb
  |pend b' e s xs=>simpa[Ab,AZ]using hb
  |_=>simp[AZ]at hb
 obtain⟨hbμ,_⟩:=hi.sep _ b hblkn;have honly:∀p b',blk t u h w μ p=some b'→b'=b→p= .tmp n 0:=λp b' hp he=>hi.uniq p (.tmp n 0) b (he▸hp) hblkn;have hcellU:∀r k,A0 w' μ r k=A0 w μ r k:=by
  intro r k;simp only[A0];cases hm:μ[r]? with
  |none=>rfl
  |some b'=>
   have hmem:=AT3 hm;have:=hi.mem_lt hmem;simp only[AUX];rw[World.cell?_of_block (a:=⟨b',k,none⟩) (hc.heap b' this (λhe=>hbμ (he▸hmem)))]
 refine hi.upd hc hag (λm=>?_) hi.len (λr row b' hr hb'=>hi.rowChg hc (AT8 μ) hr hb' (λhe=>hbμ (he▸AT3 hb')) (λp b2 hp he k=>by rw[honly p b2 hp he];simp))
  hi.nod (λb hb=> .inl hb)
  (σgrow d n) (σgrow_inj d n) (.tmp 0 0) ?_
 ·by_cases hd:d=m
  ·simp only[hd,if_true];exact hv
  ·by_cases hm:n=m
   ·simp[hd,hm,RepD,RepG,RepE]
   ·simp only[hd,hm,if_false];exact DY hi hc (AT8 μ) m λk b' hb' he=>by
     have:=honly _ b' hb' he;simp only[Pl.tmp.injEq]at this;exact hm this.1.symm
 ·intro p b' hp;cases p with
  |tmp m k=>
   simp only[blk]at hp;by_cases hd:d=m
   ·simp only[hd,if_true]at hp;cases k with
    |zero=>
     refine .inl ⟨.tmp n 0,by simp[σgrow,hd],?_⟩;rw[hblkn];have:AZ d0 v=some b':=by simpa[hs]using hp
     rw[←hn,this]
    |succ k=>simp[hs]at hp
   ·by_cases hm:n=m
    ·simp only[hd,hm,if_true,if_false]at hp;cases k<;>simp[Ab,AZ]at hp
    ·simp only[hd,hm,if_false]at hp;exact .inl ⟨.tmp m k,by simp[σgrow,hd,hm],hp⟩
  |cell r k=>
   simp only[blk,hcellU]at hp;exact .inl ⟨.cell r k,rfl,hp⟩
theorem Inv.growOwn (hi:Inv g w μ t u h O) {n d b:Nat} (hb:AZ (t n) (u n)=some b) {g':Gh} {w':World} (hc:Chg (λx=>x=b) g w g' w')
  (hag:∀b o v,g'.m b o=some v→w'.cell? ⟨b,o,none⟩=some v) {e s:Nat} {xs:List V} {v:Value} (hv:RepOwn g' w' e s xs v) (hn:AZ (.own e s xs) v=some b):
  Inv g' w' μ (λm=>if d=m then .own e s xs else if n=m then .any else t m) (λm=>if d=m then v else u m) h O:=
 hi.growD hb hc hag hv (λk=>by cases k<;>rfl) hn
theorem Inv.growCell (hi:Inv g w μ t u h O) {r k b br:Nat} {ds:List D} {x d0:D} (hr:h[r]?=some (.cells ds)) (hbr:μ[r]?=some br) (hk:ds[k]?=some x) (hb:AZ x (A0 w μ r k)=some b)
  {g':Gh} {w':World} (hc:Chg (λx=>x=b) g w g' w') (hag:∀b o v,g'.m b o=some v→w'.cell? ⟨b,o,none⟩=some v) (hv:RepE g' w' μ d0 (A0 w μ r k)) (hn:∀b',AZ d0 (A0 w μ r k)=some b'→b'=b):
  Inv g' w' μ t u (h.set r (.cells (ds.set k d0))) O:=by
 have hrl:r <h.length:=(AT4.1 hr).1;have hkl:k <ds.length:=(AT4.1 hk).1;have hblkn:blk t u h w μ (.cell r k)=some b:=by simp only[blk,Av,hr,hk,AUH];exact hb
 obtain⟨hbμ,_⟩:=hi.sep _ b hblkn;have honly:∀p b',blk t u h w μ p=some b'→b'=b→p= .cell r k:=λp b' hp he=>hi.uniq p (.cell r k) b (he▸hp) hblkn;obtain⟨vs,T,hheap,hall,hone,hgn⟩:=hi.row hbr hr;have hneb:br≠b:=λhe=>hbμ (he▸AT3 hbr);have hheap':w'.heap[br]?=some (.cells vs.toArray T (0,0)):=(hc.heap br (BC hheap) hneb).trans hheap;have hcellU:∀r k,A0 w' μ r k=A0 w μ r k:=by
  intro r k;simp only[A0];cases hm:μ[r]? with
  |none=>rfl
  |some b'=>
   have hmem:=AT3 hm;have:=hi.mem_lt hmem;simp only[AUX];rw[World.cell?_of_block (a:=⟨b',k,none⟩) (hc.heap b' this (λhe=>hbμ (he▸hmem)))]
 refine hi.upd hc hag (λm=>?_) (by simp[hi.len]) ?_ hi.nod (λb hb=> .inl hb) (λp=>some p) (λp q r hp hq=>by simp at hp hq;rw[hp,hq]) (.tmp 0 0) ?_
 ·exact DY hi hc (AT8 μ) m λj b' hb' he=>by have:=honly _ b' hb' he;cases this
 ·intro r' row b' hrow hb';by_cases he:r'=r
  ·subst he;rw[AUY hrl]at hrow;simp only[AT0]at hrow;subst hrow;rw[hbr]at hb';simp only[AT0]at hb';subst hb';refine⟨vs,T,hheap',⟨by simp[hall.1],λi y v hy hv2=>?_⟩,hone,λo=>(hc.gh br (BC hheap) hneb o).trans (hgn o)⟩;rw[AUe]at hy;by_cases hik:k=i
   ·subst hik;simp only[if_true,hkl]at hy;simp only[AT0]at hy;subst hy;rw[Cs hbr hheap hv2]at hv;exact hv
   ·simp only[hik,if_false]at hy;refine(hall.2 i y v hy hv2).chg hc (AT8 μ) λb2 hb2 he=>?_;have h3:blk t u h w μ (.cell r' i)=some b2:=by simp only[blk,Av,hr,hy,AUH,Cs hbr hheap hv2];exact hb2
    have:=honly _ b2 h3 he;simp only[Pl.cell.injEq]at this;exact hik this.2.symm
  ·rw[AUJ (Ne.symm he)]at hrow;have hne:¬b'=b:=λe=>hbμ (e▸AT3 hb');exact hi.rowChg hc (AT8 μ) hrow hb' hne λp b2 hp hm j hpj=>by
    have:=honly p b2 hp hm;rw[hpj]at this;simp only[Pl.cell.injEq]at this;exact he this.1
 ·intro p b' hp;refine .inl ⟨p,rfl,?_⟩;cases p with
  |tmp m j=>exact hp
  |cell r' j=>
   simp only[blk,hcellU]at hp ⊢;by_cases he:r'=r
   ·subst he;simp only[Av,AUY hrl,AUe]at hp;by_cases hj:k=j
    ·subst hj;simp only[if_true,hkl,AUH]at hp;have:=hn b' hp;subst this;simpa[Av,hr,hk]using hb
    ·simp only[hj,if_false]at hp;simpa[Av,hr]using hp
   ·have e1:Av (h.set r (.cells (ds.set k d0))) r' j=Av h r' j:=by simp only[Av,AUJ (Ne.symm he)]
    rw[e1]at hp;exact hp
theorem Inv.chg (hi:Inv g w μ t u h O) {g':Gh} {w':World} (hc:Chg (λ_=>False) g w g' w') (hag:∀b o v,g'.m b o=some v→w'.cell? ⟨b,o,none⟩=some v):Inv g' w' μ t u h O:=by
 have hcellU:∀r k,A0 w' μ r k=A0 w μ r k:=by
  intro r k;simp only[A0];cases hm:μ[r]? with
  |none=>rfl
  |some b=>
   have:=hi.mem_lt (AT3 hm);simp only[AUX];rw[World.cell?_of_block (a:=⟨b,k,none⟩) (hc.heap b this (λh=>h))]
 refine hi.upd hc hag (λn=>DY hi hc (AT8 μ) n λ_ _ _ h=>h) hi.len
  (λr row b hr hb=>hi.rowChg hc (AT8 μ) hr hb (λh=>h) (λ_ _ _ h=>h.elim)) hi.nod (λb hb=> .inl hb)
  (λp=>some p) (λp q r hp hq=>by simp at hp hq;rw[hp,hq]) (.tmp 0 0) ?_
 intro p b hp;cases p with
 |tmp m j=>exact .inl ⟨.tmp m j,rfl,hp⟩
 |cell r k=>simp only[blk,hcellU]at hp;exact .inl ⟨.cell r k,rfl,hp⟩
theorem Inv.weaken (hi:Inv g w μ t u h O) (t':Nat→D) (ht:∀n,t' n=t n∨(∀v,RepD g w μ (t n) v→RepD g w μ (t' n) v)∧∀v k,Ab (t' n) v k=none):Inv g w μ t' u h O:=by
 refine hi.upd (Chg.refl (λ_=>False) g w) hi.agree (λn=>?_) hi.len hi.rows hi.nod (λb hb=> .inl hb) (λp=>some p) (λp q r hp hq=>by simp at hp hq;rw[hp,hq]) (.tmp 0 0) ?_
 ·rcases ht n with h|h
  ·rw[h];exact hi.rep n
  ·exact h.1 _ (hi.rep n)
 ·intro p b hp;cases p with
  |tmp m j=>
   simp only[blk]at hp;rcases ht m with h|h
   ·rw[h]at hp;exact .inl ⟨.tmp m j,rfl,hp⟩
   ·rw[h.2]at hp;cases hp
  |cell r k=>exact .inl ⟨.cell r k,rfl,hp⟩
end
structure St where
 e:Env
 h:List Row
 deriving Inhabited
inductive AI where
 |p (d:Nat) (i:PI)
 |mv (d:Nat) (x:Opd)
 |alloc (d:Nat) (zs:List D)
 |box (d:Nat) (x:Opd)
 |store (a x:Opd) (n:Nat)
 |take (d:Nat) (a:Opd)
 |app (d:Nat) (x y:Opd) (e s by_:Nat)
 |appS (d:Nat) (x y:Opd) (e by_:Nat)
 |bsl (d e s:Nat) (ps:List Opd)
 |s2b (d:Nat) (x:Opd)
 |nilS (d:Nat) (ne:Bool) (x:Opd)
 |mkm (d:Nat)
 |mksl (d:Nat) (x:Opd) (z:D)
 |ment (d:Nat) (m k:Opd) (st:Bool) (ks:List Nat)
 |mest (m b v:Opd)
 |mput (m k v:Opd) (st:Bool) (ks:List Nat)
 |mdel (d:Option Nat) (m k:Opd) (st:Bool) (ks:List Nat)
 |call (d:Option Nat) (f:Opd) (args:List Opd)
 |callF (d:Option Nat) (f:Opd) (args:List Opd)
 |callC (d:Option Nat) (f:Opd) (args:List Opd)
 |callO (d:Option Nat) (f q:Opd) (args:List Opd)
 |appR (d:Nat) (x y:Opd) (e s by_:Nat)
 |frz (d:Nat) (x:Opd) (s:Nat)
 |mksz (d:Nat) (x:Opd) (zs:List D)
 |cpy (d:Option Nat) (x y:Opd) (s:Nat)
 |callN (d:Option Nat) (f:Opd) (args:List Opd)
 |appP (d:Nat) (x y:Opd) (e s by_:Nat)
 |fin (m:Nat) (a p x:Opd) (s:Nat)
 deriving Inhabited
def D.toRow:D→D
 | .nil e s=> .own e s []
 |d=>d
def Opd.clear (e:Env):Opd→Env
 | .t n true=>(n,.any)::e
 |_=>e
def Bh (e:Env):Option Nat→D→Env
 |some d,x=>(d,x)::e
 |none,_=>e
def HC (e:Env):List Opd→Option (List V)
 |[]=>some []
 |x::xs=>match (x.ev e).toV,HC e xs with
  |some v,some vs=>some (v::vs)
  |_,_=>none
def EN (e s:Nat):D→Option (List V)
 | .own e' s' xs=>if e'=e∧s'=s then some xs else none
 | .nil _ _=>some []
 |_=>none
def Ae (n by_:Nat):Bool:=decide (n*by_≤140737488355328∧n≤140737488355328)
def AI.step (s:St):AI→Option St
 | .p d i=>(i.val s.e s.h).map λx=>⟨(d,x)::s.e,s.h⟩
 | .mv d x=>some ⟨(d,x.ev s.e)::x.clear s.e,s.h⟩
 | .alloc d zs=>some ⟨(d,.ref s.h.length 0)::s.e,s.h++[.cells zs]⟩
 | .box d x=>match (x.ev s.e).copy.cells? with
  |some cs=>some ⟨(d,.ref s.h.length 0)::s.e,s.h++[.cells (cs.map D.toRow)]⟩
  |none=>none
 | .store a x n=>match a.ev s.e with
  | .ref r off=>match s.h[r]? with
   |some (.cells ds)=>match x.ev s.e with
    | .own e sz xs=>match x with
     | .t m true=>if off <ds.length∧n=1 then some ⟨(m,.any)::s.e,s.h.set r (.cells (ds.set off (.own e sz xs)))⟩ else none
     |_=>none
    | .pend bb e sz xs=>match x with
     | .t m true=>if off <ds.length∧n=1 then some ⟨(m,.pptr bb 0 xs.length)::s.e,s.h.set r (.cells (ds.set off (.pend bb e sz xs)))⟩ else none
     |_=>none
    |d=>match d.copy.cells? with
     |some cs=>if cs.length=n∧off+n≤ds.length then some ⟨s.e,s.h.set r (.cells (AN ds off (cs.map D.toRow)))⟩ else none
     |none=>none
   |_=>none
  |_=>none
 | .take d a=>match a.ev s.e with
  | .ref r off=>match s.h[r]? with
   |some (.cells ds)=>match ds[off]? with
    |some (.own e sz xs)=>some ⟨(d,.own e sz xs)::s.e,s.h.set r (.cells (ds.set off (.v (.list xs))))⟩
    |_=>none
   |_=>none
  |_=>none
 | .app d x y e sz by_=>match EN e sz (x.ev s.e),(y.ev s.e).toV with
  |some xs,some (.list ys)=>if CK sz ys=true∧Ae (xs.length+ys.length) by_=true then some ⟨(d,.own e sz (xs++ys))::x.clear s.e,s.h⟩ else none
  |_,_=>none
 | .appS d x y e by_=>match EN e 1 (x.ev s.e),y.ev s.e with
  |some xs,.v (.str b)=>if Ae (xs.length+b.size) by_=true then some ⟨(d,.own e 1 (xs++b.data.toList.map λc=> .int .u8 c.toNat))::x.clear s.e,s.h⟩ else none
  |_,_=>none
 | .bsl d e sz ps=>match HC s.e ps with
  |some vs=>if vs.all (λv=>v.cells.length==sz)=true then
    match vs with
    |[]=>some ⟨(d,.nil e sz)::s.e,s.h⟩
    |vs=>some ⟨(d,.own e sz vs)::s.e,s.h⟩
   else none
  |none=>none
 | .s2b d x=>match x.ev s.e with
  | .v (.str b)=>some ⟨(d,.v (.list (b.data.toList.map λc=> .int .u8 c.toNat)))::s.e,s.h⟩
  |_=>none
 | .nilS _ _ _=>none
 | .mkm d=>some ⟨(d,.mref s.h.length)::s.e,s.h++[.map [] [] 0]⟩
 | .mksl d x z=>match x.ev s.e with
  | .v (.int _ n)=>if 0≤n∧n≤16777216 then some ⟨(d,.sref s.h.length n.toNat)::s.e,s.h++[.cells (List.replicate n.toNat z)]⟩ else none
  |_=>none
 | .mput m k v st ks=>match m.ev s.e with
  | .mref r=>match s.h[r]? with
   |some (.map es bs ck)=>match (k.ev s.e).toV,(v.ev s.e).toV with
    |some kv,some vv=>if BL st ks kv=true then
      match CQ st ks kv es with
      |some none=>some ⟨s.e,s.h.set r (.map (es++[(kv,vv)]) (bs++[ck]) (ck+1))⟩
      |some (some i)=>some ⟨s.e,s.h.set r (.map (es.set i (kv,vv)) bs ck)⟩
      |none=>none
     else none
    |_,_=>none
   |_=>none
  |_=>none
 | .ment d m k st ks=>match m.ev s.e with
  | .mref r=>match s.h[r]? with
   |some (.map es bs _)=>match (k.ev s.e).toV with
    |some kv=>if BL st ks kv=true then
      match CQ st ks kv es with
      |some (some i)=>match es[i]?,bs[i]? with
       |some en,some n=>some ⟨(d,.tup [.v en.2,.v (.int .i64 n)])::s.e,s.h⟩
       |_,_=>none
      |_=>none
     else none
    |_=>none
   |_=>none
  |_=>none
 | .mest m b v=>match m.ev s.e with
  | .mref r=>match s.h[r]? with
   |some (.map es bs ck)=>match b.ev s.e,(v.ev s.e).toV with
    | .v (.int _ n),some vv=>match bs.findIdx? (λx:Nat=>(x:Int)==n)with
     |some i=>match es[i]? with
      |some en=>some ⟨s.e,s.h.set r (.map (es.set i (en.1,vv)) bs ck)⟩
      |none=>none
     |none=>none
    |_,_=>none
   |_=>none
  |_=>none
 | .mdel d m k st ks=>match m.ev s.e with
  | .mref r=>match s.h[r]? with
   |some (.map es bs ck)=>match (k.ev s.e).toV with
    |some kv=>if BL st ks kv=true then
      match CQ st ks kv es with
      |some none=>some ⟨Bh s.e d (.tup []),s.h⟩
      |some (some i)=>some ⟨Bh s.e d (.tup []),s.h.set r (.map (es.eraseIdx i) (bs.eraseIdx i) ck)⟩
      |none=>none
     else none
    |_=>none
   |_=>none
  |_=>none
 | .call _ _ _=>none
 | .callF _ _ _=>none
 | .callC _ _ _=>none
 | .callO _ _ _ _=>none
 | .appR _ _ _ _ _ _=>none
 | .frz _ _ _=>none
 | .callN _ _ _=>none
 | .appP _ _ _ _ _ _=>none
 | .fin m ad pp x sz=>match pp.ev s.e,(x.ev s.e).toV with
  | .pptr b s' n,some y=>match AH s.e m with
   | .pend b' e s2 xs=>if (b'=b∧s'=sz∧s2=sz)∧n=xs.length∧y.cells.length=sz∧0 <sz then some ⟨(m,.own e sz (xs++[y]))::s.e,s.h⟩ else none
   |_=>match ad.ev s.e with
    | .ref r off=>match s.h[r]? with
     |some (.cells ds)=>match ds[off]? with
      |some (.pend b' e s2 xs)=>if (b'=b∧s'=sz∧s2=sz)∧n=xs.length∧y.cells.length=sz∧0 <sz then some ⟨s.e,s.h.set r (.cells (ds.set off (.own e sz (xs++[y]))))⟩ else none
      |_=>none
     |_=>none
    |_=>none
  |_,_=>none
 | .mksz d x zs=>match x.ev s.e with
  | .v (.int _ n)=>if 0≤n∧n≤16777216 then some ⟨(d,.sref s.h.length n.toNat)::s.e,s.h++[.cells (List.replicate n.toNat zs).flatten]⟩ else none
  |_=>none
 | .cpy d x y sz=>match x.ev s.e with
  | .sref r n=>match (y.ev s.e).copy with
   | .v (.list ys)=>match s.h[r]? with
    |some (.cells ds)=>if (ys.length=n∧ds.length=n*sz)∧0 <sz∧CK sz ys=true then some ⟨Bh s.e d (.v (.int .i64 n)),s.h.set r (.cells ((ys.flatMap V.cells).map .v))⟩ else none
    |_=>none
   |_=>none
  |_=>none
structure Gs (GL:AX) (N:Nat) (g:Gh) (w:World) (μ:List Nat) (s:St) (a:Act) (O:Nat→Prop):Prop where
 inv:Inv g w μ (AH s.e) (λn=>a.tmps.getD n undef) s.h O
 glob:GlobOK GL g
 sz:a.tmps.size=N
theorem Gs.gd {GL:AX} {N:Nat} {g:Gh} {w:World} {μ:List Nat} {s:St} {a:Act} {O:Nat→Prop} (h:Gs GL N g w μ s a O) (P:Program):Gd P GL g w μ s.e a s.h O:=⟨h.inv,h.glob⟩
theorem GlobOK.mono {GL:AX} {g g':Gh} (h:GlobOK GL g) (hl:g.le g'):GlobOK GL g':=λp hp=>(h p hp).mono hl
def DL (P:Program) (GL:AX) (N:Nat) (o:Oper) (ai:AI):Prop:=
 ∀ {g:Gh} {w:World} {μ:List Nat} {s s':St} {a:Act} {O:Nat→Prop},Gs GL N g w μ s a O→ai.step s=some s'→
  ∃v w' g' μ',((execOp a.eval o).run P w= .ok (.value v) w'∨((execOp a.eval o).run P w= .ok .skip w'∧v=undef))∧
   Gs GL N g' w' μ' s' (a.put o.dst v) O∧Chg (λb=>¬O b) g w g' w'∧μ <+: μ'
section
variable {P:Program} {GL:AX} {N:Nat}
theorem Ay (a:Act) (d:Option Nat) (v:Value):(a.put d v).tmps.size=a.tmps.size:=by cases d<;>simp[Act.put]
theorem DC {a:Act} {d:Nat} (v:Value) (hd:d <a.tmps.size):(λn=>(a.put (some d) v).tmps.getD n undef)=λn=>if d=n then v else a.tmps.getD n undef:=by
 funext n
 simp only[Act.put];by_cases h:d=n
 ·subst h;simp[hd]
 ·simp[h]
theorem Gs.set {g:Gh} {w:World} {μ:List Nat} {s:St} {a:Act} {O:Nat→Prop} (h:Gs GL N g w μ s a O) {d:Nat} (hd:d <N) {x:D} {v:Value} (hx:RepD g w μ x v)
  (h0:∀k,Ab x v k=none):Gs GL N g w μ ⟨(d,x)::s.e,s.h⟩ (a.put (some d) v) O where
 inv:=by
  rw[DC v (h.sz▸hd)];exact h.inv.set hx h0
 glob:=h.glob
 sz:=by rw[Ay,h.sz]
theorem APM {o:Oper} {d:Nat} {i:PI} (ho:o.dst=some d) (hd:d <N) (hk:YT P GL o.op i=true):DL P GL N o (.p d i):=by
 intro g w μ s s' a O hg hs;simp only[AI.step,AUA]at hs;obtain⟨x,hx,rfl⟩:=hs;obtain⟨v,h1,h2,h3⟩:=AEH hk (hg.gd P) hx o rfl;exact⟨v,w,g,μ,.inl h1,by rw[ho];exact hg.set hd h2 h3,Chg.refl _ _ _,AT8 _⟩
def TJ (q:Opd):Bool:=match q with| .c (.own _ _ (_::_))=>false| .c (.tup _)=>false| .c (.pend _ _ _ _)=>false|_=>true
theorem yI {o:Oper} {d:Nat} {x:Operand} {q:Opd} (ho:o.dst=some d) (hop:o.op= .move x∨o.op= .assign x) (hd:d <N) (hk:oe GL x q=true) (hm:TJ q=true):DL P GL N o (.mv d q):=by
 intro g w μ s s' a O hg hs;simp only[AI.step,AT0]at hs;subst hs;have hrun:(execOp a.eval o).run P w= .ok (.value (a.eval x)) w:=by rcases hop with h|h<;>simp[execOp,h]
 have hr:=(hg.gd P).ev hk;refine⟨a.eval x,w,g,μ,.inl hrun,?_,Chg.refl _ _ _,AT8 _⟩;rw[ho];have OE:(∀k,Ab (q.ev s.e) (a.eval x) k=none)→Gs GL N g w μ ⟨(d,q.ev s.e)::s.e,s.h⟩ (a.put (some d) (a.eval x)) O:=λh0=>hg.set hd hr h0;cases q with
 |t n mv=>
  cases mv with
  |false=>exact OE λk=>DK _ _ _
  |true=>
   cases x with
   |tmp n'=>
    have:n'=n:=by simpa[oe]using hk
    subst this;refine⟨?_,hg.glob,by rw[Ay,hg.sz]⟩;rw[DC _ (hg.sz▸hd)];have:=hg.inv.move (d:=d) (s:=n') (a.tmps.getD n' undef);have e1:(λm=>if d=m then a.eval (.tmp n') else a.tmps.getD m undef)=λn=>if d=n then a.tmps.getD n' undef else if n'=n then a.tmps.getD n' undef else a.tmps.getD n undef:=by
     funext m
     by_cases h1:d=m
     ·simp[h1,Act.eval]
     ·by_cases h2:n'=m
      ·subst h2;simp[h1]
      ·simp[h1,h2]
    rw[e1];exact this
   |const v=>simp[oe]at hk
   |global g=>simp[oe]at hk
   |func f=>simp[oe]at hk
 |c dd=>
  refine OE λk=>?_;cases x with
  |tmp n=>simp[oe]at hk
  |global n=>simp[oe]at hk
  |const v=>
   rcases KL hk with hk|⟨cs,xs,rfl,rfl⟩
   case inr=>exact Bf _ _ _
   simp only[Opd.ev,Act.eval];unfold Et at hk;split at hk
   ·cases k<;>simp[Ab,AZ]
   ·cases k<;>simp[Ab,AZ]
   ·exact Bf _ _ _
   ·cases hk
  |func f=>
   cases dd<;>simp[oe]at hk
   exact Bf _ _ _
 |g n cs=>exact OE λk=>Bf _ _ _
theorem Fz {g:Gh} {w:World} {μ:List Nat} {vs:List Value} {zs:List D} (h:Aj Et vs zs=true):
  All2 (RepE g w μ) zs vs∧(∀v∈vs,v.oneCell'=true)∧∀(i:Nat) z v,zs[i]?=some z→vs[i]?=some v→AZ z v=none:=by
 have key:∀v d,Et v d=true→RepE g w μ d v∧v.oneCell'=true∧AZ d v=none:=by
  intro v d hvd;unfold Et at hvd;split at hvd
  ·exact⟨⟨none,rfl,by simp⟩,rfl,rfl⟩
  ·exact⟨.inl ⟨none,rfl,rfl,by simp⟩,rfl,rfl⟩
  ·exact⟨EW hvd,Fb hvd,by simp[AZ]⟩
  ·cases hvd
 have ha:All2 (λd v=>RepE g w μ d v∧v.oneCell'=true∧AZ d v=none) zs vs:=B9 (λv d h=>key v d h) h;refine⟨ha.imp λ_ _ h=>h.1,λv hv=>?_,λi z v hz hv=>(ha.2 i z v hz hv).2.2⟩;obtain⟨i,hi,rfl⟩:=AU8.1 hv;have hi':i <zs.length:=ha.1▸hi;exact(ha.2 i _ _ (AT2 hi') (AT2 hi)).2.1
theorem Gs.newRow {g:Gh} {w:World} {μ:List Nat} {s:St} {a:Act} {O:Nat→Prop} (hg:Gs GL N g w μ s a O) {d:Nat} (hd:d <N) {zs:List D} {vs:List Value} (T:TypeId)
  (ha:All2 (RepE g w μ) zs vs) (h1:∀v∈vs,v.oneCell'=true) (h0:∀(i:Nat) z v,zs[i]?=some z→vs[i]?=some v→AZ z v=none):
  Gs GL N g (w.alloc (.cells vs.toArray T)) (μ++[w.heap.size]) ⟨(d,.ref s.h.length 0)::s.e,s.h++[.cells zs]⟩ (a.put (some d) (.pointer (some ⟨w.heap.size,0,none⟩))) O where
 inv:=by
  rw[DC _ (hg.sz▸hd)];refine(hg.inv.newRow T ha h1 h0).set ⟨w.heap.size,?_,rfl⟩ λk=>Jk _ _ _ _;rw[←hg.inv.len];simp
 glob:=hg.glob
 sz:=by rw[Ay,hg.sz]
theorem uO {o:Oper} {d t:Nat} {zs:List D} (ho:o.dst=some d) (hop:o.op= .alloc t) (hd:d <N) (hz:E9 P t zs=true):DL P GL N o (.alloc d zs):=by
 intro g w μ s s' a O hg hs;simp only[AI.step,AT0]at hs;subst hs;unfold E9 at hz;split at hz
 ·rename_i z hzz;cases hit:P.info? t with
  |none=>simp[hit]at hzz
  |some it=>
   have hz1:it.zero=some z:=by simpa[hit]using hzz
   obtain⟨r1,r2,r3⟩:=Fz (g:=g) (w:=w) (μ:=μ) hz;refine⟨_,_,g,_,.inl ?_,by rw[ho];exact hg.newRow hd t r1 r2 r3,Bj _ g w _,AUz _ _⟩;simp[execOp,hop,Instr.alloc,zeroValue,typeInfo,hit,hz1,newVar,newRow]
 ·cases hz
theorem LI {g:Gh} {w:World} {μ:List Nat} {d:D} {v:Value} (h:RepE g w μ d v) (h0:∀u,AZ d u=none):RepE g w μ d.toRow v∧AZ d.toRow v=none:=by
 cases d<;>first
  |exact⟨h,h0 v⟩
  |(obtain⟨a,rfl,hs⟩:=h
    exact⟨.inl ⟨a,rfl,rfl,hs⟩,by cases a<;>simp[D.toRow,AZ]⟩)
theorem Ln {g:Gh} {w:World} {μ:List Nat} {d:D} {u:Value} (h:RepD g w μ d u) {cs:List D} (hc:d.cells?=some cs):
  All2 (RepE g w μ) (cs.map D.toRow) u.cells.toList∧(∀v∈u.cells.toList,v.oneCell'=true)∧∀(i:Nat) z v,(cs.map D.toRow)[i]?=some z→u.cells.toList[i]?=some v→AZ z v=none:=by
 obtain⟨h1,h2,h3⟩:=Xv h hc;refine⟨⟨by simp[h1.1],λi x v hx hv=>?_⟩,h2,λi z v hz hv=>?_⟩
 ·simp only[AUG,AUA]at hx;obtain⟨y,hy,rfl⟩:=hx;exact(LI (h1.2 i y v hy hv) (h3 y (AT3 hy))).1
 ·simp only[AUG,AUA]at hz;obtain⟨y,hy,rfl⟩:=hz;exact(LI (h1.2 i y v hy hv) (h3 y (AT3 hy))).2
theorem AIu {o:Oper} {d t:Nat} {x:Operand} {q:Opd} (ho:o.dst=some d) (hop:o.op= .box t x) (hd:d <N) (hk:oe GL x q=true):DL P GL N o (.box d q):=by
 intro g w μ s s' a O hg hs;simp only[AI.step]at hs;split at hs
 ·rename_i cs hcs;simp only[AT0]at hs;subst hs;obtain⟨r1,r2,r3⟩:=Ln ((hg.gd P).ev hk).copy hcs;refine⟨_,_,g,_,.inl ?_,by rw[ho];exact hg.newRow hd t r1 r2 r3,Bj _ g w _,AUz _ _⟩;simp[execOp,hop,Instr.box,newVar,newRow]
 ·cases hs
theorem C4 (O:Nat→Prop) {g:Gh} {w:World} {μ:List Nat} {s:St} {a:Act} (hg:Gs GL N g w μ s a O) {b:Nat} (hb:b∈μ):∀x,x=b→¬O x:=λx hx=>hx▸hg.inv.mo b hb
theorem XD {o:Oper} {t n:Nat} {p x:Operand} {p' q:Opd} (ho:o.dst=none) (hop:o.op= .store t p x) (hp:oe GL p p'=true) (hk:oe GL x q=true) (hsz:BK P t n=true):
  DL P GL N o (.store p' q n):=by
 intro g w μ s s' a O hg hs;simp only[AI.step]at hs;have hrp:=(hg.gd P).ev hp;have hrx:=(hg.gd P).ev hk;split at hs
 ·rename_i r off hc;rw[hc]at hrp;obtain⟨b,hb,hpv⟩:=hrp;have hbm:=AT3 hb;split at hs
  ·rename_i ds hr;obtain⟨vs,T,hheap,hall,hone,hgn⟩:=hg.inv.row hb hr;have hrun:∀u:Value,a.eval x=u→u.cells.size=n→off+n≤vs.length→(∀v∈u.cells.toList,v.oneCell'=true)→
     (execOp a.eval o).run P w= .ok .skip (w.setRow b (AN vs off u.cells.toList).toArray):=by
    intro u hu hun hl h1;have hst:=run_storeCells_at P b off T u.cells.toList 0 vs.toArray w hheap (by simp;omega) h1;simp only[AVR]at hst;simp[execOp,hop,hpv,hu,Instr.storeAt,Instr.sureAddr,storeVar,BS hsz,hun,AN]at hst ⊢;simp[hst]
   split at hs
   ·rename_i e sz xs hown;split at hs
    ·rename_i m;split at hs
     ·rename_i hcond;obtain⟨hlt,rfl⟩:=hcond;simp only[AT0]at hs;subst hs;cases x with
      |tmp m'=>
       have:m'=m:=by simpa[oe]using hk
       subst this;have hfind:AH s.e m'= .own e sz xs:=by simpa[Opd.ev]using hown
       have hrep:RepOwn g w e sz xs (a.tmps.getD m' undef):=by have:=hg.inv.rep m';rw[hfind]at this;exact this
       have hone1:(a.tmps.getD m' undef).oneCell'=true:=by
        rcases hrep with ⟨a',h,_⟩|⟨_,_,_,_,h,_⟩<;>rw[h]<;>rfl
       have hcell:(a.tmps.getD m' undef).cells= #[a.tmps.getD m' undef]:=Fd hone1;have hgive:=hg.inv.give hr hb hheap hlt hfind hone1;refine⟨undef,_,g,μ,.inr ⟨hrun (a.tmps.getD m' undef) rfl (by rw[hcell];rfl) (by rw[hall.1];omega) (by rw[hcell];simpa using hone1),rfl⟩,⟨?_,hg.glob,by rw[Ay,hg.sz]⟩,?_,AT8 _⟩
       ·rw[ho];refine Eq.mp ?_ hgive
        congr 1
        ·congr 1
         rw[hcell]
         congr 1
         have hlv:off <vs.length:=by rw[hall.1];exact hlt
         simp only[AN,AUO,AVA];rw[AWI,if_pos hlv];simp
       ·exact(Dm g w b _).mono (C4 O hg hbm)
      |const v=>simp[oe]at hk
      |global g=>simp[oe]at hk
      |func f=>simp[oe]at hk
     ·cases hs
    ·cases hs
   ·rename_i bb e sz xs hown;split at hs
    ·rename_i m;split at hs
     ·rename_i hcond;obtain⟨hlt,rfl⟩:=hcond;simp only[AT0]at hs;subst hs;cases x with
      |tmp m'=>
       have:m'=m:=by simpa[oe]using hk
       subst this;have hfind:AH s.e m'= .pend bb e sz xs:=by simpa[Opd.ev]using hown
       have hrep:RepE g w μ (.pend bb e sz xs) (a.tmps.getD m' undef):=by have:=hg.inv.rep m';rw[hfind]at this;exact this
       have hone1:(a.tmps.getD m' undef).oneCell'=true:=by
        obtain⟨cap,h,_⟩:=hrep;rw[h];rfl
       have hcell:(a.tmps.getD m' undef).cells= #[a.tmps.getD m' undef]:=Fd hone1;have hgive:=hg.inv.giveD hr hb hheap hlt hfind hrep rfl hone1 (d1:= .pptr bb 0 xs.length) (λw'=>by
        obtain⟨cap,h,_⟩:=hrep;exact .inl ⟨rfl,cap,h⟩) (λj=>by cases j<;>simp[Ab,AZ])
       refine⟨undef,_,g,μ,.inr ⟨hrun (a.tmps.getD m' undef) rfl (by rw[hcell];rfl) (by rw[hall.1];omega) (by rw[hcell];simpa using hone1),rfl⟩,⟨?_,hg.glob,by rw[Ay,hg.sz]⟩,?_,AT8 _⟩
       ·rw[ho];refine Eq.mp ?_ hgive
        congr 1
        ·congr 1
         rw[hcell]
         congr 1
         have hlv:off <vs.length:=by rw[hall.1];exact hlt
         simp only[AN,AUO,AVA];rw[AWI,if_pos hlv];simp
       ·exact(Dm g w b _).mono (C4 O hg hbm)
      |const v=>simp[oe]at hk
      |global g=>simp[oe]at hk
      |func f=>simp[oe]at hk
     ·cases hs
    ·cases hs
   ·rename_i dd hne _;split at hs
    ·rename_i cs hcs;split at hs
     ·rename_i hcond;simp only[AT0]at hs;subst hs;obtain⟨r1,r2,r3⟩:=Ln hrx.copy hcs;have hlen:(a.eval x).cells.size=n:=by have:=r1.1;simp at this;omega
      have hvl:vs.length=ds.length:=hall.1;have hcl:cs.length=n:=hcond.1;refine⟨undef,_,g,μ,.inr ⟨hrun (a.eval x) rfl hlen (by omega) r2,rfl⟩,⟨?_,hg.glob,by rw[Ay,hg.sz]⟩,(Dm g w b _).mono (C4 O hg hbm),AT8 _⟩;rw[ho];refine hg.inv.storeRow hr hb hheap _ (AN vs off (a.eval x).cells.toList) (hall.putL r1 off) (λv hv=>(KF hv).elim (hone v) (r2 v)) ?_;intro i z v hz hv;rw[E0 _ _ _ (by simp;omega)]at hz hv;have hl1:(cs.map D.toRow).length=n:=by simp[hcl]
      have hl2:(a.eval x).cells.toList.length=n:=by simpa using hlen
      rw[hl1]at hz;rw[hl2]at hv;by_cases c1:i <off
      ·simp only[c1,if_true]at hz hv;exact .inr ⟨hz,hv⟩
      ·by_cases c2:i <off+n
       ·simp only[c1,c2,if_true,if_false]at hz hv;exact .inl (r3 _ z v hz hv)
       ·simp only[c1,c2,if_false]at hz hv;exact .inr ⟨hz,hv⟩
     ·cases hs
    ·cases hs
  ·cases hs
 ·cases hs
theorem uX {o:Oper} {d t el:Nat} {p:Operand} {p':Opd} (ho:o.dst=some d) (hop:o.op= .load t p) (hd:d <N) (hp:oe GL p p'=true) (hu:P.underlying t=some (.slice el)):
  DL P GL N o (.take d p'):=by
 intro g w μ s s' a O hg hs;simp only[AI.step]at hs;have hrp:=(hg.gd P).ev hp;split at hs
 ·rename_i r off hc;rw[hc]at hrp;obtain⟨b,hb,hpv⟩:=hrp;split at hs
  ·rename_i ds hr;obtain⟨vs,T,hheap,hall,hone,hgn⟩:=hg.inv.row hb hr;split at hs
   ·rename_i e sz xs hk;simp only[AT0]at hs;subst hs;obtain⟨v,hv,_⟩:=hall.get hk;have hcell:w.cell? ⟨b,off,none⟩=some v:=by simp[World.cell?,hheap,hv]
    have hcu:A0 w μ r off=v:=Cs hb hheap hv;refine⟨v,w,g,μ,.inl ?_,⟨?_,hg.glob,by rw[Ay,hg.sz]⟩,Chg.refl _ _ _,AT8 _⟩
    ·have hag:(isAgg t).run P w= .ok false w:=by simp[isAgg,run_underlying hu]
     simp[execOp,hop,hpv,Instr.loadAt,Instr.sureAddr,loadVar,hag,hcell]
    ·rw[ho,DC _ (hg.sz▸hd),←hcu];exact hg.inv.take hr hk
   ·cases hs
  ·cases hs
 ·cases hs
end
def A8 (n:Nat) (vs:Nat→Value):List Value:=(List.range n).flatMap λi=>(vs i).cells.toList
theorem Lc (n:Nat) (vs:Nat→Value):A8 (n+1) vs=A8 n vs++(vs n).cells.toList:=by simp[A8,AU0]
theorem Cd {n s:Nat} {vs:Nat→Value} (h:∀i,i <n→(vs i).cells.size=s):(A8 n vs).length=n*s:=by
 induction n with
 |zero=>simp[A8]
 |succ n ih=>rw[Lc,AT5,ih λi hi=>h i (by omega),AUo];simp[h n (by omega)]
theorem DU {n s:Nat} {vs:Nat→Value} (h:∀i,i <n→(vs i).cells.size=s) {i j:Nat} (hi:i <n) (hj:j <s):(A8 n vs)[i*s+j]?=(vs i).cells.toList[j]?:=by
 induction n with
 |zero=>omega
 |succ n ih=>
  have hl:=Cd λi (hi:i <n)=>h i (by omega);rw[Lc];by_cases h1:i <n
  ·have:i*s+j <n*s:=by
    have:(i+1)*s≤n*s:=AVS s h1;rw[AUo]at this;omega
   rw[AUQ (by rw[hl];exact this)];exact ih (λi hi=>h i (by omega)) h1
  ·have:i=n:=by omega
   subst this;rw[AUa (by rw[hl];omega),hl]
   congr 1;omega
theorem H4 {n:Nat} {vs:Nat→Value} {v:Value} (h:v∈A8 n vs):∃i,i <n∧v∈(vs i).cells.toList:=by
 simp only[A8,AUp,AUR]at h;exact h
theorem MQ {n s:Nat} {vs:Nat→Value} (hs:0 <s) (h:∀i,i <n→(vs i).cells.size=s) {f:Nat→Option Value} {o:Nat}
  (hf:∀i,i <n→∀(j:Nat) v,(vs i).cells.toList[j]?=some v→f (o+i*s+j)=some v):∀(k:Nat) v,(A8 n vs)[k]?=some v→f (o+k)=some v:=by
 intro k v hv;have hl:=Cd h;have hk:=(AT4.1 hv).1;rw[hl]at hk;have hq:k/s <n:=Nat.div_lt_of_lt_mul (by rw[Nat.mul_comm];exact hk);have hm:=Nat.mod_lt k hs;have he:k/s*s+k%s=k:=by rw[Nat.mul_comm];exact Nat.div_add_mod k s
 rw[←he,DU h hq hm]at hv;have:=hf _ hq _ v hv
 rwa [Nat.add_assoc,he]at this
section
variable {P:Program} {GL:AX} {N:Nat}
structure Src (P:Program) (w:World) (size:Nat) (src:Value) (n:Nat) (newc:List Value):Prop where
 len:∀w',(Builtin.lenOf src).run P w'= .ok n w'
 cells:(Builtin.firstCells size n src).run P w= .ok newc.toArray w
 drew:(Builtin.firstCells size n src).run P w.drew= .ok newc.toArray w.drew
theorem Hd {w:World} {t t2 ty e:Nat} {i:TypeInfo} {d2:TypeDesc} (ht:P.underlying t=some (.slice e)) (ht2:P.underlying t2=some d2) (hd2:∀k,d2≠ .int k) (hi:P.info? e=some i)
  {src:Value} {newc:List Value} (hsrc:Src P w i.size src 0 newc) (hn:newc=[]) (base:Option Addr) (len cap:Nat) (hc:len≤cap):
  (Builtin.append_ #[t,t2] ty #[.slice base len cap,src]).run P w= .ok (.slice base len cap) w:=by
 have hz:(match (generalizing:=false) d2 with| .int _=>true|_=>false)=false:=by cases d2<;>first|rfl|exact absurd rfl (hd2 _)
 cases base<;>simp[Builtin.append_,run_underlying ht,run_underlying ht2,sizeOf,typeInfo,hi,hz,hsrc.len,hsrc.cells,hc,hn,storeCells]
theorem He {w:World} {t t2 ty e:Nat} {i:TypeInfo} {d2:TypeDesc} (ht:P.underlying t=some (.slice e)) (ht2:P.underlying t2=some d2) (hd2:∀k,d2≠ .int k) (hi:P.info? e=some i)
  {src:Value} {n:Nat} {newc:List Value} (hsrc:Src P w i.size src n newc) {g len cap:Nat} {cur:Array Value} (hg:w.heap[g]?=some (.cells cur e (0,0))) (hroom:len+n≤cap)
  (hfit:len*i.size+newc.length≤cur.size) (h1:∀v∈newc,v.oneCell'=true):
  (Builtin.append_ #[t,t2] ty #[.slice (some ⟨g,0,none⟩) len cap,src]).run P w=
   .ok (.slice (some ⟨g,0,none⟩) (len+n) cap) (w.setRow g (AN cur.toList (len*i.size) newc).toArray):=by
 have hz:(match (generalizing:=false) d2 with| .int _=>true|_=>false)=false:=by cases d2<;>first|rfl|exact absurd rfl (hd2 _)
 have hst:=run_storeCells_at P g (len*i.size) e newc 0 cur w hg (by simpa using hfit) h1;simp only[AVR]at hst;have hadd:(⟨g,0,none⟩:Addr).add (len*i.size)=⟨g,len*i.size,none⟩:=by rw[CI rfl];simp
 simp[Builtin.append_,run_underlying ht,run_underlying ht2,sizeOf,typeInfo,hi,hz,hsrc.len,hsrc.cells,hroom,hadd,hst,AN]
theorem FE {w:World} {t t2 ty e:Nat} {i:TypeInfo} {z:Value} {d2:TypeDesc} (ht:P.underlying t=some (.slice e)) (ht2:P.underlying t2=some d2) (hd2:∀k,d2≠ .int k) (hi:P.info? e=some i)
  (hz:i.zero=some z) {src:Value} {n:Nat} {newc:List Value} (hsrc:Src P w i.size src n newc) {base:Option Addr} {len cap:Nat} {olds:List Value}
  (hold:∀w',(∀b o,w'.cell? ⟨b,o,none⟩=w.cell? ⟨b,o,none⟩)→(Builtin.firstCells i.size len (.slice base len cap)).run P w'= .ok olds.toArray w')
  (hgr:cap <len+n) (h63:((len+n:Nat):Int)≤9223372036854775807) (hfit:Builtin.nextslicecap (len+n) cap*i.bytes≤281474976710656):
  (Builtin.append_ #[t,t2] ty #[.slice base len cap,src]).run P w=
   .ok (.slice (some ⟨w.heap.size,0,none⟩) (len+n) (grownCap w (len+n) cap e))
    (w.drew.alloc (.cells (olds.toArray++newc.toArray++Builtin.zeroCells z.cells (grownCap w (len+n) cap e-(len+n))) e)):=by
 have hzz:(match (generalizing:=false) d2 with| .int _=>true|_=>false)=false:=by cases d2<;>first|rfl|exact absurd rfl (hd2 _)
 have hn:¬(len+n≤cap):=by omega
 have h63':¬(9223372036854775807 <((len:Int)+(n:Int))):=by omega
 have h48':¬(281474976710656 <Builtin.nextslicecap (len+n) cap*i.bytes):=by omega
 have ho:=hold w.drew λ_ _=>rfl;simp[Builtin.append_,run_underlying ht,run_underlying ht2,sizeOf,typeInfo,zeroValue,hi,hz,hzz,hsrc.len,hn,h63',h48',Question.forced,ho,hsrc.drew,newRow,grownCap];rw[←Array.append_assoc];simp
theorem HK {n by_ cap:Nat} (h:Ae n by_=true) (hc:cap <n):((n:Nat):Int)≤9223372036854775807∧Builtin.nextslicecap n cap*by_≤281474976710656:=by
 simp only[Ae,decide_eq_true_eq]at h;exact⟨by omega,growslice_fits hc h.1⟩
theorem PM {g:Gh} {w:World} {μ:List Nat} {s:St} {a:Act} {O:Nat→Prop} (hg:Gs GL N g w μ s a O) {t t2 ty e:Nat} {i:TypeInfo} {z:Value} {d2:TypeDesc}
  (ht:P.underlying t=some (.slice e)) (ht2:P.underlying t2=some d2) (hd2:∀k,d2≠ .int k) (hi:P.info? e=some i) (hz:i.zero=some z) (hzs:z.cells.size=i.size) (hs0:0 <i.size)
  {x:Operand} {q:Opd} (hk:oe GL x q=true) {xs:List V} (hx:EN e i.size (q.ev s.e)=some xs) (hmv:∀e' s' ys,q.ev s.e= .own e' s' ys→(∃m,q= .t m true)∨a.eval x= .slice none 0 0)
  {src:Value} {ys:List V} {vy:Nat→Value} (hsrc:Src P w i.size src ys.length (A8 ys.length vy)) (hyr:∀j y,ys[j]?=some y→RepV g y (vy j)) (hyz:∀j,j <ys.length→(vy j).cells.size=i.size)
  (hy1:∀j,j <ys.length→∀v∈(vy j).cells.toList,v.oneCell'=true) (hroom:Ae (xs.length+ys.length) i.bytes=true) {d:Nat} (hd:d <N):
  ∃v w' g',(Builtin.append_ #[t,t2] ty #[a.eval x,src]).run P w= .ok v w'∧Gs GL N g' w' μ ⟨(d,.own e i.size (xs++ys))::q.clear s.e,s.h⟩ (a.put (some d) v) O∧Chg (λb=>¬O b) g w g' w':=by
 have hfl:(A8 ys.length vy).length=ys.length*i.size:=Cd hyz;have hf1:∀v∈A8 ys.length vy,v.oneCell'=true:=λv hv=>by obtain⟨j,hj,hm⟩:=H4 hv;exact hy1 j hj v hm
 have hclear:AH (q.clear s.e)=AH s.e∨∃m,q= .t m true∧AH (q.clear s.e)=λn=>if m=n then .any else AH s.e n:=by
  cases q with
  |t m mv=>cases mv with
   |false=>exact .inl rfl
   |true=>exact .inr ⟨m,rfl,rfl⟩
  |c d=>exact .inl rfl
  |g n cs=>exact .inl rfl
 have hInvC:Inv g w μ (AH (q.clear s.e)) (λn=>a.tmps.getD n undef) s.h O:=by
  rcases hclear with h|⟨m,_,h⟩
  ·rw[h];exact hg.inv
  ·rw[h];refine hg.inv.weaken _ λn=>?_;by_cases hn:m=n
   ·exact .inr ⟨λv _=>by simp[hn,RepD,RepG,RepE],λv k=>by simp only[hn,if_true];cases k<;>simp[Ab,AZ]⟩
   ·exact .inl (by simp[hn])
 have newA:∀(base:Option Addr) (cap:Nat) (olds:List Value) (vs:Nat→Value),a.eval x= .slice base xs.length cap→cap <xs.length+ys.length→
   (∀j y,xs[j]?=some y→RepV g y (vs j))→(∀j,j <xs.length→(vs j).cells.size=i.size)→olds=A8 xs.length vs→
   (∀w',(∀b o,w'.cell? ⟨b,o,none⟩=w.cell? ⟨b,o,none⟩)→(Builtin.firstCells i.size xs.length (.slice base xs.length cap)).run P w'= .ok olds.toArray w')→
   ∃v w' g',(Builtin.append_ #[t,t2] ty #[a.eval x,src]).run P w= .ok v w'∧Gs GL N g' w' μ ⟨(d,.own e i.size (xs++ys))::q.clear s.e,s.h⟩ (a.put (some d) v) O∧Chg (λb=>¬O b) g w g' w':=by
  intro base cap olds vs hev hgr hvr hvz hol hold;obtain⟨hf63,hfit⟩:=HK hroom hgr;have hrun:=FE (ty:=ty) ht ht2 hd2 hi hz hsrc hold hgr hf63 hfit;have hge:=grownCap_ge w (xs.length+ys.length) cap e;have hol2:olds.length=xs.length*i.size:=by rw[hol];exact Cd hvz
  have hcl:(olds++A8 ys.length vy).length=(xs.length+ys.length)*i.size:=by rw[AT5,hol2,hfl,AUo]
  let w':=w.drew.alloc (.cells (olds.toArray++(A8 ys.length vy).toArray++Builtin.zeroCells z.cells (grownCap w (xs.length+ys.length) cap e-(xs.length+ys.length))) e)
  let g':=g.put w.heap.size 0 (olds++A8 ys.length vy)
  have hnone:∀o,g.m w.heap.size o=none:=λo=>Gh.lt_of hg.inv.agree (AT6 _) o;have hgle:g.le g':=Gh.le_put _ λo _ _=>hnone o;have hheap:w'.heap[w.heap.size]?=some (.cells (olds.toArray++(A8 ys.length vy).toArray++Builtin.zeroCells z.cells (grownCap w (xs.length+ys.length) cap e-(xs.length+ys.length))) e (0,0)):=
   heap_alloc_new w.drew _
  have hchg:Chg (λ_=>False) g w g' w':=
   ⟨hgle,by simp[w'],λb hb _=>heap_alloc_old w.drew _ b hb,λb hb _ o=>Gh.put_other (by omega) o,rfl,rfl⟩
  have hag:∀b o v,g'.m b o=some v→w'.cell? ⟨b,o,none⟩=some v:=by
   intro b o v hv;simp only[g',Gh.put]at hv;split at hv
   ·rename_i hc;obtain⟨rfl,_,hc2⟩:=hc;simp only[AVn]at hv;rw[cell_of_row w' w.heap.size o _ e (0,0) hheap];simp only[←AUl,Array.toList_append,AUB];rw[←AUB,AUQ (by simpa using hc2)];exact hv
   ·exact Ct (w:=w.drew) hg.inv.agree _ b o v hv
  have hrep:RepOwn g' w' e i.size (xs++ys) (.slice (some ⟨w.heap.size,0,none⟩) (xs.length+ys.length) (grownCap w (xs.length+ys.length) cap e)):=by
   refine .inr ⟨w.heap.size,_,_,λj=>if j <xs.length then vs j else vy (j-xs.length),by rw[AT5],by omega,hheap,by rw[AT5];exact hge,?_,?_,?_,?_⟩
   ·simp only[Array.size_append,AVT,size_zeroCells,hzs,hol2,hfl,←AUo]
    congr 1;omega
   ·intro j y hj;by_cases hlt:j <xs.length
    ·simp only[hlt,if_true];rw[AUQ hlt]at hj;exact(hvr j y hj).mono hgle
    ·simp only[hlt,if_false];rw[AUa (by omega)]at hj;exact(hyr _ y hj).mono hgle
   ·intro j hj;rw[AT5]at hj;by_cases hlt:j <xs.length
    ·simp only[hlt,if_true];refine⟨hvz j hlt,λk v hv=>?_⟩;have hk:=(AT4.1 hv).1;have hks:k <i.size:=by have:=hvz j hlt;simp at hk;omega
     have:=Gh.put_at g w.heap.size 0 (olds++A8 ys.length vy) (j*i.size+k) v (by
      have hb:j*i.size+k <xs.length*i.size:=by
       have:(j+1)*i.size≤xs.length*i.size:=AVS _ hlt;rw[AUo]at this;omega
      rw[AUQ (by rw[hol2];exact hb),hol,DU hvz hlt hks];exact hv)
     simpa using this
    ·simp only[hlt,if_false];have hjl:j-xs.length <ys.length:=by omega
     refine⟨hyz _ hjl,λk v hv=>?_⟩;have hk:=(AT4.1 hv).1;have hks:k <i.size:=by have:=hyz _ hjl;simp at hk;omega
     have hje:j*i.size=xs.length*i.size+(j-xs.length)*i.size:=by rw[←AUo];congr 1;omega
     have:=Gh.put_at g w.heap.size 0 (olds++A8 ys.length vy) (j*i.size+k) v (by
      rw[AUa (by rw[hol2];omega),hol2,show j*i.size+k-xs.length*i.size=(j-xs.length)*i.size+k by omega,DU hyz hjl hks];exact hv)
     simpa using this
   ·intro o ho;simp only[g',Gh.put];rw[if_neg,hnone o];rw[hcl];rw[AT5]at ho;omega
  refine⟨_,w',g',by rw[hev];exact hrun,⟨?_,hg.glob.mono hgle,by rw[Ay,hg.sz]⟩,hchg.mono λ_ h=>h.elim⟩;rw[DC _ (hg.sz▸hd)];refine hInvC.newOwn hchg hag hrep λb hb=>?_;simp only[AZ]at hb;split at hb
  ·cases hb
  ·simp only[AT0]at hb;omega
 have same:∀(base:Option Addr) (cap:Nat),a.eval x= .slice base xs.length cap→xs.length≤cap→ys=[]→
   (Gs GL N g w μ ⟨(d,.own e i.size (xs++ys))::q.clear s.e,s.h⟩ (a.put (some d) (a.eval x)) O)→
   ∃v w' g',(Builtin.append_ #[t,t2] ty #[a.eval x,src]).run P w= .ok v w'∧Gs GL N g' w' μ ⟨(d,.own e i.size (xs++ys))::q.clear s.e,s.h⟩ (a.put (some d) v) O∧Chg (λb=>¬O b) g w g' w':=by
  intro base cap hev hc hy0 hgs;subst hy0;exact⟨a.eval x,w,g,by rw[hev];exact Hd ht ht2 hd2 hi hsrc rfl base _ _ hc,hgs,Chg.refl _ _ _⟩
 have empty:∀base:Option Addr,a.eval x= .slice base 0 0→xs=[]→(∀y,base=some y→y.spot=none)→
   ∃v w' g',(Builtin.append_ #[t,t2] ty #[a.eval x,src]).run P w= .ok v w'∧Gs GL N g' w' μ ⟨(d,.own e i.size (xs++ys))::q.clear s.e,s.h⟩ (a.put (some d) v) O∧Chg (λb=>¬O b) g w g' w':=by
  intro base hev hx0 hsp;subst hx0;by_cases hy0:ys=[]
  ·refine same base 0 hev (AT6 _) hy0 ⟨?_,hg.glob,by rw[Ay,hg.sz]⟩;rw[DC _ (hg.sz▸hd),hev];subst hy0;refine hInvC.set (x:= .own e i.size []) (.inl ⟨base,rfl,rfl,hsp⟩) λk=>?_;cases k<;>cases base<;>simp[Ab,AZ]
  ·have hpos:0 <ys.length:=List.length_pos_iff.2 hy0;refine newA base 0 [] (λ_=> .bool true) hev (by simpa using hpos) (by simp) (by simp) (by simp[A8]) λw' _=>?_;cases base<;>simp[Builtin.firstCells,loadCells,loadCellsFrom]
 have hrq:=(hg.gd P).ev hk;unfold EN at hx;split at hx
 ·rename_i e' s' xs' hqe;split at hx
  ·rename_i hes;obtain⟨rfl,rfl⟩:=hes;simp only[AT0]at hx;subst hx;rw[hqe]at hrq;rcases hrq with ⟨base,hev,hx0,hsp⟩|⟨b,cap,cur,vs,hev,hcap,hheap,hlc,hcs,hvr,hvz,hvn⟩
   ·exact empty base hev hx0 hsp
   ·have hold:∀w',(∀b o,w'.cell? ⟨b,o,none⟩=w.cell? ⟨b,o,none⟩)→(Builtin.firstCells i.size xs'.length (.slice (some ⟨b,0,none⟩) xs'.length cap)).run P w'= .ok (A8 xs'.length vs).toArray w':=by
     intro w' hw';refine run_firstCells_some (P:=P) w' i.size xs'.length ⟨b,0,none⟩ _ _ _ (Cd λj hj=>(hvz j hj).1) λk v hv=>?_;rw[CI rfl,hw'];refine MQ (f:=λo=>w.cell? ⟨b,o,none⟩) (o:=0) hs0 (λj hj=>(hvz j hj).1) (λj hj k v hv=>?_) k v hv;have:=hg.inv.agree b _ v ((hvz j hj).2 k v hv);simpa using this
    by_cases hrm:xs'.length+ys.length≤cap
    ·rcases hmv e' i.size xs' hqe with ⟨m,rfl⟩|hnil
     ·cases x with
      |tmp m'=>
       have hmm:m'=m:=by simpa[oe]using hk
       subst hmm;have hfind:AH s.e m'= .own e' i.size xs':=by simpa[Opd.ev]using hqe
       have hevt:a.tmps.getD m' undef= .slice (some ⟨b,0,none⟩) xs'.length cap:=hev;have hbo:AZ (AH s.e m') (a.tmps.getD m' undef)=some b:=by rw[hfind,hevt];simp[AZ];omega
       have hfit:xs'.length*i.size+(A8 ys.length vy).length≤cur.size:=by rw[hfl,hcs,←AUo];exact AVS _ hrm
       have hrun:=He (ty:=ty) ht ht2 hd2 hi hsrc hheap hrm hfit hf1
       let w':=w.setRow b (AN cur.toList (xs'.length*i.size) (A8 ys.length vy)).toArray
       let g':=g.put b (xs'.length*i.size) (A8 ys.length vy)
       have hgle:g.le g':=Gh.le_put _ λo h1 _=>hvn o h1;have hheap':w'.heap[b]?=some (.cells (AN cur.toList (xs'.length*i.size) (A8 ys.length vy)).toArray e' (0,0)):=setRow_heap w b _ _ _ _ hheap;have hchg:Chg (λz=>z=b) g w g' w':=⟨hgle,by simp[w'],λb' _ hb'=>setRow_other w b b' _ hb',λb' _ hb' o=>Gh.put_other hb' o,rfl,rfl⟩;have hag:∀b' o v,g'.m b' o=some v→w'.cell? ⟨b',o,none⟩=some v:=by
        intro b' o v hv;by_cases hb':b'=b
        ·subst hb';rw[cell_of_row w' b' o _ _ _ hheap',←AUl,AVm,E0 _ _ _ (by simpa using hfit)];simp only[g',Gh.put]at hv;split at hv
         ·rename_i hc;rw[if_neg (by omega),if_pos hc.2.2];exact hv
         ·rename_i hc;have hc1:o <xs'.length*i.size:=by
           rcases AUS o (xs'.length*i.size)with h|h
           ·exact h
           ·rw[hvn o h]at hv;cases hv
          rw[if_pos hc1];have:=hg.inv.agree b' o v hv;rw[cell_of_row w b' o _ _ _ hheap]at this;rw[AUl];exact this
        ·simp only[g',Gh.put_other hb']at hv;rw[World.cell?_of_block (a:=⟨b',o,none⟩) (setRow_other w b b' _ hb')];exact hg.inv.agree b' o v hv
       have hrep:RepOwn g' w' e' i.size (xs'++ys) (.slice (some ⟨b,0,none⟩) (xs'.length+ys.length) cap):=by
        refine .inr ⟨b,_,_,λj=>if j <xs'.length then vs j else vy (j-xs'.length),by rw[AT5],hcap,hheap',by rw[AT5];exact hrm,?_,?_,?_,?_⟩
        ·simp only[AVT];rw[Ef _ _ _ (by simpa using hfit)];simpa using hcs
        ·intro j y hj;by_cases hlt:j <xs'.length
         ·simp only[hlt,if_true];rw[AUQ hlt]at hj;exact(hvr j y hj).mono hgle
         ·simp only[hlt,if_false];rw[AUa (by omega)]at hj;exact(hyr _ y hj).mono hgle
        ·intro j hj;rw[AT5]at hj;by_cases hlt:j <xs'.length
         ·simp only[hlt,if_true];exact⟨(hvz j hlt).1,(hvz j hlt).2.mono hgle⟩
         ·simp only[hlt,if_false];have hjl:j-xs'.length <ys.length:=by omega
          refine⟨hyz _ hjl,λk v hv=>?_⟩;have hk:=(AT4.1 hv).1;have hks:k <i.size:=by have:=hyz _ hjl;simp at hk;omega
          have hje:j*i.size=xs'.length*i.size+(j-xs'.length)*i.size:=by rw[←AUo];congr 1;omega
          have:=Gh.put_at g b (xs'.length*i.size) (A8 ys.length vy) ((j-xs'.length)*i.size+k) v (by rw[DU hyz hjl hks];exact hv)
          rwa [←Nat.add_assoc,←hje]at this
        ·intro o ho;rw[AT5,AUo]at ho;simp only[g',Gh.put];rw[if_neg (by rw[hfl];omega)];exact hvn o (by omega)
       refine⟨_,w',g',by rw[hev];exact hrun,⟨?_,hg.glob.mono hgle,by rw[Ay,hg.sz]⟩,hchg.mono λz hz ho=>?_⟩
       ·rw[DC _ (hg.sz▸hd)];exact hg.inv.growOwn (n:=m') hbo hchg hag hrep (by simp[AZ];omega)
       ·subst hz;exact(hg.inv.sep (.tmp m' 0) z (by
         simp only[blk,hfind,hevt,Ab,AZ];rw[if_neg (by omega)])).2 ho
      |const v=>simp[oe]at hk
      |global g=>simp[oe]at hk
      |func f=>simp[oe]at hk
     ·rw[hnil]at hev;cases hev
    ·exact newA _ cap _ vs hev (by omega) hvr (λj hj=>(hvz j hj).1) rfl hold
  ·cases hx
 ·rename_i e' s' hqe;simp only[AT0]at hx;rw[hqe]at hrq;obtain⟨base,hev,hsp⟩:=hrq;exact empty base hev hx.symm hsp
 ·cases hx
theorem Wu {g:Gh} {w:World} {μ:List Nat} {s:St} {a:Act} {O:Nat→Prop} (hg:Gs GL N g w μ s a O) {t t2 ty e:Nat} {i:TypeInfo} {z:Value} {d2:TypeDesc}
  (ht:P.underlying t=some (.slice e)) (ht2:P.underlying t2=some d2) (hd2:∀k,d2≠ .int k) (hi:P.info? e=some i) (hz:i.zero=some z) (hzs:z.cells.size=i.size) (hs0:0 <i.size)
  {x:Operand} {q:Opd} (hk:oe GL x q=true) {xs:List V} (hx:EN e i.size (q.ev s.e)=some xs) (hmv:∀e' s' ys,q.ev s.e= .own e' s' ys→(∃m,q= .t m true)∨a.eval x= .slice none 0 0)
  {src:Value} {vy:Nat→Value} (hsrc:Src P w i.size src 1 (A8 1 vy)) (hyz:∀j,j <1→(vy j).cells.size=i.size)
  (hy1:∀j,j <1→∀v∈(vy j).cells.toList,v.oneCell'=true) (hroom:Ae (xs.length+1) i.bytes=true) {d:Nat} (hd:d <N):
  ∃v w' g' b,(Builtin.append_ #[t,t2] ty #[a.eval x,src]).run P w= .ok v w'∧Gs GL N g' w' μ ⟨(d,.pend b e i.size xs)::q.clear s.e,s.h⟩ (a.put (some d) v) O∧Chg (λb=>¬O b) g w g' w':=by
 have hfl:(A8 1 vy).length=1*i.size:=Cd hyz;have hf1:∀v∈A8 1 vy,v.oneCell'=true:=λv hv=>by obtain⟨j,hj,hm⟩:=H4 hv;exact hy1 j hj v hm
 have hclear:AH (q.clear s.e)=AH s.e∨∃m,q= .t m true∧AH (q.clear s.e)=λn=>if m=n then .any else AH s.e n:=by
  cases q with
  |t m mv=>cases mv with
   |false=>exact .inl rfl
   |true=>exact .inr ⟨m,rfl,rfl⟩
  |c d=>exact .inl rfl
  |g n cs=>exact .inl rfl
 have hInvC:Inv g w μ (AH (q.clear s.e)) (λn=>a.tmps.getD n undef) s.h O:=by
  rcases hclear with h|⟨m,_,h⟩
  ·rw[h];exact hg.inv
  ·rw[h];refine hg.inv.weaken _ λn=>?_;by_cases hn:m=n
   ·exact .inr ⟨λv _=>by simp[hn,RepD,RepG,RepE],λv k=>by simp only[hn,if_true];cases k<;>simp[Ab,AZ]⟩
   ·exact .inl (by simp[hn])
 have newA:∀(base:Option Addr) (cap:Nat) (olds:List Value) (vs:Nat→Value),a.eval x= .slice base xs.length cap→cap <xs.length+1→
   (∀j y,xs[j]?=some y→RepV g y (vs j))→(∀j,j <xs.length→(vs j).cells.size=i.size)→olds=A8 xs.length vs→
   (∀w',(∀b o,w'.cell? ⟨b,o,none⟩=w.cell? ⟨b,o,none⟩)→(Builtin.firstCells i.size xs.length (.slice base xs.length cap)).run P w'= .ok olds.toArray w')→
   ∃v w' g' b,(Builtin.append_ #[t,t2] ty #[a.eval x,src]).run P w= .ok v w'∧Gs GL N g' w' μ ⟨(d,.pend b e i.size xs)::q.clear s.e,s.h⟩ (a.put (some d) v) O∧Chg (λb=>¬O b) g w g' w':=by
  intro base cap olds vs hev hgr hvr hvz hol hold;obtain⟨hf63,hfit⟩:=HK hroom hgr;have hrun:=FE (ty:=ty) ht ht2 hd2 hi hz hsrc hold hgr hf63 hfit;have hge:=grownCap_ge w (xs.length+1) cap e;have hol2:olds.length=xs.length*i.size:=by rw[hol];exact Cd hvz
  let w':=w.drew.alloc (.cells (olds.toArray++(A8 1 vy).toArray++Builtin.zeroCells z.cells (grownCap w (xs.length+1) cap e-(xs.length+1))) e)
  let g':=g.put w.heap.size 0 olds
  have hnone:∀o,g.m w.heap.size o=none:=λo=>Gh.lt_of hg.inv.agree (AT6 _) o;have hgle:g.le g':=Gh.le_put _ λo _ _=>hnone o;have hheap:w'.heap[w.heap.size]?=some (.cells (olds.toArray++(A8 1 vy).toArray++Builtin.zeroCells z.cells (grownCap w (xs.length+1) cap e-(xs.length+1))) e (0,0)):=
   heap_alloc_new w.drew _
  have hchg:Chg (λ_=>False) g w g' w':=
   ⟨hgle,by simp[w'],λb hb _=>heap_alloc_old w.drew _ b hb,λb hb _ o=>Gh.put_other (by omega) o,rfl,rfl⟩
  have hag:∀b o v,g'.m b o=some v→w'.cell? ⟨b,o,none⟩=some v:=by
   intro b o v hv;simp only[g',Gh.put]at hv;split at hv
   ·rename_i hc;obtain⟨rfl,_,hc2⟩:=hc;simp only[AVn]at hv;rw[cell_of_row w' w.heap.size o _ e (0,0) hheap];simp only[←AUl,Array.toList_append,AUB];rw[AUQ (by simpa using hc2)];simpa using hv
   ·exact Ct (w:=w.drew) hg.inv.agree _ b o v hv
  have hrep:RepOwn g' w' e i.size xs (.slice (some ⟨w.heap.size,0,none⟩) xs.length (grownCap w (xs.length+1) cap e)):=by
   refine .inr ⟨w.heap.size,_,_,vs,rfl,by omega,hheap,by omega,?_,?_,?_,?_⟩
   ·simp only[Array.size_append,AVT,size_zeroCells,hzs,hol2,hfl,←AUo]
    congr 1;omega
   ·intro j y hj;exact(hvr j y hj).mono hgle
   ·intro j hlt;refine⟨hvz j hlt,λk v hv=>?_⟩;have hk:=(AT4.1 hv).1;have hks:k <i.size:=by have:=hvz j hlt;simp at hk;omega
    have:=Gh.put_at g w.heap.size 0 olds (j*i.size+k) v (by rw[hol,DU hvz hlt hks];exact hv);simpa using this
   ·intro o ho;simp only[g',Gh.put];rw[if_neg,hnone o];rw[hol2];omega
  refine⟨_,w',g',w.heap.size,by rw[hev];exact hrun,⟨?_,hg.glob.mono hgle,by rw[Ay,hg.sz]⟩,hchg.mono λ_ h=>h.elim⟩;rw[DC _ (hg.sz▸hd)];exact hInvC.newD (d0:= .pend w.heap.size e i.size xs) hchg hag ⟨_,rfl,hge,hrep⟩ (λk=>by cases k<;>rfl) λb hb=>by
   simp only[AZ,AT0]at hb;omega
 have hrq:=(hg.gd P).ev hk;have empty:∀base:Option Addr,a.eval x= .slice base 0 0→xs=[]→(∀y,base=some y→y.spot=none)→
   ∃v w' g' b,(Builtin.append_ #[t,t2] ty #[a.eval x,src]).run P w= .ok v w'∧Gs GL N g' w' μ ⟨(d,.pend b e i.size xs)::q.clear s.e,s.h⟩ (a.put (some d) v) O∧Chg (λb=>¬O b) g w g' w':=by
  intro base hev hx0 hsp;subst hx0;refine newA base 0 [] (λ_=> .bool true) hev (by simp) (by simp) (by simp) (by simp[A8]) λw' _=>?_;cases base<;>simp[Builtin.firstCells,loadCells,loadCellsFrom]
 unfold EN at hx;split at hx
 ·rename_i e' s' xs' hqe;split at hx
  ·rename_i hes;obtain⟨rfl,rfl⟩:=hes;simp only[AT0]at hx;subst hx;rw[hqe]at hrq;rcases hrq with ⟨base,hev,hx0,hsp⟩|⟨b,cap,cur,vs,hev,hcap,hheap,hlc,hcs,hvr,hvz,hvn⟩
   ·exact empty base hev hx0 hsp
   ·have hold:∀w',(∀b o,w'.cell? ⟨b,o,none⟩=w.cell? ⟨b,o,none⟩)→(Builtin.firstCells i.size xs'.length (.slice (some ⟨b,0,none⟩) xs'.length cap)).run P w'= .ok (A8 xs'.length vs).toArray w':=by
     intro w' hw';refine run_firstCells_some (P:=P) w' i.size xs'.length ⟨b,0,none⟩ _ _ _ (Cd λj hj=>(hvz j hj).1) λk v hv=>?_;rw[CI rfl,hw'];refine MQ (f:=λo=>w.cell? ⟨b,o,none⟩) (o:=0) hs0 (λj hj=>(hvz j hj).1) (λj hj k v hv=>?_) k v hv;have:=hg.inv.agree b _ v ((hvz j hj).2 k v hv);simpa using this
    by_cases hrm:xs'.length+1≤cap
    ·rcases hmv e' i.size xs' hqe with ⟨m,rfl⟩|hnil
     ·cases x with
      |tmp m'=>
       have hmm:m'=m:=by simpa[oe]using hk
       subst hmm;have hfind:AH s.e m'= .own e' i.size xs':=by simpa[Opd.ev]using hqe
       have hevt:a.tmps.getD m' undef= .slice (some ⟨b,0,none⟩) xs'.length cap:=hev;have hbo:AZ (AH s.e m') (a.tmps.getD m' undef)=some b:=by rw[hfind,hevt];simp[AZ];omega
       have hfit:xs'.length*i.size+(A8 1 vy).length≤cur.size:=by rw[hfl,hcs,←AUo];exact AVS _ hrm
       have hrun:=He (ty:=ty) ht ht2 hd2 hi hsrc hheap hrm hfit hf1
       let w':=w.setRow b (AN cur.toList (xs'.length*i.size) (A8 1 vy)).toArray
       have hheap':w'.heap[b]?=some (.cells (AN cur.toList (xs'.length*i.size) (A8 1 vy)).toArray e' (0,0)):=setRow_heap w b _ _ _ _ hheap;have hchg:Chg (λz=>z=b) g w g w':=⟨Gh.le.refl g,by simp[w'],λb' _ hb'=>setRow_other w b b' _ hb',λb' _ hb' o=>rfl,rfl,rfl⟩;have hag:∀b' o v,g.m b' o=some v→w'.cell? ⟨b',o,none⟩=some v:=by
        intro b' o v hv;by_cases hb':b'=b
        ·subst hb';rw[cell_of_row w' b' o _ _ _ hheap',←AUl,AVm,E0 _ _ _ (by simpa using hfit)];have hc1:o <xs'.length*i.size:=by
          rcases AUS o (xs'.length*i.size)with h|h
          ·exact h
          ·rw[hvn o h]at hv;cases hv
         rw[if_pos hc1];have:=hg.inv.agree b' o v hv;rw[cell_of_row w b' o _ _ _ hheap]at this;rw[AUl];exact this
        ·rw[World.cell?_of_block (a:=⟨b',o,none⟩) (setRow_other w b b' _ hb')];exact hg.inv.agree b' o v hv
       have hrep:RepOwn g w' e' i.size xs' (.slice (some ⟨b,0,none⟩) xs'.length cap):=by
        refine .inr ⟨b,_,_,vs,rfl,hcap,hheap',by omega,?_,hvr,hvz,hvn⟩;simp only[AVT];rw[Ef _ _ _ (by simpa using hfit)];simpa using hcs
       refine⟨_,w',g,b,by rw[hev];exact hrun,⟨?_,hg.glob,by rw[Ay,hg.sz]⟩,hchg.mono λz hz ho=>?_⟩
       ·rw[DC _ (hg.sz▸hd)];exact hg.inv.growD (n:=m') (d0:= .pend b e' i.size xs') hbo hchg hag ⟨_,rfl,hrm,hrep⟩ (λk=>by cases k<;>rfl) rfl
       ·subst hz;exact(hg.inv.sep (.tmp m' 0) z (by
         simp only[blk,hfind,hevt,Ab,AZ];rw[if_neg (by omega)])).2 ho
      |const v=>simp[oe]at hk
      |global g=>simp[oe]at hk
      |func f=>simp[oe]at hk
     ·rw[hnil]at hev;cases hev
    ·exact newA _ cap _ vs hev (by omega) hvr (λj hj=>(hvz j hj).1) rfl hold
  ·cases hx
 ·rename_i e' s' hqe;simp only[AT0]at hx;rw[hqe]at hrq;obtain⟨base,hev,hsp⟩:=hrq;exact empty base hev hx.symm hsp
 ·cases hx
end
section
variable {P:Program} {GL:AX} {N:Nat}
theorem Ha {g:Gh} {w:World} (hag:∀b o v,g.m b o=some v→w.cell? ⟨b,o,none⟩=some v) {ys:List V} {u:Value} (h:RepV g (.list ys) u) {s:Nat} (hs:0 <s) (hh:CK s ys=true):
  ∃vy,Src P w s u ys.length (A8 ys.length vy)∧(∀j y,ys[j]?=some y→RepV g y (vy j))∧(∀j,j <ys.length→(vy j).cells.size=s)∧∀j,j <ys.length→∀v∈(vy j).cells.toList,v.oneCell'=true:=by
 cases h with
 |lnil=>
  refine⟨λ_=> .bool true,⟨λw'=>by simp[Builtin.lenOf],by simp[Builtin.firstCells,A8],by simp[Builtin.firstCells,A8]⟩,by simp,by simp,by simp⟩
 |list _ a cap s' vs hsp hc hr hz=>
  have hss:0 <ys.length→s'=s:=by
   intro h0;have hx0:ys[0]?=some ys[0]:=AT2 _;have h1:ys.head?=some ys[0]:=by rw[List.head?_eq_getElem?];exact hx0
   simp[CK,h1]at hh;have h3:=(hr 0 _ hx0).cells.1.1;have h4:=(hz 0 h0).1;simp at h3;omega
  have hzz:∀j,j <ys.length→(vs j).cells.size=s:=λj hj=>by rw[←hss (by omega)];exact(hz j hj).1
  have hcells:∀w',(∀b o,w'.cell? ⟨b,o,none⟩=w.cell? ⟨b,o,none⟩)→(Builtin.firstCells s ys.length (.slice (some a) ys.length cap)).run P w'= .ok (A8 ys.length vs).toArray w':=by
   intro w' hw';refine run_firstCells_some (P:=P) w' s ys.length a _ _ _ (Cd hzz) λk v hv=>?_;rw[CI hsp,hw'];refine MQ (f:=λo=>w.cell? ⟨a.block,o,none⟩) (o:=a.off) hs hzz (λj hj k v hv=>?_) k v hv;have h2:=(hz j hj).2;rw[hss (by omega)]at h2;exact hag _ _ v (h2 k v hv)
  refine⟨vs,⟨λw'=>by simp[Builtin.lenOf],hcells w λ_ _=>rfl,hcells w.drew λ_ _=>rfl⟩,hr,hzz,λj hj v hv=>?_⟩;have hj':ys[j]?=some ys[j]:=AT2 hj;exact(hr j _ hj').cells.2 v hv
def Ep (P:Program) (e s by_:Nat):Bool:=
 match P.info? e with
 |some i=>i.size==s&&i.bytes==by_&&decide (0 <s)&&(match i.zero with|some z=>z.cells.size==s|none=>false)
 |none=>false
theorem EV {e s by_:Nat} (h:Ep P e s by_=true):∃i z,P.info? e=some i∧i.size=s∧i.bytes=by_∧0 <i.size∧i.zero=some z∧z.cells.size=i.size:=by
 unfold Ep at h;split at h
 ·rename_i i hi;simp only[AT1,beq_iff_eq,decide_eq_true_eq]at h;obtain⟨⟨⟨rfl,rfl⟩,h0⟩,hz⟩:=h;split at hz
  ·rename_i z hzz;exact⟨i,z,hi,rfl,rfl,h0,hzz,by simpa using hz⟩
  ·cases hz
 ·cases h
def DA (P:Program) (t e:Nat):Bool:=match P.underlying t with|some (.slice e')=>e==e'|_=>false
theorem Co {t e:Nat} (h:DA P t e=true):P.underlying t=some (.slice e):=by
 unfold DA at h;split at h
 ·rename_i e' he;have:e=e':=by simpa using h
  rw[this];exact he
 ·cases h
def EZ (q:Opd):Bool:=match q with| .t _ mv=>mv| .c (.own _ _ [])=>true| .c (.nil _ _)=>true|_=>false
theorem No {g:Gh} {w:World} {μ:List Nat} {s:St} {a:Act} {O:Nat→Prop} (hg:Gs GL N g w μ s a O) {x:Operand} {q:Opd} (hk:oe GL x q=true) (hb:EZ q=true):
  ∀e' s' ys,q.ev s.e= .own e' s' ys→(∃m,q= .t m true)∨a.eval x= .slice none 0 0:=by
 intro e' s' ys hq;cases q with
 |t m mv=>
  simp only[EZ]at hb;subst hb;exact .inl ⟨m,rfl⟩
 |c d=>
  simp only[Opd.ev]at hq;subst hq;cases x with
  |const v=>
   right
   rcases KL hk with hk|⟨cs,xs,rfl,hq⟩
   case inr=>cases hq
   unfold Et at hk;split at hk<;>first|rfl|(rename_i h _;cases h)|cases hk
   all_goals simp_all [Act.eval]
  |tmp n=>simp[oe]at hk
  |global n=>simp[oe]at hk
  |func f=>simp[oe]at hk
 |g n cs=>simp[Opd.ev]at hq
theorem AI4 {o:Oper} {d:Nat} {x y:Operand} {q r:Opd} {t t2 e s by_ e2:Nat} (ho:o.dst=some d) (hop:o.op= .call {callee:= .builtin .append,args:= #[x,y],argTypes:= #[t,t2]}) (hd:d <N)
  (hk:oe GL x q=true) (hk2:oe GL y r=true) (hb:EZ q=true) (ht:DA P t e=true) (ht2:DA P t2 e2=true) (he:Ep P e s by_=true):DL P GL N o (.app d q r e s by_):=by
 intro g w μ st st' a O hg hs;obtain⟨i,z,hi,rfl,rfl,h0,hz,hzs⟩:=EV he;simp only[AI.step]at hs;split at hs
 ·rename_i xs ys hx hy;split at hs
  ·rename_i hcond;simp only[AT0]at hs;subst hs;have hry:=CF ((hg.gd P).ev hk2) hy;obtain⟨vy,h1,h2,h3,h4⟩:=Ha (P:=P) hg.inv.agree hry h0 hcond.1;obtain⟨v,w',g',hrun,hgs,hch⟩:=PM hg (ty:=o.type) (Co ht) (Co ht2) (by simp) hi hz hzs h0 hk hx (No hg hk hb) h1 h2 h3 h4 hcond.2 hd;exact⟨v,w',g',μ,.inl (by simp[execOp,hop,resolve,invoke,builtin,hrun]),by rw[ho];exact hgs,hch,AT8 _⟩
  ·cases hs
 ·cases hs
theorem uZ (w:World) (b:ByteArray):Src P w 1 (.string b) (b.data.toList.map λc=>V.int .u8 c.toNat).length (A8 (b.data.toList.map λc=>V.int .u8 c.toNat).length λj=> .int .u8 ((b.data.toList[j]?.map (·.toNat)).getD 0:Nat)):=by
 have hfl:A8 (b.data.toList.map λc=>V.int .u8 c.toNat).length (λj=>Value.int .u8 ((b.data.toList[j]?.map (·.toNat)).getD 0:Nat))=b.data.toList.map λc=>Value.int .u8 c.toNat:=by
  apply AUj;intro k;have hl:=Cd (s:=1) (n:=(b.data.toList.map λc=>V.int .u8 c.toNat).length) (vs:=λj=>Value.int .u8 ((b.data.toList[j]?.map (·.toNat)).getD 0:Nat)) (λ_ _=>by simp[Value.cells]);by_cases hk:k <b.data.toList.length
  ·have:=DU (s:=1) (n:=(b.data.toList.map λc=>V.int .u8 c.toNat).length) (vs:=λj=>Value.int .u8 ((b.data.toList[j]?.map (·.toNat)).getD 0:Nat)) (λ_ _=>by simp[Value.cells]) (i:=k) (j:=0) (by simpa using hk) (by omega);simp only[Nat.mul_one,AVR]at this;rw[this];simp[Value.cells,AT2 hk]
  ·rw[AUW (by rw[hl];simp at hk ⊢;omega),AUW (by simp at hk ⊢;omega)]
 rw[hfl];have hx:∀w',(Builtin.firstCells 1 (b.data.toList.map λc=>V.int .u8 c.toNat).length (.string b)).run P w'= .ok (b.data.toList.map λc=>Value.int .u8 c.toNat).toArray w':=by
  intro w';have hsz:(b.data.toList.map λc=>V.int .u8 c.toNat).length=b.size:=by simp
  rw[hsz];simp only[Builtin.firstCells,Sem.run_pure]
  congr 1
  have:b.extract 0 b.size=b:=by simp
  rw[this];rw[←AUu];simp
 exact⟨λw'=>by simp[Builtin.lenOf],hx w,hx w.drew⟩
theorem ALX {t:Nat} (h:isK P t (λ| .string=>true|_=>false)=true):P.underlying t=some .string:=DF h
theorem wo {o:Oper} {d:Nat} {x y:Operand} {q r:Opd} {t t2 e by_:Nat} (ho:o.dst=some d) (hop:o.op= .call {callee:= .builtin .append,args:= #[x,y],argTypes:= #[t,t2]}) (hd:d <N)
  (hk:oe GL x q=true) (hk2:oe GL y r=true) (hb:EZ q=true) (ht:DA P t e=true) (ht2:isK P t2 (λ| .string=>true|_=>false)=true) (he:Ep P e 1 by_=true):
  DL P GL N o (.appS d q r e by_):=by
 intro g w μ st st' a O hg hs;obtain⟨i,z,hi,hi1,rfl,h0,hz,hzs⟩:=EV he;simp only[AI.step]at hs;split at hs
 ·rename_i xs b hx hy;split at hs
  ·rename_i hcond;simp only[AT0]at hs;subst hs;have hry:=(hg.gd P).ev hk2;rw[hy]at hry;have hyv:=FF hry;have hsrc:=uZ (P:=P) w b;rw[←hi1]at hsrc hx;obtain⟨v,w',g',hrun,hgs,hch⟩:=PM hg (ty:=o.type) (Co ht) (DF ht2) (by simp) hi hz hzs h0 hk hx (No hg hk hb) hsrc
    (λj y hj=>by
     simp only[AUG,AUA]at hj;obtain⟨c,hc,rfl⟩:=hj;simp only[hc,AUU,AUH];exact .int _ _)
    (λj _=>by rw[hi1];simp[Value.cells]) (λj _ v hv=>by simp[Value.cells]at hv;rw[hv];rfl) (by simpa using hcond) hd
   rw[hi1]at hgs;exact⟨v,w',g',μ,.inl (by simp[execOp,hop,resolve,invoke,builtin,hyv,hrun]),by rw[ho];exact hgs,hch,AT8 _⟩
  ·cases hs
 ·cases hs
theorem Nx {g:Gh} {w:World} {μ:List Nat} {st:St} {a:Act} {h:List Row} {O:Nat→Prop} (hg:Gd P GL g w μ st.e a h O):∀ {ps:List Operand} {qs:List Opd} {vs:List V},Aj (oe GL) ps qs=true→HC st.e qs=some vs→
  All2 (RepV g) vs (ps.map a.eval)
 |[],[],vs,_,hv=>by simp only[HC,AT0]at hv;subst hv;exact .nil
 |p::ps,q::qs,vs,hk,hv=>by
  simp only[Aj,AT1]at hk;simp only[HC]at hv;split at hv
  ·rename_i x xs hx hxs;simp only[AT0]at hv;subst hv;exact .cons (CF (hg.ev hk.1) hx) (Nx hg hk.2 hxs)
  ·cases hv
 |[],_::_,_,hk,_=>by simp[Aj]at hk
 |_::_,[],_,hk,_=>by simp[Aj]at hk
def FN (GL:AX):Nat→List (Nat×Operand)→List Opd→Bool
 |_,[],[]=>true
 |k,p::ps,q::qs=>p.1==k&&oe GL p.2 q&&FN GL (k+1) ps qs
 |_,_,_=>false
theorem JH:∀ {k:Nat} {ps:List (Nat×Operand)} {qs:List Opd},FN GL k ps qs=true→Aj (oe GL) (ps.map (·.2)) qs=true∧∀f:Operand→Value,ps.map (λp=>(p.1,f p.2))=((ps.map λp=>f p.2).zipIdx k).map λx=>(x.2,x.1)
 |_,[],[],_=>⟨rfl,λ_=>rfl⟩
 |k,p::ps,q::qs,h=>by
  simp only[FN,AT1,beq_iff_eq]at h;obtain⟨⟨h1,h2⟩,h3⟩:=h;obtain⟨r1,r2⟩:=JH h3;refine⟨by simp[Aj,h2,r1],λf=>?_⟩;simp only[AUD,AWH,h1,r2 f]
 |_,[],_::_,h=>by simp[FN]at h
 |_,_::_,[],h=>by simp[FN]at h
theorem AIt {o:Oper} {d t n e s by_:Nat} {ps:Array (Nat×Operand)} {qs:List Opd} (ho:o.dst=some d) (hop:o.op= .buildSlice t n ps) (hd:d <N) (ht:DA P t e=true) (he:Ep P e s by_=true)
  (hn:ps.toList.length=n) (hsm:n*s≤2^24) (hk:FN GL 0 ps.toList qs=true):DL P GL N o (.bsl d e s qs):=by
 intro g w μ st st' a O hg hs;obtain⟨i,z,hi,rfl,rfl,h0,hz,hzs⟩:=EV he;obtain⟨k1,k2⟩:=JH hk;simp only[AI.step]at hs;split at hs
 ·rename_i vs hvs;split at hs
  ·rename_i hall;have hrep:=Nx (hg.gd P) k1 hvs;have hlen:vs.length=n:=by have:=hrep.1;simp at this;rw[←hn];simp;omega
   have hparts:(ps.map λp=>(p.1,a.eval p.2)).toList=(((ps.toList.map λp=>a.eval p.2)).zipIdx 0).map λx=>(x.2,x.1):=by
    rw[Array.toList_map];exact k2 a.eval
   have hmm:(ps.toList.map (·.2)).map a.eval=ps.toList.map λp=>a.eval p.2:=by simp
   rw[hmm]at hrep;have hpl:(ps.toList.map λp=>a.eval p.2).length=n:=by simpa using hn
   have hcell:∀(j:Nat) (v:Value) (x:V),(ps.toList.map λp=>a.eval p.2)[j]?=some v→vs[j]?=some x→v.cells.size=i.size:=by
    intro j v x hv hx;have h1:=(hrep.2 j x v hx hv).cells.1.1;have h2:=AUI.1 hall x (AT3 hx);simp at h1 h2;omega
   cases vs with
   |nil=>
    simp only[AT0]at hs;subst hs;have hn0:n=0:=by simpa using hlen.symm
    subst hn0;have hp0:ps= #[]:=by rw[←AUu];simpa using AUg hn
    subst hp0;have hch:=Bj (λ_=>False) g w (.cells #[] e);refine⟨.slice (some ⟨w.heap.size,0,none⟩) 0 0,w.alloc (.cells #[] e),g,μ,.inl ?_,?_,hch.mono λ_ h=>h.elim,AT8 _⟩
    ·simp[execOp,hop,Instr.buildSlice,run_underlying (Co ht),sizeOf,typeInfo,hi,Instr.fill,newRow,show Array.range 0= #[] from rfl]
    ·rw[ho];have h2:Gs GL N g (w.alloc (.cells #[] e)) μ st a O:=⟨hg.inv.chg hch (Ct hg.inv.agree _),hg.glob,hg.sz⟩;refine h2.set hd ⟨_,rfl,λx hx=>by cases hx;rfl⟩ λk=>by cases k<;>simp[Ab,AZ]
   |cons x0 xs0=>
    simp only[AT0]at hs;subst hs;have hn0:0 <n:=by simp at hlen;omega
    let vv:Nat→Value:=λj=>((ps.toList.map λp=>a.eval p.2)[j]?).getD (.bool true)
    have hvz:∀j,j <n→(vv j).cells.size=i.size:=by
     intro j hj;have e1:(ps.toList.map λp=>a.eval p.2)[j]?=some (ps.toList.map λp=>a.eval p.2)[j]:=AT2 (by omega);have e2:(x0::xs0)[j]?=some (x0::xs0)[j]:=AT2 (by omega);simp only[vv,e1,AUH];exact hcell j _ _ e1 e2
    have hfl:((ps.toList.map λp=>a.eval p.2).flatMap λv=>v.cells.toList)=A8 n vv:=by
     have:(ps.toList.map λp=>a.eval p.2)=(List.range n).map vv:=by
      apply AUj;intro j;by_cases hj:j <n
      ·have e1:(ps.toList.map λp=>a.eval p.2)[j]?=some (ps.toList.map λp=>a.eval p.2)[j]:=AT2 (by omega);rw[e1,AUG (l:=List.range n),AU4 hj];simp only[AUU,vv,e1,AUH]
      ·rw[AUW (by omega),AUW (by simp;omega)]
     rw[this,A8,AWJ]
    have hfill:=Great.fill_whole h0 (ps.toList.map λp=>a.eval p.2) ((Array.range (n*i.size)).map (z.cells[· %z.cells.size]!)) (λv hv=>by
     obtain⟨j,hj,rfl⟩:=AU8.1 hv;have e1:(ps.toList.map λp=>a.eval p.2)[j]?=some (ps.toList.map λp=>a.eval p.2)[j]:=AT2 hj;have e2:(x0::xs0)[j]?=some (x0::xs0)[j]:=AT2 (by omega);exact hcell j _ _ e1 e2) (by rw[hpl];simp)
    rw[hfl,←hparts]at hfill;have hns:¬n*i.size>2^24:=by omega
    have hnp:¬n*i.size=0:=by
     intro h;rcases Nat.mul_eq_zero.1 h with h|h<;>omega
    have hrun:=run_buildSlice (P:=P) w t e n _ _ i z (Co ht) hi hz hns hnp hfill
    let w':=w.alloc (.cells (A8 n vv).toArray e)
    let g':=g.put w.heap.size 0 (A8 n vv)
    have hnone:∀o,g.m w.heap.size o=none:=λo=>Gh.lt_of hg.inv.agree (AT6 _) o;have hgle:g.le g':=Gh.le_put _ λo _ _=>hnone o;have hheap:w'.heap[w.heap.size]?=some (.cells (A8 n vv).toArray e (0,0)):=heap_alloc_new w _;have hchg:Chg (λ_=>False) g w g' w':=⟨hgle,by simp[w'],λb hb _=>heap_alloc_old w _ b hb,λb hb _ o=>Gh.put_other (by omega) o,rfl,rfl⟩;have hfll:(A8 n vv).length=n*i.size:=Cd hvz;have hag:∀b o v,g'.m b o=some v→w'.cell? ⟨b,o,none⟩=some v:=by
     intro b o v hv;simp only[g',Gh.put]at hv;split at hv
     ·rename_i hc;obtain⟨rfl,_,hc2⟩:=hc;simp only[AVn]at hv;rw[cell_of_row w' w.heap.size o _ e (0,0) hheap];simpa using hv
     ·exact Ct hg.inv.agree _ b o v hv
    have hown:RepOwn g' w' e i.size (x0::xs0) (.slice (some ⟨w.heap.size,0,none⟩) n n):=by
     refine .inr ⟨w.heap.size,n,_,vv,by rw[hlen],hn0,hheap,by omega,by simpa using hfll,?_,?_,?_⟩
     ·intro j x hx;have hj:=(AT4.1 hx).1;have e1:(ps.toList.map λp=>a.eval p.2)[j]?=some (ps.toList.map λp=>a.eval p.2)[j]:=AT2 (by omega);have:=hrep.2 j x _ hx e1;simp only[vv,e1,AUH];exact this.mono hgle
     ·intro j hj;have hjn:j <n:=by omega
      refine⟨hvz j hjn,λk v hv=>?_⟩;have hks:k <i.size:=by have:=hvz j hjn;have:=(AT4.1 hv).1;simp at this;omega
      have:=Gh.put_at g w.heap.size 0 (A8 n vv) (j*i.size+k) v (by rw[DU hvz hjn hks];exact hv);simpa using this
     ·intro o ho;simp only[g',Gh.put];rw[if_neg (by rw[hfll];rw[hlen]at ho;omega),hnone o]
    refine⟨.slice (some ⟨w.heap.size,0,none⟩) n n,w',g',μ,.inl ?_,⟨?_,hg.glob.mono hgle,by rw[Ay,hg.sz]⟩,hchg.mono λ_ h=>h.elim,AT8 _⟩
    ·simp[execOp,hop,hrun,w']
    ·rw[ho,DC _ (hg.sz▸hd)];refine hg.inv.newOwn hchg hag hown λb hb=>?_;simp only[AZ]at hb;split at hb
     ·cases hb
     ·simp only[AT0]at hb;omega
  ·cases hs
 ·cases hs
end
abbrev I8:Nat→D:=λ_=> .any
abbrev LF:Nat→Value:=λ_=> .bool false
def D.norm (d:D):D:=match d.toV with|some x=> .v x|none=>d
def D.arg (d:D):D:=d.copy.norm
def As (e:Env) (qs:List Opd):List D:=qs.map λq=>(q.ev e).arg
def Db (d:D):Option (Nat×List D):=
 match d.norm with
 | .v (.func f cs)=>some (f,cs.map .v)
 | .func f ds=>some (f,ds)
 |_=>none
theorem TF {d:D} {x:V} (h:d.toV=some x):d.norm= .v x:=by simp[D.norm,h]
theorem W1 {d:D} {x:V} (h:d.toV=some x):d.copy.toV=some x:=by
 cases d<;>first
  |exact h
  |(simp[D.toV,D.v?]at h;done)
theorem AI2 {d:D} {x:V} (h:d.toV=some x):d.arg= .v x:=TF (W1 h)
theorem vF {d:D} {f:Nat} {cs:List V} (h:d.toV=some (.func f cs)):Db d=some (f,cs.map .v):=by simp[Db,TF h]
theorem Ly {e:Env}:∀ {qs:List Opd} {vs:List V},HC e qs=some vs→As e qs=vs.map .v
 |[],vs,h=>by simp only[HC,AT0]at h;subst h;rfl
 |q::qs,vs,h=>by
  simp only[HC]at h;split at h
  ·rename_i x xs hx hxs;simp only[AT0]at h;subst h;have:=Ly hxs;simp only[As]at this;simp only[As,AUD,AI2 hx,this]
  ·cases h
def Ba:List D→D
 |[x]=>x
 |xs=> .tup xs
section
variable {P:Program} {GL:AX} {N:Nat} {g:Gh} {w:World} {μ:List Nat}
theorem RepD.norm {d:D} {u:Value} (h:RepD g w μ d u):RepD g w μ d.norm u:=by
 unfold D.norm;split
 ·rename_i x hx;exact CF h hx
 ·exact h
theorem yi {d:D} {u:Value} (h:RepD g w μ d u):RepG g w μ d.copy u:=by
 cases d<;>first
  |exact h
  |exact RepOwn.list h
  |trivial
theorem RepD.arg {d:D} {u:Value} (h:RepD g w μ d u):RepG g w μ d.arg u:=by
 unfold D.arg D.norm;split
 ·rename_i x hx;exact CF h.copy hx
 ·exact yi h
theorem KK (d:D) (u:Value):AZ d.arg u=none:=by
 unfold D.arg D.norm;split
 ·simp[AZ]
 ·exact Ih d u
def Tame (ds:List D) (us:List Value):Prop:=∀(i:Nat) d v,ds[i]?=some d→us[i]?=some v→AZ d v=none
theorem Tame.append {ds ds':List D} {us us':List Value} (hl:us.length=ds.length) (h:Tame ds us) (h':Tame ds' us'):Tame (ds++ds') (us++us'):=by
 intro i d v hd hv;by_cases hi:i <ds.length
 ·rw[AUQ hi]at hd;rw[AUQ (by omega)]at hv;exact h i d v hd hv
 ·rw[AUa (by omega)]at hd;rw[AUa (by omega),hl]at hv;exact h' _ d v hd hv
theorem Eb {st:St} {a:Act} {h:List Row} {O:Nat→Prop} (hg:Gd P GL g w μ st.e a h O):∀ {ps:List Operand} {qs:List Opd},Aj (oe GL) ps qs=true→
  All2 (RepG g w μ) (As st.e qs) (ps.map a.eval)∧Tame (As st.e qs) (ps.map a.eval)
 |[],[],_=>⟨.nil,λi d v h=>by simp[As]at h⟩
 |p::ps,q::qs,hk=>by
  simp only[Aj,AT1]at hk;obtain⟨h1,h2⟩:=Eb hg hk.2;refine⟨.cons (hg.ev hk.1).arg h1,λi d v hd hv=>?_⟩;cases i with
  |zero=>simp[As]at hd;subst hd;exact KK _ _
  |succ i=>exact h2 i d v (by simpa[As]using hd) (by simpa using hv)
 |[],_::_,hk=>by simp[Aj]at hk
 |_::_,[],hk=>by simp[Aj]at hk
theorem Hy {d:D} {u:Value} (h:RepD g w μ d u) {f:Nat} {caps:List D} (hf:Db d=some (f,caps)):∃cvs:List Value,u= .func (.func f) #[] cvs.toArray∧All2 (RepG g w μ) caps cvs∧Tame caps cvs:=by
 have h:=h.norm;unfold Db at hf;generalize d.norm=d at h hf;split at hf
 ·rename_i f' cs;simp only[AT0,AV0]at hf;obtain⟨rfl,rfl⟩:=hf;cases h with
  |func _ _ vs hl hr=>
   refine⟨vs,rfl,All2.map_left (f:=D.v) (R:=RepV g) (λx y h=>h) ⟨hl,hr⟩,λi d v hd hv=>?_⟩;simp only[AUG,AUA]at hd;obtain⟨y,_,rfl⟩:=hd;simp[AZ]
 ·rename_i f' ds;simp only[AT0,AV0]at hf;obtain⟨rfl,rfl⟩:=hf;obtain⟨vs,rfl,hall⟩:=h;refine⟨vs,rfl,hall.imp λd v h=>?_,λi d v hd hv=>?_⟩
  ·cases d<;>first|exact h|exact h.elim
  ·have:=hall.2 i d v hd hv;cases d<;>first|rfl|exact this.elim
 ·cases hf
end
section
variable {g:Gh} {w:World} {μ:List Nat} {t:Nat→D} {u:Nat→Value} {h:List Row} {O:Nat→Prop}
def L1 (t:Nat→D) (u:Nat→Value) (O:Nat→Prop) (b:Nat):Prop:=O b∨∃n k,Ab (t n) (u n) k=some b
theorem Gr {h:List Row} {w:World} {μ:List Nat} {n k b:Nat}:¬blk I8 LF h w μ (.tmp n k)=some b:=by
 cases k<;>simp[blk,Ab,AZ]
theorem Inv.call (hi:Inv g w μ t u h O):Inv g w μ I8 LF h (L1 t u O) where
 agree:=hi.agree
 olt:=λb hb=>by
  rcases hb with hb|⟨n,k,hb⟩
  ·exact hi.olt b hb
  ·exact hi.blk_lt (p:= .tmp n k) hb
 rep:=λn=>trivial
 len:=hi.len
 rows:=hi.rows
 nod:=hi.nod
 mo:=λb hb ho=>by
  rcases ho with ho|⟨n,k,ho⟩
  ·exact hi.mo b hb ho
  ·exact(hi.sep (.tmp n k) b ho).1 hb
 uniq:=λp q b hp hq=>by
  cases p with
  |tmp n k=>exact absurd hp Gr
  |cell r k=>cases q with
   |tmp n k=>exact absurd hq Gr
   |cell r' k'=>exact hi.uniq _ _ b hp hq
 sep:=λp b hp=>by
  cases p with
  |tmp n k=>exact absurd hp Gr
  |cell r k=>
   obtain⟨h1,h2⟩:=hi.sep (.cell r k) b hp;refine⟨h1,λho=>?_⟩;rcases ho with ho|⟨n,k',ho⟩
   ·exact h2 ho
   ·have:=hi.uniq (.cell r k) (.tmp n k') b hp ho;cases this
theorem Inv.ret (hi:Inv g w μ t u h O) {g':Gh} {w':World} {μ':List Nat} {h':List Row} (hi':Inv g' w' μ' I8 LF h' (L1 t u O))
  (hc:Chg (λb=>¬L1 t u O b) g w g' w') (hμ:μ <+: μ'):Inv g' w' μ' t u h' O where
 agree:=hi'.agree
 olt:=λb hb=>hi'.olt b (.inl hb)
 rep:=λn=>DY hi hc hμ n λk b hb hn=>hn (.inr ⟨n,k,hb⟩)
 len:=hi'.len
 rows:=hi'.rows
 nod:=hi'.nod
 mo:=λb hb ho=>hi'.mo b hb (.inl ho)
 uniq:=λp q b hp hq=>by
  cases p with
  |tmp n k=>cases q with
   |tmp n' k'=>exact hi.uniq (.tmp n k) (.tmp n' k') b hp hq
   |cell r' k'=>exact absurd (.inr ⟨n,k,hp⟩) (hi'.sep (.cell r' k') b hq).2
  |cell r k=>cases q with
   |tmp n' k'=>exact absurd (.inr ⟨n',k',hq⟩) (hi'.sep (.cell r k) b hp).2
   |cell r' k'=>exact hi'.uniq _ _ b hp hq
 sep:=λp b hp=>by
  cases p with
  |tmp n k=>exact⟨λhm=>hi'.mo b hm (.inr ⟨n,k,hp⟩),(hi.sep (.tmp n k) b hp).2⟩
  |cell r k=>
   obtain⟨h1,h2⟩:=hi'.sep (.cell r k) b hp;exact⟨h1,λho=>h2 (.inl ho)⟩
def at0 {α:Type} (z x:α):Nat→α:=λn=>if 0=n then x else z
theorem Inv.retV (hi:Inv g w μ t u h O) {g':Gh} {w':World} {μ':List Nat} {h':List Row} {x:D} {v:Value} (hi':Inv g' w' μ' (at0 .any x) (at0 (.bool false) v) h' (L1 t u O))
  (hb:Inv g' w' μ' t u h' O) (d:Nat):Inv g' w' μ' (λn=>if d=n then x else t n) (λn=>if d=n then v else u n) h' O:=by
 have htd:∀k b,blk (λn=>if d=n then x else t n) (λn=>if d=n then v else u n) h' w' μ' (.tmp d k)=some b→blk (at0 .any x) (at0 (.bool false) v) h' w' μ' (.tmp 0 k)=some b:=by
  intro k b hb;simpa[blk,at0]using hb
 have htn:∀n k b,d≠n→blk (λn=>if d=n then x else t n) (λn=>if d=n then v else u n) h' w' μ' (.tmp n k)=some b→blk t u h' w' μ' (.tmp n k)=some b:=by
  intro n k b hn hb;simpa[blk,hn]using hb
 have hO:∀n k b,blk t u h' w' μ' (.tmp n k)=some b→L1 t u O b:=λn k b hb=> .inr ⟨n,k,hb⟩;refine⟨hb.agree,hb.olt,λn=>?_,hb.len,hb.rows,hb.nod,hb.mo,?_,?_⟩
 ·by_cases hn:d=n
  ·simp only[hn,if_true];simpa[at0]using hi'.rep 0
  ·simp only[hn,if_false];exact hb.rep n
 ·intro p q b hp hq;cases p with
  |tmp n k=>
   cases q with
   |tmp n' k'=>
    by_cases hn:d=n
    ·subst hn;by_cases hn':d=n'
     ·subst hn';have:=hi'.uniq _ _ b (htd k b hp) (htd k' b hq);simp only[Pl.tmp.injEq,true_and]at this;rw[this]
     ·exact absurd (hO _ _ _ (htn n' k' b hn' hq)) (hi'.sep _ b (htd k b hp)).2
    ·by_cases hn':d=n'
     ·subst hn';exact absurd (hO _ _ _ (htn n k b hn hp)) (hi'.sep _ b (htd k' b hq)).2
     ·exact hb.uniq _ _ b (htn n k b hn hp) (htn n' k' b hn' hq)
   |cell r k'=>
    by_cases hn:d=n
    ·subst hn;have:=hi'.uniq (.tmp 0 k) (.cell r k') b (htd k b hp) hq;cases this
    ·exact hb.uniq _ _ b (htn n k b hn hp) hq
  |cell r k=>
   cases q with
   |tmp n' k'=>
    by_cases hn':d=n'
    ·subst hn';have:=hi'.uniq (.cell r k) (.tmp 0 k') b hp (htd k' b hq);cases this
    ·exact hb.uniq _ _ b hp (htn n' k' b hn' hq)
   |cell r' k'=>exact hb.uniq (.cell r k) (.cell r' k') b hp hq
 ·intro p b hp;cases p with
  |tmp n k=>
   by_cases hn:d=n
   ·subst hn;obtain⟨h1,h2⟩:=hi'.sep _ b (htd k b hp);exact⟨h1,λho=>h2 (.inl ho)⟩
   ·exact hb.sep _ b (htn n k b hn hp)
  |cell r k=>exact hb.sep (.cell r k) b hp
theorem Inv.enter (hi:Inv g w μ I8 LF h O) (hr:∀n,RepD g w μ (t n) (u n)) (h0:∀n k,Ab (t n) (u n) k=none):Inv g w μ t u h O where
 agree:=hi.agree
 olt:=hi.olt
 rep:=hr
 len:=hi.len
 rows:=hi.rows
 nod:=hi.nod
 mo:=hi.mo
 uniq:=λp q b hp hq=>by
  cases p with
  |tmp n k=>simp[blk,h0]at hp
  |cell r k=>cases q with
   |tmp n k=>simp[blk,h0]at hq
   |cell r' k'=>exact hi.uniq _ _ b hp hq
 sep:=λp b hp=>by
  cases p with
  |tmp n k=>simp[blk,h0]at hp
  |cell r k=>exact hi.sep (.cell r k) b hp
theorem Inv.leave (hi:Inv g w μ t u h O):Inv g w μ I8 LF h O where
 agree:=hi.agree
 olt:=hi.olt
 rep:=λn=>trivial
 len:=hi.len
 rows:=hi.rows
 nod:=hi.nod
 mo:=hi.mo
 uniq:=λp q b hp hq=>by
  cases p with
  |tmp n k=>exact absurd hp Gr
  |cell r k=>cases q with
   |tmp n k=>exact absurd hq Gr
   |cell r' k'=>exact hi.uniq _ _ b hp hq
 sep:=λp b hp=>by
  cases p with
  |tmp n k=>exact absurd hp Gr
  |cell r k=>exact hi.sep (.cell r k) b hp
end
section
variable {P:Program} {GL:AX} {N:Nat}
def Sr (P:Program) (t:Nat):Bool:=match P.underlying t with|some (.slice e)=>isK P e (λ| .int .u8=>true|_=>false)|_=>false
theorem AE1 {e:Nat} (hs:isK P e (λ| .int .u8=>true|_=>false)=true):P.underlying e=some (.int .u8):=by
 unfold isK at hs;split at hs
 ·rename_i d' hd2;cases d'<;>simp at hs
  rename_i k;cases k<;>simp at hs
  exact hd2
 ·cases hs
theorem LC (w:World) (e:TypeId) (s:ByteArray):(Lib.bytesWorld w e s).os=w.os:=by
 unfold Lib.bytesWorld World.freeze;split<;>rfl
theorem Kr (w:World) (e:TypeId) (s:ByteArray):(Lib.bytesWorld w e s).output=w.output:=by
 unfold Lib.bytesWorld World.freeze;split<;>rfl
theorem AEW {o:Oper} {d src dst:Nat} {x:Operand} {q:Opd} (ho:o.dst=some d) (hop:o.op= .convert src dst x) (hd:d <N) (hk:oe GL x q=true)
  (hs:isK P src (λ| .string=>true|_=>false)=true) (ht:Sr P dst=true):DL P GL N o (.s2b d q):=by
 intro g w μ st st' a O hg hst;unfold Sr at ht;split at ht
 ·rename_i e hu;have he:=AE1 ht;simp only[AI.step]at hst;split at hst
  ·rename_i b hb;simp only[AT0]at hst;subst hst;have hr:=(hg.gd P).ev hk;rw[hb]at hr;have hxv:=FF hr;have hrun:=Lib.run_convert_string_bytes (P:=P) w src dst e b (DF hs) hu he
   let bs:List Value:=b.data.toList.map λc=> .int .u8 c.toNat
   let g':=g.put w.heap.size 0 bs
   have hnone:∀o,g.m w.heap.size o=none:=λo=>Gh.lt_of hg.inv.agree (AT6 _) o;have hgle:g.le g':=Gh.le_put _ λo _ _=>hnone o;have hch:Chg (λ_=>False) g w g' (Lib.bytesWorld w e b):=⟨hgle,by rw[Lib.bytesWorld_size];omega,λj hj _=>Lib.bytesWorld_at_old w e b j hj,λj hj _ o=>Gh.put_other (by omega) o,LC w e b,Kr w e b⟩;have hag:∀j o v,g'.m j o=some v→(Lib.bytesWorld w e b).cell? ⟨j,o,none⟩=some v:=by
    intro j o v hv;simp only[g',Gh.put]at hv;split at hv
    ·rename_i hc;obtain⟨rfl,_,hc2⟩:=hc;simp only[AVn]at hv;have hlt:o <b.size:=by have:=(AT4.1 hv).1;simpa[bs]using this
     rw[Lib.bytesWorld_cell w e b o hlt];simp only[bs,AUG,AUA]at hv;obtain⟨c,hc',rfl⟩:=hv;simp[List.getD,hc']
    ·have hj:j <w.heap.size:=by
      have:=hg.inv.agree j o v hv;rcases AUS j w.heap.size with h'|h'
      ·exact h'
      ·simp[World.cell?,AVP h']at this
     rw[Lib.bytesWorld_old w e b _ hj];exact hg.inv.agree j o v hv
   have hg2:Gs GL N g' (Lib.bytesWorld w e b) μ st a O:=⟨hg.inv.chg hch hag,hg.glob.mono hgle,hg.sz⟩;refine⟨.slice (some ⟨w.heap.size,0,none⟩) b.size (grownCap w b.size 0 e),_,g',μ,.inl (by simp[execOp,hop,hxv,hrun]),?_,hch.mono λ_ h=>h.elim,AT8 _⟩;rw[ho];refine hg2.set hd ?_ λk=>Bf _ _ _;have hlen:(b.data.toList.map λc=>V.int .u8 c.toNat).length=b.size:=by simp
   have:=RepV.list (g:=g') (b.data.toList.map λc=>V.int .u8 c.toNat) ⟨w.heap.size,0,none⟩ (grownCap w b.size 0 e) 1 (λi=> .int .u8 ((b.data.toList.getD i 0).toNat:Int)) rfl
    (by rw[hlen];simp only[grownCap];exact Nat.le_add_right _ _) (λi x hx=>by
     simp only[AUG,AUA]at hx;obtain⟨c,hc,rfl⟩:=hx;simp only[List.getD,hc,AUH];exact .int _ _) (λi hi=>by
     rw[hlen]at hi;refine⟨by simp[Value.cells],λk v hv=>?_⟩;have hv':k=0∧v= .int .u8 ((b.data.toList.getD i 0).toNat:Int):=by
      cases k with
      |zero=>exact⟨rfl,by simpa only[Value.cells,AWG,AT0,eq_comm]using hv⟩
      |succ k=>simp[Value.cells]at hv
     obtain⟨rfl,rfl⟩:=hv';have hbi:bs[i]?=some (.int .u8 ((b.data.toList.getD i 0).toNat:Int)):=by
      have hi':i <b.data.toList.length:=by simpa using hi
      simp only[bs,AUG,AT2 hi',AUU,List.getD,AUH]
     have:=Gh.put_at g w.heap.size 0 bs i _ hbi;simpa using this)
   rw[hlen]at this;exact this
  ·cases hst
 ·cases ht
theorem TD {g:Gh} {w:World} (hag0:∀b o v,g.m b o=some v→w.cell? ⟨b,o,none⟩=some v) {b cap e s:Nat} {xs:List V} (h:RepOwn g w e s xs (.slice (some ⟨b,0,none⟩) xs.length cap)) (hrm:xs.length+1≤cap) {y:V} {u:Value}
  (hr:RepV g y u) (hu:u.cells.size=s):
  ∃cur:Array Value,w.heap[b]?=some (.cells cur e (0,0))∧xs.length*s+u.cells.toList.length≤cur.size∧
   RepOwn (g.put b (xs.length*s) u.cells.toList) (w.setRow b (AN cur.toList (xs.length*s) u.cells.toList).toArray) e s (xs++[y]) (.slice (some ⟨b,0,none⟩) (xs.length+1) cap)∧
   Chg (λz=>z=b) g w (g.put b (xs.length*s) u.cells.toList) (w.setRow b (AN cur.toList (xs.length*s) u.cells.toList).toArray)∧
   ∀b' o v,(g.put b (xs.length*s) u.cells.toList).m b' o=some v→(w.setRow b (AN cur.toList (xs.length*s) u.cells.toList).toArray).cell? ⟨b',o,none⟩=some v:=by
 rcases h with ⟨a,h1,h2,_⟩|⟨b',cap',cur,vs,h1,hcap,hheap,hlc,hcs,hvr,hvz,hvn⟩
 ·simp only[Value.slice.injEq]at h1;omega
 simp only[Value.slice.injEq,AT0,Addr.mk.injEq,true_and,and_true]at h1;obtain⟨rfl,rfl⟩:=h1;have hul:u.cells.toList.length=s:=by simpa using hu
 have hfit:xs.length*s+u.cells.toList.length≤cur.size:=by
  rw[hul,hcs];have:=AVS s hrm;rw[AUo,Nat.one_mul]at this;exact this
 have hgle:g.le (g.put b (xs.length*s) u.cells.toList):=Gh.le_put _ λo h1 _=>hvn o h1;have hheap':(w.setRow b (AN cur.toList (xs.length*s) u.cells.toList).toArray).heap[b]?=some (.cells (AN cur.toList (xs.length*s) u.cells.toList).toArray e (0,0)):=setRow_heap w b _ _ _ _ hheap;have hchg:Chg (λz=>z=b) g w (g.put b (xs.length*s) u.cells.toList) (w.setRow b (AN cur.toList (xs.length*s) u.cells.toList).toArray):=
  ⟨hgle,by simp,λb' _ hb'=>setRow_other w b b' _ hb',λb' _ hb' o=>Gh.put_other hb' o,rfl,rfl⟩
 refine⟨cur,hheap,hfit,?_,hchg,?_⟩
 ·refine .inr ⟨b,cap,_,λj=>if j <xs.length then vs j else u,by rw[AT5];rfl,by omega,hheap',by rw[AT5];exact hrm,?_,?_,?_,?_⟩
  ·simp only[AVT];rw[Ef _ _ _ (by simpa using hfit)];simpa using hcs
  ·intro j z hj;by_cases hlt:j <xs.length
   ·simp only[hlt,if_true];rw[AUQ hlt]at hj;exact(hvr j z hj).mono hgle
   ·simp only[hlt,if_false];rw[AUa (by omega)]at hj;have hj0:j-xs.length=0:=by
     have:=(AT4.1 hj).1;simp at this;omega
    rw[hj0]at hj;simp only[AWG,AT0]at hj;subst hj;exact hr.mono hgle
  ·intro j hj;rw[AT5]at hj;by_cases hlt:j <xs.length
   ·simp only[hlt,if_true];exact⟨(hvz j hlt).1,(hvz j hlt).2.mono hgle⟩
   ·simp only[hlt,if_false];have hj0:j=xs.length:=by simp at hj;omega
    subst hj0;exact⟨hu,Gh.put_at g b (xs.length*s) u.cells.toList⟩
  ·intro o ho;rw[AT5,AWK,AUo,Nat.one_mul]at ho;simp only[Gh.put];rw[if_neg (by rw[hul];omega)];exact hvn o (by omega)
 ·intro b' o v hv;by_cases hb':b'=b
  ·subst hb';rw[cell_of_row _ b' o _ _ _ hheap',←AUl,AVm,E0 _ _ _ (by simpa using hfit)];simp only[Gh.put]at hv;split at hv
   ·rename_i hc;rw[if_neg (by omega),if_pos hc.2.2];exact hv
   ·have hc1:o <xs.length*s:=by
     rcases AUS o (xs.length*s)with h|h
     ·exact h
     ·rw[hvn o h]at hv;cases hv
    rw[if_pos hc1];have:=hag0 b' o v hv;rw[cell_of_row w b' o _ _ _ hheap]at this;rw[AUl];exact this
  ·simp only[Gh.put_other hb']at hv;rw[World.cell?_of_block (a:=⟨b',o,none⟩) (setRow_other w b b' _ hb')];exact hag0 b' o v hv
theorem AFF {o:Oper} {t m sz:Nat} {p x:Operand} {ad p' q:Opd} (ho:o.dst=none) (hop:o.op= .store t p x) (hm:m <N) (hp:oe GL p p'=true) (hk:oe GL x q=true) (hsz:BK P t sz=true):
  DL P GL N o (.fin m ad p' q sz):=by
 intro g w μ s s' a O hg hs;simp only[AI.step]at hs;have hrp:=(hg.gd P).ev hp;have hrx:=(hg.gd P).ev hk;split at hs
 ·rename_i b s0 n y hc hy;rw[hc]at hrp;have hpv:0 <s0→a.eval p= .pointer (some ⟨b,n*s0,none⟩):=λh0=>by
   obtain⟨h1,_⟩|⟨_,h2⟩:=hrp
   ·omega
   ·exact h2
  have hry:=CF hrx hy;have hrun:∀(cur:Array Value) (e:Nat),w.heap[b]?=some (.cells cur e (0,0))→n*s0+(a.eval x).cells.toList.length≤cur.size→(a.eval x).cells.size=sz→0 <s0→
    (execOp a.eval o).run P w= .ok .skip (w.setRow b (AN cur.toList (n*s0) (a.eval x).cells.toList).toArray):=by
   intro cur e hheap hfit hun h0;have hpv:=hpv h0;have hst:=run_storeCells_at P b (n*s0) e (a.eval x).cells.toList 0 cur w hheap (by simpa using hfit) (RepV.cells hry).2;simp only[AVR]at hst;simp[execOp,hop,hpv,Instr.storeAt,Instr.sureAddr,storeVar,BS hsz,hun,AN]at hst ⊢;simp[hst]
  have hul:y.cells.length=sz→(a.eval x).cells.size=sz:=λh=>by have:=(RepV.cells hry).1.1;simp at this;omega
  split at hs
  ·rename_i b' e s2 xs hfind;split at hs
   ·rename_i hcond;obtain⟨⟨rfl,rfl,rfl⟩,rfl,hyl,hpos⟩:=hcond;simp only[AT0]at hs;subst hs;have hrm:=hg.inv.rep m;rw[hfind]at hrm;obtain⟨cap,hmv,hcap,hown⟩:=hrm;obtain⟨cur,hheap,hfit,hrep,hchg,hag⟩:=TD hg.inv.agree hown hcap hry (hul hyl);have hbo:AZ (AH s.e m) (a.tmps.getD m undef)=some b':=by rw[hfind];rfl
    have hinv:=hg.inv.growOwn (d:=m) (n:=m) hbo hchg hag hrep (by simp[AZ];omega);refine⟨undef,_,_,μ,.inr ⟨hrun cur _ hheap hfit (hul hyl) hpos,rfl⟩,⟨?_,hg.glob.mono hchg.le,by rw[Ay,hg.sz]⟩,hchg.mono λz hz hO=>?_,AT8 _⟩
    ·rw[ho];refine Eq.mp ?_ hinv
     congr 1
     ·funext k
      by_cases hkm:m=k
      ·subst hkm;simp[AH]
      ·simp[AH,hkm]
     ·funext k
      by_cases hkm:m=k
      ·subst hkm;simp only[if_true];exact hmv.symm
      ·simp[hkm,Act.put]
    ·subst hz;exact(hg.inv.sep (.tmp m 0) z (by simp only[blk,hfind];rfl)).2 hO
   ·cases hs
  ·split at hs
   ·rename_i r off had;split at hs
    ·rename_i ds hr;split at hs
     ·rename_i b' e s2 xs hd;split at hs
      ·rename_i hcond;obtain⟨⟨rfl,rfl,rfl⟩,rfl,hyl,hpos⟩:=hcond;simp only[AT0]at hs;subst hs;have hrl:r <μ.length:=by rw[hg.inv.len];exact(AT4.1 hr).1
       obtain⟨br,hbr⟩:∃br,μ[r]?=some br:=⟨_,AT2 hrl⟩;have hcell:=hg.inv.cell hr hbr hd;obtain⟨cap,hmv,hcap,hown⟩:=hcell;obtain⟨cur,hheap,hfit,hrep,hchg,hag⟩:=TD hg.inv.agree hown hcap hry (hul hyl);have hinv:=hg.inv.growCell (d0:= .own e s2 (xs++[y])) hr hbr hd rfl hchg hag (by rw[hmv];exact hrep) (λb2 hb2=>by
        rw[hmv]at hb2;simp only[AZ]at hb2;split at hb2
        ·cases hb2
        ·simp only[AT0]at hb2;exact hb2.symm)
       refine⟨undef,_,_,μ,.inr ⟨hrun cur _ hheap hfit (hul hyl) hpos,rfl⟩,⟨?_,hg.glob.mono hchg.le,by rw[Ay,hg.sz]⟩,hchg.mono λz hz hO=>?_,AT8 _⟩
       ·rw[ho];exact hinv
       ·subst hz;exact(hg.inv.sep (.cell r off) z (by simp only[blk,Av,hr,hd,AUH];rfl)).2 hO
      ·cases hs
     ·cases hs
    ·cases hs
   ·cases hs
 ·cases hs
end
section
variable {P:Program} {GL:AX} {N:Nat}
theorem AEs {o:Oper} {d t:Nat} {rs:Option Operand} (ho:o.dst=some d) (hop:o.op= .makeMap t rs) (hrs:rs=none) (hd:d <N):DL P GL N o (.mkm d):=by
 intro g w μ s s' a O hg hs;simp only[AI.step,AT0]at hs;subst hs;subst hrs;have hinv:=hg.inv.newAny (.map [] [] 0) (.map #[] 0) ⟨#[],heap_alloc_new w _,MapKept.stamped_empty 0,rfl,.nil,λo=>Gh.lt_of hg.inv.agree (AT6 _) o⟩ (λk ds d h=>by cases h);refine⟨.map (some w.heap.size),w.alloc (.map #[] 0),g,μ++[w.heap.size],.inl ?_,⟨?_,hg.glob,by rw[Ay,hg.sz]⟩,Bj _ g w _,AUz _ _⟩
 ·simp[execOp,hop,Instr.makeMap]
 ·rw[ho,DC _ (hg.sz▸hd)];refine hinv.set ⟨w.heap.size,?_,rfl⟩ λk=>by cases k<;>simp[Ab,AZ]
  rw[←hg.inv.len];simp
theorem ux {o:Oper} {d t e:Nat} {x c:Operand} {q:Opd} {z:D} (ho:o.dst=some d) (hop:o.op= .makeSlice t x c) (hd:d <N) (hxc:c=x) (hk:oe GL x q=true)
  (hu:P.underlying t=some (.slice e)) (hz:E9 P e [z]=true) (hsz:BK P e 1=true) (hby:((P.info? e).map λi=>decide (i.bytes≤1048576))=some true):DL P GL N o (.mksl d q z):=by
 intro g w μ s s' a O hg hs;subst hxc;simp only[AI.step]at hs;have hr:=(hg.gd P).ev hk;split at hs
 ·rename_i k n hn;rw[hn]at hr;have hxv:=D9 hr;split at hs
  ·rename_i hlt;simp only[AT0]at hs;subst hs;unfold E9 at hz;split at hz
   ·rename_i zv hzz;cases hit:P.info? e with
    |none=>simp[hit]at hzz
    |some it=>
     have hz1:it.zero=some zv:=by simpa[hit]using hzz
     have hsz1:it.size=1:=by simpa[BK,hit]using hsz
     have hby1:it.bytes≤1048576:=by simpa[hit]using hby
     obtain⟨r1,r2,r3⟩:=Fz (g:=g) (w:=w) (μ:=μ) hz;obtain⟨v0,hv0⟩:∃v0,zv.cells.toList=[v0]:=by
      have:=r1.1
      match hq:zv.cells.toList,this with
      |[v0],_=>exact⟨v0,rfl⟩
     rw[hv0]at r1 r2 r3;have hcell:zv.cells= #[v0]:=by rw[←AUu,hv0]
     have hrep:=(All2.cons_iff.1 r1).1;have hrun:=run_make (P:=P) w t e it zv hu hit hz1 k k n n hlt.1 (Int.le_refl _) (by
      have h1:(it.bytes:Int)≤1048576:=by omega
      have h2:(it.bytes:Int)*n≤1048576*n:=AU5 h1 hlt.1;omega) (by omega)
     have hmade:madeCells zv.cells (n.toNat*it.size)=(List.replicate n.toNat v0).toArray:=by
      rw[←AUu,hcell,hsz1,Nat.mul_one,toList_madeCells_one]
     rw[hmade]at hrun;have hnew:=hg.inv.newRow (zs:=List.replicate n.toNat z) (vs:=List.replicate n.toNat v0) e
      ⟨by simp,λi x v hx hv=>by
       have h1:=(AVU.1 (AT3 hx)).2;have h2:=(AVU.1 (AT3 hv)).2;subst h1;subst h2;exact hrep⟩
      (λv hv=>by have:=(AVU.1 hv).2;subst this;exact r2 _ (by simp))
      (λi x v hx hv=>by
       have h1:=(AVU.1 (AT3 hx)).2;have h2:=(AVU.1 (AT3 hv)).2;subst h1;subst h2;exact r3 0 _ _ rfl rfl)
     refine⟨.slice (some ⟨w.heap.size,0,none⟩) n.toNat n.toNat,w.alloc (.cells (List.replicate n.toNat v0).toArray e),g,μ++[w.heap.size],.inl (by simp[execOp,hop,hxv,hrun]),?_,Bj _ g w _,AUz _ _⟩;rw[ho];have hgn:Gs GL N g (w.alloc (.cells (List.replicate n.toNat v0).toArray e)) (μ++[w.heap.size]) ⟨s.e,s.h++[.cells (List.replicate n.toNat z)]⟩ a O:=⟨hnew,hg.glob,hg.sz⟩;have hrd:RepD g (w.alloc (.cells (List.replicate n.toNat v0).toArray e)) (μ++[w.heap.size]) (.sref s.h.length n.toNat) (.slice (some ⟨w.heap.size,0,none⟩) n.toNat n.toNat):=⟨w.heap.size,n.toNat,by rw[←hg.inv.len];simp,rfl,AT6 _⟩;exact hgn.set hd hrd λk=>by cases k<;>simp[Ab,AZ]
   ·cases hz
  ·cases hs
 ·cases hs
theorem MO {α:Type} (zs:List α) (n:Nat):(List.replicate n zs).flatten.length=n*zs.length:=by
 induction n with
 |zero=>simp
 |succ n ih=>rw[AWg,List.flatten_cons,AT5,ih,AVV];omega
theorem FR {α:Type} (zs:List α):∀(n i:Nat),i <n*zs.length→(List.replicate n zs).flatten[i]?=zs[i%zs.length]?
 |0,i,h=>by omega
 |n+1,i,h=>by
  rw[AWg,List.flatten_cons];by_cases hi:i <zs.length
  ·rw[AUQ hi,Nat.mod_eq_of_lt hi]
  ·rw[AVV]at h;rw[AUa (by omega),FR zs n (i-zs.length) (by omega),←Nat.mod_eq_sub_mod (show zs.length≤i by omega)]
theorem uw {o:Oper} {d t e:Nat} {x c:Operand} {q:Opd} {zs:List D} (ho:o.dst=some d) (hop:o.op= .makeSlice t x c) (hd:d <N) (hxc:c=x) (hk:oe GL x q=true)
  (hu:P.underlying t=some (.slice e)) (hz:E9 P e zs=true) (hsz:BK P e zs.length=true) (hby:((P.info? e).map λi=>decide (i.bytes≤1048576))=some true):DL P GL N o (.mksz d q zs):=by
 intro g w μ s s' a O hg hs;subst hxc;simp only[AI.step]at hs;have hr:=(hg.gd P).ev hk;split at hs
 ·rename_i k n hn;rw[hn]at hr;have hxv:=D9 hr;split at hs
  ·rename_i hlt;simp only[AT0]at hs;subst hs;unfold E9 at hz;split at hz
   ·rename_i zv hzz;cases hit:P.info? e with
    |none=>simp[hit]at hzz
    |some it=>
     have hz1:it.zero=some zv:=by simpa[hit]using hzz
     have hsz1:it.size=zs.length:=by simpa[BK,hit]using hsz
     have hby1:it.bytes≤1048576:=by simpa[hit]using hby
     obtain⟨r1,r2,r3⟩:=Fz (g:=g) (w:=w) (μ:=μ) hz;have hzl:zv.cells.size=zs.length:=by have:=r1.1;simpa using this
     have hrun:=run_make (P:=P) w t e it zv hu hit hz1 k k n n hlt.1 (Int.le_refl _) (by
      have h1:(it.bytes:Int)≤1048576:=by omega
      have h2:(it.bytes:Int)*n≤1048576*n:=AU5 h1 hlt.1;omega) (by omega)
     obtain⟨vs,hvs⟩:∃vs,vs=(madeCells zv.cells (n.toNat*it.size)).toList:=⟨_,rfl⟩;have hmade:madeCells zv.cells (n.toNat*it.size)=vs.toArray:=by rw[hvs]
     have hvl:vs.length=n.toNat*zs.length:=by rw[hvs,AV1,size_madeCells,hsz1]
     have hvg:∀i v,vs[i]?=some v→i <n.toNat*zs.length∧zv.cells.toList[i%zs.length]?=some v:=by
      intro i v hv;have hi:i <n.toNat*zs.length:=by rw[←hvl];exact(AT4.1 hv).1
      refine⟨hi,?_⟩;have hpos:0 <zs.length:=by
       rcases AV2 zs.length with h0|h0
       ·rw[h0]at hi;omega
       ·exact h0
      have hm:i%zs.length <zv.cells.size:=by rw[hzl];exact Nat.mod_lt _ hpos
      rw[hvs,AUl]at hv;unfold madeCells at hv;rw[Array.getElem?_map,Array.getElem?_range,if_pos (by rw[hsz1];exact hi)]at hv;simp only[AUU,AT0]at hv;rw[AUl,Array.getElem?_eq_getElem hm,←hv]
      congr 1
      simp only[hzl];rw[getElem!_pos zv.cells (i%zs.length) hm]
     rw[hmade]at hrun;have hnew:=hg.inv.newRow (zs:=(List.replicate n.toNat zs).flatten) (vs:=vs) e
      ⟨by rw[hvl,MO],λi x v hx hv=>by
       obtain⟨h1,h2⟩:=hvg i v hv;rw[FR zs _ _ h1]at hx;exact r1.2 _ x v hx h2⟩
      (λv hv=>by
       obtain⟨i,hi⟩:=AVW.1 hv;exact r2 v (AT3 (hvg i v hi).2))
      (λi x v hx hv=>by
       obtain⟨h1,h2⟩:=hvg i v hv;rw[FR zs _ _ h1]at hx;exact r3 _ x v hx h2)
     refine⟨.slice (some ⟨w.heap.size,0,none⟩) n.toNat n.toNat,w.alloc (.cells vs.toArray e),g,μ++[w.heap.size],.inl (by simp[execOp,hop,hxv,hrun]),?_,Bj _ g w _,AUz _ _⟩;rw[ho];have hgn:Gs GL N g (w.alloc (.cells vs.toArray e)) (μ++[w.heap.size]) ⟨s.e,s.h++[.cells (List.replicate n.toNat zs).flatten]⟩ a O:=⟨hnew,hg.glob,hg.sz⟩;have hrd:RepD g (w.alloc (.cells vs.toArray e)) (μ++[w.heap.size]) (.sref s.h.length n.toNat) (.slice (some ⟨w.heap.size,0,none⟩) n.toNat n.toNat):=⟨w.heap.size,n.toNat,by rw[←hg.inv.len];simp,rfl,AT6 _⟩;exact hgn.set hd hrd λk=>by cases k<;>simp[Ab,AZ]
   ·cases hz
  ·cases hs
 ·cases hs
theorem Ld {g:Gh}:∀(ys:List V) (vy:Nat→Value),(∀(j:Nat) y,ys[j]?=some y→RepV g y (vy j))→All2 (RepV g) (ys.flatMap V.cells) (A8 ys.length vy)
 |[],vy,_=> .nil
 |y::ys,vy,hvy=>by
  have e2:A8 (y::ys).length vy=(vy 0).cells.toList++A8 ys.length (λj=>vy (j+1)):=by simp[A8,AWL,AWJ]
  rw[e2,AUN];exact(hvy 0 y rfl).cells.1.append (Ld ys _ λj x hx=>hvy (j+1) x (by simpa using hx))
theorem AFQ {o:Oper} {d:Option Nat} {x y:Operand} {q r:Opd} {t t2 sz:Nat} (ho:o.dst=d) (hd:∀n,d=some n→n <N) (hop:o.op= .call {callee:= .builtin .copy,args:= #[x,y],argTypes:= #[t,t2]})
  (hk:oe GL x q=true) (hk2:oe GL y r=true) (ht:(match P.underlying t with|some (.slice e)=>BK P e sz|_=>false)=true):DL P GL N o (.cpy d q r sz):=by
 intro g w μ s s' a O hg hs;simp only[AI.step]at hs;have hrx:=(hg.gd P).ev hk;have hry:=((hg.gd P).ev hk2).copy;split at ht
 ·rename_i e hu;split at hs
  ·rename_i rr n hq;rw[hq]at hrx;obtain⟨b,cap,hb,hxv,hn⟩:=hrx;split at hs
   ·rename_i ys hy;rw[hy]at hry;split at hs
    ·rename_i ds hr;split at hs
     ·rename_i hc;obtain⟨⟨hc1,hc2⟩,h0,hh⟩:=hc;simp only[AT0]at hs;subst hs;obtain⟨vs,T,hheap,hall,hone,hgn⟩:=hg.inv.row hb hr;obtain⟨vy,h1,h2,h3,h4⟩:=Ha (P:=P) hg.inv.agree hry h0 hh;have hfl:(A8 ys.length vy).length=n*sz:=by rw[Cd h3,hc1]
      have h5:∀v∈A8 ys.length vy,v.oneCell'=true:=by
       intro v hv;obtain⟨j,hj,hm⟩:=H4 hv;exact h4 j hj v hm
      have hst:=run_storeCells_at P b 0 T (A8 ys.length vy) 0 vs.toArray w hheap (by simp[hfl,hall.1,hc2]) h5;have hdrop:vs.drop (A8 ys.length vy).length=[]:=AWp.2 (by rw[hfl,hall.1,hc2];exact AT6 _);simp only[AVR,AU9,List.take_zero,AWM,hdrop,AUq]at hst;have hmin:min n n=n:=Nat.min_self n;have hrun:(execOp a.eval o).run P w= .ok (.value (goInt n)) (w.setRow b (A8 ys.length vy).toArray):=by
       have hl:=h1.len w;have hcl:=h1.cells;rw[hc1]at hl hcl;simp[execOp,hop,resolve,invoke,builtin,hxv,Builtin.copy_,run_underlying hu,hl,BS ht,hcl,hmin];rw[hc1]at hst;simp[hst,hc1]
      have hst2:=hg.inv.storeRow hr hb hheap ((ys.flatMap V.cells).map .v) (A8 ys.length vy) (All2.map_left (f:=D.v) (R:=RepV g) (λx y h=>h) (Ld ys vy h2)) h5 (λi z v hz hv=>by
       simp only[AUG,AUA]at hz;obtain⟨y,_,rfl⟩:=hz;exact .inl (by simp[AZ]))
      have hch:Chg (λb=>¬O b) g w g (w.setRow b (A8 ys.length vy).toArray):=(Dm g w b _).mono (C4 O hg (AT3 hb));refine⟨goInt n,_,g,μ,.inl hrun,?_,hch,AT8 _⟩;have hgs:Gs GL N g (w.setRow b (A8 ys.length vy).toArray) μ ⟨s.e,s.h.set rr (.cells ((ys.flatMap V.cells).map .v))⟩ a O:=⟨hst2,hg.glob,hg.sz⟩;rw[ho];cases d with
      |none=>exact hgs
      |some d=>exact hgs.set (hd d rfl) (x:= .v (.int .i64 n)) (.int _ _) λk=>by cases k<;>simp[Ab,AZ]
     ·cases hs
    ·cases hs
   ·cases hs
  ·cases hs
 ·cases ht
theorem E4 {w:World} {b:Nat} {o o':Obj} (hb:w.heap[b]?=some o) (g:Gh) (hg:∀o,g.m b o=none) (hag:∀b o v,g.m b o=some v→w.cell? ⟨b,o,none⟩=some v):
  ({w with heap:=w.heap.setIfInBounds b o'}:World).heap[b]?=some o'∧Chg (λx=>x=b) g w g {w with heap:=w.heap.setIfInBounds b o'}∧
  ∀b' o v,g.m b' o=some v→({w with heap:=w.heap.setIfInBounds b o'}:World).cell? ⟨b',o,none⟩=some v:=by
 have h:=MapKept.heap_set (o':=o') hb;refine⟨h.1,⟨Gh.le.refl g,by simp,λb' _ hne=>h.2 b' hne,λ_ _ _ _=>rfl,rfl,rfl⟩,λb' o v hv=>?_⟩;by_cases hbb:b'=b
 ·subst hbb;rw[hg o]at hv;cases hv
 ·rw[World.cell?_of_block (a:=⟨b',o,none⟩) (h.2 b' hbb)];exact hag b' o v hv
theorem G1 {α β:Type} (f:α→β):∀(l:List α) (i:Nat),(l.eraseIdx i).map f=(l.map f).eraseIdx i
 |[],_=>by simp
 |x::l,0=>by simp
 |x::l,i+1=>by simp[G1 f l i]
theorem JW (ents:Array MapEntry) (j:Nat) (f:MapEntry→MapEntry) (hf:∀e,(f e).born=e.born):(ents.modify j f).toList.map (·.born)=ents.toList.map (·.born):=by
 apply AUj;intro i;simp only[AUG,AUl,AWN];by_cases hij:j=i
 ·subst hij;cases ents[j]?<;>simp[hf]
 ·simp[hij]
theorem uu {o:Oper} {t:Nat} {x k v:Operand} {m' k' v':Opd} {st:Bool} {ks:List Nat} (ho:o.dst=none) (hop:o.op= .mapUpdate t x k v)
  (ht:(match P.underlying t with|some (.map kt _)=>D6 P kt st ks|_=>false)=true) (hm:oe GL x m'=true) (hk:oe GL k k'=true) (hv:oe GL v v'=true):DL P GL N o (.mput m' k' v' st ks):=by
 intro g w μ s s' a O hg hs;simp only[AI.step]at hs;have hrm:=(hg.gd P).ev hm;have hrk:=(hg.gd P).ev hk;have hrv:=(hg.gd P).ev hv;split at ht
 ·rename_i kt el hu;split at hs
  ·rename_i r hmv;rw[hmv]at hrm;obtain⟨b,hb,hxv⟩:=hrm;have hbm:=AT3 hb;split at hs
   ·rename_i es bs clock hr;obtain⟨ents,hheap,hst,hbs,hall,hgn⟩:=Ij hg.inv hr hb;have Bc:=MapKept.run_getObj_map (P:=P) hheap;split at hs
    ·rename_i kv vv hkv hvv;have hkr:=CF hrk hkv;have hvr:=CF hrv hvv;split at hs
     ·rename_i hko;have hck:=λe=>FD (P:=P) (w:=w) hkr ht hko e;split at hs
      ·rename_i hf;simp only[AT0]at hs;subst hs;have hfk:=CT (P:=P) (w:=w) hkr ht hko hall hf;have hno:=(E5 (P:=P) (w:=w) hkr ht hko hall hf).2.2 rfl;obtain⟨p1,p2,p3⟩:=E4 (o':= .map (ents.push {key:=a.eval k,val:=a.eval v,born:=clock}) (clock+1)) hheap g hgn hg.inv.agree;refine⟨undef,_,g,μ,.inr ⟨?_,rfl⟩,⟨?_,hg.glob,by rw[Ay,hg.sz]⟩,p2.mono (C4 O hg hbm),AT8 _⟩
       ·simp[execOp,hop,hxv,Instr.mapUpdate,run_underlying hu,Bc,hck,hfk,MapKept.run_setObj_map _ hheap,Result.andThen]
       ·rw[ho];refine hg.inv.setAny hr hb (.map (es++[(kv,vv)]) (bs++[clock]) (clock+1)) p2 p3 ⟨_,p1,MapKept.stamped_push hst hno,by simp[hbs],?_,hgn⟩ (λk ds d h=>by cases h);simp only[Array.toList_push];exact hall.append (.cons ⟨hkr,hvr⟩ .nil)
      ·rename_i j hf;simp only[AT0]at hs;subst hs;have hfk:=CT (P:=P) (w:=w) hkr ht hko hall hf;obtain⟨e,he,hek⟩:=(E5 (P:=P) (w:=w) hkr ht hko hall hf).2.1 j rfl;simp only[AUX,he,AUU]at hfk;have hej:ents[j]?=some e:=by simpa using he
       have hsb:(Instr.keyThatStays (a.eval k) (a.eval k)).run P w= .ok (a.eval k) w:=by
        have:=(Hu hkr hkr hko hko (b:=true) (by
         simp only[BL,AT1]at hko;cases h2:V.eqL ks kv.cells kv.cells with
         |none=>simp[h2]at hko
         |some b=>cases b<;>simp[h2]at hko ⊢)).2 9999
        simp[Instr.keyThatStays,this]
       obtain⟨p1,p2,p3⟩:=E4 (o':= .map (ents.modify j λe=>{e with key:=a.eval k,val:=a.eval v}) clock) hheap g hgn hg.inv.agree;refine⟨undef,_,g,μ,.inr ⟨?_,rfl⟩,⟨?_,hg.glob,by rw[Ay,hg.sz]⟩,p2.mono (C4 O hg hbm),AT8 _⟩
       ·simp[execOp,hop,hxv,Instr.mapUpdate,run_underlying hu,Bc,hck,hfk,hej,hek,hsb,MapKept.run_setObj_map _ hheap,Result.andThen]
       ·rw[ho];refine hg.inv.setAny hr hb (.map (es.set j (kv,vv)) bs clock) p2 p3 ⟨_,p1,MapKept.stamped_modify hst _ _ (λ_ _=>rfl) (λe' _ he'=>?_),?_,?_,hgn⟩ (λk ds d h=>by cases h)
        ·rw[hej]at he';cases he';exact hek.symm
        ·rw[←hbs];exact JW _ _ _ λ_=>rfl
        ·have hset:(ents.modify j λe=>{e with key:=a.eval k,val:=a.eval v}).toList=ents.toList.set j {e with key:=a.eval k,val:=a.eval v}:=by
          apply AUj;intro i;simp only[AUl,AWN,AUe];by_cases hij:j=i
          ·subst hij;obtain⟨hlt,heq⟩:=AVI.1 hej;simp[hlt,heq]
          ·simp[hij]
         rw[hset];exact hall.set ⟨hkr,hvr⟩
      ·cases hs
     ·cases hs
    ·cases hs
   ·cases hs
  ·cases hs
 ·cases ht
theorem F3 {α:Type} {l:List α} {r:Nat} {x:α} (h:l[r]?=some x):l.set r x=l:=by
 apply AUj;intro i;rw[AUe];by_cases hi:r=i
 ·subst hi;have:=(AT4.1 h).1;simp[this,h];exact((AT4.1 h).2).symm
 ·simp[hi]
theorem LA {α β:Type} {R:α→β→Prop} {xs:List α} {ys:List β} (h:All2 R xs ys) (i:Nat):All2 R (xs.eraseIdx i) (ys.eraseIdx i):=by
 induction xs generalizing ys i with
 |nil=>
  have:=AUg h.1;subst this;simpa using (All2.nil:All2 R [] [])
 |cons x xs ih=>
  cases ys with
  |nil=>simp[All2]at h
  |cons y ys=>
   rw[All2.cons_iff]at h;cases i with
   |zero=>simpa using h.2
   |succ i=>simp only[List.eraseIdx_cons_succ];exact .cons h.1 (ih h.2 i)
theorem u1 {o:Oper} {d:Option Nat} {t t2:Nat} {x k:Operand} {m' k':Opd} {st:Bool} {ks:List Nat} (ho:o.dst=d) (hd:∀n,d=some n→n <N) (hop:o.op= .call {callee:= .builtin .delete,args:= #[x,k],argTypes:= #[t,t2]})
  (ht:(match P.underlying t with|some (.map kt _)=>D6 P kt st ks|_=>false)=true) (hm:oe GL x m'=true) (hk:oe GL k k'=true):DL P GL N o (.mdel d m' k' st ks):=by
 intro g w μ s s' a O hg hs;simp only[AI.step]at hs;have hrm:=(hg.gd P).ev hm;have hrk:=(hg.gd P).ev hk;have fin:∀ {g':Gh} {w':World} {h':List Row},Gs GL N g' w' μ ⟨s.e,h'⟩ a O→Gs GL N g' w' μ ⟨Bh s.e d (.tup []),h'⟩ (a.put o.dst (.tuple #[])) O:=by
  intro g' w' h' hgs;rw[ho];cases d with
  |none=>exact⟨hgs.inv,hgs.glob,by rw[Ay,hgs.sz]⟩
  |some n=>exact hgs.set (hd n rfl) ⟨[],rfl,.nil⟩ λk=>by simp[Ab,AZ]
 split at ht
 ·rename_i kt el hu;split at hs
  ·rename_i r hmv;rw[hmv]at hrm;obtain⟨b,hb,hxv⟩:=hrm;have hbm:=AT3 hb;split at hs
   ·rename_i es bs clock hr;obtain⟨ents,hheap,hst,hbs,hall,hgn⟩:=Ij hg.inv hr hb;have Bc:=MapKept.run_getObj_map (P:=P) hheap;split at hs
    ·rename_i kv hkv;have hkr:=CF hrk hkv;split at hs
     ·rename_i hko;have hck:=λe=>FD (P:=P) (w:=w) hkr ht hko e;split at hs
      ·rename_i hf;simp only[AT0]at hs;subst hs;have hfk:=CT (P:=P) (w:=w) hkr ht hko hall hf;obtain⟨p1,p2,p3⟩:=E4 (o':= .map ents clock) hheap g hgn hg.inv.agree;refine⟨.tuple #[],_,g,μ,.inl ?_,fin ⟨?_,hg.glob,hg.sz⟩,p2.mono (C4 O hg hbm),AT8 _⟩
       ·simp[execOp,hop,hxv,resolve,invoke,builtin,Builtin.delete_,run_underlying hu,Bc,hck,hfk,MapKept.run_setObj_map _ hheap,Result.andThen]
       ·have:=hg.inv.setAny hr hb (.map es bs clock) p2 p3 ⟨_,p1,hst,hbs,hall,hgn⟩ (λk ds d h=>by cases h)
        rwa [F3 hr]at this
      ·rename_i j hf;simp only[AT0]at hs;subst hs;have hfk:=CT (P:=P) (w:=w) hkr ht hko hall hf;obtain⟨e,he,hek⟩:=(E5 (P:=P) (w:=w) hkr ht hko hall hf).2.1 j rfl;simp only[AUX,he,AUU]at hfk;obtain⟨p1,p2,p3⟩:=E4 (o':= .map (ents.eraseIdxIfInBounds j) clock) hheap g hgn hg.inv.agree;refine⟨.tuple #[],_,g,μ,.inl ?_,fin ⟨?_,hg.glob,hg.sz⟩,p2.mono (C4 O hg hbm),AT8 _⟩
       ·simp[execOp,hop,hxv,resolve,invoke,builtin,Builtin.delete_,run_underlying hu,Bc,hck,hfk,MapKept.run_setObj_map _ hheap,Result.andThen]
       ·refine hg.inv.setAny hr hb (.map (es.eraseIdx j) (bs.eraseIdx j) clock) p2 p3 ⟨_,p1,MapKept.stamped_erase hst j,?_,?_,hgn⟩ (λk ds d h=>by cases h)
        all_goals
         have hj:j <ents.size:=by have:=(AT4.1 he).1;simpa using this
         have:(ents.eraseIdxIfInBounds j).toList=ents.toList.eraseIdx j:=by simp[Array.eraseIdxIfInBounds,hj]
        ·rw[this,←hbs,G1]
        ·rw[this];exact LA hall j
      ·cases hs
     ·cases hs
    ·cases hs
   ·cases hs
  ·cases hs
 ·cases ht
theorem u0 {o:Oper} {d t:Nat} {x k:Operand} {m' k':Opd} {st:Bool} {ks:List Nat} (ho:o.dst=some d) (hd:d <N) (hop:o.op= .mapEntry t x k)
  (ht:(match P.underlying t with|some (.map kt _)=>D6 P kt st ks|_=>false)=true) (hm:oe GL x m'=true) (hk:oe GL k k'=true):DL P GL N o (.ment d m' k' st ks):=by
 intro g w μ s s' a O hg hs;simp only[AI.step]at hs;have hrm:=(hg.gd P).ev hm;have hrk:=(hg.gd P).ev hk;split at ht
 ·rename_i kt el hu;split at hs
  ·rename_i r hmv;rw[hmv]at hrm;obtain⟨b,hb,hxv⟩:=hrm;have hbm:=AT3 hb;split at hs
   ·rename_i es bs clock hr;obtain⟨ents,hheap,hst,hbs,hall,hgn⟩:=Ij hg.inv hr hb;have Bc:=MapKept.run_getObj_map (P:=P) hheap;split at hs
    ·rename_i kv hkv;have hkr:=CF hrk hkv;split at hs
     ·rename_i hko;have hck:=λe=>FD (P:=P) (w:=w) hkr ht hko e;split at hs
      ·rename_i j hf;split at hs
       ·rename_i p n hp hn;simp only[AT0]at hs;subst hs;have hfk:=CT (P:=P) (w:=w) hkr ht hko hall hf;obtain⟨e,he,hek⟩:=(E5 (P:=P) (w:=w) hkr ht hko hall hf).2.1 j rfl;simp only[AUX,he,AUU]at hfk;have hej:ents[j]?=some e:=by simpa using he
        have hsb:(Instr.keyThatStays (a.eval k) (a.eval k)).run P w= .ok (a.eval k) w:=by
         have:=(Hu hkr hkr hko hko (b:=true) (by
          simp only[BL,AT1]at hko;cases h2:V.eqL ks kv.cells kv.cells with
          |none=>simp[h2]at hko
          |some b=>cases b<;>simp[h2]at hko ⊢)).2 9999
         simp[Instr.keyThatStays,this]
        have hborn:e.born=n:=by
         have:bs[j]?=some e.born:=by rw[←hbs];simp[hej]
         rw[hn]at this;simpa using this.symm
        have hval:RepV g p.2 e.val:=(hall.2 j p e hp he).2;have hsame:ents.modify j (λe=>{e with key:=a.eval k})=ents:=by
         apply Array.ext_getElem?;intro i;rw[AWN];by_cases hij:j=i
         ·subst hij;simp[hej,←hek]
         ·simp[hij]
        obtain⟨p1,p2,p3⟩:=E4 (o':= .map ents clock) hheap g hgn hg.inv.agree;refine⟨.tuple #[e.val,.int .i64 n],_,g,μ,.inl ?_,?_,p2.mono (C4 O hg hbm),AT8 _⟩
        ·simp[execOp,hop,hxv,Instr.mapEntry,run_underlying hu,Bc,hck,hfk,hej,hek,hsb,hsame,MapKept.run_setObj_map _ hheap,Result.andThen,goInt,hborn]
        ·have h1:=hg.inv.setAny hr hb (.map es bs clock) p2 p3 ⟨_,p1,hst,hbs,hall,hgn⟩ (λk ds d h=>by cases h);rw[F3 hr]at h1;rw[ho];have hgs:Gs GL N g {w with heap:=w.heap.setIfInBounds b (.map ents clock)} μ s a O:=⟨h1,hg.glob,hg.sz⟩;refine hgs.set hd (x:= .tup [.v p.2,.v (.int .i64 n)]) ⟨[e.val,.int .i64 n],rfl,.cons hval (.cons (.int _ _) .nil)⟩ λk=>?_;simp only[Ab,AVm];cases k with
         |zero=>rfl
         |succ k=>cases k with
          |zero=>rfl
          |succ k=>simp[AZ]
       ·cases hs
      ·cases hs
     ·cases hs
    ·cases hs
   ·cases hs
  ·cases hs
 ·cases ht
theorem uz {o:Oper} {t:Nat} {x b0 v:Operand} {m' b' v':Opd} (ho:o.dst=none) (hop:o.op= .entryStore t x b0 v) (hm:oe GL x m'=true) (hk:oe GL b0 b'=true) (hv:oe GL v v'=true):
  DL P GL N o (.mest m' b' v'):=by
 intro g w μ s s' a O hg hs;simp only[AI.step]at hs;have hrm:=(hg.gd P).ev hm;have hrk:=(hg.gd P).ev hk;have hrv:=(hg.gd P).ev hv;split at hs
 ·rename_i r hmv;rw[hmv]at hrm;obtain⟨b,hb,hxv⟩:=hrm;have hbm:=AT3 hb;split at hs
  ·rename_i es bs clock hr;obtain⟨ents,hheap,hst,hbs,hall,hgn⟩:=Ij hg.inv hr hb;have Bc:=MapKept.run_getObj_map (P:=P) hheap;split at hs
   ·rename_i kk n vv hbv hvv;rw[hbv]at hrk;have hbi:=D9 hrk;have hvr:=CF hrv hvv;split at hs
    ·rename_i j hj;split at hs
     ·rename_i p hp;simp only[AT0]at hs;subst hs;have hidx:ents.findIdx? (λe=>(e.born:Int)==n)=some j:=by
       rw[←hbs,List.findIdx?_map]at hj;have:ents=ents.toList.toArray:=by simp
       rw[this,List.findIdx?_toArray];exact hj
      obtain⟨p1,p2,p3⟩:=E4 (o':= .map (ents.modify j λe=>{e with val:=a.eval v}) clock) hheap g hgn hg.inv.agree;obtain⟨e,he,hep⟩:=hall.get hp;have hej:ents[j]?=some e:=by simpa using he
      refine⟨undef,_,g,μ,.inr ⟨?_,rfl⟩,⟨?_,hg.glob,by rw[Ay,hg.sz]⟩,p2.mono (C4 O hg hbm),AT8 _⟩
      ·simp[execOp,hop,hxv,hbi,Instr.entryStore,Bc,asInt,asIntOf,hidx,MapKept.run_setObj_map _ hheap,Result.andThen]
      ·rw[ho];refine hg.inv.setAny hr hb (.map (es.set j (p.1,vv)) bs clock) p2 p3 ⟨_,p1,MapKept.stamped_modify hst _ _ (λ_ _=>rfl) (λe' _ he'=>rfl),?_,?_,hgn⟩ (λk ds d h=>by cases h)
       ·rw[←hbs];exact JW _ _ _ λ_=>rfl
       ·have hset:(ents.modify j λe=>{e with val:=a.eval v}).toList=ents.toList.set j {e with val:=a.eval v}:=by
         apply AUj;intro i;simp only[AUl,AWN,AUe];by_cases hij:j=i
         ·subst hij;obtain⟨hlt,heq⟩:=AVI.1 hej;simp[hlt,heq]
         ·simp[hij]
        rw[hset];exact hall.set ⟨hep.1,hvr⟩
     ·cases hs
    ·cases hs
   ·cases hs
  ·cases hs
 ·cases hs
end
def rnm:List (Nat×Nat)→Nat→Nat
 |[],r=>r
 |p::π,r=>if p.1=r then p.2 else rnm π r
def Bp (π:List (Nat×Nat)):List (Nat×Nat):=π.map λp=>(p.2,p.1)
mutual
def D.ren (π:List (Nat×Nat)):D→D
 | .ref r o=> .ref (rnm π r) o
 | .sref r n=> .sref (rnm π r) n
 | .mref r=> .mref (rnm π r)
 | .yld r=> .yld (rnm π r)
 | .agg ds=> .agg (D.rens π ds)
 | .tup ds=> .tup (D.rens π ds)
 | .func f ds=> .func f (D.rens π ds)
 | .meth f ds=> .meth f (D.rens π ds)
 | .v x=> .v x
 | .any=> .any
 | .nil e s=> .nil e s
 | .own e s xs=> .own e s xs
 | .pend b e s xs=> .pend b e s xs
 | .pptr b s n=> .pptr b s n
def D.rens (π:List (Nat×Nat)):List D→List D
 |[]=>[]
 |d::ds=>D.ren π d::D.rens π ds
end
theorem CO (π:List (Nat×Nat)):∀ds:List D,D.rens π ds=ds.map (D.ren π)
 |[]=>rfl
 |d::ds=>by simp only[D.rens,AUD,CO π ds]
def Row.ren (π:List (Nat×Nat)):Row→Row
 | .cells ds=> .cells (D.rens π ds)
 |x=>x
def KH (n0 len:Nat) (π:List (Nat×Nat)):Bool:=
 (List.range len).all λr=>decide (rnm π r <len)&&decide (rnm (Bp π) r <len)&&rnm (Bp π) (rnm π r)==r&&rnm π (rnm (Bp π) r)==r&&(decide (n0≤r)||rnm (Bp π) r==r)
def Row.isObj:Row→Bool
 | .obj _ _ _=>true
 |_=>false
def LV (h:List Row):Bool:=h.all λr=> !r.isObj
def Ap (π:List (Nat×Nat)) (h:List Row):List Row:=(List.range h.length).map λi=>((h[rnm (Bp π) i]?).getD .dead).ren π
def KD (π:List (Nat×Nat)) (μ:List Nat):List Nat:=(List.range μ.length).map λi=>(μ[rnm (Bp π) i]?).getD 0
def PR (n0:Nat) (s s2:St):Prop:=
 s2=s∨∃π,KH n0 s.h.length π=true∧LV s.h=true∧(∀n,AH s2.e n=(AH s.e n).ren π)∧s2.h=Ap π s.h
section
variable {g:Gh} {w:World} {μ:List Nat} {π:List (Nat×Nat)}
theorem RepC.ren {μ':List Nat} (hπ:∀r b,μ[r]?=some b→μ'[rnm π r]?=some b) {d:D} {u:Value} (h:RepC g μ d u):RepC g μ' (d.ren π) u:=by
 cases d<;>simp only[RepC,D.ren]at h ⊢
 ·exact h
 ·obtain⟨b,hb,rfl⟩:=h;exact⟨b,hπ _ _ hb,rfl⟩
theorem RepE.ren {μ':List Nat} (hπ:∀r b,μ[r]?=some b→μ'[rnm π r]?=some b) {d:D} {u:Value} (h:RepE g w μ d u):RepE g w μ' (d.ren π) u:=by
 cases d<;>simp only[RepE,D.ren]at h ⊢
 ·exact h
 ·exact h
 ·exact h
 ·obtain⟨b,hb,rfl⟩:=h;exact⟨b,hπ _ _ hb,rfl⟩
 ·obtain⟨b,cap,hb,rfl,hn⟩:=h;exact⟨b,cap,hπ _ _ hb,rfl,hn⟩
 ·obtain⟨b,hb,rfl⟩:=h;exact⟨b,hπ _ _ hb,rfl⟩
 ·obtain⟨vs,rfl,h⟩:=h;refine⟨vs,rfl,?_⟩;rw[CO];exact All2.map_left (λx y hx=>RepC.ren hπ hx) h
 ·obtain⟨vs,rfl,h⟩:=h;refine⟨vs,rfl,?_⟩;rw[CO];exact All2.map_left (λx y hx=>RepC.ren hπ hx) h
 ·obtain⟨b,hb,rfl⟩:=h;exact⟨b,hπ _ _ hb,rfl⟩
 ·exact h
 ·exact h
theorem KJ (d:D) (v:Value):AZ (d.ren π) v=AZ d v:=by cases d<;>simp only[D.ren]<;>simp only[AZ]
theorem RepG.ren {μ':List Nat} (hπ:∀r b,μ[r]?=some b→μ'[rnm π r]?=some b) {d:D} {u:Value} (h:RepG g w μ d u):RepG g w μ' (d.ren π) u:=by
 have key:RepE g w μ d u→RepE g w μ' (d.ren π) u:=λh=>RepE.ren hπ h;cases d with
 |agg ds=>
  obtain⟨vs,rfl,ha,h1,h2⟩:=h;simp only[D.ren];refine⟨vs,rfl,?_,h1,λd hd v=>?_⟩
  ·rw[CO];exact All2.map_left (λx y hx=>RepE.ren hπ hx) ha
  ·rw[CO,AT9]at hd;obtain⟨d',hd',rfl⟩:=hd;rw[KJ];exact h2 d' hd' v
 |_=>simp only[D.ren]at key ⊢;exact key h
theorem RepD.ren {μ':List Nat} (hπ:∀r b,μ[r]?=some b→μ'[rnm π r]?=some b) {d:D} {u:Value} (h:RepD g w μ d u):RepD g w μ' (d.ren π) u:=by
 have key:RepG g w μ d u→RepG g w μ' (d.ren π) u:=λh=>RepG.ren hπ h;cases d with
 |tup ds=>
  obtain⟨vs,rfl,ha⟩:=h;simp only[D.ren];refine⟨vs,rfl,?_⟩;rw[CO];exact All2.map_left (λx y hx=>RepG.ren hπ hx) ha
 |_=>simp only[D.ren]at key ⊢;exact key h
theorem WL (d:D) (v:Value) (k:Nat):Ab (d.ren π) v k=Ab d v k:=by
 cases d with
 |tup ds=>
  have e:∀v:Value,AZ ((ds.map (D.ren π))[k]?.getD .any) v=AZ (ds[k]?.getD .any) v:=by
   intro v;simp only[AUG];cases ds[k]? with
   |none=>rfl
   |some d=>simp[KJ]
  have e2:∀(ds:List D) (v:Value),AZ (.tup ds) v=none:=λ_ _=>rfl;simp only[D.ren,CO];cases v<;>cases k<;>simp only[Ab,e,e2]
 |_=>cases k<;>simp only[D.ren,Ab,AZ]
theorem Inv.ren {t t':Nat→D} {u:Nat→Value} {h:List Row} {O:Nat→Prop} {n0:Nat} (hi:Inv g w μ t u h O) (hp:KH n0 h.length π=true) (ho:LV h=true) (ht:∀n,t' n=(t n).ren π):
  Inv g w (KD π μ) t' u (Ap π h) O:=by
 have hlen:μ.length=h.length:=hi.len;have hp':∀r,r <h.length→rnm π r <h.length∧rnm (Bp π) r <h.length∧rnm (Bp π) (rnm π r)=r∧rnm π (rnm (Bp π) r)=r:=by
  intro r hr;have:=AUI.1 hp r (AUR.2 hr);simp only[AT1,decide_eq_true_eq,beq_iff_eq]at this;exact⟨this.1.1.1.1,this.1.1.1.2,this.1.1.2,this.1.2⟩
 have hμ:∀r b,(KD π μ)[r]?=some b↔r <h.length∧μ[rnm (Bp π) r]?=some b:=by
  intro r b;simp only[KD,AUG];by_cases hr:r <h.length
  ·have:(List.range μ.length)[r]?=some r:=AU4 (by omega);have hlt:=(hp' r hr).2.1;have e1:μ[rnm (Bp π) r]?=some μ[rnm (Bp π) r]:=AT2 (by omega);simp only[this,AUU,e1,AUH,hr,true_and]
  ·have:(List.range μ.length)[r]?=none:=by simp;omega
   simp[this,hr]
 have hh:∀r row,(Ap π h)[r]?=some row↔r <h.length∧∃row0,h[rnm (Bp π) r]?=some row0∧row=row0.ren π:=by
  intro r row;simp only[Ap,AUG];by_cases hr:r <h.length
  ·have:(List.range h.length)[r]?=some r:=AU4 hr;have hlt:=(hp' r hr).2.1;have e1:h[rnm (Bp π) r]?=some h[rnm (Bp π) r]:=AT2 hlt;simp only[this,AUU,e1,AUH,hr,true_and,AT0];exact⟨λh=>⟨_,rfl,h.symm⟩,λ⟨x,hx,hr⟩=>by rw[hr,hx]⟩
  ·have:(List.range h.length)[r]?=none:=by simp;omega
   simp[this,hr]
 have hπ:∀r b,μ[r]?=some b→(KD π μ)[rnm π r]?=some b:=by
  intro r b hb;have hr:r <h.length:=by have:=(AT4.1 hb).1;omega
  rw[hμ];exact⟨(hp' r hr).1,by rw[(hp' r hr).2.2.1];exact hb⟩
 have hcellU:∀r k,r <h.length→A0 w (KD π μ) r k=A0 w μ (rnm (Bp π) r) k:=by
  intro r k hr;simp only[A0];have hlt:=(hp' r hr).2.1;have e1:μ[rnm (Bp π) r]?=some μ[rnm (Bp π) r]:=AT2 (by omega);rw[(hμ r _).2 ⟨hr,e1⟩,e1]
 have hcellD:∀r k v,r <h.length→AZ (Av (Ap π h) r k) v=AZ (Av h (rnm (Bp π) r) k) v:=by
  intro r k v hr;have hlt:=(hp' r hr).2.1;have e1:h[rnm (Bp π) r]?=some h[rnm (Bp π) r]:=AT2 hlt;simp only[Av,(hh r _).2 ⟨hr,_,e1,rfl⟩,e1];cases h[rnm (Bp π) r]with
  |cells ds=>
   simp only[Row.ren,CO,AUG];cases ds[k]? with
   |none=>rfl
   |some d=>simp[KJ]
  |_=>rfl
 have hout:∀r k v,¬r <h.length→AZ (Av (Ap π h) r k) v=none:=by
  intro r k v hr;have:(Ap π h)[r]?=none:=by simp[Ap];omega
  simp[Av,this,AZ]
 have hblk:∀p b,blk t' u (Ap π h) w (KD π μ) p=some b→blk t u h w μ (match p with| .tmp n k=> .tmp n k| .cell r k=> .cell (rnm (Bp π) r) k)=some b:=by
  intro p b hb;cases p with
  |tmp n k=>simp only[blk,ht,WL]at hb ⊢;exact hb
  |cell r k=>
   simp only[blk]at hb ⊢;by_cases hr:r <h.length
   ·rw[hcellD r k _ hr,hcellU r k hr]at hb;exact hb
   ·rw[hout r k _ hr]at hb;cases hb
 have hblt:∀r k b,blk t' u (Ap π h) w (KD π μ) (.cell r k)=some b→r <h.length:=by
  intro r k b hb;by_cases hr:r <h.length
  ·exact hr
  ·simp only[blk,hout r k _ hr]at hb;cases hb
 have hmem:∀b,b∈KD π μ→b∈μ:=by
  intro b hb;obtain⟨r,hr⟩:=AVW.1 hb;exact AT3 ((hμ r b).1 hr).2
 refine⟨hi.agree,hi.olt,λn=>by rw[ht];exact(hi.rep n).ren hπ,by simp[KD,Ap,hlen],?_,?_,λb hb=>hi.mo b (hmem b hb),?_,λp b hb=>⟨λhm=>(hi.sep _ b (hblk p b hb)).1 (hmem b hm),(hi.sep _ b (hblk p b hb)).2⟩⟩
 ·intro r row b hr hb;obtain⟨_,row0,hr0,rfl⟩:=(hh r row).1 hr;have hb0:=((hμ r b).1 hb).2;have:=hi.rows _ row0 b hr0 hb0;cases row0 with
  |cells ds=>
   obtain⟨vs,T,h1,h2,h3,h4⟩:=this;exact⟨vs,T,h1,by rw[CO];exact All2.map_left (λx y hx=>RepE.ren hπ hx) h2,h3,h4⟩
  |map es st ck=>exact this
  |obj tag p m=>
   have:=AUI.1 ho _ (AT3 hr0);simp[Row.isObj]at this
  |dead=>exact this
 ·intro r r' b hb hb';obtain⟨hr,h1⟩:=(hμ r b).1 hb;obtain⟨hr',h2⟩:=(hμ r' b).1 hb';have:=hi.nod _ _ b h1 h2;rw[←(hp' r hr).2.2.2,←(hp' r' hr').2.2.2,this]
 ·intro p q b hp hq;have h1:=hblk p b hp;have h2:=hblk q b hq;have:=hi.uniq _ _ b h1 h2;cases p with
  |tmp n k=>cases q with
   |tmp n' k'=>exact this
   |cell r' k'=>cases this
  |cell r k=>cases q with
   |tmp n' k'=>cases this
   |cell r' k'=>
    simp only[Pl.cell.injEq]at this;have hr:=hblt r k b hp;have hr':=hblt r' k' b hq;rw[←(hp' r hr).2.2.2,←(hp' r' hr').2.2.2,this.1,this.2]
end
section
variable {GL:AX} {N:Nat}
theorem Gs.ren {g:Gh} {w:World} {μ:List Nat} {s s2:St} {a:Act} {O:Nat→Prop} {n0:Nat} (hg:Gs GL N g w μ s a O) (hr:PR n0 s s2):∃μ2,Gs GL N g w μ2 s2 a O∧∀μ0:List Nat,μ0.length≤n0→μ0 <+: μ→μ0 <+: μ2:=by
 rcases hr with rfl|⟨π,hp,ho,he,hh⟩
 ·exact⟨μ,hg,λ_ _ h=>h⟩
 ·refine⟨KD π μ,⟨?_,hg.glob,hg.sz⟩,λμ0 hl hpre=>?_⟩
  ·rw[hh];exact hg.inv.ren hp ho he
  ·have hlen:μ.length=s.h.length:=hg.inv.len;rw[List.prefix_iff_eq_take];apply AUj;intro i;rw[AUV];by_cases hi:i <μ0.length
   ·rw[if_pos hi];have h1:μ0[i]?=some μ0[i]:=AT2 hi;have h2:μ[i]?=some μ0[i]:=EA hpre h1;have hi2:i <s.h.length:=by have:=(AT4.1 h2).1;omega
    have:=AUI.1 hp i (AUR.2 hi2);simp only[AT1,AVJ,decide_eq_true_eq,beq_iff_eq]at this;have h3:rnm (Bp π) i=i:=by
     rcases this.2 with h|h
     ·omega
     ·exact h
    simp only[KD,AUG,AU4 (show i <μ.length by omega),AUU,h3,h2,AUH,h1]
   ·rw[if_neg hi,AUW (by omega)]
end
end Go.Va
