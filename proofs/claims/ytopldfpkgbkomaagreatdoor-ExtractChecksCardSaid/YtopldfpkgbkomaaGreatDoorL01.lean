/- Laws, part 1. No condition. -/
import Derived.CallsIn
import Derived.Laws.AppendOwn
import Derived.Laws.Cells
import Derived.MapKept
import Derived.Laws.Panics
import Derived.Laws.StructEq
import Derived.Laws.IdiomStrings
import Derived.WideKeyRuns
import Derived.Great.BuildSlice
import Derived.Lib.AppendStr
import Derived.Lib.ConvBytes
import Derived.Laws.MakeOwn
import Derived.Laws.OwnMore
set_option linter.all false
set_option maxRecDepth 100000
set_option maxHeartbeats 4000000
noncomputable section
namespace Go.Va
section
def rV:=@Option.some.injEq
def rW:=@List.getElem?_eq_getElem
def rX:=@Bool.and_eq_true
def rY:=@List.mem_of_getElem?
def rZ:=@List.getElem?_eq_some_iff
def re:=@List.length_append
def ri:=@Nat.le_refl
def rj:=@List.mem_cons
def rk:=@List.getElem?_map
def rl:=@List.mem_map
def rm:=@List.mem_singleton
def rn:=@List.append_assoc
def ro:=@List.prefix_refl
def rp:=@List.mem_append
def rq:=@List.map_cons
def rt:=@Option.map_eq_some_iff
def rx:=@List.take_add_one
def ry:=@List.all_eq_true
def rz:=@Bool.false_eq_true
def r7:=@List.flatMap_cons
def r9:=@List.map_append
def sA:=@Option.getD_some
def sD:=@List.length_map
def sE:=@List.take_length
def sF:=@List.length_cons
def sG:=@List.getElem?_set_ne
def sH:=@Array.getD_eq_getD_getElem?
def sI:=@List.getElem?_append_left
def sJ:=@List.length_take
def sK:=@List.not_mem_nil
def sL:=@Nat.lt_or_ge
def sM:=@List.mem_range
def sN:=@List.take_of_length_le
def sO:=@List.getElem?_append_right
def sP:=@List.getElem?_take
def sQ:=@List.map_take
def sR:=@Int.pow_pos
def sS:=@Nat.le_trans
def sT:=@Option.map_some
def sU:=@List.getElem?_eq_none
def sV:=@Bool.true_and
def sW:=@Option.bind_some
def sX:=@Int.mul_comm
def sY:=@List.getElem?_set_self
def sZ:=@List.length_filter_le
def sa:=@List.take_append_drop
def sb:=@Int.pow_succ
def sc:=@Bool.exists_bool
def sf:=@List.eq_nil_of_length_eq_zero
def sg:=@Array.getElem?_setIfInBounds
def si:=@Int.mul_assoc
def sj:=@List.mem_flatMap
def sk:=@List.append_nil
def sl:=@List.ext_getElem?
def sm:=@Nat.add_mul
def sn:=@List.mem_or_eq_of_mem_set
def so:=@List.length_set
def sq:=@List.map_nil
def sr:=@List.getElem?_set
def su:=@Array.getElem?_toList
def sw:=@List.cons_append
def sx:=@List.mem_filter
def sy:=@List.getElem_mem
def s8:=@List.length_flatMap
def s9:=@List.mem_of_mem_take
def tA:=@Bool.not_eq_true'
def tB:=@Nat.zero_le
def tC:=@Bool.eq_iff_iff
def tD:=@List.any_eq_false
def tE:=@Array.toList_inj
def tF:=@List.range_succ
def tG:=@List.getElem?_drop
def tH:=@List.mem_of_mem_drop
def tI:=@Nat.zero_add
def tJ:=@Int.mul_le_mul_of_nonneg_right
def tK:=@List.mem_iff_getElem?
def tL:=@List.pairwise_append
def tM:=@List.take_succ_eq_append_getElem
def tN:=@Int.natCast_add
def tO:=@List.findIdx?_cons
def tP:=@List.map_map
def tQ:=@List.findIdx?_eq_some_iff_getElem
def tR:=@Option.some.inj
def tS:=@List.prefix_append
def tT:=@List.getElem?_range
def tU:=@List.flatMap_append
def tV:=@List.sum_cons
def tW:=@List.filter_append
def tX:=@List.any_eq_true
def tY:=@Nat.min_eq_left
def tZ:=@Nat.succ_mul
def ta:=@Bool.or_eq_true
def tb:=@List.find?_eq_none
def td:=@List.mem_iff_getElem
def tf:=@List.getElem?_cons_succ
def tg:=@List.take_append_of_le_length
def th:=@List.mem_cons_of_mem
def tj:=@List.nodup_cons
def tm:=@List.set_set
def tn:=@List.drop_eq_getElem_cons
def tq:=@List.foldl_append
def tu:=@Int.toNat_natCast
def tx:=@List.length_filterMap_le
def tz:=@List.all_cons
def t6:=@List.length_nil
def t7:=@Nat.mul_le_mul_right
def uA:=@Array.getElem?_eq_some_iff
def uB:=@List.map_drop
def uC:=@List.set_append_left
def uD:=@Nat.sub_self
def uE:=@Int.mul_nonneg
def uF:=@Array.getElem?_eq_none
def uG:=@List.foldl_cons
def uH:=@Nat.add_zero
def uI:=@List.size_toArray
def uJ:=@List.mem_replicate
def uK:=@List.rel_of_pairwise_cons
def uL:=@List.mem_of_mem_erase
def uM:=@Bool.false_and
def uN:=@List.map_congr_left
def uO:=@List.flatMap_nil
def uP:=@Bool.and_true
def uQ:=@List.getElem?_of_mem
def uR:=@List.filter_cons
def uS:=@Int.add_mul
def uT:=@List.toList_toArray
def uU:=@List.nil_append
def uV:=@List.mem_append_right
def uW:=@List.pairwise_lt_range
def uX:=@Nat.pow_le_pow_right
def uY:=@List.mem_cons_self
def uZ:=@List.set_append_right
def ua:=@Int.fdiv_eq_ediv_of_nonneg
def ub:=@Int.tdiv_eq_ediv_of_nonneg
def ud:=@Function.comp_def
def ue:=@Int.tmod_lt_of_pos
def uf:=@List.findIdx?_eq_none_iff
def ug:=@List.filter_nil
def uh:=@Int.one_mul
def ui:=@Nat.lt_of_lt_of_le
def uj:=@List.getElem?_cons_zero
def uk:=@List.set_eq_take_append_cons_drop
def ul:=@Nat.sub_zero
def un:=@List.flatMap_map
def uo:=@Prod.mk.injEq
def uq:=@Array.length_toList
def ur:=@Nat.eq_zero_or_pos
def ut:=@List.mem_append_left
def uu:=@Prod.ext
def uw:=@List.length_eq_zero_iff
def ux:=@Nat.mul_succ
def uy:=@List.length_range
def uz:=@Int.natCast_one
def u0:=@Int.le_of_lt
def u4:=@List.mergeSort_perm
def u5:=@List.zipIdx_cons
def u6:=@List.length_singleton
def u7:=@List.replicate_succ
def u9:=@List.range_succ_eq_map
def vA:=@Array.getElem?_modify
def vB:=@List.mem_erase_of_ne
def vC:=@List.length_erase_of_mem
def vD:=@List.nodup_range
def vE:=@Int.natCast_pow
def vF:=@Int.ediv_lt_of_lt_mul
def vG:=@List.take_succ_cons
def vH:=@Int.tmod_eq_emod_of_nonneg
def vI:=@Bool.false_ne_true
def vJ:=@Nat.mul_le_mul_left
def vK:=@Int.tmod_nonneg
def vL:=@Int.toNat_of_nonneg
def vM:=@List.set_getElem_self
def vO:=@List.forall_mem_cons
def vP:=@List.eq_nil_iff_forall_not_mem
def vQ:=@List.Sublist.append_left
def vR:=@List.sublist_cons_self
def vS:=@Option.bind_eq_some_iff
def vT:=@List.getD_eq_getElem?_getD
def vU:=@List.drop_eq_nil_iff
def vV:=@List.singleton_append
def AE{p:Prop}(h:p:=by omega):p:=h
def Ah{p:Prop}(h:p:=by decide):p:=h
def Ac{p:Prop}(h:p:=by simp):p:=h
def Dd{p:Prop}(h:p:=by simp;omega):p:=h
def CF{α:Sort _}{c:Prop}[Decidable c]{a b:α}(h:c:=by omega):(if c then a else b)=a:=if_pos h
def Bj{α:Sort _}{c:Prop}[Decidable c]{a b:α}(h:¬c:=by omega):(if c then a else b)=b:=if_neg h
inductive V where
 |int (k:IntKind) (n:Int)
 |bool (b:Bool)
 |str (s:ByteArray)
 |list (xs:List V)
 |agg (cs:List V)
 |ptr (cs:List V)
 |nilp
 |func (f:Nat) (caps:List V)
 |nilf
 |nilm
 deriving Inhabited
inductive D where
 |v (x:V)
 |any
 |nil (e s:Nat)
 |W (e s:Nat) (xs:List V)
 |agg (ds:List D)
 |tup (ds:List D)
 |R (r off:Nat)
 |sr (r n:Nat)
 |mr (r:Nat)
 |func (f:Nat) (caps:List D)
 |meth (f:Nat) (caps:List D)
 |yld (r:Nat)
 |pend (b e s:Nat) (xs:List V)
 |pptr (b s n:Nat)
 deriving Inhabited
instance:Coe Int D:=⟨λn=> .v (.int .i64 n)⟩
instance:Coe Nat D:=⟨λn=> .v (.int .i64 n)⟩
instance:Coe (List V) D:=⟨λl=> .v (.list l)⟩
instance:Coe Bool D:=⟨λb=> .v (.bool b)⟩
instance:Coe Int V:=⟨λn=> .int .i64 n⟩
instance:Coe Nat V:=⟨λn=> .int .i64 n⟩
instance:Coe (List V) V:=⟨λl=> .list l⟩
instance:Coe Bool V:=⟨λb=> .bool b⟩
def V.cells:V->List V
 | .agg cs=>cs
 |x=>[x]
structure Gh where
 m:Nat->Nat->Option Value
def Gh.at(g:Gh)(b o:Nat)(cs:List Value):Prop:=∀i v,cs[i]?=some v->g.m b (o+i)=some v
def Gh.le(g g':Gh):Prop:=∀b o v,g.m b o=some v->g'.m b o=some v
def Gh.le.refl(g:Gh):g.le g:=λ_ _ _ h=>h
def Gh.le.trans{a b c:Gh}(h:a.le b)(h':b.le c):a.le c:=λ_ _ _ x=>h' _ _ _ (h _ _ _ x)
variable {b:Nat} {g g':Gh}
theorem Gh.at.mono(h:g.le g'){o:Nat}{cs:List Value}(G:g.at b o cs):g'.at b o cs:=λi v J=>h _ _ _ (G i v J)
inductive Tag where
 |ready
 |busy
 |done (e:Option Nat)
 deriving Inhabited,DecidableEq
inductive Row where
 |cells (ds:List D)
 |map (es:List (V×V)) (st:List Nat) (ck:Nat)
 |obj (tag:Tag) (p:Gh->List Nat->Obj->Prop) (mono:∀g g' μ μ' o,g.le g'->μ <+: μ'->p g μ o->p g' μ' o)
 |dead
 deriving Inhabited
inductive RepV (g:Gh):V->Value->Prop
 |int (k:IntKind) (n:Int):RepV g (.int k n) (.int k n)
 |bool (b:Bool):RepV g (.bool b) (.bool b)
 |str (s:ByteArray):RepV g (.str s) (.string s)
 |lnil:RepV g (.list []) (.slice none 0 0)
 |list (xs:List V) (a:Addr) (cap s:Nat) (vs:Nat->Value) (hs:a.spot=none) (hc:xs.length<=cap)
   (hr:∀i x,xs[i]?=some x->RepV g x (vs i)) (hz:∀i,i <xs.length->(vs i).cells.size=s/\g.at a.block (a.off+i*s) (vs i).cells.toList):
   RepV g (.list xs) (.slice (some a) xs.length cap)
 |agg (cs:List V) (vs:List Value) (hl:vs.length=cs.length) (hr:∀(i:Nat)x v,cs[i]?=some x->vs[i]?=some v->RepV g x v) (h1:∀v∈vs,v.oneCell'=true):
   RepV g (.agg cs) (.agg vs.toArray)
 |ptr (cs:List V) (a:Addr) (vs:List Value) (hs:a.spot=none) (hl:vs.length=cs.length) (hr:∀(i:Nat)x v,cs[i]?=some x->vs[i]?=some v->RepV g x v)
   (h1:∀v∈vs,v.oneCell'=true) (ha:g.at a.block a.off vs):RepV g (.ptr cs) (.pointer (some a))
 |nilp:RepV g .nilp (.pointer none)
 |func (f:Nat) (caps:List V) (vs:List Value) (hl:vs.length=caps.length) (hr:∀(i:Nat)x v,caps[i]?=some x->vs[i]?=some v->RepV g x v):
   RepV g (.func f caps) (.func (.func f) #[] vs.toArray)
 |nilf:RepV g .nilf .nilFunc
 |nilm:RepV g .nilm (.map none)
theorem RepV.mono{g g':Gh}(h:g.le g'){x:V}{v:Value}(N:RepV g x v):RepV g' x v:=by
 induction N with
 |int=>exact .int _ _
 |bool=>exact .bool _
 |str=>exact .str _
 |lnil=>exact .lnil
 |list xs a cap s vs hs hc _ hz G=>exact .list xs a cap s vs hs hc G λi hi=>⟨(hz i hi).1,(hz i hi).2.mono h⟩
 |agg cs vs J _ h1 G=>exact .agg cs vs J G h1
 |ptr cs a vs hs J _ h1 ha G=>exact .ptr cs a vs hs J G h1 (ha.mono h)
 |nilp=>exact .nilp
 |func f caps vs J _ G=>exact .func f caps vs J G
 |nilf=>exact .nilf
 |nilm=>exact .nilm
def All2{α β:Type}(R:α->β->Prop)(xs:List α)(ys:List β):Prop:=
 ys.length=xs.length/\∀(i:Nat)x y,xs[i]?=some x->ys[i]?=some y->R x y
def All2.nil{α β:Type}{R:α->β->Prop}:All2 R [] []:=⟨rfl,λi x y h=>by simp at h⟩
theorem All2.cons{α β:Type}{R:α->β->Prop}{x:α}{y:β}{xs:List α}{O:List β}(h:R x y)(N:All2 R xs O):All2 R (x::xs) (y::O):=by
 refine⟨by simp[N.1],λi a b G J=>?_⟩;cases i with
 |zero=>simp at G J;subst G;subst J;exact h
 |succ i=>exact N.2 i a b (by simpa using G) (by simpa using J)
theorem All2.cons_iff{α β:Type}{R:α->β->Prop}{x:α}{y:β}{xs:List α}{G:List β}:All2 R (x::xs) (y::G)↔R x y/\All2 R xs G:=by
 constructor
 .intro h;refine⟨h.2 0 x y rfl rfl,by simpa using h.1,λi a b J N=>h.2 (i+1) a b (by simpa using J) (by simpa using N)⟩
 .exact λ⟨h,O⟩=> .cons h O
theorem All2.imp{α β:Type}{R S:α->β->Prop}(f:∀x y,R x y->S x y){xs:List α}{G:List β}(h:All2 R xs G):All2 S xs G:=
 ⟨h.1,λi x y hx J=>f _ _ (h.2 i x y hx J)⟩
theorem All2.append{α β:Type}{R:α->β->Prop}{xs:List α}{U:List β}{G:List α}{J:List β}(h:All2 R xs U)(h':All2 R G J):All2 R (xs++G) (U++J):=by
 refine⟨by simp[h.1,h'.1],λi a b N O=>?_⟩;by_cases hi:i <xs.length
 .rw[sI hi]at N;rw[sI (h.1▸hi)]at O;exact h.2 i a b N O
 .rw[sO AE]at N;rw[sO (by have:=h.1;omega),h.1]at O;exact h'.2 _ a b N O
theorem All2.take{α β:Type}{R:α->β->Prop}{xs:List α}{N:List β}(h:All2 R xs N)(n:Nat):All2 R (xs.take n) (N.take n):=by
 refine⟨by simp[h.1],λi a b G J=>?_⟩;rw[sP]at G J;split at G<;>simp_all
 exact h.2 i a b G J
theorem All2.drop{α β:Type}{R:α->β->Prop}{xs:List α}{N:List β}(h:All2 R xs N)(n:Nat):All2 R (xs.drop n) (N.drop n):=by refine⟨by simp[h.1],λi a b G J=>?_⟩;rw[tG]at G J;exact h.2 _ a b G J
variable {i:Nat}
def All2.get{α β:Type}{R:α->β->Prop}{xs:List α}{G:List β}(h:All2 R xs G){x:α}(hx:xs[i]?=some x):∃y,G[i]?=some y/\R x y:=by have hi:i <xs.length:=(rZ.1 hx).1;have J:G[i]?=some (G[i]'(h.1▸hi)):=rW _;exact⟨_,J,h.2 i x _ hx J⟩
theorem All2.set{α β:Type}{R:α->β->Prop}{xs:List α}{W:List β}(h:All2 R xs W){i:Nat}{x:α}{y:β}(U:R x y):All2 R (xs.set i x) (W.set i y):=by
 refine⟨by simp[h.1],λj a b G J=>?_⟩;rw[sr]at G J;by_cases N:i=j
 .subst N;by_cases hi:i <xs.length
  .have O:i <W.length:=h.1▸hi;simp[hi,O]at G J;subst G;subst J;exact U
  .simp[hi]at G
 .simp[N]at G J;exact h.2 j a b G J
variable {vs:List Value} {cs:List V}
def RepV.agg'(h:All2 (RepV g) cs vs)(G:∀v∈vs,v.oneCell'=true):RepV g (.agg cs) (.agg vs.toArray):= .agg cs vs h.1 h.2 G
variable {v:Value}
def RepV.agg_inv(h:RepV g (.agg cs) v):∃vs:List Value,v= .agg vs.toArray/\All2 (RepV g) cs vs/\∀v∈vs,v.oneCell'=true:=by
 cases h with
 |agg _ vs hl hr h1=>exact⟨vs,rfl,⟨hl,hr⟩,h1⟩
theorem HG(h:v.oneCell'=true):v.cells= #[v]:=by cases v<;>simp_all [Value.oneCell',Value.cells]
theorem RepV.cells{g:Gh}{x:V}{v:Value}(h:RepV g x v):All2 (RepV g) x.cells v.cells.toList/\∀u∈v.cells.toList,u.oneCell'=true:=by
 cases h with
 |agg cs vs J G h1=>simpa[V.cells,Value.cells]using ⟨⟨J,G⟩,h1⟩
 |int k n=>exact⟨.cons (.int k n) .nil,by simp[Value.cells,Value.oneCell']⟩
 |bool b=>exact⟨.cons (.bool b) .nil,by simp[Value.cells,Value.oneCell']⟩
 |str s=>exact⟨.cons (.str s) .nil,by simp[Value.cells,Value.oneCell']⟩
 |lnil=>exact⟨.cons .lnil .nil,by simp[Value.cells,Value.oneCell']⟩
 |list xs a cap s vs hs hc G hz=>exact⟨.cons (.list xs a cap s vs hs hc G hz) .nil,by simp[Value.cells,Value.oneCell']⟩
 |ptr cs a vs hs J G h1 ha=>exact⟨.cons (.ptr cs a vs hs J G h1 ha) .nil,by simp[Value.cells,Value.oneCell']⟩
 |nilp=>exact⟨.cons .nilp .nil,by simp[Value.cells,Value.oneCell']⟩
 |func f caps vs J G=>exact⟨.cons (.func f caps vs J G) .nil,by simp[Value.cells,Value.oneCell']⟩
 |nilf=>exact⟨.cons .nilf .nil,by simp[Value.cells,Value.oneCell']⟩
 |nilm=>exact⟨.cons .nilm .nil,by simp[Value.cells,Value.oneCell']⟩
def Am:D->Value->Option Nat
 | .W _ _ _,.slice (some a) _ cap=>if cap=0 then none else some a.block
 | .pend b _ _ _,_=>some b
 |_,_=>none
def Ar:D->Value->Nat->Option Nat
 | .tup ds,.tuple vs,k=>Am (ds[k]?.getD .any) (vs.toList[k]?.getD (.bool false))
 |d,v,0=>Am d v
 |_,_,_=>none
def RepOwn(g:Gh)(w:World)(e s:Nat)(xs:List V)(v:Value):Prop:=
 (∃a:Option Addr,v= .slice a 0 0/\xs=[]/\(∀x,a=some x->x.spot=none))\/
 ∃b cap cur,∃vs:Nat->Value,v= .slice (some ⟨b,0,none⟩) xs.length cap/\0 <cap/\w.heap[b]?=some (.cells cur e (0,0))/\xs.length<=cap/\cur.size=cap*s/\
  (∀i x,xs[i]?=some x->RepV g x (vs i))/\(∀i,i <xs.length->(vs i).cells.size=s/\g.at b (i*s) (vs i).cells.toList)/\
  (∀o,xs.length*s<=o->g.m b o=none)
def D.copy:D->D
 | .W _ _ xs=> .v (.list xs)
 | .tup _=> .any
 | .pend _ _ _ _=> .any
 |d=>d
def D.v?:D->Option V
 | .v x=>some x
 | .W _ _ xs=>some (.list xs)
 | .nil _ _=>some (.list [])
 |_=>none
def D.vs?:List D->Option (List V)
 |[]=>some []
 |d::ds=>match d.v?,D.vs? ds with
  |some x,some xs=>some (x::xs)
  |_,_=>none
def D.toV:D->Option V
 | .agg ds=>(D.vs? ds).map .agg
 | .func f caps=>(D.vs? caps).map (.func f)
 |d=>d.v?
end
section
def RepC(g:Gh)(μ:List Nat):D->Value->Prop
 | .v x,u=>RepV g x u
 | .R r off,u=>∃b,μ[r]?=some b/\u= .pointer (some ⟨b,off,none⟩)
 |_,_=>False
def RepE(g:Gh)(w:World)(μ:List Nat):D->Value->Prop
 | .v x,u=>RepV g x u
 | .any,_=>True
 | .nil _ _,u=>∃a:Option Addr,u= .slice a 0 0/\∀x,a=some x->x.spot=none
 | .W e s xs,u=>RepOwn g w e s xs u/\(xs=[]->e≠84->∃a,u= .slice a 0 0)
 | .R r off,u=>∃b,μ[r]?=some b/\u= .pointer (some ⟨b,off,none⟩)
 | .sr r n,u=>∃b cap,μ[r]?=some b/\u= .slice (some ⟨b,0,none⟩) n cap/\n<=cap
 | .mr r,u=>∃b,μ[r]?=some b/\u= .map (some b)
 | .func f caps,u=>∃vs:List Value,u= .func (.func f) #[] vs.toArray/\All2 (RepC g μ) caps vs
 | .meth f caps,u=>∃vs:List Value,u= .func (.func f) vs.toArray #[]/\All2 (RepC g μ) caps vs
 | .yld r,u=>∃b,μ[r]?=some b/\u= .func (.yield b) #[] #[]
 | .pend b e s xs,u=>∃cap,u= .slice (some ⟨b,0,none⟩) (xs.length+1) cap/\xs.length+1<=cap/\RepOwn g w e s xs (.slice (some ⟨b,0,none⟩) xs.length cap)
 | .pptr b s n,u=>(s=0/\∃cap,u= .slice (some ⟨b,0,none⟩) (n+1) cap)\/(0 <s/\u= .pointer (some ⟨b,n*s,none⟩))
 |_,_=>False
def RepG(g:Gh)(w:World)(μ:List Nat):D->Value->Prop
 | .agg ds,u=>∃vs:List Value,u= .agg vs.toArray/\All2 (RepE g w μ) ds vs/\(∀v∈vs,v.oneCell'=true)/\∀d∈ds,∀v,Am d v=none
 |d,u=>RepE g w μ d u
def RepD(g:Gh)(w:World)(μ:List Nat):D->Value->Prop
 | .tup ds,u=>∃vs:List Value,u= .tuple vs.toArray/\All2 (RepG g w μ) ds vs
 |d,u=>RepG g w μ d u
structure Chg (M:Nat->Prop) (g:Gh) (w:World) (g':Gh) (w':World):Prop where
 le:g.le g'
 size:w.heap.size<=w'.heap.size
 heap:∀b,b <w.heap.size->¬M b->w'.heap[b]?=w.heap[b]?
 gh:∀b,b <w.heap.size->¬M b->∀o,g'.m b o=g.m b o
 os:w'.os=w.os
 out:w'.output=w.output
def Chg.refl(M:Nat->Prop)(g:Gh)(w:World):Chg M g w g w:=⟨Gh.le.refl g,ri _,λ_ _ _=>rfl,λ_ _ _ _=>rfl,rfl,rfl⟩
variable {w w':World} {g g':Gh} {M:Nat->Prop}
def Chg.mono{N:Nat->Prop}(O:∀b,M b->N b)(h:Chg M g w g' w'):Chg N g w g' w':=
 ⟨h.le,h.size,λb G J=>h.heap b G λx=>J (O b x),λb G J=>h.gh b G λx=>J (O b x),h.os,h.out⟩
theorem Chg.trans{M:Nat->Prop}{g g' G:Gh}{w w' O:World}(h:Chg M g w g' w')(h':Chg M g' w' G O):Chg M g w G O:=
 ⟨h.le.trans h'.le,sS h.size h'.size,λb J N=>(h'.heap b (ui J h.size) N).trans (h.heap b J N),
  λb J N o=>(h'.gh b (ui J h.size) N o).trans (h.gh b J N o),h'.os.trans h.os,h'.out.trans h.out⟩
variable {b:Nat}
def Bq{o:Obj}(h:w.heap[b]?=some o):b <w.heap.size:=by
 rcases sL b w.heap.size with h'|h'
 .exact h'
 .simp[uF h']at h
variable {r:Nat} {μ μ':List Nat}
def Fa(G:μ <+: μ')(h:μ[r]?=some b):μ'[r]?=some b:=by obtain⟨t,rfl⟩:=G;rw[sI (rZ.1 h).1];exact h
variable {u:Value} {xs:List V} {d:D}
section chg
variable {M:Nat->Prop} {g g':Gh} {w w':World} {μ μ':List Nat}
theorem RepOwn.chg(hc:Chg M g w g' w'){e s:Nat}(h:RepOwn g w e s xs u)(hn:∀b,Am (.W e s xs) u=some b->¬M b):RepOwn g' w' e s xs u:=by
 rcases h with h|⟨b,cap,J,vs,rfl,W,O,hl,hs,hr,U,Z⟩
 .exact .inl h
 .have N:¬M b:=hn b (by simp[Am];omega);have G:=Bq O;exact .inr ⟨b,cap,J,vs,rfl,W,(hc.heap b G N).trans O,hl,hs,λi x hx=>(hr i x hx).mono hc.le,λi hi=>⟨(U i hi).1,(U i hi).2.mono hc.le⟩,
   λo ho=>(hc.gh b G N o).trans (Z o ho)⟩
theorem RepC.chg(J:g.le g')(N:μ <+: μ')(h:RepC g μ d u):RepC g' μ' d u:=by
 cases d<;>simp only[RepC]at h ⊢
 .exact h.mono J
 .obtain⟨b,G,rfl⟩:=h;exact⟨b,Fa N G,rfl⟩
theorem RepE.chg(hc:Chg M g w g' w')(O:μ <+: μ'){d:D}{u:Value}(h:RepE g w μ d u)(U:∀b,Am d u=some b->¬M b):RepE g' w' μ' d u:=by
 cases d<;>simp only[RepE]at h ⊢
 .exact h.mono hc.le
 .exact h
 .exact⟨RepOwn.chg hc h.1 U,h.2⟩
 .obtain⟨b,N,rfl⟩:=h;exact⟨b,Fa O N,rfl⟩
 .obtain⟨b,cap,N,rfl,G⟩:=h;exact⟨b,cap,Fa O N,rfl,G⟩
 .obtain⟨b,N,rfl⟩:=h;exact⟨b,Fa O N,rfl⟩
 .obtain⟨vs,rfl,h⟩:=h;exact⟨vs,rfl,h.imp λ_ _=>RepC.chg hc.le O⟩
 .obtain⟨vs,rfl,h⟩:=h;exact⟨vs,rfl,h.imp λ_ _=>RepC.chg hc.le O⟩
 .obtain⟨b,N,rfl⟩:=h;exact⟨b,Fa O N,rfl⟩
 .obtain⟨cap,rfl,G,Z⟩:=h;refine⟨cap,rfl,G,RepOwn.chg hc Z λW J=>U W ?_⟩;simp only[Am]at J ⊢;split at J
  .cases J
  .exact J
 .exact h
theorem RepG.chg(hc:Chg M g w g' w')(O:μ <+: μ'){d:D}{u:Value}(h:RepG g w μ d u)(W:∀b,Am d u=some b->¬M b):RepG g' w' μ' d u:=by
 cases d<;>simp only[RepG]at h ⊢ <;>first
  |exact h.chg hc O W
  |(obtain⟨vs,rfl,J,U,G⟩:=h
    refine⟨vs,rfl,⟨J.1,λi x v hx Z=>(J.2 i x v hx Z).chg hc O λb N=>?_⟩,U,G⟩;rw[G x (rY hx) v]at N;cases N)
theorem RepD.chg(hc:Chg M g w g' w')(U:μ <+: μ'){d:D}{u:Value}(h:RepD g w μ d u)(N:∀k b,Ar d u k=some b->¬M b):RepD g' w' μ' d u:=by
 cases d<;>simp only[RepD]at h ⊢ <;>first
  |exact h.chg hc U λb G=>N 0 b (by simpa[Ar]using G)
  |(obtain⟨vs,rfl,J⟩:=h
    refine⟨vs,rfl,J.1,λi x v hx O=>(J.2 i x v hx O).chg hc U λb G=>N i b ?_⟩;simp[Ar,hx,O,G])
end chg
def RowOK(g:Gh)(w:World)(μ:List Nat)(b:Nat):Row->Prop
 | .cells ds=>∃(vs:List Value)(T:TypeId),w.heap[b]?=some (.cells vs.toArray T (0,0))/\All2 (RepE g w μ) ds vs/\(∀v∈vs,v.oneCell'=true)/\∀o,g.m b o=none
 | .map es st ck=>∃(ents:Array MapEntry),w.heap[b]?=some (.map ents ck)/\MapKept.Stamped ents ck/\ents.toList.map (·.born)=st/\All2 (λkv x=>RepV g kv.1 x.key/\RepV g kv.2 x.val) es ents.toList/\∀o,g.m b o=none
 | .obj _ p _=>∃o,w.heap[b]?=some o/\p g μ o/\∀o,g.m b o=none
 | .dead=>b <w.heap.size
def BJ(h:List Row)(r k:Nat):D:=
 match h[r]? with
 |some (.cells ds)=>ds[k]?.getD .any
 |_=> .any
def BT(w:World)(μ:List Nat)(r k:Nat):Value:=((μ[r]?).bind λb=>w.cell? ⟨b,k,none⟩).getD (.bool false)
inductive Pl where
 |tmp (n k:Nat)
 |cell (r k:Nat)
def Cm(t:Nat->D)(u:Nat->Value)(h:List Row)(w:World)(μ:List Nat):Pl->Option Nat
 | .tmp n k=>Ar (t n) (u n) k
 | .cell r k=>Am (BJ h r k) (BT w μ r k)
structure Inv (g:Gh) (w:World) (μ:List Nat) (t:Nat->D) (u:Nat->Value) (h:List Row) (O:Nat->Prop):Prop where
 agree:∀b o v,g.m b o=some v->w.cell? ⟨b,o,none⟩=some v
 olt:∀b,O b->b <w.heap.size
 rep:∀n,RepD g w μ (t n) (u n)
 len:μ.length=h.length
 rows:∀(r:Nat)row b,h[r]?=some row->μ[r]?=some b->RowOK g w μ b row
 nod:∀(r r':Nat)b,μ[r]?=some b->μ[r']?=some b->r=r'
 mo:∀b,b∈μ->¬O b
 uniq:∀p q b,Cm t u h w μ p=some b->Cm t u h w μ q=some b->p=q
 sep:∀p b,Cm t u h w μ p=some b->b∉μ/\¬O b
variable {row:Row}
theorem RowOK.lt(h:RowOK g w μ b row):b <w.heap.size:=by
 cases row with
 |cells ds=>obtain⟨vs,T,G,_⟩:=h;exact Bq G
 |map es st ck=>obtain⟨_,G,_⟩:=h;exact Bq G
 |obj _ p _=>obtain⟨_,G,_⟩:=h;exact Bq G
 |dead=>exact h
theorem JZ(h:RepE g w μ d u)(G:Am d u=some b):b <w.heap.size:=by
 cases d<;>simp only[Am]at G<;>try (cases G;done)
 case pend U e s xs=>
  obtain⟨cap,rfl,Z,ho⟩:=h;simp only[rV]at G;subst G;rcases ho with ⟨a,N,h2,_⟩|⟨U,W,O,vs,N,h0,J,_⟩
  .simp only[Value.slice.injEq]at N;omega
  .simp only[Value.slice.injEq,rV,Addr.mk.injEq]at N;obtain⟨⟨rfl,_,_⟩,_,_⟩:=N;exact Bq J
 rcases h with ⟨a,rfl,_⟩|⟨U,cap,O,vs,rfl,h0,J,_⟩
 .cases a<;>simp at G
 .simp at G;obtain⟨_,rfl⟩:=G;exact Bq J
variable {v:Value} {vs:List Value} {k:Nat}
def Dk{T:TypeId}(N:μ[r]?=some b)(G:w.heap[b]?=some (.cells vs.toArray T (0,0)))(J:vs[k]?=some v):BT w μ r k=v:=by
 simp[BT,N,World.cell?,G,J]
end
inductive Opd where
 |t (n:Nat) (mv:Bool)
 |c (d:D)
 |g (n:Nat) (cs:List V)
 deriving Inhabited
abbrev CC:=List (Nat×D)
def AK:CC->Nat->D
 |[],_=> .any
 |(k,d)::e,n=>if k=n then d else AK e n
def Opd.ev(e:CC):Opd->D
 | .t n mv=>if mv then AK e n else (AK e n).copy
 | .c d=>d
 | .g _ cs=> .v (.ptr cs)
inductive PI where
 |pick (c a b:Opd)
 |build (zs:List D) (ps:List (Nat×Nat×Opd))
 |load (a:Opd) (n:Nat) (ag:Bool)
 |nilc (x:Opd)
 |bin (op:BinOp) (x y:Opd)
 |eqB (ne:Bool) (x y:Opd)
 |eqA (ne:Bool) (ks:List Nat) (x y:Opd)
 |eqP (ne:Bool) (x y:Opd)
 |not (x:Opd)
 |neg (x:Opd)
 |cint (k:IntKind) (x:Opd)
 |faddr (x:Opd) (off n:Nat)
 |fld (x:Opd) (off n:Nat) (ag:Bool)
 |iaddr (x i:Opd) (s:Nat)
 |iaddrA (x i:Opd) (len s:Nat)
 |iaddrP (x i:Opd) (s:Nat)
 |idxS (x i:Opd)
 |slc (x:Opd) (lo hi:Option Opd) (s:Nat)
 |ext (x:Opd) (i:Nat)
 |mkf (f:Nat) (caps:List Opd)
 |mkme (f:Nat) (firsts:List Opd)
 |idxA (x i:Opd) (n s:Nat) (ag:Bool)
 |alen (x:Opd)
 |lenS (x:Opd)
 |minmax (mx:Bool) (x y:Opd)
 |b2s (x:Opd)
 |look (m k:Opd) (st:Bool) (ks:List Nat) (zs:List D) (ag ok:Bool)
 deriving Inhabited
def V.bin(op:BinOp):V->V->Option V
 | .int k a,.int k' b=>
  match op with
  | .shl=>if 0<=b then some (.int k (k.wrap (a*2^(min b.toNat k.bits)))) else none
  | .shr=>if 0<=b then some (.int k (a.fdiv (2^(min b.toNat k.bits)))) else none
  |op=>if k=k' then
    match op with
    | .add=>some (.int k (k.wrap (a+b)))
    | .sub=>some (.int k (k.wrap (a-b)))
    | .mul=>some (.int k (k.wrap (a*b)))
    | .quo=>if b=0 then none else some (.int k (k.wrap (a.tdiv b)))
    | .rem=>if b=0 then none else some (.int k (a.tmod b))
    | .and=>some (.int k (k.wrap (BitVec.ofInt k.bits a &&& BitVec.ofInt k.bits b).toNat))
    | .or=>some (.int k (k.wrap (BitVec.ofInt k.bits a ||| BitVec.ofInt k.bits b).toNat))
    | .xor=>some (.int k (k.wrap (BitVec.ofInt k.bits a ^^^ BitVec.ofInt k.bits b).toNat))
    | .andNot=>some (.int k (k.wrap (BitVec.ofInt k.bits a &&& ~~~BitVec.ofInt k.bits b).toNat))
    | .eql=>some (.bool (a==b))
    | .neq=>some (.bool (a != b))
    | .lss=>some (.bool (decide (a <b)))
    | .leq=>some (.bool (decide (a<=b)))
    | .gtr=>some (.bool (decide (a>b)))
    | .geq=>some (.bool (decide (a≥b)))
    |_=>none
   else none
 | .str a,.str b=>
  match op with
  | .eql=>some (.bool (a.toList==b.toList))
  | .neq=>some (.bool (!(a.toList==b.toList)))
  |_=>none
 |_,_=>none
def V.eq1:Nat->V->V->Option Bool
 |0,.int k a,.int k' b=>if k=k' then some (a==b) else none
 |1,.bool a,.bool b=>some (a==b)
 |2,.str a,.str b=>some (a.toList==b.toList)
 |_,_,_=>none
def V.eqL:List Nat->List V->List V->Option Bool
 |[],[],[]=>some true
 |k::ks,x::xs,y::ys=>match V.eq1 k x y,V.eqL ks xs ys with
  |some a,some b=>some (a&&b)
  |_,_=>none
 |_,_,_=>none
def D.isNil:D->Option Bool
 | .v .nilp| .v .nilf| .v .nilm=>some true
 | .v (.ptr _)| .v (.func _ _)| .R _ _| .func _ _| .mr _=>some false
 |_=>none
def D.isNilP:D->Option Bool
 | .v .nilp=>some true
 | .v (.ptr _)| .R _ _=>some false
 |_=>none
def V.getI(xs:List V)(i:Int):Option V:=if 0<=i then xs[i.toNat]? else none
def V.part(cs:List V)(off n:Nat)(ag:Bool):Option V:=
 if off+n<=cs.length then (if ag then some (.agg ((cs.drop off).take n)) else cs[off]?) else none
def D.part(cs:List D)(off n:Nat)(ag:Bool):Option D:=
 if off+n<=cs.length then (if ag then some (.agg (((cs.drop off).take n).map D.copy)) else (cs[off]?).map D.copy) else none
def BZ(s:Nat)(xs:List V):Bool:=xs.head?.all λx=>x.cells.length==s
def NM(d:Option D)(dflt:Nat):Option Nat:=
 match d with
 |none=>some dflt
 |some (.v (.int _ n))=>if 0<=n then some n.toNat else none
 |_=>none
def AQ{α:Type}(cs:List α)(off:Nat)(xs:List α):List α:=cs.take off++xs++cs.drop (off+xs.length)
def D.cells?:D->Option (List D)
 | .agg ds=>some ds
 | .v (.agg cs)=>some (cs.map .v)
 | .any| .tup _| .W _ _ _| .pend _ _ _ _| .pptr _ _ _=>none
 |d=>some [d]
def Fu(e:CC):List D->List (Nat×Nat×Opd)->Option (List D)
 |cs,[]=>some cs
 |cs,(off,n,x)::ps=>match (x.ev e).copy.cells? with
  |some xs=>if xs.length=n/\off+n<=cs.length then Fu e (AQ cs off xs) ps else none
  |none=>none
def FT(e:CC):List Opd->List D
 |[]=>[]
 |x::xs=>(x.ev e).copy::FT e xs
def D.isCap:D->Bool
 | .v _| .R _ _=>true
 |_=>false
def Be(st:Bool)(ks:List Nat)(x:V):Bool:=(match x with| .agg _=>st|_=> !st)&&(match V.eqL ks x.cells x.cells with|some true=>true|_=>false)
def Cr(st:Bool)(ks:List Nat)(x:V):List (V×V)->Option (Option Nat)
 |[]=>some none
 |p::es=>if Be st ks p.1 then (match V.eqL ks x.cells p.1.cells with
  |some true=>some (some 0)
  |some false=>(Cr st ks x es).map λr=>r.map (· +1)
  |none=>none) else none
def Da(ok:Bool)(d:D)(b:Bool):D:=if ok then .tup [d,.v (.bool b)] else d
def Fe:List V->Option (List UInt8)
 |[]=>some []
 | .int .u8 n::xs=>if 0<=n/\n <256 then (Fe xs).map (UInt8.ofNat n.toNat::·) else none
 |_=>none
def PI.val(e:CC)(h:List Row):PI->Option D
 | .pick c a b=>match c.ev e with
  | .v (.bool t)=>some (if t then (a.ev e).copy else (b.ev e).copy)
  |_=>none
 | .build zs ps=>(Fu e zs ps).map .agg
 | .load a n ag=>match a.ev e with
  | .v (.ptr cs)=>(V.part cs 0 n ag).map .v
  | .R r off=>match h[r]? with
   |some (.cells ds)=>D.part ds off n ag
   |_=>none
  |_=>none
 | .nilc x=>match (x.ev e).isNil with
  |some false=>some (x.ev e).copy
  |_=>none
 | .bin op x y=>match x.ev e,y.ev e with
  | .v a,.v b=>(V.bin op a b).map .v
  |_,_=>none
 | .eqB ne x y=>match x.ev e,y.ev e with
  | .v (.bool a),.v (.bool b)=>some (.v (.bool ((a==b) != ne)))
  |_,_=>none
 | .eqA ne ks x y=>match (x.ev e).toV,(y.ev e).toV with
  |some (.agg cs),some (.agg ds)=>(V.eqL ks cs ds).map λb=> .v (.bool (b != ne))
  |_,_=>none
 | .eqP ne x y=>match (x.ev e).isNilP,(y.ev e).isNilP with
  |some true,some b=>some (.v (.bool (b != ne)))
  |some b,some true=>some (.v (.bool (b != ne)))
  |_,_=>none
 | .not x=>match x.ev e with
  | .v (.bool a)=>some (.v (.bool (!a)))
  |_=>none
 | .neg x=>match x.ev e with
  | .v (.int k n)=>some (.v (.int k (k.wrap (0-n))))
  |_=>none
 | .cint k x=>match x.ev e with
  | .v (.int _ n)=>some (.v (.int k (k.wrap n)))
  |_=>none
 | .faddr x off n=>match x.ev e with
  | .v (.ptr cs)=>if off+n<=cs.length then some (.v (.ptr ((cs.drop off).take n))) else none
  | .R r o=>some (.R r (o+off))
  |_=>none
 | .fld x off n ag=>match x.ev e with
  | .v (.agg cs)=>(V.part cs off n ag).map .v
  | .agg ds=>D.part ds off n ag
  |_=>none
 | .iaddr x i s=>match (x.ev e).copy,i.ev e with
  | .v (.list xs),.v (.int _ n)=>match V.getI xs n with
   |some y=>if y.cells.length=s then some (.v (.ptr y.cells)) else none
   |none=>none
  | .sr r m,.v (.int _ n)=>if 0<=n/\n <m then some (.R r (n.toNat*s)) else none
  |_,_=>none
 | .iaddrA x i len s=>match x.ev e,i.ev e with
  | .v (.ptr cs),.v (.int _ n)=>if 0<=n/\n <len/\len*s=cs.length then some (.v (.ptr ((cs.drop (n.toNat*s)).take s))) else none
  | .R r o,.v (.int _ n)=>if 0<=n/\n <len then some (.R r (o+n.toNat*s)) else none
  |_,_=>none
 | .iaddrP x i s=>match x.ev e,i.ev e with
  | .pend b _ s' xs,.v (.int _ n)=>if (n=xs.length/\s'=s)/\0 <s then some (.pptr b s xs.length) else none
  | .pptr b 0 m,.v (.int _ n)=>if n=m/\0 <s then some (.pptr b s m) else none
  |_,_=>none
 | .idxS x i=>match x.ev e,i.ev e with
  | .v (.str s),.v (.int _ n)=>if 0<=n then (s[n.toNat]?).map λb=> .v (.int .u8 b.toNat) else none
  |_,_=>none
 | .slc x lo hi s=>match (x.ev e).copy with
  | .v (.list xs)=>match NM (lo.map (·.ev e)) 0,NM (hi.map (·.ev e)) xs.length with
   |some l,some m=>if l<=m/\m<=xs.length/\BZ s xs=true then some (.v (.list ((xs.take m).drop l))) else none
   |_,_=>none
  |_=>none
 | .ext x i=>match x with
  | .t n _=>match AK e n with
   | .tup ds=>(ds[i]?).map D.copy
   |_=>none
  |_=>none
 | .mkf f caps=>if (FT e caps).all D.isCap then some (.func f (FT e caps)) else none
 | .mkme f firsts=>if (FT e firsts).all D.isCap then some (.meth f (FT e firsts)) else none
 | .idxA x i n s ag=>match x.ev e,i.ev e with
  | .v (.agg cs),.v (.int _ k)=>if 0<=k/\k <n then (V.part cs (k.toNat*s) s ag).map .v else none
  | .agg ds,.v (.int _ k)=>if 0<=k/\k <n then D.part ds (k.toNat*s) s ag else none
  |_,_=>none
 | .alen x=>match (x.ev e).copy with
  | .v (.list xs)=>some (.v (.int .i64 xs.length))
  | .nil _ _=>some (.v (.int .i64 0))
  | .sr _ n=>some (.v (.int .i64 n))
  |_=>none
 | .lenS x=>match x.ev e with
  | .v (.str s)=>some (.v (.int .i64 s.size))
  |_=>none
 | .b2s x=>match (x.ev e).copy with
  | .v (.list xs)=>(Fe xs).map λbs=> .v (.str ⟨bs.toArray⟩)
  | .nil _ _=>some (.v (.str .empty))
  |_=>none
 | .look m k st ks zs ag ok=>match (k.ev e).toV with
  |some kv=>if Be st ks kv=true then
    match (if ag then some (D.agg zs) else zs.head?)with
    |some z=>match m.ev e with
     | .v .nilm=>some (Da ok z false)
     | .mr r=>match h[r]? with
      |some (.map es _ _)=>match Cr st ks kv es with
       |some (some i)=>(es[i]?).map λp=>Da ok (.v p.2) true
       |some none=>some (Da ok z false)
       |none=>none
      |_=>none
     |_=>none
    |none=>none
   else none
  |none=>none
 | .minmax mx x y=>match x.ev e,y.ev e with
  | .v (.int k a),.v (.int k' b)=>if k=k' then some (.v (.int k (if mx then (if b>a then b else a) else (if b <a then b else a)))) else none
  |_,_=>none
section
def IM:Value->V->Bool
 | .int k n,.int k' n'=>k==k'&&n==n'
 | .bool b,.bool b'=>b==b'
 | .string s,.str s'=>decide (s=s')
 | .pointer none,.nilp=>true
 | .nilFunc,.nilf=>true
 | .map none,.nilm=>true
 |_,_=>false
def GR:Value->D->Bool
 | .slice none 0 0,.nil _ _=>true
 | .slice none 0 0,.W _ _ []=>true
 |v,.v x=>IM v x
 |_,_=>false
def A0{α β:Type}(f:α->β->Bool):List α->List β->Bool
 |[],[]=>true
 |x::xs,y::ys=>f x y&&A0 f xs ys
 |_,_=>false
def Co{α β:Type}{f:α->β->Bool}{R:β->α->Prop}(J:∀x y,f x y=true->R y x):∀{xs:List α}{G:List β},A0 f xs G=true->All2 R G xs
 |[],[],_=> .nil
 |x::xs,y::G,h=>by simp only[A0,rX]at h;exact .cons (J _ _ h.1) (Co J h.2)
 |[],_::_,h=>by simp[A0]at h
 |_::_,[],h=>by simp[A0]at h
variable {v:Value}
theorem HD{x:V}(h:IM v x=true):v.oneCell'=true:=by cases v<;>cases x<;>simp_all [IM,Value.oneCell']
variable {g:Gh}
def Fw{x:V}(h:IM v x=true):RepV g x v:=by
 unfold IM at h;split at h<;>(try simp only[rX,beq_iff_eq,decide_eq_true_eq]at h)<;>(try (obtain⟨rfl,rfl⟩:=h))<;>(try subst h)
 .exact .int _ _
 .exact .bool _
 .exact .str _
 .exact .nilp
 .exact .nilf
 .exact .nilm
abbrev Ai:=List (Nat×List Value)
def Vd(GL:Ai)(n:Nat)(cs:List V):Bool:=GL.any λp=>p.1==n&&A0 IM p.2 cs
def Mm:Value->V->Bool
 | .slice none 0 0,.list []=>true
 |v,x=>IM v x
def Rp{x:V}(h:Mm v x=true):RepV g x v:=by
 unfold Mm at h;split at h
 .exact .lnil
 .exact Fw h
def Rq{x:V}(h:Mm v x=true):v.oneCell'=true:=by
 unfold Mm at h;split at h
 .rfl
 .exact HD h
def oe(GL:Ai):Operand->Opd->Bool
 | .tmp n,.t n' _=>n==n'
 | .const (.agg cs),.c (.v (.agg xs))=>A0 Mm cs.toList xs
 | .const v,.c d=>GR v d
 | .func f,.c (.v (.func f' []))=>f==f'
 | .global n,.g n' cs=>n==n'&&Vd GL n cs
 |_,_=>false
variable {d:D}
theorem ML{GL:Ai}(h:oe GL (.const v) (.c d)=true):GR v d=true\/∃cs xs,v= .agg cs/\d= .v (.agg xs):=by
 unfold oe at h;split at h
 .rename_i G _;cases G
 .rename_i G h2;cases G;cases h2;exact .inr ⟨_,_,rfl,rfl⟩
 .rename_i G h2;cases G;cases h2;exact .inl h
 .rename_i G _;cases G
 .rename_i G _;cases G
 .cases h
def GlobOK(GL:Ai)(g:Gh):Prop:=∀p∈GL,g.at p.1 0 p.2
theorem RepOwn.list{g:Gh}{w:World}{e s:Nat}{xs:List V}{u:Value}(h:RepOwn g w e s xs u):RepV g (.list xs) u:=by
 rcases h with ⟨a,rfl,rfl,G⟩|⟨b,cap,J,vs,rfl,Z,hb,N,G,U,W,hf⟩
 .cases a with
  |none=>exact .lnil
  |some a=>exact .list [] a 0 0 (λ_=> .bool true) (G a rfl) (ri _) Ac Ac
 .exact .list xs ⟨b,0,none⟩ cap s vs rfl N U λi hi=>by simpa using W i hi
def RepNil.list{g:Gh}{u:Value}(h:∃a:Option Addr,u= .slice a 0 0/\∀x,a=some x->x.spot=none):RepV g (.list []) u:=by
 obtain⟨a,rfl,G⟩:=h;cases a with
 |none=>exact .lnil
 |some a=>exact .list [] a 0 0 (λ_=> .bool true) (G a rfl) (ri _) Ac Ac
def RepD.copy{g:Gh}{w:World}{μ:List Nat}{d:D}{u:Value}(h:RepD g w μ d u):RepD g w μ d.copy u:=by
 cases d<;>simp only[D.copy]<;>first
  |exact h
  |exact RepOwn.list h.1
  |trivial
def CN(d:D)(u:Value)(k:Nat):Ar d.copy u k=none:=by cases d<;>cases k<;>simp[D.copy,Ar,Am]
def Ka(d:D)(u:Value):Am d.copy u=none:=by cases d<;>simp[D.copy,Am]
variable {q:Opd} {p:Operand}
section
variable {GL:Ai} {g:Gh} {w:World} {μ:List Nat} {e:CC} {a:Act}
theorem ax(U:∀n,RepD g w μ (AK e n) (a.tmps.getD n undef))(Z:GlobOK GL g)(h:oe GL p q=true):RepD g w μ (q.ev e) (a.eval p):=by
 unfold oe at h;split at h
 .simp at h;subst h;simp only[Opd.ev,Act.eval];split
  .exact U _
  .exact(U _).copy
 .rename_i cs xs;simp only[Opd.ev,Act.eval];have h2:All2 (RepV g) xs cs.toList:=Co (λ_ _=>Rp) h;have J:=Co (R:=λ_ v=>v.oneCell'=true) (λ_ _=>Rq) h;refine RepV.agg' (vs:=cs.toList) h2 λv N=>?_;obtain⟨i,hi,rfl⟩:=td.1 N;have G:i <xs.length:=J.1▸hi;exact J.2 i _ _ (rW G) (rW hi)
 .rename_i v d _;simp only[Opd.ev,Act.eval];unfold GR at h;split at h
  .exact⟨none,rfl,Ac⟩
  .exact⟨.inl ⟨none,rfl,rfl,Ac⟩,λ_ _=>⟨none,rfl⟩⟩
  .exact Fw h
  .cases h
 .simp at h;subst h;exact RepV.func _ [] [] rfl Ac
 .simp only[rX,beq_iff_eq]at h;obtain⟨rfl,h⟩:=h;simp only[Vd,tX,rX,beq_iff_eq]at h;obtain⟨p,hp,rfl,W⟩:=h;have h2:All2 (RepV g) _ p.2:=Co (λ_ _=>Fw) W;refine RepV.ptr _ ⟨p.1,0,none⟩ p.2 rfl h2.1 h2.2 ?_ (Z p hp);have J:=Co (R:=λ_ v=>v.oneCell'=true) (λ_ _=>HD) W;intro v N;obtain⟨i,hi,rfl⟩:=td.1 N;have G:i <_:=J.1▸hi;exact J.2 i _ _ (rW G) (rW hi)
 .cases h
end
def Bw(P:Program)(t n:Nat):Bool:=((P.info? t).map (·.size))==some n
def IU(P:Program)(t:Nat)(ag:Bool):Bool:=
 match P.underlying t with
 |some (.struct _)|some (.array _ _)=>ag
 |some _=> !ag
 |none=>false
def Ik(P:Program)(t i off n:Nat):Bool:=
 match P.underlying t with
 |some (.struct fs)=>match fs[i]? with
  |some f=>f.offset==off&&Bw P f.type n
  |none=>false
 |_=>false
def PC(P:Program)(t i:Nat)(ag:Bool):Bool:=
 match P.underlying t with
 |some (.struct fs)=>match fs[i]? with
  |some f=>IU P f.type ag
  |none=>false
 |_=>false
def iy(P:Program)(t e s:Nat):Bool:=
 match P.underlying t with
 |some (.slice e')=>e==e'&&Bw P e s
 |_=>false
def PW(P:Program)(t len s:Nat):Bool:=
 match P.underlying t with
 |some (.array len' e)=>len==len'&&Bw P e s&&decide (2<=len)
 |_=>false
def Gt(P:Program)(t:Nat)(zs:List D):Bool:=
 match (P.info? t).bind (·.zero)with
 |some z=>A0 GR z.cells.toList zs
 |none=>false
def Gr(P:Program)(t:Nat)(f:TypeDesc->Bool):Bool:=
 match P.underlying t with
 |some d=>f d
 |none=>false
def Ml:Value->D->Bool
 | .slice none 0 0,.nil _ _=>true
 |v,.v x=>IM v x
 |_,_=>false
def OO(P:Program)(t:Nat)(zs:List D):Bool:=
 match (P.info? t).bind (·.zero)with
 |some z=>A0 Ml z.cells.toList zs
 |none=>false
def Hu(P:Program)(GL:Ai)(t:Nat)(ps:List (Nat×Operand))(qs:List (Nat×Nat×Opd)):Bool:=
 match P.underlying t with
 |some (.struct fs)=>match fs.toList.mapM (λf=>(P.info? f.type).map λi=>(f.offset,i.size))with
  |some places=>A0 (λp q=>oe GL p.2 q.2.2&&places[p.1]?==some (q.1,q.2.1)) ps qs
  |none=>false
 |some (.array _ el)=>match P.info? el with
  |some i=>A0 (λp q=>oe GL p.2 q.2.2&&some (p.1*i.size,i.size)==some (q.1,q.2.1)) ps qs
  |none=>false
 |_=>false
def NC{α:Type}(l:List α)(p:α->Bool):Bool:=match l with|[x]=>p x|_=>false
def Hf{α:Type}(l:List α)(p:α->α->Bool):Bool:=match l with|[x,y]=>p x y|_=>false
def FZ(P:Program)(t s:Nat):Bool:=match P.underlying t with|some (.slice e)=>Bw P e s|_=>false
def IA(P:Program)(t k:Nat):Bool:=
 match P.underlying t,k with
 |some (.int _),0=>true
 |some .bool,1=>true
 |some .string,2=>true
 |_,_=>false
def CA(P:Program):Nat->List Field->List Nat->Bool
 |_,[],[]=>true
 |i,f::fs,k::ks=>f.offset==i&&f.name != "_" &&IA P f.type k&&CA P (i+1) fs ks
 |_,_,_=>false
def IJ(P:Program)(t:Nat)(ks:List Nat):Bool:=
 match P.underlying t with
 |some (.struct fs)=> !P.stoodInHeld t&& !P.eqGuardType P.depth t&&CA P 0 fs.toList ks
 |_=>false
def Eo(P:Program):Nat->List Field->List Nat->Bool
 |_,[],ks=>ks.isEmpty
 |i,f::fs,ks=>f.offset==i&&f.name != "_" &&(match P.underlying f.type with
  |some (.struct sub)=> !P.stoodInHeld f.type&&Bw P f.type sub.size&&CA P 0 sub.toList (ks.take sub.size)&&Eo P (i+sub.size) fs (ks.drop sub.size)
  |_=>match ks with
   |k::ks=>IA P f.type k&&Eo P (i+1) fs ks
   |[]=>false)
def PD(P:Program)(t:Nat)(ks:List Nat):Bool:=
 match P.underlying t with
 |some (.struct fs)=> !P.stoodInHeld t&& !P.eqGuardType P.depth t&&Eo P 0 fs.toList ks
 |_=>false
def FY(P:Program)(kt:Nat)(st:Bool)(ks:List Nat):Bool:=
 if st then IJ P kt ks else (match ks with|[k]=>IA P kt k|_=>false)
def Sc(P:Program)(el:Nat)(zs:List D)(ag:Bool):Bool:=
 match (P.info? el).bind (·.zero)with
 |some (.agg cs)=>ag&&A0 Ml cs.toList zs
 |some v=> !ag&&(match zs with|[z]=>Ml v z|_=>false)
 |none=>false
def V0(P:Program)(GL:Ai):Op->PI->Bool
 | .pick c a b,.pick c' a' b'=>oe GL c c'&&oe GL a a'&&oe GL b b'
 | .load t a,.load a' n ag=>oe GL a a'&&Bw P t n&&IU P t ag&&(ag||n==1)
 | .nilCheck x,.nilc x'=>oe GL x x'
 | .binOp op _ x y _,.bin op' x' y'=>(op==op')&&oe GL x x'&&oe GL y y'
 | .binOp op t x y _,.eqB ne x' y'=>(op==if ne then .neq else .eql)&&Gr P t (λ| .bool=>true|_=>false)&&oe GL x x'&&oe GL y y'
 | .binOp op t x y _,.eqP ne x' y'=>(op==if ne then .neq else .eql)&&Gr P t (λ| .pointer _=>true|_=>false)&&oe GL x x'&&oe GL y y'
 | .binOp op t x y _,.eqA ne ks x' y'=>(op==if ne then .neq else .eql)&&(IJ P t ks||PD P t ks)&&oe GL x x'&&oe GL y y'
 | .unOp op _ x,.not x'=>(op== .not)&&oe GL x x'
 | .unOp op _ x,.neg x'=>(op== .neg)&&oe GL x x'
 | .convert s d x,.cint k x'=>Gr P s (λ| .int _=>true|_=>false)&&Gr P d (λ| .int k'=>k==k'|_=>false)&&oe GL x x'
 | .fieldAddr t x i,.faddr x' off n=>Ik P t i off n&&decide (0 <n)&&oe GL x x'
 | .field t x i,.fld x' off n ag=>Ik P t i off n&&PC P t i ag&&(ag||n==1)&&oe GL x x'
 | .indexAddr t x i,.iaddr x' i' s=>FZ P t s&&oe GL x x'&&oe GL i i'
 | .indexAddr t x i,.iaddrP x' i' s=>FZ P t s&&oe GL x x'&&oe GL i i'
 | .indexAddr t x i,.iaddrA x' i' len s=>PW P t len s&&oe GL x x'&&oe GL i i'
 | .index t x i,.idxS x' i'=>Gr P t (λ| .string=>true|_=>false)&&oe GL x x'&&oe GL i i'
 | .extract t i,.ext t' i'=>oe GL t t'&&i==i'
 | .makeFunc (.func f) first caps,.mkf f' caps'=>f==f'&&first.isEmpty&&A0 (oe GL) caps.toList caps'
 | .makeFunc (.func f) first caps,.mkme f' caps'=>f==f'&&caps.isEmpty&&A0 (oe GL) first.toList caps'
 | .index t x i,.idxA x' i' n s ag=>(match P.underlying t with|some (.array n' e)=>n'==n&&Bw P e s&&IU P e ag&&(ag||s==1)|_=>false)&&oe GL x x'&&oe GL i i'
 | .call {callee:= .builtin .len,args,argTypes},.alen x'=>NC args.toList (λx=>oe GL x x')&&NC argTypes.toList (λt=>Gr P t (λ| .slice _=>true|_=>false))
 | .call {callee:= .builtin .len,args,argTypes},.lenS x'=>NC args.toList (λx=>oe GL x x')&&NC argTypes.toList (λt=>Gr P t (λ| .string=>true|_=>false))
 | .call {callee:= .builtin .max,args,..},.minmax true x' y'=>Hf args.toList (λx y=>oe GL x x'&&oe GL y y')
 | .call {callee:= .builtin .min,args,..},.minmax false x' y'=>Hf args.toList (λx y=>oe GL x x'&&oe GL y y')
 | .slice t x lo hi mx,.slc x' lo' hi' s=>FZ P t s&&oe GL x x'&&mx.isNone&&
   A0 (oe GL) lo.toList lo'.toList&&A0 (oe GL) hi.toList hi'.toList
 | .convert s d x,.b2s x'=>Gr P d (λ| .string=>true|_=>false)&&(match P.underlying s with|some (.slice e)=>Gr P e (λ| .int .u8=>true|_=>false)|_=>false)&&oe GL x x'
 | .lookup t x i ok',.look m k st ks zs ag ok=>(match P.underlying t with|some (.map kt el)=>FY P kt st ks&&Sc P el zs ag|_=>false)&&oe GL x m&&oe GL i k&&ok'==ok
 | .build t ps,.build zs ps'=>OO P t zs&&Hu P GL t ps.toList ps'
 |_,_=>false
structure Gd (P:Program) (GL:Ai) (g:Gh) (w:World) (μ:List Nat) (e:CC) (a:Act) (h:List Row) (O:Nat->Prop):Prop where
 inv:Inv g w μ (AK e) (λn=>a.tmps.getD n undef) h O
 glob:GlobOK GL g
def C4(P:Program)(GL:Ai)(op:Op)(pi:PI):Prop:=
 ∀{g:Gh}{w:World}{μ:List Nat}{e:CC}{a:Act}{h:List Row}{O:Nat->Prop}{x:D},Gd P GL g w μ e a h O->pi.val e h=some x->
  ∀o:Oper,o.op=op->∃v,(execOp a.eval o).run P w= .ok (.value v) w/\RepD g w μ x v/\∀k,Ar x v k=none
variable {μ:List Nat} {w:World} {b n off r t:Nat} {vs:List Value} {cs:List V} {u:Value} {ds:List D} {O:Nat->Prop} {h:List Row}
section
variable {P:Program} {GL:Ai}
def Gd.ev{g:Gh}{w:World}{μ:List Nat}{e:CC}{a:Act}{h:List Row}{O:Nat->Prop}(hd:Gd P GL g w μ e a h O){p:Operand}{q:Opd}(G:oe GL p q=true):
  RepD g w μ (q.ev e) (a.eval p):=ax hd.inv.rep hd.glob G
def Ck(x:V)(v:Value)(k:Nat):Ar (.v x) v k=none:=by cases k<;>simp[Ar,Am]
def GW{b:Bool}(h:RepD g w μ (.v (.bool b)) v):v= .bool b:=by cases h;rfl
def F8{k:IntKind}{n:Int}(h:RepD g w μ (.v (.int k n)) v):v= .int k n:=by cases h;rfl
def If{s:ByteArray}(h:RepD g w μ (.v (.str s)) v):v= .string s:=by cases h;rfl
theorem Wz{c a b:Operand}{J a' G:Opd}(hc:oe GL c J=true)(U:oe GL a a'=true)(W:oe GL b G=true):C4 P GL (.pick c a b) (.pick J a' G):=by
 intro g w μ e act h O x hd hx o ho;have N:=hd.ev hc;simp only[PI.val]at hx;split at hx
 .rename_i t Z;rw[Z]at N;have h2:=GW N;simp only[rV]at hx;subst hx;cases t with
  |true=>exact⟨act.eval a,by simp[execOp,ho,h2,asBool],(hd.ev U).copy,λk=>CN _ _ _⟩
  |false=>exact⟨act.eval b,by simp[execOp,ho,h2,asBool],(hd.ev W).copy,λk=>CN _ _ _⟩
 .cases hx
theorem Ib{G:Bool}(h:IU P t G=true):(isAgg t).run P w= .ok G w:=by unfold IU at h;split at h<;>simp_all [isAgg,run_underlying]
def By(h:Bw P t n=true):(sizeOf t).run P w= .ok n w:=by simp only[Bw,beq_iff_eq,rt]at h;obtain⟨i,hi,rfl⟩:=h;simp[sizeOf,typeInfo,hi]
theorem Cz{a:Addr}(G:a.spot=none)(n:Nat):a.add n=⟨a.block,a.off+n,none⟩:=by
 unfold Addr.add;split
 .subst_vars;cases a;simp_all
 .cases a;simp_all
theorem Hw{G:Bool}(hs:Bw P t n=true)(hg:IU P t G=true){a:Addr}(ha:a.spot=none)(hn:n<=vs.length)(hc:∀i v,vs[i]?=some v->w.cell? ⟨a.block,a.off+i,none⟩=some v)(Z:G=false->n=1):
  (loadVar t a).run P w= .ok (if G then .agg (vs.take n).toArray else (vs[0]?.getD undef)) w:=by
 cases G with
 |true=>
  have W:=run_loadCells_list (P:=P) w a (vs.take n) (λj v J=>by
   rw[Cz ha];rw[sP]at J;split at J
   .exact hc j v J
   .cases J)
  rw[sJ,tY hn]at W;simp[loadVar,Ib hg,By hs,W]
 |false=>
  have N:=Z rfl;subst N;have U:vs[0]?=some vs[0]:=rW _;have:=hc 0 _ U;have e:(⟨a.block,a.off+0,none⟩:Addr)=a:=by cases a;simp_all
  rw[e]at this;simp[loadVar,Ib hg,this,U]
def WO(G:∀b o v,g.m b o=some v->w.cell? ⟨b,o,none⟩=some v){o:Nat}(h:g.at b o vs):
  ∀(i:Nat)v,vs[i]?=some v->w.cell? ⟨b,o+i,none⟩=some v:=λi v J=>G _ _ _ (h i v J)
theorem MH(N:All2 (RepV g) cs vs)(W:∀v∈vs,v.oneCell'=true){J:Bool}{y:V}(G:V.part cs off n J=some y):RepD g w μ (.v y) (if J then .agg ((vs.drop off).take n).toArray else (vs[off]?.getD undef))/\off+n<=vs.length:=by
 unfold V.part at G;split at G
 .rename_i Z;refine⟨?_,by rw[N.1];exact Z⟩;cases J with
  |true=>
   simp only[if_true,rV]at G ⊢;subst G;exact RepV.agg' ((N.drop off).take n) λv U=>W v (tH (s9 U))
  |false=>
   simp only[rz,if_false]at G ⊢;obtain⟨v,U,hr⟩:=N.get G;simp only[U,sA];exact hr
 .cases G
def RepE.copy{g:Gh}{w:World}{μ:List Nat}{d:D}{u:Value}(h:RepE g w μ d u):RepE g w μ d.copy u:=by
 cases d<;>simp only[D.copy]<;>first
  |exact h
  |exact RepOwn.list h.1
  |trivial
def RepE.toG(h:RepE g w μ d u):RepG g w μ d u:=by
 cases d<;>first
  |exact h
  |exact h.elim
def RepG.toD(h:RepG g w μ d u):RepD g w μ d u:=by
 cases d<;>first
  |exact h
  |exact h.elim
def All2.map_left{α β γ:Type}{R:α->β->Prop}{S:γ->β->Prop}{f:α->γ}(N:∀x y,R x y->S (f x) y){xs:List α}{J:List β}(h:All2 R xs J):All2 S (xs.map f) J:=by refine⟨by simp[h.1],λi x y hx U=>?_⟩;simp only[rk,rt]at hx;obtain⟨W,G,rfl⟩:=hx;exact N _ _ (h.2 i W y G U)
theorem Kp{cs:List D}(U:All2 (RepE g w μ) cs vs)(Z:∀v∈vs,v.oneCell'=true){N:Bool}{y:D}(G:D.part cs off n N=some y):RepD g w μ y (if N then .agg ((vs.drop off).take n).toArray else (vs[off]?.getD undef))/\off+n<=vs.length/\∀u k,Ar y u k=none:=by
 unfold D.part at G;split at G
 .rename_i hl;refine⟨?_,by rw[U.1];exact hl,?_⟩
  .cases N with
   |true=>
    simp only[if_true,rV]at G ⊢;subst G;refine⟨_,rfl,(All2.map_left (S:=RepE g w μ) (f:=D.copy) (λ_ _ h=>RepE.copy h) ((U.drop off).take n)),λv W=>Z v (tH (s9 W)),?_⟩;intro d hd v;simp only[rl]at hd;obtain⟨d',_,rfl⟩:=hd;exact Ka _ _
   |false=>
    simp only[rz,if_false,rt]at G ⊢;obtain⟨y',J,rfl⟩:=G;obtain⟨v,W,hr⟩:=U.get J;simp only[W,sA];exact hr.copy.toG.toD
  .intro u k;cases N with
   |true=>simp only[if_true,rV]at G;subst G;cases k<;>simp[Ar,Am]
   |false=>
    simp only[rz,if_false,rt]at G;obtain⟨y',J,rfl⟩:=G;exact CN _ _ _
 .cases G
def JY(h:RepD g w μ (.v (.ptr cs)) u):
  ∃(a:Addr)(vs:List Value),u= .pointer (some a)/\a.spot=none/\All2 (RepV g) cs vs/\(∀v∈vs,v.oneCell'=true)/\g.at a.block a.off vs:=by
 cases h with
 |ptr _ a vs hs hl hr h1 ha=>exact⟨a,vs,rfl,hs,⟨hl,hr⟩,h1,ha⟩
def Inv.row{t:Nat->D}{u:Nat->Value}(hi:Inv g w μ t u h O)(G:μ[r]?=some b)(J:h[r]?=some (.cells ds)):∃(vs:List Value)(T:TypeId),w.heap[b]?=some (.cells vs.toArray T (0,0))/\All2 (RepE g w μ) ds vs/\(∀v∈vs,v.oneCell'=true)/\∀o,g.m b o=none:=
 hi.rows r _ b J G
def TM{T:TypeId}(J:w.heap[b]?=some (.cells vs.toArray T (0,0)))(off:Nat):
  ∀(i:Nat)v,(vs.drop off)[i]?=some v->w.cell? ⟨b,off+i,none⟩=some v:=by
 intro i v G;rw[tG]at G;simp[World.cell?,J,G]
theorem On{a:Operand}{a':Opd}{Z:Bool}(ha:oe GL a a'=true)(hs:Bw P t n=true)(hg:IU P t Z=true)(h1:(Z||n==1)=true):
  C4 P GL (.load t a) (.load a' n Z):=by
 intro g w μ e act h O x hd hx o ho;have hr:=hd.ev ha;have a1:Z=false->n=1:=by intro h;simpa[h]using h1
 simp only[PI.val]at hx;split at hx
 .rename_i cs hc;rw[hc]at hr;obtain⟨ad,vs,hu,a8,G,J,a7⟩:=JY hr;simp only[rt]at hx;obtain⟨y,hy,rfl⟩:=hx;obtain⟨N,U⟩:=MH (w:=w) (μ:=μ) G J hy;have hl:=Hw (w:=w) hs hg a8 (vs:=vs) (by simpa using U) (WO hd.inv.agree a7) a1;refine⟨if Z then .agg (vs.take n).toArray else (vs[0]?.getD undef),?_,?_,λk=>Ck _ _ _⟩
  .simp[execOp,ho,hu,Instr.loadAt,Instr.sureAddr,hl]
  .simpa using N
 .rename_i r off hc;rw[hc]at hr;obtain⟨b,hb,hu⟩:=hr;split at hx
  .rename_i ds a6;obtain⟨vs,T,W,G,J,_⟩:=hd.inv.row hb a6;obtain⟨N,U,a2⟩:=Kp G J hx;have hl:=Hw (P:=P) (w:=w) hs hg (a:=⟨b,off,none⟩) rfl (vs:=vs.drop off) Dd (TM W off) a1;refine⟨if Z then .agg ((vs.drop off).take n).toArray else (vs[off]?.getD undef),?_,N,λk=>a2 _ _⟩;simp[execOp,ho,hu,Instr.loadAt,Instr.sureAddr,hl,tG]
  .cases hx
 .cases hx
end
def v?_rep(h:RepE g w μ d u){x:V}(hx:d.v?=some x):RepV g x u:=by
 cases d<;>simp only[D.v?,rV,reduceCtorEq]at hx<;>subst hx
 .exact h
 .exact RepNil.list h
 .exact RepOwn.list h.1
theorem vs?_rep{g:Gh}{R:D->Value->Prop}(J:∀d u x,R d u->d.v?=some x->RepV g x u):∀{ds:List D}{us:List Value}{xs:List V},All2 R ds us->D.vs? ds=some xs->All2 (RepV g) xs us
 |[],us,xs,h,hx=>by simp only[D.vs?,rV]at hx;subst hx;have:=sf h.1;subst this;exact .nil
 |d::ds,[],xs,h,_=>by simp[All2]at h
 |d::ds,u::us,xs,h,hx=>by
  rw[All2.cons_iff]at h;simp only[D.vs?]at hx;split at hx
  .rename_i y U N G;simp only[rV]at hx;subst hx;exact .cons (J _ _ _ h.1 N) (vs?_rep J h.2 G)
  .cases hx
def Zd(h:RepC g μ d u){x:V}(hx:d.v?=some x):RepV g x u:=by cases d<;>simp only[D.v?,rV,reduceCtorEq]at hx<;>subst hx<;>first|exact h|exact h.elim
theorem Cv(h:RepD g w μ d u){x:V}(hx:d.toV=some x):RepV g x u:=by
 cases d with
 |agg ds=>
  simp only[D.toV,rt]at hx;obtain⟨xs,G,rfl⟩:=hx;obtain⟨vs,rfl,J,N,_⟩:=h;exact RepV.agg' (vs?_rep (λ_ _ _ h hx=>v?_rep h hx) J G) N
 |func f caps=>
  simp only[D.toV,rt]at hx;obtain⟨xs,G,rfl⟩:=hx;obtain⟨vs,rfl,J⟩:=h;have:=vs?_rep (λ_ _ _ h hx=>Zd h hx) J G;exact RepV.func f xs vs this.1 this.2
 |v x'=>exact v?_rep (μ:=μ) (w:=w) (d:= .v x') h hx
 |any=>simp[D.toV,D.v?]at hx
 |nil e s=>exact v?_rep (μ:=μ) (w:=w) (d:= .nil e s) h hx
 |W e s xs=>exact v?_rep (μ:=μ) (d:= .W e s xs) h hx
 |tup ds=>simp[D.toV,D.v?]at hx
 |R r o=>simp[D.toV,D.v?]at hx
 |sr r n=>simp[D.toV,D.v?]at hx
 |mr r=>simp[D.toV,D.v?]at hx
 |meth f caps=>simp[D.toV,D.v?]at hx
 |yld r=>simp[D.toV,D.v?]at hx
 |pend b e s xs=>simp[D.toV,D.v?]at hx
 |pptr b s n=>simp[D.toV,D.v?]at hx
end
section
variable {u:Value} {d:D} {μ:List Nat} {w:World} {g:Gh} {x' y':Opd} {x y:Operand} {t:Nat}
section
variable {P:Program} {GL:Ai}
def Li(r o:Nat)(v:Value)(k:Nat):Ar (.R r o) v k=none:=by cases k<;>simp[Ar,Am]
def Td(h:RepD g w μ d u){b:Bool}(G:d.isNil=some b):
  (b=true/\(u= .pointer none\/u= .nilFunc\/u= .map none))\/(b=false/\((∃a,u= .pointer (some a))\/(∃f vs,u= .func (.func f) #[] vs)\/(∃r,u= .map (some r)))):=by
 unfold D.isNil at G;split at G<;>simp only[rV,reduceCtorEq]at G<;>subst G
 .cases h;exact .inl ⟨rfl,.inl rfl⟩
 .cases h;exact .inl ⟨rfl,.inr (.inl rfl)⟩
 .cases h;exact .inl ⟨rfl,.inr (.inr rfl)⟩
 .obtain⟨a,vs,rfl,_⟩:=JY h;exact .inr ⟨rfl,.inl ⟨a,rfl⟩⟩
 .cases h;exact .inr ⟨rfl,.inr (.inl ⟨_,_,rfl⟩)⟩
 .obtain⟨b,_,rfl⟩:=h;exact .inr ⟨rfl,.inl ⟨_,rfl⟩⟩
 .obtain⟨vs,rfl,_⟩:=h;exact .inr ⟨rfl,.inr (.inl ⟨_,_,rfl⟩)⟩
 .obtain⟨b,_,rfl⟩:=h;exact .inr ⟨rfl,.inr (.inr ⟨_,rfl⟩)⟩
theorem XF(N:oe GL x x'=true):C4 P GL (.nilCheck x) (.nilc x'):=by
 intro g w μ e act h O y hd hx o ho;have J:=hd.ev N;simp only[PI.val]at hx;split at hx
 .rename_i U;simp only[rV]at hx;subst hx;refine⟨act.eval x,?_,J.copy,λk=>CN _ _ _⟩;rcases Td J U with ⟨h,_⟩|⟨_,⟨a,G⟩|⟨f,vs,G⟩|⟨r,G⟩⟩
  .cases h
  .simp[execOp,ho,G]
  .simp[execOp,ho,G]
  .simp[execOp,ho,G]
 .cases hx
def EV{op:BinOp}{a b:Value}(h:(∀cs,a≠ .agg cs)/\a≠ .nilIface):(eqGuard op t x y a b).run P w= .ok () w:=by
 cases a<;>first
  |exact absurd rfl h.2
  |exact absurd rfl (h.1 _)
  |(cases op<;>rfl)
theorem bh{op:BinOp}{t s:Nat}{x y:Operand}{x' y':Opd}(a1:oe GL x x'=true)(a2:oe GL y y'=true):C4 P GL (.binOp op t x y s) (.bin op x' y'):=by
 intro g w μ e act h O d hd hx o ho;have J:=hd.ev a1;have N:=hd.ev a2;simp only[PI.val]at hx;split at hx
 .rename_i a b ha hb;rw[ha]at J;rw[hb]at N;simp only[rt]at hx;obtain⟨z,G,rfl⟩:=hx
  suffices hs:∃v,(eqGuard op t x y (act.eval x) (act.eval y)).run P w= .ok () w/\(binOp op t (act.eval x) (act.eval y)).run P w= .ok v w/\RepV g z v by obtain⟨v,h1,h2,h3⟩:=hs;exact⟨v,by simp[execOp,ho,h1,h2],h3,λk=>Ck _ _ _⟩
  unfold V.bin at G;split at G
  .rename_i k a k' b;have U:=F8 J;have e2:=F8 N;rw[U,e2];have hg:(eqGuard op t x y (.int k a) (.int k' b)).run P w= .ok () w:=EV ⟨Ac,Ac⟩;cases op<;>simp only[]at G
   case shl=>
    split at G
    .rename_i W;simp only[rV]at G;subst G;exact⟨_,hg,by simp[binOp,Op.shift,show ¬b <0 by omega],.int _ _⟩
    .cases G
   case shr=>
    split at G
    .rename_i W;simp only[rV]at G;subst G;exact⟨_,hg,by simp[binOp,Op.shift,show ¬b <0 by omega],.int _ _⟩
    .cases G
   all_goals
    split at G
    .rename_i Z;subst Z
     first
      |(cases G;done)
      |(simp only[rV]at G;subst G
        first
         |(refine⟨_,hg,?_,.int _ _⟩;first|(simp[binOp,Op.intArith];done)|(unfold binOp;simp only[ne_eq,not_true_eq_false,if_false];rfl))
         |(refine⟨_,hg,?_,.bool _⟩;simp[binOp,Op.intCmp];done))
      |(split at G
        .cases G
        .rename_i W;simp only[rV]at G;subst G;refine⟨_,hg,?_,.int _ _⟩;simp[binOp,Op.intDiv,W])
    .cases G
  .rename_i a b;have U:=If J;have e2:=If N;rw[U,e2];have hg:(eqGuard op t x y (.string a) (.string b)).run P w= .ok () w:=EV ⟨Ac,Ac⟩;cases op<;>simp only[reduceCtorEq,rV]at G<;>subst G
   .exact⟨_,hg,by simp[binOp,Op.stringOp],.bool _⟩
   .exact⟨_,hg,by simp[binOp,Op.stringOp],.bool _⟩
  .cases G
 .cases hx
def GV{x y:Value}{r:Bool}(h:∀d,(Op.equalIn (d+1) t x y).run P w= .ok r w):(Op.equal t x y).run P w= .ok r w:=h 9999
def KV(d:Nat)(G:P.underlying t=some .bool)(a b:Bool):(Op.equalIn (d+1) t (.bool a) (.bool b)).run P w= .ok (a==b) w:=by simp[Op.equalIn,run_underlying G]
def Ei(d:Nat){G:Nat}(J:P.underlying t=some (.pointer G))(b:Option Addr):
  (Op.equalIn (d+1) t (.pointer none) (.pointer b)).run P w= .ok b.isNone w:=by
 simp[Op.equalIn,run_underlying J]
def KU(d:Nat){G:Nat}(J:P.underlying t=some (.pointer G))(a:Addr):
  (Op.equalIn (d+1) t (.pointer (some a)) (.pointer none)).run P w= .ok false w:=by
 simp[Op.equalIn,run_underlying J]
def Io{op:BinOp}{ne:Bool}(h:(op==if ne then BinOp.neq else BinOp.eql)=true):op=if ne then BinOp.neq else BinOp.eql:=by cases ne<;>cases op<;>first|rfl|cases h
theorem az{op:BinOp}{ne:Bool}{s:Nat}(U:(op==if ne then BinOp.neq else BinOp.eql)=true)(W:Gr P t (λ| .bool=>true|_=>false)=true)(Z:oe GL x x'=true)(a1:oe GL y y'=true):C4 P GL (.binOp op t x y s) (.eqB ne x' y'):=by
 intro g w μ e act h O d hd hx o ho;have J:=hd.ev Z;have N:=hd.ev a1;simp only[PI.val]at hx;split at hx
 .rename_i a b ha hb;rw[ha]at J;rw[hb]at N;have e1:=GW J;have e2:=GW N;simp only[rV]at hx;subst hx;have hg:(eqGuard op t x y (.bool a) (.bool b)).run P w= .ok () w:=EV ⟨Ac,Ac⟩;have hu:P.underlying t=some .bool:=by
   unfold Gr at W;split at W
   .rename_i d' a2;cases d'<;>simp_all
   .cases W
  have G:(Op.equal t (.bool a) (.bool b)).run P w= .ok (a==b) w:=GV λd=>KV d hu a b;refine⟨.bool ((a==b) != ne),?_,.bool _,λk=>Ck _ _ _⟩;have:=Io U;subst this;cases ne<;>simp[execOp,ho,e1,e2,binOp,G]at hg ⊢ <;>simp[hg,G]
 .cases hx
theorem ay{op:BinOp}{ne:Bool}{s:Nat}(a7:(op==if ne then BinOp.neq else BinOp.eql)=true)(ht:Gr P t (λ| .pointer _=>true|_=>false)=true)(a8:oe GL x x'=true)(b0:oe GL y y'=true):C4 P GL (.binOp op t x y s) (.eqP ne x' y'):=by
 intro g w μ e act h O d hd hx o ho;have Z:=hd.ev a8;have a6:=hd.ev b0;have U:∃el,P.underlying t=some (.pointer el):=by
  unfold Gr at ht;split at ht
  .rename_i d' b1;cases d'<;>simp_all
  .cases ht
 obtain⟨el,U⟩:=U;have hp:∀{q:D}{b:Bool}{v:Value},RepD g w μ q v->q.isNilP=some b->(b=true/\v= .pointer none)\/(b=false/\∃a,v= .pointer (some a)):=by
  intro q b v N hb;unfold D.isNilP at hb;split at hb<;>simp only[rV,reduceCtorEq]at hb<;>subst hb
  .cases N;exact .inl ⟨rfl,rfl⟩
  .obtain⟨a,vs,rfl,_⟩:=JY N;exact .inr ⟨rfl,a,rfl⟩
  .obtain⟨b,_,rfl⟩:=N;exact .inr ⟨rfl,_,rfl⟩
 have W:=Io a7;subst W;have fin:∀(r:Bool),(Op.equal t (act.eval x) (act.eval y)).run P w= .ok r w->(∃p1,act.eval x= .pointer p1)->(∃p2,act.eval y= .pointer p2)->
   ∃v,(execOp act.eval o).run P w= .ok (.value v) w/\RepD g w μ (.v (.bool (r != ne))) v/\∀k,Ar (.v (.bool (r != ne))) v k=none:=by
  rintro r N ⟨p1,J⟩ ⟨p2,h2⟩;refine⟨.bool (r != ne),?_,.bool _,λk=>Ck _ _ _⟩;have hg:∀op,(eqGuard op t x y (.pointer p1) (.pointer p2)).run P w= .ok () w:=λop=>EV ⟨Ac,Ac⟩;rw[J,h2]at N;cases ne<;>simp[execOp,ho,J,h2,hg,binOp,N]
 simp only[PI.val]at hx;split at hx
 .rename_i b J h2;simp only[rV]at hx;subst hx;rcases hp Z J with ⟨_,G⟩|⟨h,_⟩
  .rcases hp a6 h2 with ⟨rfl,e2⟩|⟨rfl,a2,e2⟩
   .exact fin true (by rw[G,e2];exact GV λd=>Ei d U none) ⟨_,G⟩ ⟨_,e2⟩
   .exact fin false (by rw[G,e2];exact GV λd=>Ei d U (some a2)) ⟨_,G⟩ ⟨_,e2⟩
  .cases h
 .rename_i b J h2;simp only[rV]at hx;subst hx;rcases hp a6 h2 with ⟨_,e2⟩|⟨h,_⟩
  .rcases hp Z J with ⟨rfl,G⟩|⟨rfl,a1,G⟩
   .exact fin true (by rw[G,e2];exact GV λd=>Ei d U none) ⟨_,G⟩ ⟨_,e2⟩
   .exact fin false (by rw[G,e2];exact GV λd=>KU d U a1) ⟨_,G⟩ ⟨_,e2⟩
  .cases h
 .cases hx
theorem Z9{op:UnOp}(G:(op==UnOp.not)=true)(U:oe GL x x'=true):C4 P GL (.unOp op t x) (.not x'):=by
 intro g w μ e act h O d hd hx o ho;have J:=hd.ev U;have:op= .not:=by cases op<;>first|rfl|cases G
 subst this;simp only[PI.val]at hx;split at hx
 .rename_i a N;rw[N]at J;simp only[rV]at hx;subst hx;exact⟨_,by simp[execOp,ho,GW J,Op.unary],.bool _,λk=>Ck _ _ _⟩
 .cases hx
theorem aC{op:UnOp}(G:(op==UnOp.neg)=true)(U:oe GL x x'=true):C4 P GL (.unOp op t x) (.neg x'):=by
 intro g w μ e act h O d hd hx o ho;have J:=hd.ev U;have:op= .neg:=by cases op<;>first|rfl|cases G
 subst this;simp only[PI.val]at hx;split at hx
 .rename_i k n N;rw[N]at J;simp only[rV]at hx;subst hx;exact⟨.int k (k.wrap (0-n)),by simp[execOp,ho,F8 J,Op.unary,Op.intArith],.int _ _,λk=>Ck _ _ _⟩
 .cases hx
theorem XW{s:Nat}(h:Gr P s (λ| .int _=>true|_=>false)=true):∃k,P.underlying s=some (.int k):=by
 unfold Gr at h;split at h
 .rename_i d hd;cases d<;>simp_all
 .cases h
theorem Xq{s d:Nat}{k:IntKind}(hs:Gr P s (λ| .int _=>true|_=>false)=true)(G:Gr P d (λ| .int k'=>k==k'|_=>false)=true)(hk:oe GL x x'=true):C4 P GL (.convert s d x) (.cint k x'):=by
 intro g w μ e act h O y hd hx o ho;have U:=hd.ev hk;obtain⟨ks,N⟩:=XW hs;have J:P.underlying d=some (.int k):=by
  unfold Gr at G;split at G
  .rename_i W a1;cases W<;>simp_all
  .cases G
 simp only[PI.val]at hx;split at hx
 .rename_i k' n Z;rw[Z]at U;simp only[rV]at hx;subst hx;exact⟨_,by simp[execOp,ho,F8 U,convert,run_underlying N,run_underlying J,Conv.intToInt],.int _ _,λk=>Ck _ _ _⟩
 .cases hx
end
end
section
variable {b cap f i l len m n off r t:Nat} {u:Value} {μ:List Nat} {w:World} {g:Gh} {vs:List Value} {cs xs:List V} {i' q x' y':Opd} {p x:Operand} {O:Nat->Prop} {h:List Row} {e:CC}
section
variable {P:Program} {GL:Ai}
theorem LI(h:Ik P t i off n=true):∃fs f,P.underlying t=some (.struct fs)/\fs[i]?=some f/\f.offset=off/\Bw P f.type n=true:=by
 unfold Ik at h;split at h
 .rename_i fs G;split at h
  .rename_i f J;simp only[rX,beq_iff_eq]at h;exact⟨fs,f,G,J,h.1,h.2⟩
  .cases h
 .cases h
def SL{o:Nat}(h:RepD g w μ (.R r o) u):∃b,μ[r]?=some b/\u= .pointer (some ⟨b,o,none⟩):=h
theorem Xy{o:Nat}(h:g.at b o vs)(k n:Nat):g.at b (o+k) ((vs.drop k).take n):=by
 intro i v G;rw[sP]at G;split at G
 .rw[tG]at G;have:=h _ v G
  rwa [show o+(k+i)=o+k+i by omega]at this
 .cases G
def MA{G:Addr}(J:All2 (RepV g) cs vs)(N:∀v∈vs,v.oneCell'=true)(U:g.at G.block G.off vs)(k n:Nat):RepD g w μ (.v (.ptr ((cs.drop k).take n))) (.pointer (some ⟨G.block,G.off+k,none⟩)):=by
 have h2:=(J.drop k).take n;exact RepV.ptr _ ⟨G.block,G.off+k,none⟩ ((vs.drop k).take n) rfl h2.1 h2.2 (λv W=>N v (tH (s9 W))) (Xy U k n)
theorem Vj(hf:Ik P t i off n=true)(h0:decide (0 <n)=true)(hk:oe GL x x'=true):C4 P GL (.fieldAddr t x i) (.faddr x' off n):=by
 intro g w μ e act h O y hd hx o ho;have W:=hd.ev hk;obtain⟨fs,f,hu,hi,rfl,a1⟩:=LI hf;have hn:n≠0:=by simp at h0;omega
 have run:∀G:Addr,act.eval x= .pointer (some G)->G.spot=none->(execOp act.eval o).run P w= .ok (.value (.pointer (some ⟨G.block,G.off+f.offset,none⟩))) w:=by intro G U hs;simp[execOp,ho,U,Instr.fieldAt,run_underlying hu,hi,Instr.sureAddr,fieldPlace,By a1,hn,Cz hs]
 simp only[PI.val]at hx;split at hx
 .rename_i cs hc;rw[hc]at W;obtain⟨G,vs,U,hs,J,N,Z⟩:=JY W;split at hx
  .simp only[rV]at hx;subst hx;exact⟨_,run G U hs,MA J N Z _ _,λk=>Ck _ _ _⟩
  .cases hx
 .rename_i r a2 hc;rw[hc]at W;obtain⟨b,hb,U⟩:=SL W;simp only[rV]at hx;subst hx;exact⟨_,run _ U rfl,⟨b,hb,rfl⟩,λk=>Li _ _ _ _⟩
 .cases hx
def JQ{G:Bool}(U:Bw P t n=true)(hg:IU P t G=true)(W:off+n<=vs.length)(N:G=false->n=1):
  (part t vs.toArray off).run P w= .ok (if G then .agg ((vs.drop off).take n).toArray else (vs[off]?.getD undef)) w:=by
 cases G with
 |true=>
  simp[part,Ib hg,By U]
 |false=>
  have:=N rfl;subst this;have J:vs[off]?=some vs[off]:=rW _;simp[part,Ib hg,J]
theorem ap{W:Bool}(hf:Ik P t i off n=true)(a6:PC P t i W=true)(h1:(W||n==1)=true)(hk:oe GL x x'=true):
  C4 P GL (.field t x i) (.fld x' off n W):=by
 intro g w μ e act h O y hd hx o ho;have hr:=hd.ev hk;obtain⟨fs,f,hu,hi,rfl,a2⟩:=LI hf;have hg:IU P f.type W=true:=by simpa[PC,hu,hi]using a6
 have Z:W=false->n=1:=by intro h;simpa[h]using h1
 simp only[PI.val]at hx;split at hx
 .rename_i cs hc;rw[hc]at hr;obtain⟨vs,hv,G,N⟩:=RepV.agg_inv hr;simp only[rt]at hx;obtain⟨z,hz,rfl⟩:=hx;obtain⟨U,J⟩:=MH (w:=w) (μ:=μ) G N hz;exact⟨_,by simp[execOp,ho,hv,Instr.field,run_underlying hu,hi,asAgg,JQ a2 hg J Z],U,λk=>Ck _ _ _⟩
 .rename_i ds hc;rw[hc]at hr;obtain⟨vs,hv,G,N,_⟩:=hr;obtain⟨U,J,a1⟩:=Kp G N hx;exact⟨_,by simp[execOp,ho,hv,Instr.field,run_underlying hu,hi,asAgg,JQ a2 hg J Z],U,λk=>a1 _ _⟩
 .cases hx
def EU{G:Act}(hd:Gd P GL g w μ e G h O){i:Operand}(J:oe GL i i'=true){k:IntKind}{n:Int}(hc:i'.ev e= .v (.int k n)):G.eval i= .int k n:=by
 have:=hd.ev J;rw[hc]at this;exact F8 this
def OU(h:RepV g (.list xs) u){x:V}(hx:xs[i]?=some x):
  ∃(a:Addr)(cap s:Nat)(vs:List Value),u= .slice (some a) xs.length cap/\a.spot=none/\All2 (RepV g) x.cells vs/\(∀v∈vs,v.oneCell'=true)/\g.at a.block (a.off+i*s) vs/\s=x.cells.length:=by
 have hi:=(rZ.1 hx).1;cases h with
 |lnil=>simp at hx
 |list _ a cap s vs hs hc hr hz=>
  have G:=(hr i x hx).cells;have J:=hz i hi;refine⟨a,cap,s,(vs i).cells.toList,rfl,hs,G.1,G.2,J.2,?_⟩;have:=G.1.1;simp at this;omega
theorem VW{s:Nat}{i:Operand}(ht:FZ P t s=true)(hk:oe GL x x'=true)(W:oe GL i i'=true):
  C4 P GL (.indexAddr t x i) (.iaddr x' i' s):=by
 intro g w μ e act h O y hd hx o ho;have hr:=(hd.ev hk).copy;have hu:∃U,P.underlying t=some (.slice U)/\Bw P U s=true:=by
  unfold FZ at ht;split at ht
  .rename_i U a6;exact⟨U,a6,ht⟩
  .cases ht
 obtain⟨U,hu,a1⟩:=hu;simp only[PI.val]at hx;split at hx
 .rename_i xs k n hc J;rw[hc]at hr;have N:=EU hd W J;unfold V.getI at hx;split at hx
  .rename_i z hz;split at hz
   .rename_i h0;split at hx
    .rename_i hs;simp only[rV]at hx;subst hx;obtain⟨a,cap,s',vs,hv,a8,G,Z,a2,b1⟩:=OU hr hz;have b0:s'=s:=AE;subst b0;have hi:=(rZ.1 hz).1;refine⟨.pointer (some ⟨a.block,a.off+n.toNat*s',none⟩),?_,?_,λk=>Ck _ _ _⟩
     .have a7:0<=n/\n <(xs.length:Int):=⟨h0,AE⟩;simp[execOp,ho,hv,N,Instr.indexAt,asIntOf,run_underlying hu,a7,By a1,Cz a8]
     .exact RepV.ptr _ ⟨a.block,a.off+n.toNat*s',none⟩ vs rfl G.1 G.2 Z a2
    .cases hx
   .cases hz
  .cases hx
 .rename_i r m k n hc J;rw[hc]at hr;have N:=EU hd W J;obtain⟨b,cap,hb,hv,_⟩:=hr;split at hx
  .rename_i h0;simp only[rV]at hx;subst hx;refine⟨.pointer (some ⟨b,n.toNat*s,none⟩),?_,⟨b,hb,rfl⟩,λk=>Li _ _ _ _⟩;simp[execOp,ho,hv,N,Instr.indexAt,asIntOf,run_underlying hu,h0,By a1];rw[Cz rfl];simp
  .cases hx
 .cases hx
theorem Tj{s:Nat}{i:Operand}(ht:FZ P t s=true)(hk:oe GL x x'=true)(Z:oe GL i i'=true):
  C4 P GL (.indexAddr t x i) (.iaddrP x' i' s):=by
 intro g w μ e act h O y hd hx o ho;have hr:=hd.ev hk;have hu:∃W,P.underlying t=some (.slice W)/\Bw P W s=true:=by
  unfold FZ at ht;split at ht
  .rename_i W a2;exact⟨W,a2,ht⟩
  .cases ht
 obtain⟨W,hu,a1⟩:=hu;simp only[PI.val]at hx;split at hx
 .rename_i b a7 s' xs k n hc J;rw[hc]at hr;have N:=EU hd Z J;split at hx
  .rename_i hn;obtain⟨⟨rfl,rfl⟩,G⟩:=hn;simp only[rV]at hx;subst hx;obtain⟨cap,hv,a6,_⟩:=hr;refine⟨.pointer (some ⟨b,xs.length*s',none⟩),?_,.inr ⟨G,rfl⟩,λk=>by cases k<;>simp[Ar,Am]⟩
   have U:(0:Int)<=xs.length/\(xs.length:Int) <((xs.length+1:Nat):Int):=⟨AE,AE⟩;simp[execOp,ho,hv,N,Instr.indexAt,asIntOf,run_underlying hu,U,By a1]
   try (rw[Cz rfl];simp)
  .cases hx
 .rename_i b m k n hc J;rw[hc]at hr;have N:=EU hd Z J;split at hx
  .rename_i hn;obtain⟨rfl,G⟩:=hn;simp only[rV]at hx;subst hx;obtain⟨_,cap,hv⟩|⟨h0,_⟩:=hr
   .refine⟨.pointer (some ⟨b,m*s,none⟩),?_,.inr ⟨G,rfl⟩,λk=>by cases k<;>simp[Ar,Am]⟩
    have U:(0:Int)<=m/\(m:Int) <((m+1:Nat):Int):=⟨AE,AE⟩;simp[execOp,ho,hv,N,Instr.indexAt,asIntOf,run_underlying hu,U,By a1]
    try (rw[Cz rfl];simp)
   .omega
  .cases hx
 .cases hx
theorem Tk{s:Nat}{i:Operand}(ht:PW P t len s=true)(hk:oe GL x x'=true)(W:oe GL i i'=true):
  C4 P GL (.indexAddr t x i) (.iaddrA x' i' len s):=by
 intro g w μ e act h O y hd hx o ho;have hr:=hd.ev hk;have hu:∃N,P.underlying t=some (.array len N)/\Bw P N s=true:=by
  unfold PW at ht;split at ht
  .rename_i l N a2;simp only[rX,beq_iff_eq]at ht;obtain⟨⟨rfl,h2⟩,_⟩:=ht;exact⟨N,a2,h2⟩
  .cases ht
 obtain⟨N,hu,a7⟩:=hu;have run:∀(G:Addr)(k:IntKind)(n:Int),act.eval x= .pointer (some G)->G.spot=none->act.eval i= .int k n->0<=n/\n <(len:Int)->
   (execOp act.eval o).run P w= .ok (.value (.pointer (some ⟨G.block,G.off+n.toNat*s,none⟩))) w:=by
  intro G k n hv hs hi a6;simp[execOp,ho,hv,hi,Instr.indexAt,asIntOf,run_underlying hu,a6,By a7,Instr.sureAddr,Cz hs]
 simp only[PI.val]at hx;split at hx
 .rename_i cs k n hc J;rw[hc]at hr;obtain⟨G,vs,hv,hs,U,Z,a1⟩:=JY hr;split at hx
  .rename_i h0;simp only[rV]at hx;subst hx;exact⟨_,run G k n hv hs (EU hd W J) ⟨h0.1,h0.2.1⟩,MA U Z a1 _ _,λk=>Ck _ _ _⟩
  .cases hx
 .rename_i r a8 k n hc J;rw[hc]at hr;obtain⟨b,hb,hv⟩:=SL hr;split at hx
  .rename_i h0;simp only[rV]at hx;subst hx;exact⟨_,run _ k n hv rfl (EU hd W J) h0,⟨b,hb,rfl⟩,λk=>Li _ _ _ _⟩
  .cases hx
 .cases hx
theorem Fs(h:Gr P t (λ| .string=>true|_=>false)=true):P.underlying t=some .string:=by
 unfold Gr at h;split at h
 .rename_i d hd;cases d<;>simp_all
 .cases h
theorem Xb{i:Operand}(ht:Gr P t (λ| .string=>true|_=>false)=true)(Z:oe GL x x'=true)(J:oe GL i i'=true):
  C4 P GL (.index t x i) (.idxS x' i'):=by
 intro g w μ e act h O y hd hx o ho;have N:=hd.ev Z;have hu:=Fs ht;simp only[PI.val]at hx;split at hx
 .rename_i s k n hc G;rw[hc]at N;split at hx
  .rename_i U;simp only[rt]at hx;obtain⟨b,W,rfl⟩:=hx;exact⟨.int .u8 b.toNat,by simp[execOp,ho,If N,EU hd J G,Instr.index,asIntOf,run_underlying hu,U,W],.int _ _,λk=>Ck _ _ _⟩
  .cases hx
 .cases hx
theorem SV{p:Option Operand}{q:Option Opd}(h:A0 (oe GL) p.toList q.toList=true):(p=none/\q=none)\/∃x y,p=some x/\q=some y/\oe GL x y=true:=by cases p<;>cases q<;>simp_all [A0]
theorem Ic{J:Act}(hd:Gd P GL g w μ e J h O)(Z:oe GL p q=true){U y:Nat}(G:NM (some (q.ev e)) U=some l)(hl:l<=y)(N:BoundsCode):(Instr.sliceBound (J.eval p) y N).run P w= .ok l w:=by
 unfold NM at G;split at G
 .rename_i h;cases h
 .rename_i k n h;simp only[rV]at h;split at G
  .rename_i W;simp only[rV]at G;have hv:=EU hd Z h;have:0<=n/\n<=(y:Int):=⟨W,AE⟩;simp[Instr.sliceBound,hv,asIntOf,this,G]
  .cases G
 .cases G
theorem RC{J:Act}(hd:Gd P GL g w μ e J h O){lo hi:Option Operand}{a2 Z:Option Opd}(a7:A0 (oe GL) lo.toList a2.toList=true)(a6:A0 (oe GL) hi.toList Z.toList=true)(N:Bool)(U:NM (a2.map (·.ev e)) 0=some l)(W:NM (Z.map (·.ev e)) len=some m)(b0:l<=m)(b1:m<=len)(a8:len<=cap):
  (Instr.sliceBounds N len cap (lo.map J.eval) (hi.map J.eval) none).run P w= .ok (l,m,cap) w:=by
 rcases SV a7 with ⟨rfl,rfl⟩|⟨p,q,rfl,rfl,a1⟩<;>rcases SV a6 with ⟨rfl,rfl⟩|⟨p',q',rfl,rfl,G⟩
 .simp[NM]at U W;subst U;subst W;simp[Instr.sliceBounds]
 .simp[NM]at U;subst U;have h2:=Ic hd G (y:=cap) W AE (if N then .sliceAcap else .sliceAlen);simp[Instr.sliceBounds,h2]
 .simp[NM]at W;subst W;have h2:=Ic hd a1 (y:=len) U AE .sliceB;simp[Instr.sliceBounds,h2]
 .have h1:=Ic hd G (y:=cap) W AE (if N then .sliceAcap else .sliceAlen);have h2:=Ic hd a1 (y:=m) U AE .sliceB;simp[Instr.sliceBounds,h1,h2]
theorem Pu(h:RepV g (.list xs) u){s:Nat}(a7:l<=m)(a1:m<=xs.length)(hs:BZ s xs=true):
  ∃(a:Option Addr)(cap:Nat),u= .slice a xs.length cap/\xs.length<=cap/\RepV g (.list ((xs.take m).drop l)) (.slice (if cap=l then a else a.map (·.add (l*s))) (m-l) (cap-l)):=by
 cases h with
 |lnil=>
  have Z:m=0:=by simpa using a1
  subst Z;have W:l=0:=AE;subst W;exact⟨none,0,rfl,ri _,by simpa using RepV.lnil⟩
 |list _ a cap s' vs hsp hc hr hz=>
  refine⟨some a,cap,rfl,hc,?_⟩;have G:((xs.take m).drop l).length=m-l:=by simp;omega
  have Bz:∀i x,((xs.take m).drop l)[i]?=some x->xs[l+i]?=some x:=by
   intro i x hx;rw[tG,sP]at hx;split at hx
   .exact hx
   .cases hx
  have a2:0 <xs.length->s'=s:=by
   intro U;have N:xs[0]?=some xs[0]:=rW _;have h1:xs.head?=some xs[0]:=by rw[List.head?_eq_getElem?];exact N
   simp[BZ,h1]at hs;have h3:=(hr 0 _ N).cells.1.1;have h4:=(hz 0 U).1;simp at h3;omega
  rw[<-G];by_cases J:cap=l
  .simp only[J,if_true];refine RepV.list _ a _ s' (λi=>vs (l+i)) hsp (by rw[G];omega) (λi x hx=>hr _ x (Bz i x hx)) λi hi=>?_;rw[G]at hi;omega
  .simp only[J,if_false,sT];refine RepV.list _ (a.add (l*s)) _ s' (λi=>vs (l+i)) (by rw[Cz hsp]) (by rw[G];omega) (λi x hx=>hr _ x (Bz i x hx)) λi hi=>?_;rw[G]at hi;have U:0 <xs.length:=AE;have a6:=a2 U;subst a6;rw[Cz hsp];have:=hz (l+i) AE;refine⟨this.1,?_⟩;have h2:=this.2;simp only
   rwa [show a.off+(l+i)*s'=a.off+l*s'+i*s' by rw[sm];omega]at h2
theorem Za{s:Nat}{lo hi mx:Option Operand}{Z N:Option Opd}(ht:FZ P t s=true)(hk:oe GL x x'=true)(a8:mx.isNone=true)(a7:A0 (oe GL) lo.toList Z.toList=true)(a2:A0 (oe GL) hi.toList N.toList=true):
  C4 P GL (.slice t x lo hi mx) (.slc x' Z N s):=by
 intro g w μ e act h O y hd hx o ho;have hr:=(hd.ev hk).copy;have hu:∃J,P.underlying t=some (.slice J)/\Bw P J s=true:=by
  unfold FZ at ht;split at ht
  .rename_i J a1;exact⟨J,a1,ht⟩
  .cases ht
 obtain⟨J,hu,b0⟩:=hu;have U:mx=none:=by simpa using a8
 subst U;simp only[PI.val]at hx;split at hx
 .rename_i xs hc;rw[hc]at hr;split at hx
  .rename_i l m hl hm;split at hx
   .rename_i G;simp only[rV]at hx;subst hx;obtain⟨a,cap,hv,a6,W⟩:=Pu hr G.1 G.2.1 G.2.2;have hb:=RC (w:=w) hd a7 a2 true hl hm G.1 G.2.1 a6;exact⟨_,by simp[execOp,ho,hv,Instr.sliceAt,Instr.slice,run_underlying hu,hb,By b0],W,λk=>Ck _ _ _⟩
   .cases hx
  .cases hx
 .cases hx
theorem ar{t:Operand}{t':Opd}{i':Nat}(N:oe GL t t'=true)(hi:(i==i')=true):C4 P GL (.extract t i) (.ext t' i'):=by
 intro g w μ e act h O y hd hx o ho;have:i=i':=by simpa using hi
 subst this;simp only[PI.val]at hx;split at hx
 .rename_i n mv;cases t with
  |tmp n'=>
   have:n'=n:=by simpa[oe]using N
   subst this;split at hx
   .rename_i ds U;have Z:=hd.inv.rep n';rw[U]at Z;obtain⟨vs,hv,G⟩:=Z;simp only[rt]at hx;obtain⟨z,hz,rfl⟩:=hx;obtain⟨v,W,J⟩:=G.get hz;refine⟨v,?_,J.toD.copy,λk=>CN _ _ _⟩;simp[execOp,ho,Act.eval,hv,Instr.extract,W]
   .cases hx
  |const v=>simp[oe]at N
  |global g=>simp[oe]at N
  |func f=>simp[oe]at N
 .cases hx
def Mp{g:Gh}{w:World}{μ:List Nat}{e:CC}{G:Act}{h:List Row}{O:Nat->Prop}(hd:Gd P GL g w μ e G h O):
  ∀{ps:List Operand}{J:List Opd},A0 (oe GL) ps J=true->(FT e J).all D.isCap=true->All2 (RepC g μ) (FT e J) (ps.map G.eval)
 |[],[],_,_=> .nil
 |p::ps,q::J,hk,hc=>by simp only[A0,rX]at hk;simp only[FT,tz,rX]at hc ⊢;refine .cons ?_ (Mp hd hk.2 hc.2);have N:=(hd.ev hk.1).copy;generalize (q.ev e).copy=d at N hc ⊢;cases d<;>simp[D.isCap]at hc<;>exact N
 |[],_::_,hk,_=>by simp[A0]at hk
 |_::_,[],hk,_=>by simp[A0]at hk
theorem aF{J:Nat}{first caps:Array Operand}{G:List Opd}(W:(f==J)=true)(U:first.isEmpty=true)(Z:A0 (oe GL) caps.toList G=true):
  C4 P GL (.makeFunc (.func f) first caps) (.mkf J G):=by
 intro g w μ e act h O y hd hx o ho;have:f=J:=by simpa using W
 subst this;have N:first= #[]:=by simpa using U
 subst N;simp only[PI.val]at hx;split at hx
 .rename_i hc;simp only[rV]at hx;subst hx;refine⟨.func (.func f) #[] (caps.toList.map act.eval).toArray,?_,⟨_,rfl,Mp hd Z hc⟩,λk=>by cases k<;>simp[Ar,Am]⟩
  simp[execOp,ho,Instr.makeFunc];rw[<-tE];simp
 .cases hx
theorem XM{N:Nat}{first caps:Array Operand}{G:List Opd}(Z:(f==N)=true)(W:caps.isEmpty=true)(hk:A0 (oe GL) first.toList G=true):
  C4 P GL (.makeFunc (.func f) first caps) (.mkme N G):=by
 intro g w μ e act h O y hd hx o ho;have:=eq_of_beq Z;subst this;simp only[PI.val]at hx;split at hx
 .rename_i J;simp only[rV]at hx;subst hx;have h2:caps= #[]:=by simpa using W
  subst h2;have:=Mp hd hk J;refine⟨.func (.func f) (first.toList.map act.eval).toArray #[],?_,⟨_,rfl,this⟩,λk=>by cases k<;>simp[Ar,Am]⟩
  have U:first.map act.eval=(first.toList.map act.eval).toArray:=by rw[<-tE];simp
  simp[execOp,ho,Instr.makeFunc,U]
 .cases hx
theorem Xc{s:Nat}{ag:Bool}{i:Operand}(ht:(match P.underlying t with|some (.array n' e)=>n'==n&&Bw P e s&&IU P e ag&&(ag||s==1)|_=>false)=true)(hk:oe GL x x'=true)(a1:oe GL i i'=true):C4 P GL (.index t x i) (.idxA x' i' n s ag):=by
 intro g w μ e act h O y hd hx o ho;have hr:=hd.ev hk;split at ht
 .rename_i n' el hu;simp only[rX,beq_iff_eq]at ht;obtain⟨⟨⟨rfl,hs⟩,hg⟩,h1⟩:=ht;have a2:ag=false->s=1:=by intro h;simpa[h]using h1
  simp only[PI.val]at hx;split at hx
  .rename_i cs k z hc W;rw[hc]at hr;obtain⟨vs,hv,G,N⟩:=RepV.agg_inv hr;split at hx
   .rename_i Z;simp only[rt]at hx;obtain⟨z',hz,rfl⟩:=hx;obtain⟨U,J⟩:=MH (w:=w) (μ:=μ) G N hz;exact⟨_,by simp[execOp,ho,hv,EU hd a1 W,Instr.index,asIntOf,run_underlying hu,Z,By hs,JQ hs hg J a2],U,λk=>Ck _ _ _⟩
   .cases hx
  .rename_i ds k z hc W;rw[hc]at hr;obtain⟨vs,hv,G,N,_⟩:=hr;split at hx
   .rename_i Z;obtain⟨U,J,a6⟩:=Kp G N hx;exact⟨_,by simp[execOp,ho,hv,EU hd a1 W,Instr.index,asIntOf,run_underlying hu,Z,By hs,JQ hs hg J a2],U,λk=>a6 _ _⟩
   .cases hx
  .cases hx
 .cases ht
theorem Lj{α:Type}{G:Array α}{p:α->Bool}(h:NC G.toList p=true):∃x,G= #[x]/\p x=true:=by
 unfold NC at h;split at h
 .rename_i x hx;exact⟨x,by rw[<-Array.toArray_toList (xs:=G),hx],h⟩
 .cases h
theorem DZ{α:Type}{G:Array α}{p:α->α->Bool}(h:Hf G.toList p=true):∃x y,G= #[x,y]/\p x y=true:=by
 unfold Hf at h;split at h
 .rename_i x y hx;exact⟨x,y,by rw[<-Array.toArray_toList (xs:=G),hx],h⟩
 .cases h
theorem Fi(h:Gr P t (λ| .slice _=>true|_=>false)=true):∃G,P.underlying t=some (.slice G):=by
 unfold Gr at h;split at h
 .rename_i d hd;cases d<;>simp_all
 .cases h
theorem YD{args:Array Operand}{ts:Array TypeId}(Z:NC args.toList (λx=>oe GL x x')=true)(ht:NC ts.toList (λt=>Gr P t (λ| .slice _=>true|_=>false))=true):C4 P GL (.call {callee:= .builtin .len,args:=args,argTypes:=ts}) (.alen x'):=by
 intro g w μ e act h O y hd hx o ho;obtain⟨x,rfl,U⟩:=Lj Z;obtain⟨t,rfl,N⟩:=Lj ht;obtain⟨el,hu⟩:=Fi N;have J:=(hd.ev U).copy;have run:∀a n c,act.eval x= .slice a n c->(execOp act.eval o).run P w= .ok (.value (.int .i64 n)) w:=by intro a n c G;simp[execOp,ho,resolve,invoke,builtin,Builtin.len_,run_underlying hu,G,goInt]
 simp only[PI.val]at hx;split at hx
 .rename_i xs hc;rw[hc]at J;simp only[rV]at hx;subst hx;refine⟨.int .i64 xs.length,?_,.int _ _,λk=>Ck _ _ _⟩;generalize G:act.eval x=u at J;cases J with
  |lnil=>exact run _ _ _ G
  |list _ a cap s vs=>exact run _ _ _ G
 .rename_i W s' hc;rw[hc]at J;simp only[rV]at hx;subst hx;obtain⟨a,G,_⟩:=J;exact⟨.int .i64 0,run _ _ _ G,.int _ _,λk=>Ck _ _ _⟩
 .rename_i r n hc;rw[hc]at J;simp only[rV]at hx;subst hx;obtain⟨b,cap,_,G,_⟩:=J;exact⟨.int .i64 n,run _ _ _ G,.int _ _,λk=>Ck _ _ _⟩
 .cases hx
theorem XS{args:Array Operand}{ts:Array TypeId}(U:NC args.toList (λx=>oe GL x x')=true)(W:NC ts.toList (λt=>Gr P t (λ| .string=>true|_=>false))=true):C4 P GL (.call {callee:= .builtin .len,args:=args,argTypes:=ts}) (.lenS x'):=by
 intro g w μ e act h O y hd hx o ho;obtain⟨x,rfl,J⟩:=Lj U;obtain⟨t,rfl,G⟩:=Lj W;have Z:=Fs G;have N:=hd.ev J;simp only[PI.val]at hx;split at hx
 .rename_i s hc;rw[hc]at N;simp only[rV]at hx;subst hx;exact⟨.int .i64 s.size,by simp[execOp,ho,resolve,invoke,builtin,Builtin.len_,run_underlying Z,If N,goInt],.int _ _,λk=>Ck _ _ _⟩
 .cases hx
theorem aI{args:Array Operand}{ts:Array TypeId}(U:Hf args.toList (λx y=>oe GL x x'&&oe GL y y')=true):
  C4 P GL (.call {callee:= .builtin .max,args:=args,argTypes:=ts}) (.minmax true x' y'):=by
 intro g w μ e act h O z hd hx o ho;obtain⟨x,y,rfl,G⟩:=DZ U;simp only[rX]at G;simp only[PI.val]at hx;split at hx
 .rename_i k a k' b hc J;split at hx
  .rename_i N;subst N;simp only[if_true,rV]at hx;subst hx;exact⟨_,by simp[execOp,ho,resolve,invoke,builtin,Builtin.max_,Builtin.max2,EU hd G.1 hc,EU hd G.2 J],.int _ _,λk=>Ck _ _ _⟩
  .cases hx
 .cases hx
theorem aH{args:Array Operand}{ts:Array TypeId}(U:Hf args.toList (λx y=>oe GL x x'&&oe GL y y')=true):
  C4 P GL (.call {callee:= .builtin .min,args:=args,argTypes:=ts}) (.minmax false x' y'):=by
 intro g w μ e act h O z hd hx o ho;obtain⟨x,y,rfl,G⟩:=DZ U;simp only[rX]at G;simp only[PI.val]at hx;split at hx
 .rename_i k a k' b hc J;split at hx
  .rename_i N;subst N;simp only[rz,if_false,rV]at hx;subst hx;exact⟨_,by simp[execOp,ho,resolve,invoke,builtin,Builtin.min_,Builtin.min2,EU hd G.1 hc,EU hd G.2 J],.int _ _,λk=>Ck _ _ _⟩
  .cases hx
 .cases hx
end
end
section
variable {i k t:Nat} {u v:Value} {w:World} {g:Gh} {x' y':Opd} {x y:Operand} {ks:List Nat}
section
variable {P:Program} {GL:Ai}
theorem Sv{x y:V}(hx:RepV g x u)(U:RepV g y v){b:Bool}(G:V.eq1 k x y=some b)(O:IA P t k=true)(d:Nat):
  (Op.equalIn (d+1) t u v).run P w= .ok b w/\(part t #[] 0=part t #[] 0)/\(isAgg t).run P w= .ok false w:=by
 unfold IA at O;split at O
 .rename_i k' J;cases x<;>cases y<;>simp only[V.eq1,reduceCtorEq]at G
  rename_i W a Z c;split at G
  .rename_i N;subst N;simp only[rV]at G;subst G;cases hx;cases U;exact⟨run_equalIn_int w d t W _ a c J,rfl,by simp[isAgg,run_underlying J]⟩
  .cases G
 .rename_i J;cases x<;>cases y<;>simp only[V.eq1,reduceCtorEq]at G
  simp only[rV]at G;subst G;cases hx;cases U;exact⟨run_equalIn_bool' w d t _ _ J,rfl,by simp[isAgg,run_underlying J]⟩
 .rename_i J;cases x<;>cases y<;>simp only[V.eq1,reduceCtorEq]at G
  simp only[rV]at G;subst G;cases hx;cases U;exact⟨run_equalIn_string w d t _ _ J,rfl,by simp[isAgg,run_underlying J]⟩
 .cases O
def GU(h:(isAgg t).run P w= .ok false w){cs:Array Value}(G:cs[i]?=some v):(part t cs i).run P w= .ok v w:=by simp[part,h,G]
theorem Ls{g:Gh}{w:World}{us vs:List Value}(d:Nat):∀(fs:List Field)(ks:List Nat)(xs G:List V)(i:Nat){b:Bool},CA P i fs ks=true->V.eqL ks xs G=some b->
  (∀j x,xs[j]?=some x->∃u,us[i+j]?=some u/\RepV g x u)->(∀j y,G[j]?=some y->∃v,vs[i+j]?=some v/\RepV g y v)->
  (Op.eqFields (d+1) us.toArray vs.toArray fs).run P w= .ok b w
 |[],[],xs,G,i,b,_,hb,_,_=>by
  cases xs<;>cases G<;>simp[V.eqL]at hb
  subst hb;rfl
 |[],_::_,_,_,_,_,hf,_,_,_=>by simp[CA]at hf
 |_::_,[],_,_,_,_,hf,_,_,_=>by simp[CA]at hf
 |f::fs,k::ks,xs,G,i,b,hf,hb,hx,hy=>by
  simp only[CA,rX,beq_iff_eq,bne_iff_ne,ne_eq]at hf;obtain⟨⟨⟨Z,hn⟩,hk⟩,J⟩:=hf;cases xs with
  |nil=>cases G<;>simp[V.eqL]at hb
  |cons x xs=>
   cases G with
   |nil=>simp[V.eqL]at hb
   |cons y G=>
    simp only[V.eqL]at hb;split at hb
    .rename_i b1 b2 h1 h2;simp only[rV]at hb;subst hb;obtain⟨u,hu,ru⟩:=hx 0 x rfl;obtain⟨v,hv,rv⟩:=hy 0 y rfl;obtain⟨e1,_,e2⟩:=Sv (w:=w) ru rv h1 hk d;have ih:=Ls (g:=g) (w:=w) d fs ks xs G (i+1) J h2 (λj z O=>by
      obtain⟨W,N,U⟩:=hx (j+1) z (by simpa using O);exact⟨W,by rw[show i+1+j=i+(j+1) by omega];exact N,U⟩) (λj z O=>by
      obtain⟨W,N,U⟩:=hy (j+1) z (by simpa using O);exact⟨W,by rw[show i+1+j=i+(j+1) by omega];exact N,U⟩)
     have p1:(part f.type us.toArray f.offset).run P w= .ok u w:=GU e2 (by rw[Z];simpa using hu);have p2:(part f.type vs.toArray f.offset).run P w= .ok v w:=GU e2 (by rw[Z];simpa using hv);simp only[Op.eqFields,ne_eq,hn,not_false_eq_true,if_true,Sem.run_bind,p1,p2,e1,Result.andThen_ok];cases b1
     .simp
     .simpa using ih
    .cases hb
def N5:∀(m:Nat)(ks:List Nat)(xs G:List V){b:Bool},V.eqL ks xs G=some b->∃J N,V.eqL (ks.take m) (xs.take m) (G.take m)=some J/\V.eqL (ks.drop m) (xs.drop m) (G.drop m)=some N/\b=(J&&N)
 |0,ks,xs,G,b,h=>⟨true,b,by simp[V.eqL],by simpa using h,Ac⟩
 |m+1,[],xs,G,b,h=>by
  cases xs<;>cases G<;>simp[V.eqL]at h
  subst h;exact⟨true,true,by simp[V.eqL],by simp[V.eqL],rfl⟩
 |m+1,k::ks,xs,G,b,h=>by
  cases xs with
  |nil=>cases G<;>simp[V.eqL]at h
  |cons x xs=>
   cases G with
   |nil=>simp[V.eqL]at h
   |cons y G=>
    simp only[V.eqL]at h;split at h
    .rename_i O Z W h2;simp only[rV]at h;subst h;obtain⟨J,N,U,e2,rfl⟩:=N5 m ks xs G h2;exact⟨O&&J,N,by simp[V.eqL,W,U],by simpa using e2,by rw[Bool.and_assoc]⟩
    .cases h
theorem PE{g:Gh}{w:World}{us vs:List Value}(d:Nat):∀(fs:List Field)(ks:List Nat)(xs N:List V)(i:Nat){b:Bool},Eo P i fs ks=true->V.eqL ks xs N=some b->
  (∀j x,xs[j]?=some x->∃u,us[i+j]?=some u/\RepV g x u)->(∀j y,N[j]?=some y->∃v,vs[i+j]?=some v/\RepV g y v)->
  (Op.eqFields (d+2) us.toArray vs.toArray fs).run P w= .ok b w
 |[],ks,xs,N,i,b,hf,hb,_,_=>by
  simp only[Eo,List.isEmpty_iff]at hf;subst hf;cases xs<;>cases N<;>simp[V.eqL]at hb
  subst hb;rfl
 |f::fs,ks,xs,N,i,b,hf,hb,hx,hy=>by
  simp only[Eo,rX,beq_iff_eq,bne_iff_ne,ne_eq]at hf;obtain⟨⟨ho,hn⟩,Z⟩:=hf;split at Z
  .rename_i G J;simp only[rX,tA,beq_iff_eq]at Z;obtain⟨⟨⟨k1,k2⟩,k3⟩,k4⟩:=Z;obtain⟨b1,b2,e1,e2,rfl⟩:=N5 G.size ks xs N hb;have a7:P.fieldsOf f.type=G:=by simp[Program.fieldsOf,J]
   have ha:(isAgg f.type).run P w= .ok true w:=by simp[isAgg,run_underlying J]
   have hs:(sizeOf f.type).run P w= .ok G.size w:=By k2;have hp:∀zs:List Value,(part f.type zs.toArray f.offset).run P w= .ok (.agg ((zs.drop i).take G.size).toArray) w:=by intro zs;have:zs.toArray.extract i (i+G.size)=((zs.drop i).take G.size).toArray:=Ac;simp[part,ha,hs,ho,this]
   have a8:(Op.equalIn (d+2) f.type (.agg ((us.drop i).take G.size).toArray) (.agg ((vs.drop i).take G.size).toArray)).run P w= .ok b1 w:=by
    rw[run_equalIn_struct w (d+1) f.type _ _ (by rw[a7];exact J) k1,a7];refine Ls (g:=g) d G.toList _ _ _ 0 k3 e1 (λj x O=>?_) (λj y O=>?_)
    .rw[sP]at O;split at O
     .rename_i a1;obtain⟨u,U,hr⟩:=hx j x O;exact⟨u,by rw[tI,sP,if_pos a1,tG];exact U,hr⟩
     .cases O
    .rw[sP]at O;split at O
     .rename_i a1;obtain⟨u,U,hr⟩:=hy j y O;exact⟨u,by rw[tI,sP,if_pos a1,tG];exact U,hr⟩
     .cases O
   have ih:=PE (g:=g) (w:=w) d fs _ _ _ (i+G.size) k4 e2 (λj z W=>by
    rw[tG]at W;obtain⟨u,U,hr⟩:=hx _ z W;exact⟨u,by rw[Nat.add_assoc];exact U,hr⟩) (λj z W=>by
    rw[tG]at W;obtain⟨u,U,hr⟩:=hy _ z W;exact⟨u,by rw[Nat.add_assoc];exact U,hr⟩)
   simp only[Op.eqFields,ne_eq,hn,not_false_eq_true,if_true,Sem.run_bind,hp,a8,Result.andThen_ok];cases b1
   .simp
   .simpa using ih
  .rename_i b0;cases ks with
   |nil=>cases Z
   |cons k ks=>
    simp only[rX]at Z;obtain⟨Z,a2⟩:=Z;cases xs with
    |nil=>cases N<;>simp[V.eqL]at hb
    |cons x xs=>
     cases N with
     |nil=>simp[V.eqL]at hb
     |cons y N=>
      simp only[V.eqL]at hb;split at hb
      .rename_i b1 b2 h1 h2;simp only[rV]at hb;subst hb;obtain⟨u,U,ru⟩:=hx 0 x rfl;obtain⟨v,hv,rv⟩:=hy 0 y rfl;obtain⟨e1,_,e2⟩:=Sv (w:=w) ru rv h1 Z (d+1);have ih:=PE (g:=g) (w:=w) d fs ks xs N (i+1) a2 h2 (λj z W=>by
        obtain⟨u',a6,r'⟩:=hx (j+1) z (by simpa using W);exact⟨u',by rw[show i+1+j=i+(j+1) by omega];exact a6,r'⟩) (λj z W=>by
        obtain⟨u',a6,r'⟩:=hy (j+1) z (by simpa using W);exact⟨u',by rw[show i+1+j=i+(j+1) by omega];exact a6,r'⟩)
       have p1:(part f.type us.toArray f.offset).run P w= .ok u w:=GU e2 (by rw[ho];simpa using U);have p2:(part f.type vs.toArray f.offset).run P w= .ok v w:=GU e2 (by rw[ho];simpa using hv);simp only[Op.eqFields,ne_eq,hn,not_false_eq_true,if_true,Sem.run_bind,p1,p2,e1,Result.andThen_ok];cases b1
       .simp
       .simpa using ih
      .cases hb
theorem bA{op:BinOp}{ne:Bool}{s:Nat}(a1:(op==if ne then BinOp.neq else BinOp.eql)=true)(G:(IJ P t ks||PD P t ks)=true)(a7:oe GL x x'=true)(a8:oe GL y y'=true):C4 P GL (.binOp op t x y s) (.eqA ne ks x' y'):=by
 intro g w μ e act h O d hd hx o ho;have a2:=hd.ev a7;have a6:=hd.ev a8;simp only[PI.val]at hx;split at hx
 .rename_i cs ds hc Z;simp only[rt]at hx;obtain⟨b,hb,rfl⟩:=hx;obtain⟨us,e1,h1,_⟩:=RepV.agg_inv (Cv a2 hc);obtain⟨vs,e2,h2,_⟩:=RepV.agg_inv (Cv a6 Z);obtain⟨W,N⟩:P.eqGuardType P.depth t=false/\(Op.equalIn 10000 t (.agg us.toArray) (.agg vs.toArray)).run P w= .ok b w:=by
   rcases (by simpa using G:IJ P t ks=true\/PD P t ks=true)with G|G
   .unfold IJ at G;split at G
    .rename_i fs U;simp only[rX,tA]at G;obtain⟨⟨t1,W⟩,t3⟩:=G;have J:P.fieldsOf t=fs:=by simp[Program.fieldsOf,U]
     refine⟨W,?_⟩;rw[run_equalIn_struct w 9999 t us.toArray vs.toArray (by rw[J];exact U) t1,J];exact Ls 9998 fs.toList ks cs ds 0 t3 hb (λj x hx=>by simpa using h1.get hx) (λj x hx=>by simpa using h2.get hx)
    .cases G
   .unfold PD at G;split at G
    .rename_i fs U;simp only[rX,tA]at G;obtain⟨⟨t1,W⟩,t3⟩:=G;have J:P.fieldsOf t=fs:=by simp[Program.fieldsOf,U]
     refine⟨W,?_⟩;rw[run_equalIn_struct w 9999 t us.toArray vs.toArray (by rw[J];exact U) t1,J];exact PE 9997 fs.toList ks cs ds 0 t3 hb (λj x hx=>by simpa using h1.get hx) (λj x hx=>by simpa using h2.get hx)
    .cases G
  have hg:(eqGuard op t x y (.agg us.toArray) (.agg vs.toArray)).run P w= .ok () w:=run_eqGuard_agg w op t x y _ _ W;refine⟨.bool (b != ne),?_,.bool _,λk=>Ck _ _ _⟩;have:=Io a1;subst this;cases ne
  .simp only[rz,if_false]at hg;simp[execOp,ho,e1,e2,hg,run_eql_struct,N]
  .simp only[if_true]at hg;simp[execOp,ho,e1,e2,hg,run_neq_struct,N]
 .cases hx
def LO{g:Gh}:∀{xs:List V}{bs:List UInt8},Fe xs=some bs->bs.length=xs.length/\∀(i:Nat)b,bs[i]?=some b->∃x,xs[i]?=some x/\∀v,RepV g x v->v= .int .u8 (b.toNat:Int)
 |[],bs,h=>by simp only[Fe,rV]at h;subst h;exact⟨rfl,λi b h=>by simp at h⟩
 |x::xs,bs,h=>by
  cases x with
  |int k n=>
   cases k<;>simp only[Fe,reduceCtorEq]at h
   split at h
   .rename_i U;simp only[rt]at h;obtain⟨G,N,rfl⟩:=h;obtain⟨J,h2⟩:=LO N;refine⟨by simp[J],λi b hi=>?_⟩;cases i with
    |zero=>
     simp only[uj,rV]at hi;subst hi;refine⟨_,rfl,λv O=>?_⟩;cases O;have:n.toNat%256=n.toNat:=Nat.mod_eq_of_lt AE;simp[this];omega
    |succ i=>simpa using h2 i b (by simpa using hi)
   .cases h
  |_=>simp[Fe]at h
theorem bj{s d:Nat}(a6:Gr P d (λ| .string=>true|_=>false)=true)(N:(match P.underlying s with|some (.slice e)=>Gr P e (λ| .int .u8=>true|_=>false)|_=>false)=true)(hk:oe GL x x'=true):
  C4 P GL (.convert s d x) (.b2s x'):=by
 intro g w μ e act h O y hd hx o ho;have hr:=(hd.ev hk).copy;have U:=Fs a6;split at N
 .rename_i el Z;have W:P.underlying el=some (.int .u8):=by
   unfold Gr at N;split at N
   .rename_i d' a7;cases d'<;>simp at N
    rename_i k;cases k<;>simp at N
    exact a7
   .cases N
  have fin:∀{v:Value}{sv:ByteArray},act.eval x=v->(convert s d v).run P w= .ok (.string sv) w->y= .v (.str sv)->
    ∃v,(execOp act.eval o).run P w= .ok (.value v) w/\RepD g w μ y v/\∀k,Ar y v k=none:=by
   rintro v sv rfl a2 rfl;exact⟨_,by simp[execOp,ho,a2],.str _,λk=>Ck _ _ _⟩
  have J:∀(a:Option Addr)(c:Nat),(∀z,a=some z->z.spot=none)->(convert s d (.slice a 0 c)).run P w= .ok (.string .empty) w:=by
   intro a c G;cases a with
   |none=>rw[run_convert_bytes_string w s d el none 0 c Z W U];simp[Conv.bytesToString,Sem.run_pure]
   |some z=>exact run_convert_bytes_back w s d el z c [] Z W U (λj hj=>by simp at hj)
  simp only[PI.val]at hx;split at hx
  .rename_i xs hc;rw[hc]at hr;simp only[rt]at hx;obtain⟨bs,hb,rfl⟩:=hx;obtain⟨h1,h2⟩:=LO (g:=g) hb;have a1:RepV g (.list xs) (act.eval x):=hr;generalize hu:act.eval x=u at a1;cases a1 with
   |lnil=>
    have:bs=[]:=sf (by simpa using h1);subst this;exact fin hu (J none 0 Ac) rfl
   |list _ a cap sz vs G hc2 hr2 hz=>
    refine fin hu ?_ rfl;rw[<-h1];refine run_convert_bytes_back w s d el a cap bs Z W U λj hj=>?_;obtain⟨x0,b3,b1⟩:=h2 j _ (rW hj);have b2:=b1 _ (hr2 j x0 b3);have a8:j <xs.length:=AE;obtain⟨z1,z2⟩:=hz j a8;rw[b2]at z1 z2;have b0:sz=1:=by simpa[Value.cells]using z1.symm
    have:=hd.inv.agree a.block (a.off+j*sz) _ (by simpa[Value.cells]using z2 0 (.int .u8 (bs[j].toNat:Int)) (by simp[Value.cells]));rw[b0]at this;rw[Cz G];simpa using this
  .rename_i e0 s0 hc;rw[hc]at hr;simp only[rV]at hx;subst hx;obtain⟨a,hv,G⟩:=hr;exact fin hv (J a 0 G) rfl
  .cases hx
 .cases N
end
end
section
variable {d:D} {u v:Value} {ks μ:List Nat} {w:World} {g:Gh} {b k r t:Nat} {zs:List D} {O:Nat->Prop} {h:List Row} {x:Operand}
section
variable {P:Program} {GL:Ai}
def JH(h:Ml v d=true):RepE g w μ d v/\v.oneCell'=true/\∀u,Am d u=none:=by
 unfold Ml at h;split at h
 .exact⟨⟨none,rfl,Ac⟩,rfl,λu=>by simp[Am]⟩
 .exact⟨Fw h,HD h,λu=>by simp[Am]⟩
 .cases h
section
variable {g:Gh} {w:World} {μ:List Nat}
def Ih(G:RepG g w μ d u)(h:Am d u=none)(k:Nat):Ar d u k=none:=by
 cases d<;>first
  |exact G.elim
  |(cases k<;>first|exact h|simp[Ar])
end
def Un(h:RepD g w μ (.v .nilm) v):v= .map none:=by cases h;rfl
theorem G4(h:IA P t k=true):∃d,P.underlying t=some d/\((∃q,d= .int q/\k=0)\/(d= .bool/\k=1)\/(d= .string/\k=2)):=by
 unfold IA at h;split at h
 .rename_i q G;exact⟨_,G,.inl ⟨q,rfl,rfl⟩⟩
 .rename_i G;exact⟨_,G,.inr (.inl ⟨rfl,rfl⟩)⟩
 .rename_i G;exact⟨_,G,.inr (.inr ⟨rfl,rfl⟩)⟩
 .cases h
theorem Vo{x y:V}(hx:RepV g x u)(N:RepV g y v){b:Bool}(G:V.eq1 k x y=some b):(b=true↔u=v)/\∀n,Instr.sameBits n u u=true:=by
 unfold V.eq1 at G;split at G
 .split at G
  .rename_i J;subst J;simp only[rV]at G;subst G;cases hx;cases N;exact⟨Ac,λn=>by cases n<;>simp[Instr.sameBits]⟩
  .cases G
 .simp only[rV]at G;subst G;cases hx;cases N;exact⟨Ac,λn=>by cases n<;>simp[Instr.sameBits]⟩
 .rename_i a c;simp only[rV]at G;subst G;cases hx;cases N;refine⟨?_,λn=>by cases n<;>simp[Instr.sameBits,MapKept.bytes_beq]⟩
  rw[<-beq_toListBytes,MapKept.bytes_beq];simp
 .cases G
theorem Qe{g:Gh}:∀{ks:List Nat}{xs G:List V}{us vs:List Value}{b:Bool},All2 (RepV g) xs us->All2 (RepV g) G vs->V.eqL ks xs G=some b->(b=true↔us=vs)/\∀n,∀u∈us,Instr.sameBits n u u=true
 |[],xs,G,us,vs,b,h1,h2,hb=>by
  cases xs<;>cases G<;>simp[V.eqL]at hb
  subst hb;have J:=sf h1.1;have e2:=sf h2.1;subst J;subst e2;simp
 |k::ks,xs,G,us,vs,b,h1,h2,hb=>by
  cases xs with
  |nil=>cases G<;>simp[V.eqL]at hb
  |cons x xs=>
   cases G with
   |nil=>simp[V.eqL]at hb
   |cons y G=>
    cases us with
    |nil=>simp[All2]at h1
    |cons u us=>
     cases vs with
     |nil=>simp[All2]at h2
     |cons v vs=>
      rw[All2.cons_iff]at h1 h2;simp only[V.eqL]at hb;split at hb
      .rename_i Z b2 J e2;simp only[rV]at hb;subst hb;obtain⟨U,s1⟩:=Vo h1.1 h2.1 J;obtain⟨W,s2⟩:=Qe h1.2 h2.2 e2;refine⟨by simp[U,W],λn w N=>?_⟩;rcases rj.1 N with rfl|N
       .exact s1 n
       .exact s2 n w N
      .cases hb
theorem Jo{st:Bool}{x y:V}(hx:RepV g x u)(U:RepV g y v)(J:Be st ks x=true)(Z:Be st ks y=true){b:Bool}(hb:V.eqL ks x.cells y.cells=some b):
  (b=true↔u=v)/\∀n,Instr.sameBits (n+1) u u=true:=by
 simp only[Be,rX]at J Z;obtain⟨cx,_⟩:=RepV.cells hx;obtain⟨cy,_⟩:=RepV.cells U;obtain⟨r,s⟩:=Qe cx cy hb;cases st with
 |true=>
  cases x<;>simp at J
  cases y<;>simp at Z
  obtain⟨us,rfl,_,_⟩:=RepV.agg_inv hx;obtain⟨vs,rfl,_,_⟩:=RepV.agg_inv U;simp only[Value.cells]at r s;refine⟨by rw[r];constructor<;>intro h<;>simp_all,λn=>?_⟩
  simp only[Instr.sameBits,beq_self_eq_true,sV,ry];intro p G;have:p.1=p.2/\p.1∈us:=by
   have W:∀(l:List Value),∀p∈l.zip l,p.1=p.2/\p.1∈l:=by
    intro l;induction l with
    |nil=>simp
    |cons a l ih=>
     intro p G;simp only[List.zip_cons_cons,rj]at G;rcases G with rfl|G
     .exact⟨rfl,Ac⟩
     .exact⟨(ih p G).1,by simp[(ih p G).2]⟩
   exact W us p (by simpa using G)
  rw[<-this.1];exact s n _ this.2
 |false=>
  have N:∀{z:V}{q:Value},RepV g z q->(match z with| .agg _=>false|_=> !false)=true->q.cells.toList=[q]:=by intro z q W hk;cases W<;>simp at hk<;>rfl
  rw[N hx J.1,N U Z.1]at r;rw[N hx J.1]at s;exact⟨by rw[r];simp,λn=>s (n+1) u Ac⟩
theorem JR{G:Nat}(J:IA P G k=true)(e:Bool)(n:Nat)(u:Value):(Instr.checkKey e (n+1) G u).run P w= .ok () w:=by obtain⟨d,N,hd⟩:=G4 J;unfold Instr.checkKey;simp only[Sem.run_bind,run_underlying N,Result.andThen];rcases hd with ⟨q,rfl,_⟩|⟨rfl,_⟩|⟨rfl,_⟩<;>cases u<;>rfl
def Iv{w:World}{cs:Array Value}(e:Bool)(n:Nat):∀(fs:List Field)(ks:List Nat)(i:Nat),CA P i fs ks=true->(∀j,j <fs.length->∃v,cs[i+j]?=some v)->
  (forIn fs PUnit.unit (λf _=>(if f.name≠ "_" then do
    let a <-part f.type cs f.offset
    Instr.checkKey e (n+1) f.type a
    pure (ForInStep.yield PUnit.unit) else pure (ForInStep.yield PUnit.unit):Sem (ForInStep PUnit)))).run P w= .ok PUnit.unit w
 |[],_,_,_,_=>rfl
 |_::_,[],_,hf,_=>by simp[CA]at hf
 |f::fs,k::ks,i,hf,hc=>by
  simp only[CA,rX,beq_iff_eq,bne_iff_ne,ne_eq]at hf;obtain⟨⟨⟨Z,W⟩,U⟩,G⟩:=hf;obtain⟨v,N⟩:=hc 0 Ac;obtain⟨d,hu,hd⟩:=G4 U;have J:(isAgg f.type).run P w= .ok false w:=by rcases hd with ⟨q,rfl,_⟩|⟨rfl,_⟩|⟨rfl,_⟩<;>simp[isAgg,run_underlying hu]
  have p1:(part f.type cs f.offset).run P w= .ok v w:=GU J (by rw[Z];simpa using N);have ih:=Iv (w:=w) (cs:=cs) e n fs ks (i+1) G λj hj=>by obtain⟨v,N⟩:=hc (j+1) Dd;exact⟨v,by rw[show i+1+j=i+(j+1) by omega];exact N⟩
  simp only[List.forIn_cons,ne_eq,W,not_false_eq_true,if_true,Sem.run_bind,p1,JR U,Result.andThen_ok,Sem.run_pure];exact ih
def II:∀(fs:List Field)(ks:List Nat)(i:Nat),CA P i fs ks=true->fs.length=ks.length
 |[],[],_,_=>rfl
 |[],_::_,_,h=>by simp[CA]at h
 |_::_,[],_,h=>by simp[CA]at h
 |f::fs,k::ks,i,h=>by simp only[CA,rX]at h;simp[II fs ks (i+1) h.2]
def Su:∀{ks:List Nat}{xs G:List V}{b:Bool},V.eqL ks xs G=some b->xs.length=ks.length
 |[],[],[],_,_=>rfl
 |[],[],_::_,_,h=>by simp[V.eqL]at h
 |[],_::_,_,_,h=>by simp[V.eqL]at h
 |_::_,[],_,_,h=>by simp[V.eqL]at h
 |k::ks,x::xs,[],_,h=>by simp[V.eqL]at h
 |k::ks,x::xs,y::G,b,h=>by
  simp only[V.eqL]at h;split at h
  .rename_i J N U h2;simp[Su h2]
  .cases h
theorem Gv{W:Nat}{st:Bool}{x:V}(hx:RepV g x u)(G:FY P W st ks=true)(U:Be st ks x=true)(e:Bool):
  (Instr.checkKey e 10000 W u).run P w= .ok () w:=by
 unfold FY at G;cases st with
 |false=>
  simp only[rz,if_false]at G;split at G
  .exact JR G e 9999 u
  .cases G
 |true=>
  simp only[if_true]at G;simp only[Be,rX]at U;cases x<;>simp at U
  rename_i cs;obtain⟨us,rfl,J,_⟩:=RepV.agg_inv hx;unfold IJ at G;split at G
  .rename_i fs hu;simp only[rX]at G;have hl:=II _ _ _ G.2;have Z:cs.length=ks.length:=by
    cases h2:V.eqL ks cs cs with
    |none=>simp[V.cells,h2]at U
    |some b=>exact Su h2
   unfold Instr.checkKey;simp only[Sem.run_bind,run_underlying hu,Result.andThen_ok];rw[<-Array.forIn_toList];have:=Iv (P:=P) (w:=w) (cs:=us.toArray) e 9998 fs.toList ks 0 G.2 λj hj=>by
    have N:j <us.length:=by rw[J.1];omega
    exact⟨us[j],by simp[N]⟩
   exact(congrArg (λr=>Result.andThen r λa w'=>Sem.run P (pure ()) w') this).trans rfl
  .cases G
theorem Pp{x y:V}(hx:RepV g x u)(N:RepV g y v){b:Bool}(G:V.eq1 k x y=some b){d:TypeDesc}(hd:(∃q,d= .int q/\k=0)\/(d= .bool/\k=1)\/(d= .string/\k=2)):
  Instr.sameNow d u v=some b:=by
 unfold V.eq1 at G;split at G
 .split at G
  .rename_i J;subst J;simp only[rV]at G;subst G;cases hx;cases N;rcases hd with ⟨q,rfl,_⟩|⟨_,h⟩|⟨_,h⟩<;>first|cases h|simp[Instr.sameNow]
  .cases G
 .simp only[rV]at G;subst G;cases hx;cases N;rcases hd with ⟨q,_,h⟩|⟨rfl,_⟩|⟨_,h⟩<;>first|cases h|simp[Instr.sameNow]
 .simp only[rV]at G;subst G;cases hx;cases N;rcases hd with ⟨q,_,h⟩|⟨_,h⟩|⟨rfl,_⟩<;>first|cases h|simp[Instr.sameNow,beq_toListBytes]
 .cases G
def LN{x:V}(hx:RepV g x u)(G:Be false ks x=true):x.cells=[x]:=by simp only[Be,rX]at G;cases x<;>simp at G<;>rfl
abbrev cC(g:Gh):V×V->MapEntry->Prop:=λkv x=>RepV g kv.1 x.key/\RepV g kv.2 x.val
theorem Gk{g:Gh}{w:World}{kt:Nat}{st:Bool}{ks:List Nat}{x:V}{u:Value}(hx:RepV g x u)(U:FY P kt st ks=true)(kx:Be st ks x=true):∀{es:List (V×V)}{l:List MapEntry}{r:Option Nat},
  All2 (cC g) es l->Cr st ks x es=some r->
  ((∀i,(st=false->∀d,P.underlying kt=some d->Instr.findNow d u l i=some (r.bind λj=>(l[j]?).map λe=>(i+j,e.val)))/\
   (st=true->(Instr.findAsking kt u l i).run P w= .ok (r.bind λj=>(l[j]?).map λe=>(i+j,e.val)) w))/\
  (∀j,r=some j->∃e,l[j]?=some e/\e.key=u)/\(r=none->∀e∈l,e.key≠u))
 |[],l,r,J,hm=>by have:=sf J.1;subst this;simp only[Cr,rV]at hm;subst hm;exact⟨λi=>⟨λ_ d _=>rfl,λ_=>rfl⟩,Ac,Ac⟩
 |p::es,[],r,J,_=>by simp[All2]at J
 |p::es,e::l,r,J,hm=>by
  rw[All2.cons_iff]at J;obtain⟨⟨hk,hv⟩,J⟩:=J;simp only[Cr]at hm;split at hm
  .rename_i kp;have a1:∀{b:Bool},V.eqL ks x.cells p.1.cells=some b->st=false->∀d,P.underlying kt=some d->Instr.sameNow d u e.key=some b:=by
    intro b N G d W;subst G;rw[LN hx kx,LN hk kp]at N;simp only[FY,rz,if_false]at U;split at U
    .rename_i k;simp only[V.eqL]at N;split at N
     .rename_i b1 b2 h1 h2;simp only[rV]at h2 N;subst h2;subst N;obtain⟨d',a8,hd⟩:=G4 U;rw[W]at a8;cases a8;simpa using Pp hx hk h1 hd
     .cases N
    .cases U
   have Z:∀{b:Bool},V.eqL ks x.cells p.1.cells=some b->st=true->(Op.equal kt u e.key).run P w= .ok b w:=by
    intro b N G;subst G;have b3:=kx;have b0:=kp;simp only[Be,rX]at b3 b0;cases x<;>simp at b3
    obtain⟨k1,k2⟩:=p;cases k1<;>simp at b0
    obtain⟨us,rfl,h1,_⟩:=RepV.agg_inv hx;obtain⟨vs,b4,h2,_⟩:=RepV.agg_inv hk;rw[b4];simp only[FY,if_true]at U;unfold IJ at U;split at U
    .rename_i fs W;simp only[rX,tA]at U;have a7:P.fieldsOf kt=fs:=by simp[Program.fieldsOf,W]
     show (Op.equalIn 10000 kt _ _).run P w=_;rw[run_equalIn_struct w 9999 kt us.toArray vs.toArray (by rw[a7];exact W) U.1.1,a7];exact Ls 9998 fs.toList ks _ _ 0 U.2 N (λj x hx=>by simpa using h1.get hx) (λj x hx=>by simpa using h2.get hx)
    .cases U
   split at hm
   .rename_i N;simp only[rV]at hm;subst hm;have a6:=((Jo hx hk kx kp N).1.1 rfl);refine⟨λi=>⟨λG d W=>?_,λG=>?_⟩,λj hj=>?_,Ac⟩
    .simp[Instr.findNow,a1 N G d W]
    .simp[Instr.findAsking,Z N G,Result.andThen]
    .simp only[rV]at hj;subst hj;exact⟨e,rfl,a6.symm⟩
   .rename_i N;simp only[rt]at hm;obtain⟨r',b5,rfl⟩:=hm;obtain⟨h1,h2,h3⟩:=Gk hx U kx J b5;have b6:e.key≠u:=λq=>by have:=(Jo hx hk kx kp N).1.2 q.symm;cases this
    refine⟨λi=>⟨λG d W=>?_,λG=>?_⟩,λj hj=>?_,λhr=>?_⟩
    .rw[Instr.findNow,a1 N G d W,(h1 (i+1)).1 G d W];cases r' with
     |none=>rfl
     |some k=>simp only[sW,sT,tf,show i+1+k=i+(k+1) by omega]
    .rw[Instr.findAsking,Sem.run_bind,Z N G,Result.andThen_ok];simp only[rz,if_false];rw[(h1 (i+1)).2 G];cases r' with
     |none=>rfl
     |some k=>simp only[sW,sT,tf,show i+1+k=i+(k+1) by omega]
    .cases r' with
     |none=>cases hj
     |some k=>
      simp only[sT,rV]at hj;subst hj;exact h2 k rfl
    .cases r' with
     |none=>
      intro e' a2;rcases rj.1 a2 with rfl|a2
      .exact b6
      .exact h3 rfl e' a2
     |some k=>cases hr
   .cases hm
  .cases hm
theorem DF{U:Nat}{st:Bool}{x:V}(hx:RepV g x u)(G:FY P U st ks=true)(kx:Be st ks x=true){es:List (V×V)}{l:List MapEntry}{r:Option Nat}(N:All2 (cC g) es l)(Z:Cr st ks x es=some r):(Instr.findKey U u l).run P w= .ok (r.bind λj=>(l[j]?).map λe=>(j,e.val)) w:=by
 have W:=(Gk (w:=w) hx G kx N Z).1 0;simp only[tI]at W;cases st with
 |false=>
  have J:∃d,P.underlying U=some d:=by
   simp only[FY,rz,if_false]at G;split at G
   .obtain⟨d,J,_⟩:=G4 G;exact⟨d,J⟩
   .cases G
  obtain⟨d,J⟩:=J;exact MapKept.run_findKey J (W.1 rfl d J)
 |true=>
  have hw:(match P.underlying U with|some (.array _ _)|some (.struct _)=>true|_=>false)=true:=by
   simp only[FY,if_true]at G;unfold IJ at G;split at G
   .rename_i fs J;simp[J]
   .cases G
  rw[run_findKey_eq w hw];exact W.2 rfl
theorem TW{el:Nat}{ag:Bool}(J:Sc P el zs ag=true){z:D}(h:(if ag then some (D.agg zs) else zs.head?)=some z):
  ∃v,(zeroValue el).run P w= .ok v w/\RepG g w μ z v/\Am z v=none:=by
 unfold Sc at J;split at J
 .rename_i cs U;simp only[rX]at J;obtain⟨rfl,J⟩:=J;simp only[if_true,rV]at h;subst h;have G:All2 (λd v=>RepE g w μ d v/\v.oneCell'=true/\∀u,Am d u=none) zs cs.toList:=Co (λv d h=>JH h) J;cases hi:P.info? el with
  |none=>simp[hi]at U
  |some i=>
   have N:i.zero=some (.agg cs):=by simpa[hi]using U
   refine⟨.agg cs,by simp[zeroValue,typeInfo,hi,N],⟨cs.toList,rfl,G.imp λ_ _ h=>h.1,λv hv=>?_,λd hd v=>?_⟩,rfl⟩
   .obtain⟨j,W,rfl⟩:=td.1 hv;exact(G.2 j _ _ (rW (by rw[<-G.1];exact W)) (rW W)).2.1
   .obtain⟨j,W,rfl⟩:=td.1 hd;have a1:j <cs.toList.length:=by rw[G.1];exact W
    exact(G.2 j _ _ (rW W) (rW a1)).2.2 v
 .rename_i v hv Z;simp only[rX,tA]at J;obtain⟨rfl,J⟩:=J;split at J
  .rename_i z0;simp only[rz,if_false,List.head?_cons,rV]at h;subst h;obtain⟨h1,h2,h3⟩:=JH (g:=g) (w:=w) (μ:=μ) J;cases hi:P.info? el with
   |none=>simp[hi]at Z
   |some i=>
    have N:i.zero=some v:=by simpa[hi]using Z
    exact⟨v,by simp[zeroValue,typeInfo,hi,N],h1.toG,h3 v⟩
  .cases J
 .cases J
def MR{t:Nat->D}{u:Nat->Value}(hi:Inv g w μ t u h O){es:List (V×V)}{bs:List Nat}{ck:Nat}(N:h[r]?=some (.map es bs ck))(J:μ[r]?=some b):
  ∃(G:Array MapEntry),w.heap[b]?=some (.map G ck)/\MapKept.Stamped G ck/\G.toList.map (·.born)=bs/\All2 (cC g) es G.toList/\∀o,g.m b o=none:=hi.rows r _ b N J
theorem XQ{i:Operand}{G:Bool}{m k:Opd}{st:Bool}{ag ok:Bool}(ht:(match P.underlying t with|some (.map kt el)=>FY P kt st ks&&Sc P el zs ag|_=>false)=true)(hm:oe GL x m=true)(hk:oe GL i k=true)(b9:(G==ok)=true):C4 P GL (.lookup t x i G) (.look m k st ks zs ag ok):=by
 intro g w μ e act h O y hd hx o ho;have a7:=hd.ev hm;have c0:=hd.ev hk;have:=eq_of_beq b9;subst this;split at ht
 .rename_i kt el hu;simp only[rX]at ht;obtain⟨a6,b6⟩:=ht;simp only[PI.val]at hx;split at hx
  .rename_i kv b5;split at hx
   .rename_i a1;have a2:=Cv c0 b5;have b0:=λe=>Gv (P:=P) (w:=w) a2 a6 a1 e;split at hx
    .rename_i z hz;obtain⟨zv,Z,W,U⟩:=TW (P:=P) (g:=g) (w:=w) (μ:=μ) b6 hz;have fin:∀{d:D}{v:Value}(b:Bool),RepG g w μ d v->Am d v=none->Da G d b=y->
       (execOp act.eval o).run P w= .ok (.value (if G then .tuple #[v,.bool b] else v)) w->
       ∃v,(execOp act.eval o).run P w= .ok (.value v) w/\RepD g w μ y v/\∀k,Ar y v k=none:=by
      rintro d v b hr a8 rfl b3;refine⟨_,b3,?_⟩;cases G with
      |false=>exact⟨hr.toD,Ih hr a8⟩
      |true=>
       refine⟨⟨[v,.bool b],rfl,.cons hr (.cons (RepV.bool b) .nil)⟩,λk=>?_⟩
       match k with
       |0=>exact a8
       |1=>simp[Da,Ar,Am]
       |k+2=>simp[Da,Ar,Am]
     split at hx
     .rename_i b2;rw[b2]at a7;simp only[rV]at hx;have hv:act.eval x= .map none:=Un a7;have J:=DF (P:=P) (w:=w) a2 a6 a1 (es:=[]) (l:=[]) (r:=none) .nil rfl;refine fin false W U hx ?_;cases G<;>simp[execOp,ho,hv,Instr.lookup,run_underlying hu,b0,J,Z,Result.andThen]
     .rename_i r b2;rw[b2]at a7;obtain⟨b,hb,hv⟩:=a7;split at hx
      .rename_i es bs ck hr;obtain⟨c1,b1,c2,_,N,_⟩:=MR hd.inv hr hb;have Bz:=MapKept.run_getObj_map (P:=P) b1;split at hx
       .rename_i j hf;have J:=DF (P:=P) (w:=w) a2 a6 a1 N hf;simp only[rt]at hx;obtain⟨p,hp,hy⟩:=hx;obtain⟨en,b4,h1,h2⟩:=N.get hp;simp only[sW,b4,sT]at J;refine fin true (d:= .v p.2) (v:=en.val) h2 (by simp[Am]) hy ?_;cases G<;>simp[execOp,ho,hv,Instr.lookup,run_underlying hu,Bz,b0,J,Result.andThen]
       .rename_i hf;have J:=DF (P:=P) (w:=w) a2 a6 a1 N hf;simp only[rV]at hx;refine fin false W U hx ?_;cases G<;>simp[execOp,ho,hv,Instr.lookup,run_underlying hu,Bz,b0,J,Z,Result.andThen]
       .cases hx
      .cases hx
     .cases hx
    .cases hx
   .cases hx
  .cases hx
 .cases ht
end
end
section
def F9{α:Type}(cs:List α)(off:Nat)(xs:List α)(h:off+xs.length<=cs.length):(AQ cs off xs).length=cs.length:=by simp[AQ];omega
def GX{α:Type}(cs:List α)(off:Nat)(xs:List α)(h:off+xs.length<=cs.length)(i:Nat):
  (AQ cs off xs)[i]?=if i <off then cs[i]? else if i <off+xs.length then xs[i-off]? else cs[i]?:=by
 have G:(cs.take off).length=off:=by simp;omega
 unfold AQ;by_cases J:i <off
 .rw[rn,sI (by rw[G];exact J),sP];simp[J]
 .by_cases h2:i <off+xs.length
  .rw[rn,sO (by rw[G];omega),G,sI AE];simp[J,h2]
  .rw[rn,sO (by rw[G];omega),G,sO AE,tG];simp[J,h2];congr 1;omega
def Vh(cs:List Value):∀(off k:Nat)(A:Array Value),off+k+cs.length<=A.size->
  (cs.zipIdx k).foldl (λacc p=>acc.setIfInBounds (off+p.2) p.1) A=(AQ A.toList (off+k) cs).toArray:=by
 induction cs with
 |nil=>intro off k A _;simp[AQ]
 |cons c cs ih=>
  intro off k A h;simp only[sF]at h;simp only[u5,uG];rw[show k+1=k+1 from rfl,ih off (k+1) _ Dd];apply congrArg;apply sl;intro i;rw[GX _ _ _ Dd,GX _ _ _ Dd];simp only[Array.toList_setIfInBounds,sr,sF];by_cases G:i <off+k
  .simp[G,show i <off+(k+1) by omega,show off+k≠i by omega]
  .by_cases h2:i=off+k
   .subst h2;simp[show off+k <off+(k+1) by omega,show off+k <A.size by omega]
   .simp only[G,if_false,show ¬i <off+(k+1) by omega];by_cases J:i <off+k+(cs.length+1)
    .simp only[show i <off+(k+1)+cs.length by omega,if_true,J];rw[show i-(off+k)=(i-(off+(k+1)))+1 by omega,tf]
    .simp[show ¬i <off+(k+1)+cs.length by omega,J,show off+k≠i by omega]
def All2.putL{α β:Type}{R:α->β->Prop}{xs:List α}{N:List β}(h:All2 R xs N){G:List α}{J:List β}(h':All2 R G J)(off:Nat):
  All2 R (AQ xs off G) (AQ N off J):=by
 unfold Va.AQ;rw[h'.1];exact((h.take off).append h').append (h.drop _)
variable {u:Value} {d:D} {μ:List Nat} {w:World} {g:Gh} {off t:Nat} {zs:List D}
section
variable {P:Program} {GL:Ai}
theorem Vq(h:RepD g w μ d u){cs:List D}(hc:d.cells?=some cs):
  All2 (RepE g w μ) cs u.cells.toList/\(∀v∈u.cells.toList,v.oneCell'=true)/\∀c∈cs,∀v,Am c v=none:=by
 cases d with
 |agg ds=>
  simp only[D.cells?,rV]at hc;subst hc;obtain⟨vs,rfl,J,O,N⟩:=h;exact⟨by simpa[Value.cells]using J,by simpa[Value.cells]using O,N⟩
 |v x=>
  have hx:=RepV.cells (show RepV g x u from h);cases x<;>simp only[D.cells?,rV]at hc<;>subst hc
  case agg cs=>
   refine⟨All2.map_left (S:=RepE g w μ) (f:=D.v) (λ_ _ h=>h) hx.1,hx.2,?_⟩;intro c hc v;simp only[rl]at hc;obtain⟨_,_,rfl⟩:=hc;simp[Am]
  all_goals exact⟨All2.map_left (S:=RepE g w μ) (f:=D.v) (λ_ _ h=>h) hx.1,hx.2,by simp[Am]⟩
 |any=>simp[D.cells?]at hc
 |tup ds=>simp[D.cells?]at hc
 |W e s xs=>simp[D.cells?]at hc
 |nil e s=>
  simp only[D.cells?,rV]at hc;subst hc;obtain⟨a,rfl,W⟩:=h;exact⟨.cons ⟨a,rfl,W⟩ .nil,by simp[Value.cells,Value.oneCell'],by simp[Am]⟩
 |R r o=>
  simp only[D.cells?,rV]at hc;subst hc;obtain⟨b,G,rfl⟩:=h;exact⟨.cons ⟨b,G,rfl⟩ .nil,by simp[Value.cells,Value.oneCell'],by simp[Am]⟩
 |sr r n=>
  simp only[D.cells?,rV]at hc;subst hc;obtain⟨b,cap,G,rfl,U⟩:=h;exact⟨.cons ⟨b,cap,G,rfl,U⟩ .nil,by simp[Value.cells,Value.oneCell'],by simp[Am]⟩
 |mr r=>
  simp only[D.cells?,rV]at hc;subst hc;obtain⟨b,G,rfl⟩:=h;exact⟨.cons ⟨b,G,rfl⟩ .nil,by simp[Value.cells,Value.oneCell'],by simp[Am]⟩
 |func f caps=>
  simp only[D.cells?,rV]at hc;subst hc;obtain⟨vs,rfl,J⟩:=h;exact⟨.cons ⟨vs,rfl,J⟩ .nil,by simp[Value.cells,Value.oneCell'],by simp[Am]⟩
 |meth f caps=>
  simp only[D.cells?,rV]at hc;subst hc;obtain⟨vs,rfl,J⟩:=h;exact⟨.cons ⟨vs,rfl,J⟩ .nil,by simp[Value.cells,Value.oneCell'],by simp[Am]⟩
 |pend b e s xs=>simp[D.cells?]at hc
 |pptr b s n=>simp[D.cells?]at hc
 |yld r=>
  simp only[D.cells?,rV]at hc;subst hc;obtain⟨b,G,rfl⟩:=h;exact⟨.cons ⟨b,G,rfl⟩ .nil,by simp[Value.cells,Value.oneCell'],by simp[Am]⟩
def ME{α:Type}{cs:List α}{xs:List α}{x:α}(h:x∈AQ cs off xs):x∈cs\/x∈xs:=by
 simp only[AQ,rp]at h;rcases h with (h|h)|h
 .exact .inl (s9 h)
 .exact .inr h
 .exact .inl (tH h)
theorem Qc{g:Gh}{w:World}{μ:List Nat}{e:CC}{place:Nat->Option (Nat×Nat)}:
  ∀{ps:List (Nat×Value)}{qs:List (Nat×Nat×Opd)}{zs zs':List D}{A:Array Value},
  All2 (λ(q:Nat×Nat×Opd)(p:Nat×Value)=>place p.1=some (q.1,q.2.1)/\RepD g w μ (q.2.2.ev e).copy p.2) qs ps->
  All2 (RepE g w μ) zs A.toList->(∀v∈A.toList,v.oneCell'=true)->(∀d∈zs,∀v,Am d v=none)->Fu e zs qs=some zs'->
  ∃J:Array Value,Instr.fill place A ps=some J/\All2 (RepE g w μ) zs' J.toList/\(∀v∈J.toList,v.oneCell'=true)/\(∀d∈zs',∀v,Am d v=none)/\J.size=A.size
 |[],[],zs,zs',A,_,ha,h1,h0,hf=>by simp only[Fu,rV]at hf;subst hf;exact⟨A,rfl,ha,h1,h0,rfl⟩
 |[],_::_,_,_,_,h,_,_,_,_=>by simp[All2]at h
 |_::_,[],_,_,_,h,_,_,_,_=>by simp[All2]at h
 |(i,v)::ps,(off,n,q)::qs,zs,zs',A,h,ha,h1,h0,hf=>by
  rw[All2.cons_iff]at h;obtain⟨⟨hp,hr⟩,G⟩:=h;simp only[Fu]at hf;split at hf
  .rename_i xs a6;split at hf
   .rename_i W;obtain⟨O,a1,a2⟩:=Vq hr a6;have Z:v.cells.size=n:=by have:=O.1;simp at this;omega
    have a7:A.size=zs.length:=by have:=ha.1;simpa using this
    have N:v.cells.zipIdx.foldl (λcs p=>cs.setIfInBounds (off+p.2) p.1) A=(AQ A.toList off v.cells.toList).toArray:=by have:=Vh v.cells.toList off 0 A Dd;rw[<-Array.foldl_toList,Array.toList_zipIdx];simpa using this
    obtain⟨J,U,r1,r2,r3,r4⟩:=Qc (place:=place) G (zs:=AQ zs off xs) (zs':=zs') (A:=(AQ A.toList off v.cells.toList).toArray)
     (by simpa using ha.putL O off) (λu hu=>(ME (by simpa using hu)).elim (h1 u) (a1 u))
     (λd hd=>(ME hd).elim (h0 d) (a2 d)) hf
    refine⟨J,?_,r1,r2,r3,?_⟩
    .simp only[Instr.fill,hp,Z];rw[if_neg Dd];rw[N];exact U
    .rw[r4];simp;rw[F9 _ _ _ Dd];simp
   .cases hf
  .cases hf
def NR{α β γ:Type}{f:α->β->Bool}{R:β->γ->Prop}{m:α->γ}(J:∀x y,f x y=true->R y (m x)):∀{xs:List α}{G:List β},A0 f xs G=true->All2 R G (xs.map m)
 |[],[],_=> .nil
 |x::xs,y::G,h=>by simp only[A0,rX]at h;exact .cons (J _ _ h.1) (NR J h.2)
 |[],_::_,h=>by simp[A0]at h
 |_::_,[],h=>by simp[A0]at h
theorem WH{ps:Array (Nat×Operand)}{qs:List (Nat×Nat×Opd)}(hz:OO P t zs=true)(G:Hu P GL t ps.toList qs=true):
  C4 P GL (.build t ps) (.build zs qs):=by
 intro g w μ e act h O y hd hx o ho;simp only[PI.val,rt]at hx;obtain⟨zs',hf,rfl⟩:=hx;unfold OO at hz;split at hz
 .rename_i z a2;cases hit:P.info? t with
  |none=>simp[hit]at a2
  |some it=>
   have a1:it.zero=some z:=by simpa[hit]using a2
   have key:∀place:Nat->Option (Nat×Nat),A0 (λp q=>oe GL p.2 q.2.2&&place p.1==some (q.1,q.2.1)) ps.toList qs=true->
     (∀J,Instr.fill place z.cells (ps.toList.map λp=>(p.1,act.eval p.2))=some J->P.built t (ps.map λp=>(p.1,act.eval p.2)).toList=some J)->
     ∃v,(execOp act.eval o).run P w= .ok (.value v) w/\RepD g w μ (.agg zs') v/\∀k,Ar (.agg zs') v k=none:=by
    intro place G N;have h0:All2 (λd v=>RepE g w μ d v/\v.oneCell'=true/\∀u,Am d u=none) zs z.cells.toList:=Co (λ_ _=>JH) hz;have hq:All2 (λ(q:Nat×Nat×Opd)(p:Nat×Value)=>place p.1=some (q.1,q.2.1)/\RepD g w μ (q.2.2.ev e).copy p.2) qs (ps.toList.map λp=>(p.1,act.eval p.2)):=
     NR (λp q Z=>by simp only[rX,beq_iff_eq]at Z;exact⟨Z.2,(hd.ev Z.1).copy⟩) G
    obtain⟨J,hA,r1,r2,r3,_⟩:=Qc (place:=place) hq (h0.imp λ_ _ h=>h.1)
     (λv hv=>by obtain⟨i,hi,rfl⟩:=td.1 hv;have W:i <zs.length:=h0.1▸hi;exact(h0.2 i _ _ (rW W) (rW hi)).2.1)
     (λd a6=>by obtain⟨i,hi,rfl⟩:=td.1 a6;have W:i <z.cells.toList.length:=h0.1.symm▸hi;exact(h0.2 i _ _ (rW hi) (rW W)).2.2) hf
    refine⟨.agg J,?_,⟨J.toList,Ac,r1,r2,r3⟩,λk=>by cases k<;>simp[Ar,Am]⟩
    have:=run_build (P:=P) w t (ps.map λp=>(p.1,act.eval p.2)) J (N J hA);simp[execOp,ho,this]
   unfold Hu at G;split at G
   .rename_i fs hu;split at G
    .rename_i U a8;refine key (λi=>U[i]?) G λJ hA=>?_;simp only[Program.built,hit,hu,a1,a8,Array.toList_map];simpa using hA
    .cases G
   .rename_i n el hu;split at G
    .rename_i ie a7;refine key (λi=>some (i*ie.size,ie.size)) G λJ hA=>?_;simp only[Program.built,hit,hu,a1,a7,Array.toList_map];simpa using hA
    .cases G
   .cases G
 .cases hz
def ZU{op:Op}{J:PI}(G:V0 P GL op J=true):C4 P GL op J:=by
 unfold V0 at G;split at G<;>(try simp only[rX]at G)
 .exact Wz G.1.1 G.1.2 G.2
 .exact On G.1.1.1 G.1.1.2 G.1.2 G.2
 .exact XF G
 .obtain⟨⟨N,h2⟩,O⟩:=G;have:=eq_of_beq N;subst this;exact @bh P GL _ _ _ _ _ _ _ h2 O
 .exact az G.1.1.1 G.1.1.2 G.1.2 G.2
 .exact ay G.1.1.1 G.1.1.2 G.1.2 G.2
 .exact bA G.1.1.1 G.1.1.2 G.1.2 G.2
 .exact Z9 G.1 G.2
 .exact aC G.1 G.2
 .exact Xq G.1.1 G.1.2 G.2
 .exact Vj G.1.1 G.1.2 G.2
 .exact ap G.1.1.1 G.1.1.2 G.1.2 G.2
 .exact VW G.1.1 G.1.2 G.2
 .exact Tj G.1.1 G.1.2 G.2
 .exact Tk G.1.1 G.1.2 G.2
 .exact Xb G.1.1 G.1.2 G.2
 .exact ar G.1 G.2
 .exact aF G.1.1 G.1.2 G.2
 .exact XM G.1.1 G.1.2 G.2
 .exact Xc G.1.1 G.1.2 G.2
 .exact YD G.1 G.2
 .exact XS G.1 G.2
 .exact aI G
 .exact aH G
 .exact Za G.1.1.1.1 G.1.1.1.2 G.1.1.2 G.1.2 G.2
 .exact bj G.1.1 G.1.2 G.2
 .exact XQ G.1.1.1 G.1.1.2 G.1.2 G.2
 .exact WH G.1 G.2
 .cases G
end
end
section
variable {d:D} {b k r:Nat} {ds:List D} {M:Nat->Prop} {h':List Row} {μ':List Nat} {w':World} {g':Gh} {v:Value}
section
variable {g:Gh} {w:World} {μ:List Nat} {t:Nat->D} {u:Nat->Value} {h:List Row} {O:Nat->Prop}
theorem Inv.cell(hi:Inv g w μ t u h O)(Z:h[r]?=some (.cells ds))(U:μ[r]?=some b)(hd:ds[k]?=some d):
  RepE g w μ d (BT w μ r k):=by
 obtain⟨vs,T,G,J,W,_⟩:=hi.row U Z;obtain⟨v,hv,N⟩:=J.get hd;rw[Dk U G hv];exact N
theorem Inv.blk_lt(hi:Inv g w μ t u h O){p:Pl}(G:Cm t u h w μ p=some b):b <w.heap.size:=by
 cases p with
 |tmp n k=>
  have J:=hi.rep n;simp only[Cm]at G;generalize t n=d at J G;generalize u n=v at J G;cases d with
  |tup ds=>
   obtain⟨vs,rfl,W⟩:=J;simp only[Ar,uT]at G;cases hd:ds[k]? with
   |none=>simp[hd,Am]at G
   |some d=>
    obtain⟨v,Z,N⟩:=W.get hd;simp only[hd,Z,sA]at G;cases d<;>simp only[Am]at G<;>try (cases G;done)
    case pend b' e s xs=>exact JZ (μ:=μ) (d:= .pend b' e s xs) N (by simpa[Am]using G)
    exact JZ (μ:=μ) (d:= .W _ _ _) N (by simpa[Am]using G)
  |pend b' e s xs=>cases k with
   |zero=>exact JZ (μ:=μ) (d:= .pend b' e s xs) J (by simpa[Ar]using G)
   |succ k=>simp[Ar]at G
  |W e s xs=>cases k with
   |zero=>exact JZ (μ:=μ) (d:= .W e s xs) J (by simpa[Ar]using G)
   |succ k=>simp[Ar]at G
  |_=>cases k<;>simp[Ar,Am]at G
 |cell r k=>
  simp only[Cm,BJ]at G;split at G
  .rename_i ds J;cases hd:ds[k]? with
   |none=>simp[hd,Am]at G
   |some d=>
    have U:r <μ.length:=by rw[hi.len];exact(rZ.1 J).1
    have:=hi.cell J (rW U) hd;exact JZ this (by simpa[hd]using G)
  .simp[Am]at G
def Inv.upd(hi:Inv g w μ t u h O){t':Nat->D}{u':Nat->Value}(hc:Chg M g w g' w')(a7:∀b o v,g'.m b o=some v->w'.cell? ⟨b,o,none⟩=some v)(a6:∀n,RepD g' w' μ' (t' n) (u' n))(Z:μ'.length=h'.length)(U:∀(r:Nat)row b,h'[r]?=some row->μ'[r]?=some b->RowOK g' w' μ' b row)(a1:∀(r r':Nat)b,μ'[r]?=some b->μ'[r']?=some b->r=r')(hμ:∀b,b∈μ'->b∈μ\/w.heap.size<=b)(σ:Pl->Option Pl)(hσ:∀p q r,σ p=some r->σ q=some r->p=q)(p0:Pl)(N:∀p b,Cm t' u' h' w' μ' p=some b->(∃r,σ p=some r/\Cm t u h w μ r=some b)\/(p=p0/\w.heap.size<=b/\b∉μ')):Inv g' w' μ' t' u' h' O where
 agree:=a7
 olt:=λb N=>ui (hi.olt b N) hc.size
 rep:=a6
 len:=Z
 rows:=U
 nod:=a1
 mo:=λb N ho=>by
  rcases hμ b N with W|W
  .exact hi.mo b W ho
  .have:=hi.olt b ho;omega
 uniq:=λp q b hp hq=>by
  rcases N p b hp with ⟨r,hr,G⟩|⟨rfl,W,_⟩
  .rcases N q b hq with ⟨r',a2,J⟩|⟨rfl,W,_⟩
   .have:=hi.uniq r r' b G J;subst this;exact hσ p q r hr a2
   .have:=hi.blk_lt G;omega
  .rcases N q b hq with ⟨r',a2,J⟩|⟨rfl,_,_⟩
   .have:=hi.blk_lt J;omega
   .rfl
 sep:=λp b hp=>by
  rcases N p b hp with ⟨r,hr,G⟩|⟨rfl,W,h2⟩
  .have a8:=hi.blk_lt G;obtain⟨s1,s2⟩:=hi.sep r b G;refine⟨λhm=>?_,s2⟩;rcases hμ b hm with h3|h3
   .exact s1 h3
   .omega
  .exact⟨h2,λho=>by have:=hi.olt b ho;omega⟩
theorem Inv.set(hi:Inv g w μ t u h O){d:Nat}{x:D}(hx:RepD g w μ x v)(W:∀k,Ar x v k=none):
  Inv g w μ (λn=>if d=n then x else t n) (λn=>if d=n then v else u n) h O:=by
 refine hi.upd (Chg.refl (λ_=>False) g w) hi.agree (λn=>?_) hi.len hi.rows hi.nod (λb G=> .inl G) (λp=>some p) (λp q r N U=>by simp at N U;rw[N,U]) (.tmp 0 0) ?_
 .by_cases J:d=n
  .simp[J,hx]
  .simp[J,hi.rep n]
 .intro p b G;refine .inl ⟨p,rfl,?_⟩;cases p with
  |tmp n k=>
   simp only[Cm]at G ⊢;by_cases J:d=n
   .simp[J,W]at G
   .simpa[J]using G
  |cell r k=>exact G
theorem Inv.move(hi:Inv g w μ t u h O){d s:Nat}:
  Inv g w μ (λn=>if d=n then t s else if s=n then (t s).copy else t n) (λn=>if d=n then u s else if s=n then u s else u n) h O:=by
 refine hi.upd (Chg.refl (λ_=>False) g w) hi.agree (λn=>?_) hi.len hi.rows hi.nod (λb J=> .inl J)
  (λp=>match p with| .tmp n k=>if d=n then some (.tmp s k) else if s=n then none else some (.tmp n k)| .cell r k=>some (.cell r k)) ?_ (.tmp 0 0) ?_
 .by_cases G:d=n
  .simp[G,hi.rep s]
  .by_cases N:s=n
   .simpa[G,N]using (hi.rep n).copy
   .simp[G,N,hi.rep n]
 .intro p q r hp hq;cases p<;>cases q<;>simp only[]at hp hq
  .rename_i n k Z k';by_cases U:d=n<;>by_cases h2:d=Z<;>by_cases W:s=n<;>by_cases h4:s=Z<;>simp_all
   all_goals (subst_vars;simp_all)
  .rename_i n k r' k';by_cases U:d=n<;>by_cases W:s=n<;>simp_all
   all_goals (subst_vars;simp_all)
  .rename_i r' k' n k;by_cases U:d=n<;>by_cases W:s=n<;>simp_all
   all_goals (subst_vars;simp_all)
  .simp_all
 .intro p b J;cases p with
  |tmp n k=>
   simp only[Cm]at J;by_cases G:d=n
   .exact .inl ⟨.tmp s k,by simp[G],by simpa[G,Cm]using J⟩
   .by_cases N:s=n
    .simp[G,N,CN]at J
    .exact .inl ⟨.tmp n k,by simp[G,N],by simpa[G,N,Cm]using J⟩
  |cell r k=>exact .inl ⟨.cell r k,rfl,J⟩
end
end
section
variable {b:Nat} {w:World} {g:Gh}
def Gh.lt_of(G:∀b o v,g.m b o=some v->w.cell? ⟨b,o,none⟩=some v)(J:w.heap.size<=b)(o:Nat):g.m b o=none:=by
 cases hm:g.m b o with
 |none=>rfl
 |some v=>
  have:=World.block_lt_of_cell? w ⟨b,o,none⟩ (G b o v hm);simp at this;omega
def Gh.put(g:Gh)(b o:Nat)(vs:List Value):Gh where
 m:=λb' o'=>if b'=b/\o<=o'/\o' <o+vs.length then vs[o'-o]? else g.m b' o'
def Gh.put_at(g:Gh)(b o:Nat)(vs:List Value):(g.put b o vs).at b o vs:=by intro i v G;have hi:=(rZ.1 G).1;simp only[Gh.put];rw[if_pos ⟨trivial,AE,AE⟩,show o+i-o=i by omega];exact G
theorem Gh.le_put{o:Nat}(vs:List Value)(h:∀o',o<=o'->o' <o+vs.length->g.m b o'=none):g.le (g.put b o vs):=by
 intro J o' v G;simp only[Gh.put];split
 .rename_i hc;rw[hc.1]at G;rw[h o' hc.2.1 hc.2.2]at G;cases G
 .exact G
variable {vs:List Value}
def Gh.put_other{o:Nat}{G:Nat}(h:G≠b)(o':Nat):(g.put b o vs).m G o'=g.m G o':=by simp[Gh.put,h]
variable {row:Row} {r:Nat} {μ':List Nat} {w':World} {g':Gh} {M:Nat->Prop} {zs:List D}
section
variable {g:Gh} {w:World} {μ:List Nat} {t:Nat->D} {u:Nat->Value} {h:List Row} {O:Nat->Prop}
theorem CO(M:Nat->Prop)(g:Gh)(w:World)(o:Obj):Chg M g w g (w.alloc o):=
 ⟨Gh.le.refl g,Ac,λb G _=>heap_alloc_old w o b G,λ_ _ _ _=>rfl,rfl,rfl⟩
def Dl(G:∀b o v,g.m b o=some v->w.cell? ⟨b,o,none⟩=some v)(J:Obj):∀b o v,g.m b o=some v->(w.alloc J).cell? ⟨b,o,none⟩=some v:=by intro b o v N;have:=G b o v N;rw[World.cell?_alloc_lt w J _ (World.block_lt_of_cell? w _ this)];exact this
theorem Inv.mem_lt(hi:Inv g w μ t u h O)(N:b∈μ):b <w.heap.size:=by obtain⟨r,J,rfl⟩:=td.1 N;have G:r <h.length:=hi.len▸J;exact(hi.rows r _ _ (rW G) (rW J)).lt
theorem RowOK.chg{M:Nat->Prop}{g':Gh}{w':World}{μ':List Nat}(hc:Chg M g w g' w')(hμ:μ <+: μ'){b:Nat}{row:Row}(hr:RowOK g w μ b row)(U:¬M b)(hn:∀k ds d v,row= .cells ds->ds[k]?=some d->w.cell? ⟨b,k,none⟩=some v->∀b',Am d v=some b'->¬M b'):RowOK g' w' μ' b row:=by
 have J:=hr.lt;cases row with
 |cells ds=>
  obtain⟨vs,T,G,N,Z,hg⟩:=hr;refine⟨vs,T,(hc.heap b J U).trans G,⟨N.1,λk d v hd hv=>(N.2 k d v hd hv).chg hc hμ λb' a1=>?_⟩,Z,λo=>(hc.gh b J U o).trans (hg o)⟩;exact hn k ds d v rfl hd (by simp[World.cell?,G,hv]) b' a1
 |map es st ck=>
  obtain⟨W,G,a6,a2,N,hg⟩:=hr;exact⟨W,(hc.heap b J U).trans G,a6,a2,N.imp λ_ _ h=>⟨h.1.mono hc.le,h.2.mono hc.le⟩,λo=>(hc.gh b J U o).trans (hg o)⟩
 |obj tag p mono=>
  obtain⟨o,G,hp,hg⟩:=hr;exact⟨o,(hc.heap b J U).trans G,mono _ _ _ _ _ hc.le hμ hp,λo=>(hc.gh b J U o).trans (hg o)⟩
 |dead=>exact ui J hc.size
def Inv.rowChg(hi:Inv g w μ t u h O)(hc:Chg M g w g' w')(hμ:μ <+: μ')(W:h[r]?=some row)(U:μ[r]?=some b)(Z:¬M b)(hn:∀p J,Cm t u h w μ p=some J->M J->∀k,p≠ .cell r k):RowOK g' w' μ' b row:=by
 refine(hi.rows r row b W U).chg hc hμ Z ?_;intro k ds d v G hd hv J N hm;subst G;refine hn (.cell r k) J ?_ hm k rfl;simp only[Cm,BJ,W,BT,U,sW,hv,sA,hd];exact N
theorem EX(hi:Inv g w μ t u h O)(hc:Chg M g w g' w')(U:μ <+: μ')(n:Nat)(N:∀k G,Cm t u h w μ (.tmp n k)=some G->¬M G):RepD g' w' μ' (t n) (u n):=
 (hi.rep n).chg hc U λk b J=>N k b J
theorem Inv.newRow(hi:Inv g w μ t u h O)(T:TypeId)(ha:All2 (RepE g w μ) zs vs)(h1:∀v∈vs,v.oneCell'=true)(h0:∀(i:Nat)z v,zs[i]?=some z->vs[i]?=some v->Am z v=none):
  Inv g (w.alloc (.cells vs.toArray T)) (μ++[w.heap.size]) t u (h++[.cells zs]) O:=by
 have hc:=CO (λ_=>False) g w (.cells vs.toArray T);have a6:μ <+: μ++[w.heap.size]:=tS _ _;have hold:∀r,r <h.length->(h++[Row.cells zs])[r]?=h[r]?:=λr U=>sI U;have G:∀r,r <h.length->(μ++[w.heap.size])[r]?=μ[r]?:=λr U=>sI (hi.len▸U);have N:(μ++[w.heap.size])[h.length]?=some w.heap.size:=by rw[<-hi.len];simp
 have a8:(h++[Row.cells zs])[h.length]?=some (.cells zs):=Ac;refine hi.upd hc (Dl hi.agree _) (λn=>EX hi hc a6 n λ_ _ _ h=>h) (by simp[hi.len]) ?_ ?_ ?_ (λp=>some p) (λp q r hp hq=>by simp at hp hq;rw[hp,hq]) (.tmp 0 0) ?_
 .intro r row b U J;by_cases Z:r <h.length
  .rw[hold r Z]at U;rw[G r Z]at J;exact hi.rowChg hc a6 U J (λh=>h) (λ_ _ _ h=>h.elim)
  .have:r=h.length:=by have:=(rZ.1 U).1;simp at this;omega
   subst this;rw[a8]at U;rw[N]at J;simp only[rV]at U J;subst U;subst J;refine⟨vs,T,heap_alloc_new w _,⟨ha.1,λi x v hx hv=>(ha.2 i x v hx hv).chg hc a6 λ_ _ h=>h⟩,h1,λo=>Gh.lt_of hi.agree (ri _) o⟩
 .intro r r' b U W;have a7:∀x,(μ++[w.heap.size])[x]?=some b->x <h.length+1:=λx hx=>by have:=(rZ.1 hx).1;simp[hi.len]at this;omega
  have l1:=a7 r U;have l2:=a7 r' W;by_cases a1:r <h.length<;>by_cases a2:r' <h.length
  .rw[G r a1]at U;rw[G r' a2]at W;exact hi.nod r r' b U W
  .have:r'=h.length:=AE;subst this;rw[N]at W;rw[G r a1]at U;simp only[rV]at W;subst W;have:=hi.mem_lt (rY U);omega
  .have:r=h.length:=AE;subst this;rw[N]at U;rw[G r' a2]at W;simp only[rV]at U;subst U;have:=hi.mem_lt (rY W);omega
  .omega
 .intro b J;simp only[rp,rm]at J;rcases J with h|h
  .exact .inl h
  .exact .inr AE
 .intro p b J;refine .inl ⟨p,rfl,?_⟩;cases p with
  |tmp n k=>exact J
  |cell r k=>
   simp only[Cm]at J ⊢;by_cases Z:r <h.length
   .have e1:BJ (h++[.cells zs]) r k=BJ h r k:=by simp only[BJ,hold r Z]
    have e2:BT (w.alloc (.cells vs.toArray T)) (μ++[w.heap.size]) r k=BT w μ r k:=by
     simp only[BT,G r Z];cases hm:μ[r]? with
     |none=>rfl
     |some b'=>
      have:=hi.mem_lt (rY hm);simp only[sW];rw[World.cell?_alloc_lt w _ ⟨b',k,none⟩ this]
    rw[e1,e2]at J;exact J
   .by_cases he:r=h.length
    .subst he;simp only[BJ,a8]at J;cases hz:zs[k]? with
     |none=>simp[hz,Am]at J
     |some z=>
      obtain⟨v,hv,_⟩:=ha.get hz;have e2:BT (w.alloc (.cells vs.toArray T)) (μ++[w.heap.size]) h.length k=v:=
       Dk N (heap_alloc_new w _) hv
      rw[e2,hz]at J;simp only[sA]at J;rw[h0 k z v hz hv]at J;cases J
    .have:(h++[Row.cells zs])[r]?=none:=by simp;omega
     simp[BJ,this,Am]at J
theorem Inv.newAny(hi:Inv g w μ t u h O)(row:Row)(ob:Obj)(hR:RowOK g (w.alloc ob) (μ++[w.heap.size]) w.heap.size row)(h0:∀k ds d,row= .cells ds->ds[k]?=some d->Am d (BT (w.alloc ob) (μ++[w.heap.size]) h.length k)=none):
  Inv g (w.alloc ob) (μ++[w.heap.size]) t u (h++[row]) O:=by
 have hc:=CO (λ_=>False) g w ob;have a8:μ <+: μ++[w.heap.size]:=tS _ _;have hold:∀r,r <h.length->(h++[row])[r]?=h[r]?:=λr N=>sI N;have G:∀r,r <h.length->(μ++[w.heap.size])[r]?=μ[r]?:=λr N=>sI (hi.len▸N);have W:(μ++[w.heap.size])[h.length]?=some w.heap.size:=by rw[<-hi.len];simp
 have a7:(h++[row])[h.length]?=some row:=Ac;refine hi.upd hc (Dl hi.agree _) (λn=>EX hi hc a8 n λ_ _ _ h=>h) (by simp[hi.len]) ?_ ?_ ?_ (λp=>some p) (λp q r hp hq=>by simp at hp hq;rw[hp,hq]) (.tmp 0 0) ?_
 .intro r row b N J;by_cases Z:r <h.length
  .rw[hold r Z]at N;rw[G r Z]at J;exact hi.rowChg hc a8 N J (λh=>h) (λ_ _ _ h=>h.elim)
  .have:r=h.length:=by have:=(rZ.1 N).1;simp at this;omega
   subst this;rw[a7]at N;rw[W]at J;simp only[rV]at N J;subst N;subst J;exact hR
 .intro r r' b N U;have a6:∀x,(μ++[w.heap.size])[x]?=some b->x <h.length+1:=λx hx=>by have:=(rZ.1 hx).1;simp[hi.len]at this;omega
  have l1:=a6 r N;have l2:=a6 r' U;by_cases a1:r <h.length<;>by_cases a2:r' <h.length
  .rw[G r a1]at N;rw[G r' a2]at U;exact hi.nod r r' b N U
  .have:r'=h.length:=AE;subst this;rw[W]at U;rw[G r a1]at N;simp only[rV]at U;subst U;have:=hi.mem_lt (rY N);omega
  .have:r=h.length:=AE;subst this;rw[W]at N;rw[G r' a2]at U;simp only[rV]at N;subst N;have:=hi.mem_lt (rY U);omega
  .omega
 .intro b J;simp only[rp,rm]at J;rcases J with h|h
  .exact .inl h
  .exact .inr AE
 .intro p b J;refine .inl ⟨p,rfl,?_⟩;cases p with
  |tmp n k=>exact J
  |cell r k=>
   simp only[Cm]at J ⊢;by_cases Z:r <h.length
   .have e1:BJ (h++[row]) r k=BJ h r k:=by simp only[BJ,hold r Z]
    have e2:BT (w.alloc ob) (μ++[w.heap.size]) r k=BT w μ r k:=by
     simp only[BT,G r Z];cases hm:μ[r]? with
     |none=>rfl
     |some b'=>
      have:=hi.mem_lt (rY hm);simp only[sW];rw[World.cell?_alloc_lt w _ ⟨b',k,none⟩ this]
    rw[e1,e2]at J;exact J
   .by_cases he:r=h.length
    .subst he;simp only[BJ,a7]at J;cases row with
     |cells ds=>
      cases hz:ds[k]? with
      |none=>simp[hz,Am]at J
      |some z=>simp only[hz,sA]at J;rw[h0 k ds z rfl hz]at J;cases J
     |_=>simp[Am]at J
    .have:(h++[row])[r]?=none:=by simp;omega
     simp[BJ,this,Am]at J
end
end
section
variable {b k n r:Nat} {vs:List Value} {ds:List D} {xs:List V} {w':World} {g':Gh}
section
variable {g:Gh} {w:World} {μ:List Nat} {t:Nat->D} {u:Nat->Value} {h:List Row} {O:Nat->Prop}
def Et(g:Gh)(w:World)(b:Nat)(cs:Array Value):Chg (λx=>x=b) g w g (w.setRow b cs):=
 ⟨Gh.le.refl g,Ac,λG _ J=>setRow_other w b G cs J,λ_ _ _ _=>rfl,rfl,rfl⟩
def KH(J:∀b o v,g.m b o=some v->w.cell? ⟨b,o,none⟩=some v)(hg:∀o,g.m b o=none)(cs:Array Value):
  ∀G o v,g.m G o=some v->(w.setRow b cs).cell? ⟨G,o,none⟩=some v:=by
 intro G o v N;by_cases U:G=b
 .subst U;rw[hg o]at N;cases N
 .rw[World.cell?_of_block (a:=⟨G,o,none⟩) (setRow_other w b G cs U)];exact J G o v N
theorem Inv.storeRow(hi:Inv g w μ t u h O)(hr:h[r]?=some (.cells ds))(hb:μ[r]?=some b){T:TypeId}(a2:w.heap[b]?=some (.cells vs.toArray T (0,0)))(a1:List D)(G:List Value)(ha:All2 (RepE g w μ) a1 G)(h1:∀v∈G,v.oneCell'=true)(h0:∀(i:Nat)z v,a1[i]?=some z->G[i]?=some v->Am z v=none\/(ds[i]?=some z/\vs[i]?=some v)):
  Inv g (w.setRow b G.toArray) μ t u (h.set r (.cells a1)) O:=by
 have b5:b∈μ:=rY hb;obtain⟨_,_,b4,_,_,hg⟩:=hi.row hb hr;have hc:=Et g w b G.toArray;have b3:r <h.length:=(rZ.1 hr).1;have a8:∀p W,Cm t u h w μ p=some W->W≠b:=λp W J he=>(hi.sep p W J).1 (he▸b5);have Z:∀k,(∀v,vs[k]?=some v->BT w μ r k=v):=λk v hv=>Dk hb a2 hv;have a6:(w.setRow b G.toArray).heap[b]?=some (.cells G.toArray T (0,0)):=setRow_heap w b _ _ T _ a2;have b1:∀p W,Cm t u (h.set r (.cells a1)) (w.setRow b G.toArray) μ p=some W->Cm t u h w μ p=some W:=by
  intro p W J;cases p with
  |tmp n k=>exact J
  |cell r' k=>
   simp only[Cm]at J ⊢;by_cases he:r'=r
   .subst he;simp only[BJ,sY b3]at J;cases hz:a1[k]? with
    |none=>simp[hz,Am]at J
    |some z=>
     obtain⟨v,hv,_⟩:=ha.get hz;rw[Dk hb a6 hv,hz]at J;simp only[sA]at J;rcases h0 k z v hz hv with h3|⟨h3,h4⟩
     .rw[h3]at J;cases J
     .simp only[BJ,hr,h3,sA,Z k v h4];exact J
   .have e1:BJ (h.set r (.cells a1)) r' k=BJ h r' k:=by simp only[BJ,sG (Ne.symm he)]
    have e2:BT (w.setRow b G.toArray) μ r' k=BT w μ r' k:=by
     simp only[BT];cases hm:μ[r']? with
     |none=>rfl
     |some b2=>
      simp only[sW];have b0:b2≠b:=λe=>he (hi.nod r' r b (e▸hm) hb);rw[World.cell?_of_block (a:=⟨b2,k,none⟩) (setRow_other w b b2 _ b0)]
    rw[e1,e2]at J;exact J
 refine hi.upd hc (KH hi.agree hg _) (λn=>EX hi hc (ro μ) n λk W U=>a8 _ W U) (by simp[hi.len]) ?_ hi.nod (λb hb=> .inl hb)
  (λp=>some p) (λp q r J hq=>by simp at J hq;rw[J,hq]) (.tmp 0 0) (λp W J=> .inl ⟨p,rfl,b1 p W J⟩)
 intro r' row W N U;by_cases he:r'=r
 .subst he;rw[sY b3]at N;simp only[rV]at N;subst N;rw[hb]at U;simp only[rV]at U;subst U;refine⟨G,T,a6,⟨ha.1,λi x v hx hv=>(ha.2 i x v hx hv).chg hc (ro μ) λb2 a7=>?_⟩,h1,hg⟩;rcases h0 i x v hx hv with h3|⟨h3,h4⟩
  .rw[h3]at a7;cases a7
  .refine a8 (.cell r' i) b2 ?_;simp only[Cm,BJ,hr,h3,sA,Z i v h4];exact a7
 .rw[sG (Ne.symm he)]at N;have b0:W≠b:=λe=>he (hi.nod r' r b (e▸U) hb);exact hi.rowChg hc (ro μ) N U b0 λp b2 J hm k=>absurd hm (a8 p b2 J)
theorem Inv.giveD(hi:Inv g w μ t u h O)(hr:h[r]?=some (.cells ds))(hb:μ[r]?=some b){T:TypeId}(U:w.heap[b]?=some (.cells vs.toArray T (0,0)))(hk:k <ds.length){d0:D}(ht:t n=d0)(c5:RepE g w μ d0 (u n))(c1:Ar d0 (u n) 0=Am d0 (u n))(h1:(u n).oneCell'=true){d1:D}(c3:∀w',RepD g w' μ d1 (u n))(c4:∀j,Ar d1 (u n) j=none):
  Inv g (w.setRow b (vs.set k (u n)).toArray) μ (λm=>if n=m then d1 else t m) u (h.set r (.cells (ds.set k d0))) O:=by
 have c2:b∈μ:=rY hb;obtain⟨c8,T0,W,N,b4,hg⟩:=hi.row hb hr;rw[U]at W;simp only[rV,Obj.cells.injEq,true_and,and_true]at W;obtain⟨c7,rfl⟩:=W;have c0:vs=c8:=by simpa using congrArg Array.toList c7
 subst c0;have hc:=Et g w b (vs.set k (u n)).toArray;have b9:r <h.length:=(rZ.1 hr).1;have b0:∀p b',Cm t u h w μ p=some b'->b'≠b:=λp b' G he=>(hi.sep p b' G).1 (he▸c2);have a8:(w.setRow b (vs.set k (u n)).toArray).heap[b]?=some (.cells (vs.set k (u n)).toArray T (0,0)):=setRow_heap w b _ _ T _ U;have b6:k <vs.length:=N.1▸hk;have a7:Cm t u h w μ (.tmp n 0)=Am d0 (u n):=by simp only[Cm,ht];exact c1
 refine hi.upd hc (KH hi.agree hg _) (λm=>?_) (by simp[hi.len]) ?_ hi.nod (λb hb=> .inl hb)
  (λp=>match p with| .tmp m j=>if n=m then none else some (.tmp m j)| .cell J j=>if J=r/\j=k then some (.tmp n 0) else some (.cell J j)) ?_ (.tmp 0 0) ?_
 .by_cases hm:n=m
  .subst hm;simp only[if_true];exact c3 _
  .simp only[hm,if_false];exact EX hi hc (ro μ) m λk b' a6=>b0 _ b' a6
 .intro J row b' Z a6;by_cases he:J=r
  .subst he;rw[sY b9]at Z;simp only[rV]at Z;subst Z;rw[hb]at a6;simp only[rV]at a6;subst a6;refine⟨vs.set k (u n),T,a8,⟨by simp[N.1],λi x v hx hv=>?_⟩,?_,hg⟩
   .rw[sr]at hx hv;by_cases b5:k=i
    .subst b5;simp only[if_true,hk,b6]at hx hv;simp only[rV]at hx hv;subst hx;subst hv;exact c5.chg hc (ro μ) λb2 b1=>b0 (.tmp n 0) b2 (by rw[a7];exact b1)
    .simp only[b5,if_false]at hx hv;refine(N.2 i x v hx hv).chg hc (ro μ) λb2 b1=>b0 (.cell J i) b2 ?_;simp only[Cm,BJ,hr,hx,sA,Dk hb U hv];exact b1
   .intro v hv;rcases sn hv with h|h
    .exact b4 v h
    .rw[h];exact h1
  .rw[sG (Ne.symm he)]at Z;have b3:b'≠b:=λe=>he (hi.nod J r b (e▸a6) hb);exact hi.rowChg hc (ro μ) Z a6 b3 λp b2 G hm k=>absurd hm (b0 p b2 G)
 .intro p q z G hq;cases p<;>cases q<;>simp only[]at G hq
  .rename_i m j m' j';by_cases a1:n=m<;>by_cases a2:n=m'<;>simp_all
  .rename_i m j J j';by_cases a1:n=m<;>by_cases a2:J=r/\j'=k<;>simp_all
   all_goals (try (subst_vars;simp_all))
  .rename_i J j' m j;by_cases a1:n=m<;>by_cases a2:J=r/\j'=k<;>simp_all
   all_goals (try (subst_vars;simp_all))
  .rename_i r1 j1 r2 j2;by_cases a1:r1=r/\j1=k<;>by_cases a2:r2=r/\j2=k<;>simp_all
   all_goals (try (subst_vars;simp_all))
 .intro p b' G;cases p with
  |tmp m j=>
   simp only[Cm]at G;by_cases hm:n=m
   .subst hm;simp only[if_true,c4]at G;cases G
   .simp only[hm,if_false]at G;exact .inl ⟨.tmp m j,by simp[hm],G⟩
  |cell J j=>
   simp only[Cm]at G;by_cases he:J=r
   .subst he;simp only[BJ,sY b9]at G;by_cases hj:j=k
    .subst hj;have hv:(vs.set j (u n))[j]?=some (u n):=by simp[b6]
     rw[Dk hb a8 hv]at G;simp only[sY hk,sA]at G;exact .inl ⟨.tmp n 0,Ac,by rw[a7];exact G⟩
    .refine .inl ⟨.cell J j,by simp[hj],?_⟩;rw[sG (Ne.symm hj)]at G;simp only[Cm,BJ,hr];cases hz:ds[j]? with
     |none=>simp[hz,Am]at G
     |some z=>
      obtain⟨v,hv,_⟩:=N.get hz;have c6:(vs.set k (u n))[j]?=some v:=by rw[sG (Ne.symm hj)];exact hv
      rw[Dk hb a8 c6,hz]at G;rw[Dk hb U hv];exact G
   .refine .inl ⟨.cell J j,by simp[he],?_⟩;have e1:BJ (h.set r (.cells (ds.set k d0))) J j=BJ h J j:=by simp only[BJ,sG (Ne.symm he)]
    have e2:BT (w.setRow b (vs.set k (u n)).toArray) μ J j=BT w μ J j:=by
     simp only[BT];cases hm:μ[J]? with
     |none=>rfl
     |some b2=>
      simp only[sW];have b3:b2≠b:=λe=>he (hi.nod J r b (e▸hm) hb);rw[World.cell?_of_block (a:=⟨b2,j,none⟩) (setRow_other w b b2 _ b3)]
    rw[e1,e2]at G;exact G
def Inv.give(hi:Inv g w μ t u h O)(Z:h[r]?=some (.cells ds))(U:μ[r]?=some b){T:TypeId}(G:w.heap[b]?=some (.cells vs.toArray T (0,0)))(W:k <ds.length){e s:Nat}(J:t n= .W e s xs)(N:(u n).oneCell'=true):
  Inv g (w.setRow b (vs.set k (u n)).toArray) μ (λm=>if n=m then .any else t m) u (h.set r (.cells (ds.set k (.W e s xs)))) O:=
 hi.giveD Z U G W J (by have:=hi.rep n;rw[J]at this;exact this) (by cases u n<;>rfl) N (d1:= .any) (λ_=>by simp[RepD,RepG,RepE]) (λj=>by cases j<;>simp[Ar,Am])
theorem Inv.setAny(hi:Inv g w μ t u h O){a8:Row}(hr:h[r]?=some a8)(hb:μ[r]?=some b)(row:Row)(hc:Chg (λx=>x=b) g w g' w')(b0:∀b o v,g'.m b o=some v->w'.cell? ⟨b,o,none⟩=some v)(hR:RowOK g' w' μ b row)(h0:∀k ds d,row= .cells ds->ds[k]?=some d->Am d (BT w' μ r k)=none):Inv g' w' μ t u (h.set r row) O:=by
 have b1:b∈μ:=rY hb;have a7:r <h.length:=(rZ.1 hr).1;have a6:∀p J,Cm t u h w μ p=some J->J≠b:=λp J G Z=>(hi.sep p J G).1 (Z▸b1);have a2:∀p J,Cm t u (h.set r row) w' μ p=some J->Cm t u h w μ p=some J:=by
  intro p J G;cases p with
  |tmp n k=>exact G
  |cell W k=>
   simp only[Cm]at G ⊢;by_cases Z:W=r
   .subst Z;exfalso;simp only[BJ,sY a7]at G;cases row with
    |cells ds=>
     cases hz:ds[k]? with
     |none=>simp[hz,Am]at G
     |some z=>simp only[hz,sA]at G;rw[h0 k ds z rfl hz]at G;cases G
    |_=>simp[Am]at G
   .have e1:BJ (h.set r row) W k=BJ h W k:=by simp only[BJ,sG (Ne.symm Z)]
    have e2:BT w' μ W k=BT w μ W k:=by
     simp only[BT];cases hm:μ[W]? with
     |none=>rfl
     |some b2=>
      simp only[sW];have a1:b2≠b:=λe=>Z (hi.nod W r b (e▸hm) hb);rw[World.cell?_of_block (a:=⟨b2,k,none⟩) (hc.heap b2 (hi.mem_lt (rY hm)) a1)]
    rw[e1,e2]at G;exact G
 refine hi.upd hc b0 (λn=>EX hi hc (ro μ) n λk J U=>a6 _ J U) (by simp[hi.len]) ?_ hi.nod (λb hb=> .inl hb)
  (λp=>some p) (λp q r G hq=>by simp at G hq;rw[G,hq]) (.tmp 0 0) (λp J G=> .inl ⟨p,rfl,a2 p J G⟩)
 intro W b3 J N U;by_cases Z:W=r
 .subst Z;rw[hb]at U;cases U;rw[sY a7]at N;cases N;exact hR
 .rw[sG (Ne.symm Z)]at N;have a1:J≠b:=λe=>Z (hi.nod W r b (e▸U) hb);exact hi.rowChg hc (ro μ) N U a1 λp b2 G hm=>absurd hm (a6 p b2 G)
end
end
section
def σtake(d r k:Nat):Pl->Option Pl
 | .tmp m j=>if d=m then (if j=0 then some (.cell r k) else none) else some (.tmp m j)
 | .cell r' j=>if r'=r/\j=k then none else some (.cell r' j)
theorem σtake_inj(d r k:Nat)(p q z:Pl)(G:σtake d r k p=some z)(J:σtake d r k q=some z):p=q:=by
 cases p<;>cases q<;>simp only[σtake]at G J<;>(repeat' split at G)<;>(repeat' split at J)<;>
  first
   |(cases G;done)
   |(cases J;done)
   |(simp only[rV]at G J;subst G;(simp only[Pl.tmp.injEq,Pl.cell.injEq,reduceCtorEq]at J<;>simp_all);done)
def σgrow(d n:Nat):Pl->Option Pl
 | .tmp m k=>if d=m then (if k=0 then some (.tmp n 0) else none) else if n=m then none else some (.tmp m k)
 | .cell r k=>some (.cell r k)
theorem σgrow_inj(d n:Nat)(p q z:Pl)(G:σgrow d n p=some z)(J:σgrow d n q=some z):p=q:=by
 cases p<;>cases q<;>simp only[σgrow]at G J<;>(repeat' split at G)<;>(repeat' split at J)<;>
  first
   |(cases G;done)
   |(cases J;done)
   |(simp only[rV]at G J;subst G;(simp only[Pl.tmp.injEq,Pl.cell.injEq,reduceCtorEq]at J<;>simp_all);done)
variable {xs:List V} {ds:List D} {b k n r:Nat} {v:Value} {w':World} {g':Gh}
section
variable {g:Gh} {w:World} {μ:List Nat} {t:Nat->D} {u:Nat->Value} {h:List Row} {O:Nat->Prop}
theorem Inv.take(hi:Inv g w μ t u h O){d:Nat}(hr:h[r]?=some (.cells ds)){e s:Nat}(hk:ds[k]?=some (.W e s xs)):
  Inv g w μ (λn=>if d=n then .W e s xs else t n) (λn=>if d=n then BT w μ r k else u n) (h.set r (.cells (ds.set k (.v (.list xs))))) O:=by
 have a2:r <h.length:=(rZ.1 hr).1;have a8:k <ds.length:=(rZ.1 hk).1;have b1:r <μ.length:=hi.len▸a2;have hb:μ[r]?=some μ[r]:=rW b1;have Z:=hi.cell hr hb hk;have W:Cm t u h w μ (.cell r k)=Am (.W e s xs) (BT w μ r k):=by simp only[Cm,BJ,hr,hk,sA]
 refine hi.upd (Chg.refl (λ_=>False) g w) hi.agree (λn=>?_) (by simp[hi.len]) ?_ hi.nod (λb hb=> .inl hb)
  (σtake d r k) (σtake_inj d r k) (.tmp 0 0) ?_
 .by_cases hn:d=n
  .simp only[hn,if_true];exact Z
  .simp only[hn,if_false];exact hi.rep n
 .intro U row b' G a6;by_cases he:U=r
  .subst he;rw[sY a2]at G;simp only[rV]at G;subst G;obtain⟨vs,T,a1,N,b0,hg⟩:=hi.row a6 hr;refine⟨vs,T,a1,⟨by simp[N.1],λi x v hx hv=>?_⟩,b0,hg⟩;rw[sr]at hx;by_cases a7:k=i
   .subst a7;simp only[if_true,a8,rV]at hx;subst hx;exact RepOwn.list (N.2 k _ v hk hv).1
   .simp only[a7,if_false]at hx;exact N.2 i x v hx hv
  .rw[sG (Ne.symm he)]at G;exact hi.rows U row b' G a6
 .intro p b' J;cases p with
  |tmp m j=>
   simp only[Cm]at J;by_cases hm:d=m
   .simp only[hm,if_true]at J;cases j with
    |zero=>exact .inl ⟨.cell r k,by simp[σtake,hm],by rw[W];simpa[Ar]using J⟩
    |succ j=>simp[Ar]at J
   .simp only[hm,if_false]at J;exact .inl ⟨.tmp m j,by simp[σtake,hm],J⟩
  |cell U j=>
   simp only[Cm]at J;by_cases he:U=r
   .subst he;simp only[BJ,sY a2]at J;by_cases hj:j=k
    .subst hj;simp[sY a8,Am]at J
    .rw[sG (Ne.symm hj)]at J;exact .inl ⟨.cell U j,by simp[σtake,hj],by simp only[Cm,BJ,hr];exact J⟩
   .have e1:BJ (h.set r (.cells (ds.set k (.v (.list xs))))) U j=BJ h U j:=by simp only[BJ,sG (Ne.symm he)]
    rw[e1]at J;exact .inl ⟨.cell U j,by simp[σtake,he],J⟩
theorem Inv.newD(hi:Inv g w μ t u h O)(hc:Chg (λ_=>False) g w g' w')(a1:∀b o v,g'.m b o=some v->w'.cell? ⟨b,o,none⟩=some v){d:Nat}{d0:D}(hv:RepD g' w' μ d0 v)(hs:∀k,Ar d0 v k=if k=0 then Am d0 v else none)(hn:∀b,Am d0 v=some b->w.heap.size<=b):
  Inv g' w' μ (λn=>if d=n then d0 else t n) (λn=>if d=n then v else u n) h O:=by
 have J:∀r k,BT w' μ r k=BT w μ r k:=by
  intro r k;simp only[BT];cases Z:μ[r]? with
  |none=>rfl
  |some b=>
   have:=hi.mem_lt (rY Z);simp only[sW];rw[World.cell?_of_block (a:=⟨b,k,none⟩) (hc.heap b this (λh=>h))]
 refine hi.upd hc a1 (λn=>?_) hi.len (λr row b hr N=>hi.rowChg hc (ro μ) hr N (λh=>h) (λ_ _ _ h=>h.elim)) hi.nod (λb N=> .inl N)
  (λp=>some p) (λp q r G hq=>by simp at G hq;rw[G,hq]) (.tmp d 0) ?_
 .by_cases W:d=n
  .simp only[W,if_true];exact hv
  .simp only[W,if_false];exact EX hi hc (ro μ) n λ_ _ _ h=>h
 .intro p b G;cases p with
  |tmp m j=>
   simp only[Cm]at G;by_cases Z:d=m
   .subst Z;simp only[if_true]at G;cases j with
    |zero=>
     have N:=hn b (by simpa[hs]using G);exact .inr ⟨rfl,N,λU=>by have:=hi.mem_lt U;omega⟩
    |succ j=>simp[hs]at G
   .simp only[Z,if_false]at G;exact .inl ⟨.tmp m j,rfl,G⟩
  |cell r k=>
   simp only[Cm,J]at G;exact .inl ⟨.cell r k,rfl,G⟩
theorem Inv.newOwn(hi:Inv g w μ t u h O)(hc:Chg (λ_=>False) g w g' w')(G:∀b o v,g'.m b o=some v->w'.cell? ⟨b,o,none⟩=some v){d e s:Nat}(U:RepOwn g' w' e s xs v)(J:xs=[]->e≠84->∃a,v= .slice a 0 0)(N:∀b,Am (.W e s xs) v=some b->w.heap.size<=b):
  Inv g' w' μ (λn=>if d=n then .W e s xs else t n) (λn=>if d=n then v else u n) h O:=
 hi.newD hc G ⟨U,J⟩ (λk=>by cases k<;>rfl) N
theorem Inv.growD(hi:Inv g w μ t u h O){d:Nat}(W:Am (t n) (u n)=some b)(hc:Chg (λx=>x=b) g w g' w')(a7:∀b o v,g'.m b o=some v->w'.cell? ⟨b,o,none⟩=some v){d0:D}(hv:RepD g' w' μ d0 v)(hs:∀k,Ar d0 v k=if k=0 then Am d0 v else none)(hn:Am d0 v=some b):
  Inv g' w' μ (λm=>if d=m then d0 else if n=m then (t n).copy else t m) (λm=>if d=m then v else u m) h O:=by
 have G:Cm t u h w μ (.tmp n 0)=some b:=by
  simp only[Cm];generalize t n=x at W;generalize u n=y at W;cases x with
  |W e s xs=>
   cases y<;>simp[Ar,Am]at W ⊢
   exact W
  |pend N e s xs=>simpa[Ar,Am]using W
  |_=>simp[Am]at W
 obtain⟨a6,_⟩:=hi.sep _ b G;have U:∀p N,Cm t u h w μ p=some N->N=b->p= .tmp n 0:=λp N J he=>hi.uniq p (.tmp n 0) b (he▸J) G;have a1:∀r k,BT w' μ r k=BT w μ r k:=by
  intro r k;simp only[BT];cases hm:μ[r]? with
  |none=>rfl
  |some N=>
   have a2:=rY hm;have:=hi.mem_lt a2;simp only[sW];rw[World.cell?_of_block (a:=⟨N,k,none⟩) (hc.heap N this (λhe=>a6 (he▸a2)))]
 refine hi.upd hc a7 (λm=>?_) hi.len (λr row N hr Z=>hi.rowChg hc (ro μ) hr Z (λhe=>a6 (he▸rY Z)) (λp b2 J he k=>by rw[U p b2 J he];simp))
  hi.nod (λb W=> .inl W)
  (σgrow d n) (σgrow_inj d n) (.tmp 0 0) ?_
 .by_cases hd:d=m
  .simp only[hd,if_true];exact hv
  .by_cases hm:n=m
   .subst hm;have h1:=(hi.rep n).copy;simp only[hd,if_true,if_false];cases ht:t n with
    |W e s xs=>rw[ht]at h1;exact RepV.mono hc.le h1
    |pend=>trivial
    |_=>rw[ht]at W;simp[Am]at W
   .simp only[hd,hm,if_false];exact EX hi hc (ro μ) m λk N Z he=>by have:=U _ N Z he;simp only[Pl.tmp.injEq]at this;exact hm this.1.symm
 .intro p N J;cases p with
  |tmp m k=>
   simp only[Cm]at J;by_cases hd:d=m
   .simp only[hd,if_true]at J;cases k with
    |zero=>
     refine .inl ⟨.tmp n 0,by simp[σgrow,hd],?_⟩;rw[G];have:Am d0 v=some N:=by simpa[hs]using J
     rw[<-hn,this]
    |succ k=>simp[hs]at J
   .by_cases hm:n=m
    .simp[hd,hm,CN]at J
    .simp only[hd,hm,if_false]at J;exact .inl ⟨.tmp m k,by simp[σgrow,hd,hm],J⟩
  |cell r k=>
   simp only[Cm,a1]at J;exact .inl ⟨.cell r k,rfl,J⟩
theorem Inv.growOwn(hi:Inv g w μ t u h O){d:Nat}(N:Am (t n) (u n)=some b)(hc:Chg (λx=>x=b) g w g' w')(G:∀b o v,g'.m b o=some v->w'.cell? ⟨b,o,none⟩=some v){e s:Nat}(W:RepOwn g' w' e s xs v)(J:xs=[]->e≠84->∃a,v= .slice a 0 0)(U:Am (.W e s xs) v=some b):
  Inv g' w' μ (λm=>if d=m then .W e s xs else if n=m then (t n).copy else t m) (λm=>if d=m then v else u m) h O:=
 hi.growD N hc G ⟨W,J⟩ (λk=>by cases k<;>rfl) U
def Inv.growCell(hi:Inv g w μ t u h O){br:Nat}{x d0:D}(hr:h[r]?=some (.cells ds))(a6:μ[r]?=some br)(hk:ds[k]?=some x)(hb:Am x (BT w μ r k)=some b)(hc:Chg (λx=>x=b) g w g' w')(c2:∀b o v,g'.m b o=some v->w'.cell? ⟨b,o,none⟩=some v)(hv:RepE g' w' μ d0 (BT w μ r k))(hn:∀W,Am d0 (BT w μ r k)=some W->W=b):
  Inv g' w' μ t u (h.set r (.cells (ds.set k d0))) O:=by
 have c1:r <h.length:=(rZ.1 hr).1;have b9:k <ds.length:=(rZ.1 hk).1;have a2:Cm t u h w μ (.cell r k)=some b:=by simp only[Cm,BJ,hr,hk,sA];exact hb
 obtain⟨b4,_⟩:=hi.sep _ b a2;have a1:∀p W,Cm t u h w μ p=some W->W=b->p= .cell r k:=λp W U N=>hi.uniq p (.cell r k) b (N▸U) a2;obtain⟨vs,T,G,b0,c0,c4⟩:=hi.row a6 hr;have b3:br≠b:=λN=>b4 (N▸rY a6);have a8:w'.heap[br]?=some (.cells vs.toArray T (0,0)):=(hc.heap br (Bq G) b3).trans G;have a7:∀r k,BT w' μ r k=BT w μ r k:=by
  intro r k;simp only[BT];cases hm:μ[r]? with
  |none=>rfl
  |some W=>
   have b1:=rY hm;have:=hi.mem_lt b1;simp only[sW];rw[World.cell?_of_block (a:=⟨W,k,none⟩) (hc.heap W this (λN=>b4 (N▸b1)))]
 refine hi.upd hc c2 (λm=>?_) (by simp[hi.len]) ?_ hi.nod (λb hb=> .inl hb) (λp=>some p) (λp q r U hq=>by simp at U hq;rw[U,hq]) (.tmp 0 0) ?_
 .exact EX hi hc (ro μ) m λj W Z N=>by have:=a1 _ W Z N;cases this
 .intro r' row W J Z;by_cases N:r'=r
  .subst N;rw[sY c1]at J;simp only[rV]at J;subst J;rw[a6]at Z;simp only[rV]at Z;subst Z;refine⟨vs,T,a8,⟨by simp[b0.1],λi y v hy b6=>?_⟩,c0,λo=>(hc.gh br (Bq G) b3 o).trans (c4 o)⟩;rw[sr]at hy;by_cases b5:k=i
   .subst b5;simp only[if_true,b9]at hy;simp only[rV]at hy;subst hy;rw[Dk a6 G b6]at hv;exact hv
   .simp only[b5,if_false]at hy;refine(b0.2 i y v hy b6).chg hc (ro μ) λb2 c3 N=>?_;have h3:Cm t u h w μ (.cell r' i)=some b2:=by simp only[Cm,BJ,hr,hy,sA,Dk a6 G b6];exact c3
    have:=a1 _ b2 h3 N;simp only[Pl.cell.injEq]at this;exact b5 this.2.symm
  .rw[sG (Ne.symm N)]at J;have c5:¬W=b:=λe=>b4 (e▸rY Z);exact hi.rowChg hc (ro μ) J Z c5 λp b2 U hm j c6=>by have:=a1 p b2 U hm;rw[c6]at this;simp only[Pl.cell.injEq]at this;exact N this.1
 .intro p W U;refine .inl ⟨p,rfl,?_⟩;cases p with
  |tmp m j=>exact U
  |cell r' j=>
   simp only[Cm,a7]at U ⊢;by_cases N:r'=r
   .subst N;simp only[BJ,sY c1,sr]at U;by_cases hj:k=j
    .subst hj;simp only[if_true,b9,sA]at U;have:=hn W U;subst this;simpa[BJ,hr,hk]using hb
    .simp only[hj,if_false]at U;simpa[BJ,hr]using U
   .have e1:BJ (h.set r (.cells (ds.set k d0))) r' j=BJ h r' j:=by simp only[BJ,sG (Ne.symm N)]
    rw[e1]at U;exact U
theorem Inv.chg(hi:Inv g w μ t u h O)(hc:Chg (λ_=>False) g w g' w')(N:∀b o v,g'.m b o=some v->w'.cell? ⟨b,o,none⟩=some v):Inv g' w' μ t u h O:=by
 have G:∀r k,BT w' μ r k=BT w μ r k:=by
  intro r k;simp only[BT];cases hm:μ[r]? with
  |none=>rfl
  |some b=>
   have:=hi.mem_lt (rY hm);simp only[sW];rw[World.cell?_of_block (a:=⟨b,k,none⟩) (hc.heap b this (λh=>h))]
 refine hi.upd hc N (λn=>EX hi hc (ro μ) n λ_ _ _ h=>h) hi.len
  (λr row b Z U=>hi.rowChg hc (ro μ) Z U (λh=>h) (λ_ _ _ h=>h.elim)) hi.nod (λb U=> .inl U)
  (λp=>some p) (λp q r J W=>by simp at J W;rw[J,W]) (.tmp 0 0) ?_
 intro p b J;cases p with
 |tmp m j=>exact .inl ⟨.tmp m j,rfl,J⟩
 |cell r k=>simp only[Cm,G]at J;exact .inl ⟨.cell r k,rfl,J⟩
theorem Inv.weaken(hi:Inv g w μ t u h O)(t':Nat->D)(N:∀n,t' n=t n\/(∀v,RepD g w μ (t n) v->RepD g w μ (t' n) v)/\∀v k,Ar (t' n) v k=none):Inv g w μ t' u h O:=by
 refine hi.upd (Chg.refl (λ_=>False) g w) hi.agree (λn=>?_) hi.len hi.rows hi.nod (λb U=> .inl U) (λp=>some p) (λp q r G J=>by simp at G J;rw[G,J]) (.tmp 0 0) ?_
 .rcases N n with h|h
  .rw[h];exact hi.rep n
  .exact h.1 _ (hi.rep n)
 .intro p b G;cases p with
  |tmp m j=>
   simp only[Cm]at G;rcases N m with h|h
   .rw[h]at G;exact .inl ⟨.tmp m j,rfl,G⟩
   .rw[h.2]at G;cases G
  |cell r k=>exact .inl ⟨.cell r k,rfl,G⟩
end
end
section
structure St where
 e:CC
 h:List Row
 deriving Inhabited
inductive AI where
 |p (d:Nat) (i:PI)
 |mv (d:Nat) (x:Opd)
 |alloc (d:Nat) (zs:List D)
 |box (d:Nat) (x:Opd)
 |store (a x:Opd) (n:Nat)
 |take (d:Nat) (a:Opd)
 |app (d:Nat) (x y:Opd) (e s by_:Nat)
 |appS (d:Nat) (x y:Opd) (e by_:Nat)
 |bsl (d e s:Nat) (ps:List Opd)
 |s2b (d:Nat) (x:Opd)
 |nilS (d:Nat) (ne:Bool) (x:Opd)
 |mkm (d:Nat)
 |mksl (d:Nat) (x:Opd) (z:D)
 |ment (d:Nat) (m k:Opd) (st:Bool) (ks:List Nat)
 |mest (m b v:Opd)
 |mput (m k v:Opd) (st:Bool) (ks:List Nat)
 |mdel (d:Option Nat) (m k:Opd) (st:Bool) (ks:List Nat)
 |call (d:Option Nat) (f:Opd) (args:List Opd)
 |callF (d:Option Nat) (f:Opd) (args:List Opd)
 |callC (d:Option Nat) (f:Opd) (args:List Opd)
 |callO (d:Option Nat) (f q:Opd) (args:List Opd)
 |appR (d:Nat) (x y:Opd) (e s by_:Nat)
 |mksz (d:Nat) (x:Opd) (zs:List D)
 |cpy (d:Option Nat) (x y:Opd) (s:Nat)
 |callN (d:Option Nat) (f:Opd) (args:List Opd)
 |appP (d:Nat) (x y:Opd) (e s by_:Nat)
 |fin (m:Nat) (a p x:Opd) (s:Nat)
 deriving Inhabited
def D.toRow:D->D
 | .nil e s=> .W e s []
 |d=>d
def Opd.clear(e:CC):Opd->CC
 | .t n true=>(n,(AK e n).copy)::e
 |_=>e
def CL(e:CC):Option Nat->D->CC
 |some d,x=>(d,x)::e
 |none,_=>e
def I1(e:CC):List Opd->Option (List V)
 |[]=>some []
 |x::xs=>match (x.ev e).toV,I1 e xs with
  |some v,some vs=>some (v::vs)
  |_,_=>none
def SC(e:CC)(sz:Nat):List Opd->Option (List D)
 |[]=>some []
 |x::xs=>match (x.ev e).copy.cells?,SC e sz xs with
  |some c,some cs=>if c.length=sz then some (c.map D.toRow++cs) else none
  |_,_=>none
def EC(e s:Nat):D->Option (List V)
 | .W e' s' xs=>if e'=e/\s'=s then some xs else none
 | .nil _ _=>some []
 |_=>none
def AV(n by_:Nat):Bool:=decide (n*by_<=140737488355328/\n<=140737488355328)
def AI.step(s:St):AI->Option St
 | .p d i=>(i.val s.e s.h).map λx=>⟨(d,x)::s.e,s.h⟩
 | .mv d x=>some ⟨(d,x.ev s.e)::x.clear s.e,s.h⟩
 | .alloc d zs=>some ⟨(d,.R s.h.length 0)::s.e,s.h++[.cells zs]⟩
 | .box d x=>match (x.ev s.e).copy.cells? with
  |some cs=>some ⟨(d,.R s.h.length 0)::s.e,s.h++[.cells (cs.map D.toRow)]⟩
  |none=>none
 | .store a x n=>match a.ev s.e with
  | .R r off=>match s.h[r]? with
   |some (.cells ds)=>match x.ev s.e with
    | .W e sz xs=>match x with
     | .t m true=>if off <ds.length/\n=1 then some ⟨(m,.any)::s.e,s.h.set r (.cells (ds.set off (.W e sz xs)))⟩ else none
     |_=>none
    | .pend bb e sz xs=>match x with
     | .t m true=>if off <ds.length/\n=1 then some ⟨(m,.pptr bb 0 xs.length)::s.e,s.h.set r (.cells (ds.set off (.pend bb e sz xs)))⟩ else none
     |_=>none
    |d=>match d.copy.cells? with
     |some cs=>if cs.length=n/\off+n<=ds.length then some ⟨s.e,s.h.set r (.cells (AQ ds off (cs.map D.toRow)))⟩ else none
     |none=>none
   |_=>none
  |_=>none
 | .take d a=>match a.ev s.e with
  | .R r off=>match s.h[r]? with
   |some (.cells ds)=>match ds[off]? with
    |some (.W e sz xs)=>some ⟨(d,.W e sz xs)::s.e,s.h.set r (.cells (ds.set off (.v (.list xs))))⟩
    |_=>none
   |_=>none
  |_=>none
 | .app d x y e sz by_=>match EC e sz (x.ev s.e),(y.ev s.e).toV with
  |some xs,some (.list ys)=>if BZ sz ys=true/\AV (xs.length+ys.length) by_=true then some ⟨(d,.W e sz (xs++ys))::x.clear s.e,s.h⟩ else none
  |_,_=>none
 | .appS d x y e by_=>match EC e 1 (x.ev s.e),y.ev s.e with
  |some xs,.v (.str b)=>if AV (xs.length+b.size) by_=true then some ⟨(d,.W e 1 (xs++b.data.toList.map λc=> .int .u8 c.toNat))::x.clear s.e,s.h⟩ else none
  |_,_=>none
 | .bsl d e sz ps=>match I1 s.e ps with
  |some vs=>if vs.all (λv=>v.cells.length==sz)=true then
    match vs with
    |[]=>some ⟨(d,.nil e sz)::s.e,s.h⟩
    |vs=>some ⟨(d,.W e sz vs)::s.e,s.h⟩
   else none
  |none=>none
 | .s2b d x=>match x.ev s.e with
  | .v (.str b)=>some ⟨(d,.v (.list (b.data.toList.map λc=> .int .u8 c.toNat)))::s.e,s.h⟩
  |_=>none
 | .nilS _ _ _=>none
 | .mkm d=>some ⟨(d,.mr s.h.length)::s.e,s.h++[.map [] [] 0]⟩
 | .mksl d x z=>match x.ev s.e with
  | .v (.int _ n)=>if 0<=n/\n<=16777216 then some ⟨(d,.sr s.h.length n.toNat)::s.e,s.h++[.cells (List.replicate n.toNat z)]⟩ else none
  |_=>none
 | .mput m k v st ks=>match m.ev s.e with
  | .mr r=>match s.h[r]? with
   |some (.map es bs ck)=>match (k.ev s.e).toV,(v.ev s.e).toV with
    |some kv,some vv=>if Be st ks kv=true then
      match Cr st ks kv es with
      |some none=>some ⟨s.e,s.h.set r (.map (es++[(kv,vv)]) (bs++[ck]) (ck+1))⟩
      |some (some i)=>some ⟨s.e,s.h.set r (.map (es.set i (kv,vv)) bs ck)⟩
      |none=>none
     else none
    |_,_=>none
   |_=>none
  |_=>none
 | .ment d m k st ks=>match m.ev s.e with
  | .mr r=>match s.h[r]? with
   |some (.map es bs _)=>match (k.ev s.e).toV with
    |some kv=>if Be st ks kv=true then
      match Cr st ks kv es with
      |some (some i)=>match es[i]?,bs[i]? with
       |some en,some n=>some ⟨(d,.tup [.v en.2,.v (.int .i64 n)])::s.e,s.h⟩
       |_,_=>none
      |_=>none
     else none
    |_=>none
   |_=>none
  |_=>none
 | .mest m b v=>match m.ev s.e with
  | .mr r=>match s.h[r]? with
   |some (.map es bs ck)=>match b.ev s.e,(v.ev s.e).toV with
    | .v (.int _ n),some vv=>match bs.findIdx? (λx:Nat=>(x:Int)==n)with
     |some i=>match es[i]? with
      |some en=>some ⟨s.e,s.h.set r (.map (es.set i (en.1,vv)) bs ck)⟩
      |none=>none
     |none=>none
    |_,_=>none
   |_=>none
  |_=>none
 | .mdel d m k st ks=>match m.ev s.e with
  | .mr r=>match s.h[r]? with
   |some (.map es bs ck)=>match (k.ev s.e).toV with
    |some kv=>if Be st ks kv=true then
      match Cr st ks kv es with
      |some none=>some ⟨CL s.e d (.tup []),s.h⟩
      |some (some i)=>some ⟨CL s.e d (.tup []),s.h.set r (.map (es.eraseIdx i) (bs.eraseIdx i) ck)⟩
      |none=>none
     else none
    |_=>none
   |_=>none
  |_=>none
 | .call _ _ _=>none
 | .callF _ _ _=>none
 | .callC _ _ _=>none
 | .callO _ _ _ _=>none
 | .appR _ _ _ _ _ _=>none
 | .callN _ _ _=>none
 | .appP _ _ _ _ _ _=>none
 | .fin m ad pp x sz=>match pp.ev s.e,(x.ev s.e).toV with
  | .pptr b s' n,some y=>match AK s.e m with
   | .pend b' e s2 xs=>if (b'=b/\s'=sz/\s2=sz)/\n=xs.length/\y.cells.length=sz/\0 <sz then some ⟨(m,.W e sz (xs++[y]))::s.e,s.h⟩ else none
   |_=>match ad.ev s.e with
    | .R r off=>match s.h[r]? with
     |some (.cells ds)=>match ds[off]? with
      |some (.pend b' e s2 xs)=>if (b'=b/\s'=sz/\s2=sz)/\n=xs.length/\y.cells.length=sz/\0 <sz then some ⟨s.e,s.h.set r (.cells (ds.set off (.W e sz (xs++[y]))))⟩ else none
      |_=>none
     |_=>none
    |_=>none
  |_,_=>none
 | .mksz d x zs=>match x.ev s.e with
  | .v (.int _ n)=>if 0<=n/\n<=16777216 then some ⟨(d,.sr s.h.length n.toNat)::s.e,s.h++[.cells (List.replicate n.toNat zs).flatten]⟩ else none
  |_=>none
 | .cpy d x y sz=>match x.ev s.e with
  | .sr r n=>match (y.ev s.e).copy with
   | .v (.list ys)=>match s.h[r]? with
    |some (.cells ds)=>if (ys.length=n/\ds.length=n*sz)/\0 <sz/\BZ sz ys=true then some ⟨CL s.e d (.v (.int .i64 n)),s.h.set r (.cells ((ys.flatMap V.cells).map .v))⟩ else none
    |_=>none
   |_=>none
  |_=>none
structure Gs (GL:Ai) (N:Nat) (g:Gh) (w:World) (μ:List Nat) (s:St) (a:Act) (O:Nat->Prop):Prop where
 inv:Inv g w μ (AK s.e) (λn=>a.tmps.getD n undef) s.h O
 glob:GlobOK GL g
 sz:a.tmps.size=N
variable {O:Nat->Prop} {a:Act} {s:St} {μ:List Nat} {w:World} {g:Gh} {N:Nat}
def Gs.gd{GL:Ai}(h:Gs GL N g w μ s a O)(P:Program):Gd P GL g w μ s.e a s.h O:=⟨h.inv,h.glob⟩
theorem GlobOK.mono{GL:Ai}{g G:Gh}(h:GlobOK GL g)(J:g.le G):GlobOK GL G:=λp U=>(h p U).mono J
def EG(P:Program)(GL:Ai)(N:Nat)(o:Oper)(ai:AI):Prop:=
 ∀{g:Gh}{w:World}{μ:List Nat}{s s':St}{a:Act}{O:Nat->Prop},Gs GL N g w μ s a O->ai.step s=some s'->
  ∃v w' g' μ',((execOp a.eval o).run P w= .ok (.value v) w'\/((execOp a.eval o).run P w= .ok .skip w'/\v=undef))/\
   Gs GL N g' w' μ' s' (a.put o.dst v) O/\Chg (λb=>¬O b) g w g' w'/\μ <+: μ'
variable {o:Oper} {q:Opd} {p x:Operand} {zs:List D} {vs:List Value} {b n t:Nat} {u v:Value} {d:D}
section
variable {P:Program} {GL:Ai} {N:Nat}
def BP(a:Act)(d:Option Nat)(v:Value):(a.put d v).tmps.size=a.tmps.size:=by cases d<;>simp[Act.put]
def D5{d:Nat}(v:Value)(hd:d <a.tmps.size):(λn=>(a.put (some d) v).tmps.getD n undef)=λn=>if d=n then v else a.tmps.getD n undef:=by
 funext n
 simp only[Act.put];by_cases h:d=n
 .subst h;simp[hd]
 .simp[h]
def Gs.set{g:Gh}{w:World}{μ:List Nat}{s:St}{a:Act}{O:Nat->Prop}(h:Gs GL N g w μ s a O){d:Nat}(hd:d <N){x:D}{v:Value}(hx:RepD g w μ x v)(G:∀k,Ar x v k=none):Gs GL N g w μ ⟨(d,x)::s.e,s.h⟩ (a.put (some d) v) O where
 inv:=by rw[D5 v (h.sz▸hd)];exact h.inv.set hx G
 glob:=h.glob
 sz:=by rw[BP,h.sz]
theorem jd{d:Nat}{i:PI}(W:o.dst=some d)(hd:d <N)(U:V0 P GL o.op i=true):EG P GL N o (.p d i):=by intro g w μ s s' a O hg hs;simp only[AI.step,rt]at hs;obtain⟨x,hx,rfl⟩:=hs;obtain⟨v,G,h2,J⟩:=ZU U (hg.gd P) hx o rfl;exact⟨v,w,g,μ,.inl G,by rw[W];exact hg.set hd h2 J,Chg.refl _ _ _,ro _⟩
def Sb(q:Opd):Bool:=match q with| .c (.W _ _ (_::_))=>false| .c (.tup _)=>false| .c (.pend _ _ _ _)=>false|_=>true
theorem Yh{d:Nat}(ho:o.dst=some d)(W:o.op= .move x\/o.op= .assign x)(hd:d <N)(G:oe GL x q=true)(hm:Sb q=true):EG P GL N o (.mv d q):=by
 intro g w μ s s' a O hg hs;simp only[AI.step,rV]at hs;subst hs;have J:(execOp a.eval o).run P w= .ok (.value (a.eval x)) w:=by rcases W with h|h<;>simp[execOp,h]
 have hr:=(hg.gd P).ev G;refine⟨a.eval x,w,g,μ,.inl J,?_,Chg.refl _ _ _,ro _⟩;rw[ho];have P2:(∀k,Ar (q.ev s.e) (a.eval x) k=none)->Gs GL N g w μ ⟨(d,q.ev s.e)::s.e,s.h⟩ (a.put (some d) (a.eval x)) O:=λh0=>hg.set hd hr h0;cases q with
 |t n mv=>
  cases mv with
  |false=>exact P2 λk=>CN _ _ _
  |true=>
   cases x with
   |tmp n'=>
    have:n'=n:=by simpa[oe]using G
    subst this;refine⟨?_,hg.glob,by rw[BP,hg.sz]⟩;rw[D5 _ (hg.sz▸hd)];have:=hg.inv.move (d:=d) (s:=n');have Z:(λm=>if d=m then a.eval (.tmp n') else a.tmps.getD m undef)=λn=>if d=n then a.tmps.getD n' undef else if n'=n then a.tmps.getD n' undef else a.tmps.getD n undef:=by
     funext m
     by_cases U:d=m
     .simp[U,Act.eval]
     .by_cases h2:n'=m
      .subst h2;simp[U]
      .simp[U,h2]
    rw[Z];have e2:AK ((d,Opd.ev s.e (.t n' true))::Opd.clear s.e (.t n' true))=λn=>if d=n then AK s.e n' else if n'=n then (AK s.e n').copy else AK s.e n:=rfl;rw[e2];exact this
   |const v=>simp[oe]at G
   |global g=>simp[oe]at G
   |func f=>simp[oe]at G
 |c dd=>
  refine P2 λk=>?_;cases x with
  |tmp n=>simp[oe]at G
  |global n=>simp[oe]at G
  |const v=>
   rcases ML G with G|⟨cs,xs,rfl,rfl⟩
   case inr=>exact Ck _ _ _
   simp only[Opd.ev,Act.eval];unfold GR at G;split at G
   .cases k<;>simp[Ar,Am]
   .cases k<;>simp[Ar,Am]
   .exact Ck _ _ _
   .cases G
  |func f=>
   cases dd<;>simp[oe]at G
   exact Ck _ _ _
 |g n cs=>exact P2 λk=>Ck _ _ _
theorem Hq(h:A0 GR vs zs=true):
  All2 (RepE g w μ) zs vs/\(∀v∈vs,v.oneCell'=true)/\∀(i:Nat)z v,zs[i]?=some z->vs[i]?=some v->Am z v=none:=by
 have key:∀v d,GR v d=true->RepE g w μ d v/\v.oneCell'=true/\Am d v=none:=by
  intro v d G;unfold GR at G;split at G
  .exact⟨⟨none,rfl,Ac⟩,rfl,rfl⟩
  .exact⟨⟨.inl ⟨none,rfl,rfl,Ac⟩,λ_ _=>⟨none,rfl⟩⟩,rfl,rfl⟩
  .exact⟨Fw G,HD G,by simp[Am]⟩
  .cases G
 have J:All2 (λd v=>RepE g w μ d v/\v.oneCell'=true/\Am d v=none) zs vs:=Co (λv d h=>key v d h) h;refine⟨J.imp λ_ _ h=>h.1,λv W=>?_,λi z v Z W=>(J.2 i z v Z W).2.2⟩;obtain⟨i,hi,rfl⟩:=td.1 W;have U:i <zs.length:=J.1▸hi;exact(J.2 i _ _ (rW U) (rW hi)).2.1
def Gs.newRow{g:Gh}{w:World}{μ:List Nat}{s:St}{a:Act}{O:Nat->Prop}(hg:Gs GL N g w μ s a O){d:Nat}(hd:d <N){zs:List D}{vs:List Value}(T:TypeId)(U:All2 (RepE g w μ) zs vs)(J:∀v∈vs,v.oneCell'=true)(G:∀(i:Nat)z v,zs[i]?=some z->vs[i]?=some v->Am z v=none):
  Gs GL N g (w.alloc (.cells vs.toArray T)) (μ++[w.heap.size]) ⟨(d,.R s.h.length 0)::s.e,s.h++[.cells zs]⟩ (a.put (some d) (.pointer (some ⟨w.heap.size,0,none⟩))) O where
 inv:=by rw[D5 _ (hg.sz▸hd)];refine(hg.inv.newRow T U J G).set ⟨w.heap.size,?_,rfl⟩ λk=>Li _ _ _ _;rw[<-hg.inv.len];simp
 glob:=hg.glob
 sz:=by rw[BP,hg.sz]
theorem WS{d:Nat}(Z:o.dst=some d)(U:o.op= .alloc t)(hd:d <N)(J:Gt P t zs=true):EG P GL N o (.alloc d zs):=by
 intro g w μ s s' a O hg hs;simp only[AI.step,rV]at hs;subst hs;unfold Gt at J;split at J
 .rename_i z G;cases hit:P.info? t with
  |none=>simp[hit]at G
  |some it=>
   have W:it.zero=some z:=by simpa[hit]using G
   obtain⟨r1,r2,r3⟩:=Hq (g:=g) (w:=w) (μ:=μ) J;refine⟨_,_,g,_,.inl ?_,by rw[Z];exact hg.newRow hd t r1 r2 r3,CO _ g w _,tS _ _⟩;simp[execOp,U,Instr.alloc,zeroValue,typeInfo,hit,W,newVar,newRow]
 .cases J
theorem NW(h:RepE g w μ d v)(G:∀u,Am d u=none):RepE g w μ d.toRow v/\Am d.toRow v=none:=by
 cases d<;>first
  |exact⟨h,G v⟩
  |(obtain⟨a,rfl,J⟩:=h
    exact⟨⟨.inl ⟨a,rfl,rfl,J⟩,λ_ _=>⟨a,rfl⟩⟩,by cases a<;>simp[D.toRow,Am]⟩)
theorem N9(h:RepD g w μ d u){cs:List D}(hc:d.cells?=some cs):
  All2 (RepE g w μ) (cs.map D.toRow) u.cells.toList/\(∀v∈u.cells.toList,v.oneCell'=true)/\∀(i:Nat)z v,(cs.map D.toRow)[i]?=some z->u.cells.toList[i]?=some v->Am z v=none:=by
 obtain⟨J,h2,W⟩:=Vq h hc;refine⟨⟨by simp[J.1],λi x v hx U=>?_⟩,h2,λi z v Z U=>?_⟩
 .simp only[rk,rt]at hx;obtain⟨y,G,rfl⟩:=hx;exact(NW (J.2 i y v G U) (W y (rY G))).1
 .simp only[rk,rt]at Z;obtain⟨y,G,rfl⟩:=Z;exact(NW (J.2 i y v G U) (W y (rY G))).2
theorem bf{d:Nat}(W:o.dst=some d)(J:o.op= .box t x)(hd:d <N)(U:oe GL x q=true):EG P GL N o (.box d q):=by
 intro g w μ s s' a O hg hs;simp only[AI.step]at hs;split at hs
 .rename_i cs G;simp only[rV]at hs;subst hs;obtain⟨Z,r2,r3⟩:=N9 ((hg.gd P).ev U).copy G;refine⟨_,_,g,_,.inl ?_,by rw[W];exact hg.newRow hd t Z r2 r3,CO _ g w _,tS _ _⟩;simp[execOp,J,Instr.box,newVar,newRow]
 .cases hs
def Dy(O:Nat->Prop)(hg:Gs GL N g w μ s a O)(G:b∈μ):∀x,x=b->¬O x:=λx hx=>hx▸hg.inv.mo b G
theorem Uc{p':Opd}(ho:o.dst=none)(c6:o.op= .store t p x)(hp:oe GL p p'=true)(hk:oe GL x q=true)(c9:Bw P t n=true):
  EG P GL N o (.store p' q n):=by
 intro g w μ s s' a O hg hs;simp only[AI.step]at hs;have b9:=(hg.gd P).ev hp;have c8:=(hg.gd P).ev hk;split at hs
 .rename_i r a2 hc;rw[hc]at b9;obtain⟨b,hb,c7⟩:=b9;have b3:=rY hb;split at hs
  .rename_i ds hr;obtain⟨vs,T,a1,Z,b6,d3⟩:=hg.inv.row hb hr;have b1:∀u:Value,a.eval x=u->u.cells.size=n->a2+n<=vs.length->(∀v∈u.cells.toList,v.oneCell'=true)->
     (execOp a.eval o).run P w= .ok .skip (w.setRow b (AQ vs a2 u.cells.toList).toArray):=by
    intro u hu d2 hl h1;have b5:=run_storeCells_at P b a2 T u.cells.toList 0 vs.toArray w a1 Dd h1;simp only[uH]at b5;simp[execOp,c6,c7,hu,Instr.storeAt,Instr.sureAddr,storeVar,By c9,d2,AQ]at b5 ⊢;simp[b5]
   split at hs
   .rename_i e sz xs b0;split at hs
    .rename_i m;split at hs
     .rename_i U;obtain⟨a8,rfl⟩:=U;simp only[rV]at hs;subst hs;cases x with
      |tmp m'=>
       have:m'=m:=by simpa[oe]using hk
       subst this;have W:AK s.e m'= .W e sz xs:=by simpa[Opd.ev]using b0
       have a6:RepOwn g w e sz xs (a.tmps.getD m' undef):=by have:=hg.inv.rep m';rw[W]at this;exact this.1
       have J:(a.tmps.getD m' undef).oneCell'=true:=by rcases a6 with ⟨a',h,_⟩|⟨_,_,_,_,h,_⟩<;>rw[h]<;>rfl
       have G:(a.tmps.getD m' undef).cells= #[a.tmps.getD m' undef]:=HG J;have a7:=hg.inv.give hr hb a1 a8 W J;refine⟨undef,_,g,μ,.inr ⟨b1 (a.tmps.getD m' undef) rfl (by rw[G];rfl) (by rw[Z.1];omega) (by rw[G];simpa using J),rfl⟩,⟨?_,hg.glob,by rw[BP,hg.sz]⟩,?_,ro _⟩
       .rw[ho];refine Eq.mp ?_ a7
        congr 1
        .congr 1
         rw[G]
         congr 1
         have b4:a2 <vs.length:=by rw[Z.1];exact a8
         simp only[AQ,sF,t6];rw[uk,if_pos b4];simp
       .exact(Et g w b _).mono (Dy O hg b3)
      |const v=>simp[oe]at hk
      |global g=>simp[oe]at hk
      |func f=>simp[oe]at hk
     .cases hs
    .cases hs
   .rename_i bb e sz xs b0;split at hs
    .rename_i m;split at hs
     .rename_i U;obtain⟨a8,rfl⟩:=U;simp only[rV]at hs;subst hs;cases x with
      |tmp m'=>
       have:m'=m:=by simpa[oe]using hk
       subst this;have W:AK s.e m'= .pend bb e sz xs:=by simpa[Opd.ev]using b0
       have a6:RepE g w μ (.pend bb e sz xs) (a.tmps.getD m' undef):=by have:=hg.inv.rep m';rw[W]at this;exact this
       have J:(a.tmps.getD m' undef).oneCell'=true:=by obtain⟨cap,h,_⟩:=a6;rw[h];rfl
       have G:(a.tmps.getD m' undef).cells= #[a.tmps.getD m' undef]:=HG J;have a7:=hg.inv.giveD hr hb a1 a8 W a6 rfl J (d1:= .pptr bb 0 xs.length) (λw'=>by obtain⟨cap,h,_⟩:=a6;exact .inl ⟨rfl,cap,h⟩) (λj=>by cases j<;>simp[Ar,Am])
       refine⟨undef,_,g,μ,.inr ⟨b1 (a.tmps.getD m' undef) rfl (by rw[G];rfl) (by rw[Z.1];omega) (by rw[G];simpa using J),rfl⟩,⟨?_,hg.glob,by rw[BP,hg.sz]⟩,?_,ro _⟩
       .rw[ho];refine Eq.mp ?_ a7
        congr 1
        .congr 1
         rw[G]
         congr 1
         have b4:a2 <vs.length:=by rw[Z.1];exact a8
         simp only[AQ,sF,t6];rw[uk,if_pos b4];simp
       .exact(Et g w b _).mono (Dy O hg b3)
      |const v=>simp[oe]at hk
      |global g=>simp[oe]at hk
      |func f=>simp[oe]at hk
     .cases hs
    .cases hs
   .rename_i dd d4 _;split at hs
    .rename_i cs c3;split at hs
     .rename_i U;simp only[rV]at hs;subst hs;obtain⟨r1,r2,r3⟩:=N9 c8.copy c3;have b2:(a.eval x).cells.size=n:=by have:=r1.1;simp at this;omega
      have d5:vs.length=ds.length:=Z.1;have c0:cs.length=n:=U.1;refine⟨undef,_,g,μ,.inr ⟨b1 (a.eval x) rfl b2 AE r2,rfl⟩,⟨?_,hg.glob,by rw[BP,hg.sz]⟩,(Et g w b _).mono (Dy O hg b3),ro _⟩;rw[ho];refine hg.inv.storeRow hr hb a1 _ (AQ vs a2 (a.eval x).cells.toList) (Z.putL r1 a2) (λv hv=>(ME hv).elim (b6 v) (r2 v)) ?_;intro i z v hz hv;rw[GX _ _ _ Dd]at hz hv;have c4:(cs.map D.toRow).length=n:=by simp[c0]
      have c5:(a.eval x).cells.toList.length=n:=by simpa using b2
      rw[c4]at hz;rw[c5]at hv;by_cases c1:i <a2
      .simp only[c1,if_true]at hz hv;exact .inr ⟨hz,hv⟩
      .by_cases c2:i <a2+n
       .simp only[c1,c2,if_true,if_false]at hz hv;exact .inl (r3 _ z v hz hv)
       .simp only[c1,c2,if_false]at hz hv;exact .inr ⟨hz,hv⟩
     .cases hs
    .cases hs
  .cases hs
 .cases hs
theorem Wg{d el:Nat}{p':Opd}(ho:o.dst=some d)(a6:o.op= .load t p)(hd:d <N)(hp:oe GL p p'=true)(hu:P.underlying t=some (.slice el)):
  EG P GL N o (.take d p'):=by
 intro g w μ s s' a O hg hs;simp only[AI.step]at hs;have W:=(hg.gd P).ev hp;split at hs
 .rename_i r Z hc;rw[hc]at W;obtain⟨b,hb,a7⟩:=W;split at hs
  .rename_i ds hr;obtain⟨vs,T,G,U,a8,b0⟩:=hg.inv.row hb hr;split at hs
   .rename_i e sz xs hk;simp only[rV]at hs;subst hs;obtain⟨v,hv,_⟩:=U.get hk;have J:w.cell? ⟨b,Z,none⟩=some v:=by simp[World.cell?,G,hv]
    have a2:BT w μ r Z=v:=Dk hb G hv;refine⟨v,w,g,μ,.inl ?_,⟨?_,hg.glob,by rw[BP,hg.sz]⟩,Chg.refl _ _ _,ro _⟩
    .have a1:(isAgg t).run P w= .ok false w:=by simp[isAgg,run_underlying hu]
     simp[execOp,a6,a7,Instr.loadAt,Instr.sureAddr,loadVar,a1,J]
    .rw[ho,D5 _ (hg.sz▸hd),<-a2];exact hg.inv.take hr hk
   .cases hs
  .cases hs
 .cases hs
end
end
section
def Ba(n:Nat)(vs:Nat->Value):List Value:=(List.range n).flatMap λi=>(vs i).cells.toList
def Nw(n:Nat)(vs:Nat->Value):Ba (n+1) vs=Ba n vs++(vs n).cells.toList:=by simp[Ba,tF]
variable {n:Nat}
def DR{s:Nat}{vs:Nat->Value}(h:∀i,i <n->(vs i).cells.size=s):(Ba n vs).length=n*s:=by
 induction n with
 |zero=>simp[Ba]
 |succ n ih=>rw[Nw,re,ih λi hi=>h i AE,sm];simp[h n AE]
variable {i j:Nat}
def FA{s:Nat}{vs:Nat->Value}(h:∀i,i <n->(vs i).cells.size=s)(hi:i <n)(U:j <s):(Ba n vs)[i*s+j]?=(vs i).cells.toList[j]?:=by
 induction n with
 |zero=>omega
 |succ n ih=>
  have G:=DR λi(hi:i <n)=>h i AE;rw[Nw];by_cases J:i <n
  .have:i*s+j <n*s:=by have:(i+1)*s<=n*s:=t7 s J;rw[sm]at this;omega
   rw[sI (by rw[G];exact this)];exact ih (λi hi=>h i AE) J
  .have:i=n:=AE;subst this;rw[sO (by rw[G];omega),G]
   congr 1;omega
variable {v:Value}
def Jx{vs:Nat->Value}(h:v∈Ba n vs):∃i,i <n/\v∈(vs i).cells.toList:=by simp only[Ba,sj,sM]at h;exact h
def O9{s:Nat}{vs:Nat->Value}(hs:0 <s)(h:∀i,i <n->(vs i).cells.size=s){f:Nat->Option Value}{o:Nat}(Z:∀i,i <n->∀(j:Nat)v,(vs i).cells.toList[j]?=some v->f (o+i*s+j)=some v):∀(k:Nat)v,(Ba n vs)[k]?=some v->f (o+k)=some v:=by
 intro k v G;have hl:=DR h;have U:=(rZ.1 G).1;rw[hl]at U;have W:k/s <n:=Nat.div_lt_of_lt_mul (by rw[Nat.mul_comm];exact U);have hm:=Nat.mod_lt k hs;have J:k/s*s+k%s=k:=by rw[Nat.mul_comm];exact Nat.div_add_mod k s
 rw[<-J,FA h W hm]at G;have:=Z _ W _ v G
 rwa [Nat.add_assoc,J]at this
variable {src:Value} {by_ cap len t ty:Nat} {w:World} {xs:List V} {q:Opd} {x:Operand} {O:Nat->Prop} {a:Act} {s:St} {μ:List Nat} {g:Gh}
section
variable {P:Program} {GL:Ai} {N:Nat}
structure Src (P:Program) (w:World) (size:Nat) (src:Value) (n:Nat) (newc:List Value):Prop where
 len:∀w',(Builtin.lenOf src).run P w'= .ok n w'
 cells:(Builtin.firstCells size n src).run P w= .ok newc.toArray w
 drew:(Builtin.firstCells size n src).run P w.drew= .ok newc.toArray w.drew
def JS{t2 e:Nat}{i:TypeInfo}{U:TypeDesc}(ht:P.underlying t=some (.slice e))(Z:P.underlying t2=some U)(W:∀k,U≠ .int k)(hi:P.info? e=some i){J:List Value}(G:Src P w i.size src 0 J)(hn:J=[])(base:Option Addr)(len cap:Nat)(hc:len<=cap):
  (Builtin.append_ #[t,t2] ty #[.slice base len cap,src]).run P w= .ok (.slice base len cap) w:=by
 have hz:(match (generalizing:=false) U with| .int _=>true|_=>false)=false:=by cases U<;>first|rfl|exact absurd rfl (W _)
 cases base<;>simp[Builtin.append_,run_underlying ht,run_underlying Z,sizeOf,typeInfo,hi,hz,G.len,G.cells,hc,hn,storeCells]
def JT{t2 e:Nat}{i:TypeInfo}{d2:TypeDesc}(ht:P.underlying t=some (.slice e))(a7:P.underlying t2=some d2)(a6:∀k,d2≠ .int k)(hi:P.info? e=some i){G:List Value}(U:Src P w i.size src n G){g:Nat}{J:Array Value}(hg:w.heap[g]?=some (.cells J e (0,0)))(W:len+n<=cap)(a1:len*i.size+G.length<=J.size)(h1:∀v∈G,v.oneCell'=true):
  (Builtin.append_ #[t,t2] ty #[.slice (some ⟨g,0,none⟩) len cap,src]).run P w=
   .ok (.slice (some ⟨g,0,none⟩) (len+n) cap) (w.setRow g (AQ J.toList (len*i.size) G).toArray):=by
 have hz:(match (generalizing:=false) d2 with| .int _=>true|_=>false)=false:=by cases d2<;>first|rfl|exact absurd rfl (a6 _)
 have a2:=run_storeCells_at P g (len*i.size) e G 0 J w hg (by simpa using a1) h1;simp only[uH]at a2;have Z:(⟨g,0,none⟩:Addr).add (len*i.size)=⟨g,len*i.size,none⟩:=by rw[Cz rfl];simp
 simp[Builtin.append_,run_underlying ht,run_underlying a7,sizeOf,typeInfo,hi,hz,U.len,U.cells,W,Z,a2,AQ]
def Gw{t2 e:Nat}{i:TypeInfo}{z:Value}{Z:TypeDesc}(ht:P.underlying t=some (.slice e))(a2:P.underlying t2=some Z)(a1:∀k,Z≠ .int k)(hi:P.info? e=some i)(hz:i.zero=some z){J:List Value}(G:Src P w i.size src n J){base:Option Addr}{olds:List Value}(hold:∀w',(∀b o,w'.cell? ⟨b,o,none⟩=w.cell? ⟨b,o,none⟩)->(Builtin.firstCells i.size len (.slice base len cap)).run P w'= .ok olds.toArray w')(b0:cap <len+n)(a8:((len+n:Nat):Int)<=9223372036854775807)(a7:Builtin.nextslicecap (len+n) cap*i.bytes<=281474976710656):
  (Builtin.append_ #[t,t2] ty #[.slice base len cap,src]).run P w=
   .ok (.slice (some ⟨w.heap.size,0,none⟩) (len+n) (grownCap w (len+n) cap e))
    (w.drew.alloc (.cells (olds.toArray++J.toArray++Builtin.zeroCells z.cells (grownCap w (len+n) cap e-(len+n))) e)):=by
 have a6:(match (generalizing:=false) Z with| .int _=>true|_=>false)=false:=by cases Z<;>first|rfl|exact absurd rfl (a1 _)
 have hn:¬(len+n<=cap):=AE;have W:¬(9223372036854775807 <((len:Int)+(n:Int))):=AE;have U:¬(281474976710656 <Builtin.nextslicecap (len+n) cap*i.bytes):=AE;have ho:=hold w.drew λ_ _=>rfl;simp[Builtin.append_,run_underlying ht,run_underlying a2,sizeOf,typeInfo,zeroValue,hi,hz,a6,G.len,hn,W,U,Question.forced,ho,G.drew,newRow,grownCap];rw[<-Array.append_assoc];simp
def I9(h:AV n by_=true)(hc:cap <n):((n:Nat):Int)<=9223372036854775807/\Builtin.nextslicecap n cap*by_<=281474976710656:=by simp only[AV,decide_eq_true_eq]at h;exact⟨AE,growslice_fits hc h.1⟩
theorem Qu(hg:Gs GL N g w μ s a O){t2 e:Nat}{i:TypeInfo}{z:Value}{d2:TypeDesc}(ht:P.underlying t=some (.slice e))(e5:P.underlying t2=some d2)(e1:∀k,d2≠ .int k)(hi:P.info? e=some i)(hz:i.zero=some z)(i6:z.cells.size=i.size)(i0:0 <i.size)(hk:oe GL x q=true)(hx:EC e i.size (q.ev s.e)=some xs)(h8:∀e' s' J,q.ev s.e= .W e' s' J->(∃m,q= .t m true)\/a.eval x= .slice none 0 0){J:List V}{vy:Nat->Value}(c7:Src P w i.size src J.length (Ba J.length vy))(g3:∀j y,J[j]?=some y->RepV g y (vy j))(b3:∀j,j <J.length->(vy j).cells.size=i.size)(i5:∀j,j <J.length->∀v∈(vy j).cells.toList,v.oneCell'=true)(e4:AV (xs.length+J.length) i.bytes=true){d:Nat}(hd:d <N):
  ∃v U g',(Builtin.append_ #[t,t2] ty #[a.eval x,src]).run P w= .ok v U/\Gs GL N g' U μ ⟨(d,.W e i.size (xs++J))::q.clear s.e,s.h⟩ (a.put (some d) v) O/\Chg (λb=>¬O b) g w g' U:=by
 have d3:(Ba J.length vy).length=J.length*i.size:=DR b3;have h3:∀v∈Ba J.length vy,v.oneCell'=true:=λv hv=>by obtain⟨j,hj,hm⟩:=Jx hv;exact i5 j hj v hm
 have c9:AK (q.clear s.e)=AK s.e\/∃m,q= .t m true/\AK (q.clear s.e)=λn=>if m=n then (AK s.e m).copy else AK s.e n:=by
  cases q with
  |t m mv=>cases mv with
   |false=>exact .inl rfl
   |true=>exact .inr ⟨m,rfl,rfl⟩
  |c d=>exact .inl rfl
  |g n cs=>exact .inl rfl
 have b6:Inv g w μ (AK (q.clear s.e)) (λn=>a.tmps.getD n undef) s.h O:=by
  rcases c9 with h|⟨m,_,h⟩
  .rw[h];exact hg.inv
  .rw[h];refine hg.inv.weaken _ λn=>?_;by_cases hn:m=n
   .subst hn;exact .inr ⟨λv h=>by simpa using RepD.copy h,λv k=>by simpa using CN _ v k⟩
   .exact .inl (by simp[hn])
 have d7:∀(base:Option Addr)(cap:Nat)(olds:List Value)(vs:Nat->Value),a.eval x= .slice base xs.length cap->cap <xs.length+J.length->
   (∀j y,xs[j]?=some y->RepV g y (vs j))->(∀j,j <xs.length->(vs j).cells.size=i.size)->olds=Ba xs.length vs->
   (∀U,(∀b o,U.cell? ⟨b,o,none⟩=w.cell? ⟨b,o,none⟩)->(Builtin.firstCells i.size xs.length (.slice base xs.length cap)).run P U= .ok olds.toArray U)->
   ∃v U g',(Builtin.append_ #[t,t2] ty #[a.eval x,src]).run P w= .ok v U/\Gs GL N g' U μ ⟨(d,.W e i.size (xs++J))::q.clear s.e,s.h⟩ (a.put (some d) v) O/\Chg (λb=>¬O b) g w g' U:=by
  intro base cap olds vs Z d4 d5 a6 g1 hold;obtain⟨f3,a8⟩:=I9 e4 d4;have c5:=Gw (ty:=ty) ht e5 e1 hi hz c7 hold d4 f3 a8;have h4:=grownCap_ge w (xs.length+J.length) cap e;have b0:olds.length=xs.length*i.size:=by rw[g1];exact DR a6
  have g9:(olds++Ba J.length vy).length=(xs.length+J.length)*i.size:=by rw[re,b0,d3,sm]
  let U:=w.drew.alloc (.cells (olds.toArray++(Ba J.length vy).toArray++Builtin.zeroCells z.cells (grownCap w (xs.length+J.length) cap e-(xs.length+J.length))) e)
  let g':=g.put w.heap.size 0 (olds++Ba J.length vy)
  have c1:∀o,g.m w.heap.size o=none:=λo=>Gh.lt_of hg.inv.agree (ri _) o;have a1:g.le g':=Gh.le_put _ λo _ _=>c1 o;have a2:U.heap[w.heap.size]?=some (.cells (olds.toArray++(Ba J.length vy).toArray++Builtin.zeroCells z.cells (grownCap w (xs.length+J.length) cap e-(xs.length+J.length))) e (0,0)):=
   heap_alloc_new w.drew _
  have a7:Chg (λ_=>False) g w g' U:=
   ⟨a1,by simp[U],λb hb _=>heap_alloc_old w.drew _ b hb,λb hb _ o=>Gh.put_other AE o,rfl,rfl⟩
  have d9:∀b o v,g'.m b o=some v->U.cell? ⟨b,o,none⟩=some v:=by
   intro b o v hv;simp only[g',Gh.put]at hv;split at hv
   .rename_i hc;obtain⟨rfl,_,g8⟩:=hc;simp only[ul]at hv;rw[cell_of_row U w.heap.size o _ e (0,0) a2];simp only[<-su,Array.toList_append,rn];rw[<-rn,sI (by simpa using g8)];exact hv
   .exact Dl (w:=w.drew) hg.inv.agree _ b o v hv
  have c3:RepOwn g' U e i.size (xs++J) (.slice (some ⟨w.heap.size,0,none⟩) (xs.length+J.length) (grownCap w (xs.length+J.length) cap e)):=by
   refine .inr ⟨w.heap.size,_,_,λj=>if j <xs.length then vs j else vy (j-xs.length),by rw[re],AE,a2,by rw[re];exact h4,?_,?_,?_,?_⟩
   .simp only[Array.size_append,uI,size_zeroCells,i6,b0,d3,<-sm]
    congr 1;omega
   .intro j y hj;by_cases W:j <xs.length
    .simp only[W,if_true];rw[sI W]at hj;exact(d5 j y hj).mono a1
    .simp only[W,if_false];rw[sO AE]at hj;exact(g3 _ y hj).mono a1
   .intro j hj;rw[re]at hj;by_cases W:j <xs.length
    .simp only[W,if_true];refine⟨a6 j W,λk v hv=>?_⟩;have hk:=(rZ.1 hv).1;have c0:k <i.size:=by have:=a6 j W;simp at hk;omega
     have:=Gh.put_at g w.heap.size 0 (olds++Ba J.length vy) (j*i.size+k) v (by
      have hb:j*i.size+k <xs.length*i.size:=by have:(j+1)*i.size<=xs.length*i.size:=t7 _ W;rw[sm]at this;omega
      rw[sI (by rw[b0];exact hb),g1,FA a6 W c0];exact hv)
     simpa using this
    .simp only[W,if_false];have b2:j-xs.length <J.length:=AE;refine⟨b3 _ b2,λk v hv=>?_⟩;have hk:=(rZ.1 hv).1;have c0:k <i.size:=by have:=b3 _ b2;simp at hk;omega
     have f9:j*i.size=xs.length*i.size+(j-xs.length)*i.size:=by rw[<-sm];congr 1;omega
     have:=Gh.put_at g w.heap.size 0 (olds++Ba J.length vy) (j*i.size+k) v (by rw[sO (by rw[b0];omega),b0,show j*i.size+k-xs.length*i.size=(j-xs.length)*i.size+k by omega,FA b3 b2 c0];exact hv)
     simpa using this
   .intro o ho;simp only[g',Gh.put];rw[if_neg,c1 o];rw[g9];rw[re]at ho;omega
  refine⟨_,U,g',by rw[Z];exact c5,⟨?_,hg.glob.mono a1,by rw[BP,hg.sz]⟩,a7.mono λ_ h=>h.elim⟩;rw[D5 _ (hg.sz▸hd)];refine b6.newOwn a7 d9 c3 (λh _=>by rw[<-re,h]at d4;simp at d4) λb hb=>?_;simp only[Am]at hb;split at hb
  .cases hb
  .simp only[rV]at hb;omega
 have g4:∀(base:Option Addr)(cap:Nat),a.eval x= .slice base xs.length cap->xs.length<=cap->J=[]->
   (Gs GL N g w μ ⟨(d,.W e i.size (xs++J))::q.clear s.e,s.h⟩ (a.put (some d) (a.eval x)) O)->
   ∃v U g',(Builtin.append_ #[t,t2] ty #[a.eval x,src]).run P w= .ok v U/\Gs GL N g' U μ ⟨(d,.W e i.size (xs++J))::q.clear s.e,s.h⟩ (a.put (some d) v) O/\Chg (λb=>¬O b) g w g' U:=by
  intro base cap Z hc c8 h5;subst c8;exact⟨a.eval x,w,g,by rw[Z];exact JS ht e5 e1 hi c7 rfl base _ _ hc,h5,Chg.refl _ _ _⟩
 have b5:∀base:Option Addr,a.eval x= .slice base 0 0->xs=[]->(∀y,base=some y->y.spot=none)->
   ∃v U g',(Builtin.append_ #[t,t2] ty #[a.eval x,src]).run P w= .ok v U/\Gs GL N g' U μ ⟨(d,.W e i.size (xs++J))::q.clear s.e,s.h⟩ (a.put (some d) v) O/\Chg (λb=>¬O b) g w g' U:=by
  intro base Z e9 c6;subst e9;by_cases c8:J=[]
  .refine g4 base 0 Z (ri _) c8 ⟨?_,hg.glob,by rw[BP,hg.sz]⟩;rw[D5 _ (hg.sz▸hd),Z];subst c8;refine b6.set (x:= .W e i.size []) ⟨.inl ⟨base,rfl,rfl,c6⟩,λ_ _=>⟨base,rfl⟩⟩ λk=>?_;cases k<;>cases base<;>simp[Ar,Am]
  .have g2:0 <J.length:=List.length_pos_iff.2 c8;refine d7 base 0 [] (λ_=> .bool true) Z (by simpa using g2) Ac Ac (by simp[Ba]) λU _=>?_;cases base<;>simp[Builtin.firstCells,loadCells,loadCellsFrom]
 have c4:=(hg.gd P).ev hk;unfold EC at hx;split at hx
 .rename_i e' s' G c2;split at hx
  .rename_i h0;obtain⟨rfl,rfl⟩:=h0;simp only[rV]at hx;subst hx;rw[c2]at c4;have g0:=c4.2;rcases c4.1 with ⟨base,Z,e9,c6⟩|⟨b,cap,d8,vs,Z,f1,a2,i7,f2,d5,a6,e7⟩
   .exact b5 base Z e9 c6
   .have hold:∀U,(∀b o,U.cell? ⟨b,o,none⟩=w.cell? ⟨b,o,none⟩)->(Builtin.firstCells i.size G.length (.slice (some ⟨b,0,none⟩) G.length cap)).run P U= .ok (Ba G.length vs).toArray U:=by intro U i4;refine run_firstCells_some (P:=P) U i.size G.length ⟨b,0,none⟩ _ _ _ (DR λj hj=>(a6 j hj).1) λk v hv=>?_;rw[Cz rfl,i4];refine O9 (f:=λo=>w.cell? ⟨b,o,none⟩) (o:=0) i0 (λj hj=>(a6 j hj).1) (λj hj k v hv=>?_) k v hv;have:=hg.inv.agree b _ v ((a6 j hj).2 k v hv);simpa using this
    by_cases e3:G.length+J.length<=cap
    .rcases h8 e' i.size G c2 with ⟨m,rfl⟩|hnil
     .cases x with
      |tmp m'=>
       have h7:m'=m:=by simpa[oe]using hk
       subst h7;have b9:AK s.e m'= .W e' i.size G:=by simpa[Opd.ev]using c2
       have d6:a.tmps.getD m' undef= .slice (some ⟨b,0,none⟩) G.length cap:=Z;have g6:Am (AK s.e m') (a.tmps.getD m' undef)=some b:=by rw[b9,d6];simp[Am];omega
       have h9:G++J=[]->e'≠84->∃a:Option Addr,Value.slice (some ⟨b,0,none⟩) (G.length+J.length) cap= .slice a 0 0:=λh g5=>by obtain⟨a',f0⟩:=g0 (List.append_eq_nil_iff.1 h).1 g5;rw[Z]at f0;simp at f0;omega
       have a8:G.length*i.size+(Ba J.length vy).length<=d8.size:=by rw[d3,f2,<-sm];exact t7 _ e3
       have c5:=JT (ty:=ty) ht e5 e1 hi c7 a2 e3 a8 h3
       let U:=w.setRow b (AQ d8.toList (G.length*i.size) (Ba J.length vy)).toArray
       let g':=g.put b (G.length*i.size) (Ba J.length vy)
       have a1:g.le g':=Gh.le_put _ λo h1 _=>e7 o h1;have b4:U.heap[b]?=some (.cells (AQ d8.toList (G.length*i.size) (Ba J.length vy)).toArray e' (0,0)):=setRow_heap w b _ _ _ _ a2;have a7:Chg (λz=>z=b) g w g' U:=⟨a1,by simp[U],λb' _ b1=>setRow_other w b b' _ b1,λb' _ b1 o=>Gh.put_other b1 o,rfl,rfl⟩;have d9:∀b' o v,g'.m b' o=some v->U.cell? ⟨b',o,none⟩=some v:=by
        intro b' o v hv;by_cases b1:b'=b
        .subst b1;rw[cell_of_row U b' o _ _ _ b4,<-su,uT,GX _ _ _ (by simpa using a8)];simp only[g',Gh.put]at hv;split at hv
         .rename_i hc;rw[Bj,if_pos hc.2.2];exact hv
         .rename_i hc;have g7:o <G.length*i.size:=by
           rcases sL o (G.length*i.size)with h|h
           .exact h
           .rw[e7 o h]at hv;cases hv
          rw[if_pos g7];have:=hg.inv.agree b' o v hv;rw[cell_of_row w b' o _ _ _ a2]at this;rw[su];exact this
        .simp only[g',Gh.put_other b1]at hv;rw[World.cell?_of_block (a:=⟨b',o,none⟩) (setRow_other w b b' _ b1)];exact hg.inv.agree b' o v hv
       have c3:RepOwn g' U e' i.size (G++J) (.slice (some ⟨b,0,none⟩) (G.length+J.length) cap):=by
        refine .inr ⟨b,_,_,λj=>if j <G.length then vs j else vy (j-G.length),by rw[re],f1,b4,by rw[re];exact e3,?_,?_,?_,?_⟩
        .simp only[uI];rw[F9 _ _ _ (by simpa using a8)];simpa using f2
        .intro j y hj;by_cases W:j <G.length
         .simp only[W,if_true];rw[sI W]at hj;exact(d5 j y hj).mono a1
         .simp only[W,if_false];rw[sO AE]at hj;exact(g3 _ y hj).mono a1
        .intro j hj;rw[re]at hj;by_cases W:j <G.length
         .simp only[W,if_true];exact⟨(a6 j W).1,(a6 j W).2.mono a1⟩
         .simp only[W,if_false];have b2:j-G.length <J.length:=AE;refine⟨b3 _ b2,λk v hv=>?_⟩;have hk:=(rZ.1 hv).1;have c0:k <i.size:=by have:=b3 _ b2;simp at hk;omega
          have f9:j*i.size=G.length*i.size+(j-G.length)*i.size:=by rw[<-sm];congr 1;omega
          have:=Gh.put_at g b (G.length*i.size) (Ba J.length vy) ((j-G.length)*i.size+k) v (by rw[FA b3 b2 c0];exact hv)
          rwa [<-Nat.add_assoc,<-f9]at this
        .intro o ho;rw[re,sm]at ho;simp only[g',Gh.put];rw[if_neg (by rw[d3];omega)];exact e7 o AE
       refine⟨_,U,g',by rw[Z];exact c5,⟨?_,hg.glob.mono a1,by rw[BP,hg.sz]⟩,a7.mono λz hz ho=>?_⟩
       .rw[D5 _ (hg.sz▸hd)];have e2:AK ((d,D.W e' i.size (G++J))::Opd.clear s.e (.t m' true))=λn=>if d=n then .W e' i.size (G++J) else if m'=n then (AK s.e m').copy else AK s.e n:=rfl;rw[e2];exact hg.inv.growOwn (n:=m') g6 a7 d9 c3 h9 (by simp[Am];omega)
       .subst hz;exact(hg.inv.sep (.tmp m' 0) z (by simp only[Cm,b9,d6,Ar,Am];rw[Bj])).2 ho
      |const v=>simp[oe]at hk
      |global g=>simp[oe]at hk
      |func f=>simp[oe]at hk
     .rw[hnil]at Z;cases Z
    .exact d7 _ cap _ vs Z AE d5 (λj hj=>(a6 j hj).1) rfl hold
  .cases hx
 .rename_i e' s' c2;simp only[rV]at hx;rw[c2]at c4;obtain⟨base,Z,c6⟩:=c4;exact b5 base Z hx.symm c6
 .cases hx
theorem UD(hg:Gs GL N g w μ s a O){t2 e:Nat}{i:TypeInfo}{z:Value}{d2:TypeDesc}(ht:P.underlying t=some (.slice e))(e5:P.underlying t2=some d2)(d8:∀k,d2≠ .int k)(hi:P.info? e=some i)(hz:i.zero=some z)(g7:z.cells.size=i.size)(g3:0 <i.size)(hk:oe GL x q=true)(hx:EC e i.size (q.ev s.e)=some xs)(g2:∀e' s' ys,q.ev s.e= .W e' s' ys->(∃m,q= .t m true)\/a.eval x= .slice none 0 0){vy:Nat->Value}(c4:Src P w i.size src 1 (Ba 1 vy))(g6:∀j,j <1->(vy j).cells.size=i.size)(g5:∀j,j <1->∀v∈(vy j).cells.toList,v.oneCell'=true)(d4:AV (xs.length+1) i.bytes=true){d:Nat}(hd:d <N):
  ∃v G g' b,(Builtin.append_ #[t,t2] ty #[a.eval x,src]).run P w= .ok v G/\Gs GL N g' G μ ⟨(d,.pend b e i.size xs)::q.clear s.e,s.h⟩ (a.put (some d) v) O/\Chg (λb=>¬O b) g w g' G:=by
 have e1:(Ba 1 vy).length=1*i.size:=DR g6;have f3:∀v∈Ba 1 vy,v.oneCell'=true:=λv hv=>by obtain⟨j,hj,hm⟩:=Jx hv;exact g5 j hj v hm
 have b9:AK (q.clear s.e)=AK s.e\/∃m,q= .t m true/\AK (q.clear s.e)=λn=>if m=n then (AK s.e m).copy else AK s.e n:=by
  cases q with
  |t m mv=>cases mv with
   |false=>exact .inl rfl
   |true=>exact .inr ⟨m,rfl,rfl⟩
  |c d=>exact .inl rfl
  |g n cs=>exact .inl rfl
 have c7:Inv g w μ (AK (q.clear s.e)) (λn=>a.tmps.getD n undef) s.h O:=by
  rcases b9 with h|⟨m,_,h⟩
  .rw[h];exact hg.inv
  .rw[h];refine hg.inv.weaken _ λn=>?_;by_cases hn:m=n
   .subst hn;exact .inr ⟨λv h=>by simpa using RepD.copy h,λv k=>by simpa using CN _ v k⟩
   .exact .inl (by simp[hn])
 have c5:∀(base:Option Addr)(cap:Nat)(olds:List Value)(vs:Nat->Value),a.eval x= .slice base xs.length cap->cap <xs.length+1->
   (∀j y,xs[j]?=some y->RepV g y (vs j))->(∀j,j <xs.length->(vs j).cells.size=i.size)->olds=Ba xs.length vs->
   (∀G,(∀b o,G.cell? ⟨b,o,none⟩=w.cell? ⟨b,o,none⟩)->(Builtin.firstCells i.size xs.length (.slice base xs.length cap)).run P G= .ok olds.toArray G)->
   ∃v G g' b,(Builtin.append_ #[t,t2] ty #[a.eval x,src]).run P w= .ok v G/\Gs GL N g' G μ ⟨(d,.pend b e i.size xs)::q.clear s.e,s.h⟩ (a.put (some d) v) O/\Chg (λb=>¬O b) g w g' G:=by
  intro base cap olds vs U e3 c1 Z e4 hold;obtain⟨d9,a2⟩:=I9 d4 e3;have b6:=Gw (ty:=ty) ht e5 d8 hi hz c4 hold e3 d9 a2;have f9:=grownCap_ge w (xs.length+1) cap e;have c3:olds.length=xs.length*i.size:=by rw[e4];exact DR Z
  let G:=w.drew.alloc (.cells (olds.toArray++(Ba 1 vy).toArray++Builtin.zeroCells z.cells (grownCap w (xs.length+1) cap e-(xs.length+1))) e)
  let g':=g.put w.heap.size 0 olds
  have b2:∀o,g.m w.heap.size o=none:=λo=>Gh.lt_of hg.inv.agree (ri _) o;have b1:g.le g':=Gh.le_put _ λo _ _=>b2 o;have W:G.heap[w.heap.size]?=some (.cells (olds.toArray++(Ba 1 vy).toArray++Builtin.zeroCells z.cells (grownCap w (xs.length+1) cap e-(xs.length+1))) e (0,0)):=
   heap_alloc_new w.drew _
  have a1:Chg (λ_=>False) g w g' G:=
   ⟨b1,by simp[G],λb hb _=>heap_alloc_old w.drew _ b hb,λb hb _ o=>Gh.put_other AE o,rfl,rfl⟩
  have c8:∀b o v,g'.m b o=some v->G.cell? ⟨b,o,none⟩=some v:=by
   intro b o v hv;simp only[g',Gh.put]at hv;split at hv
   .rename_i hc;obtain⟨rfl,_,f1⟩:=hc;simp only[ul]at hv;rw[cell_of_row G w.heap.size o _ e (0,0) W];simp only[<-su,Array.toList_append,rn];rw[sI (by simpa using f1)];simpa using hv
   .exact Dl (w:=w.drew) hg.inv.agree _ b o v hv
  have b4:RepOwn g' G e i.size xs (.slice (some ⟨w.heap.size,0,none⟩) xs.length (grownCap w (xs.length+1) cap e)):=by
   refine .inr ⟨w.heap.size,_,_,vs,rfl,AE,W,AE,?_,?_,?_,?_⟩
   .simp only[Array.size_append,uI,size_zeroCells,g7,c3,e1,<-sm]
    congr 1;omega
   .intro j y hj;exact(c1 j y hj).mono b1
   .intro j c9;refine⟨Z j c9,λk v hv=>?_⟩;have hk:=(rZ.1 hv).1;have g0:k <i.size:=by have:=Z j c9;simp at hk;omega
    have:=Gh.put_at g w.heap.size 0 olds (j*i.size+k) v (by rw[e4,FA Z c9 g0];exact hv);simpa using this
   .intro o ho;simp only[g',Gh.put];rw[if_neg,b2 o];rw[c3];omega
  refine⟨_,G,g',w.heap.size,by rw[U];exact b6,⟨?_,hg.glob.mono b1,by rw[BP,hg.sz]⟩,a1.mono λ_ h=>h.elim⟩;rw[D5 _ (hg.sz▸hd)];exact c7.newD (d0:= .pend w.heap.size e i.size xs) a1 c8 ⟨_,rfl,f9,b4⟩ (λk=>by cases k<;>rfl) λb hb=>by simp only[Am,rV]at hb;omega
 have b5:=(hg.gd P).ev hk;have a7:∀base:Option Addr,a.eval x= .slice base 0 0->xs=[]->(∀y,base=some y->y.spot=none)->
   ∃v G g' b,(Builtin.append_ #[t,t2] ty #[a.eval x,src]).run P w= .ok v G/\Gs GL N g' G μ ⟨(d,.pend b e i.size xs)::q.clear s.e,s.h⟩ (a.put (some d) v) O/\Chg (λb=>¬O b) g w g' G:=by
  intro base U d5 c0;subst d5;refine c5 base 0 [] (λ_=> .bool true) U Ac Ac Ac (by simp[Ba]) λG _=>?_;cases base<;>simp[Builtin.firstCells,loadCells,loadCellsFrom]
 unfold EC at hx;split at hx
 .rename_i e' s' J b3;split at hx
  .rename_i f2;obtain⟨rfl,rfl⟩:=f2;simp only[rV]at hx;subst hx;rw[b3]at b5;have g8:=b5.2;rcases b5.1 with ⟨base,U,d5,c0⟩|⟨b,cap,c6,vs,U,d6,W,g9,d7,c1,Z,e7⟩
   .exact a7 base U d5 c0
   .have hold:∀G,(∀b o,G.cell? ⟨b,o,none⟩=w.cell? ⟨b,o,none⟩)->(Builtin.firstCells i.size J.length (.slice (some ⟨b,0,none⟩) J.length cap)).run P G= .ok (Ba J.length vs).toArray G:=by intro G g4;refine run_firstCells_some (P:=P) G i.size J.length ⟨b,0,none⟩ _ _ _ (DR λj hj=>(Z j hj).1) λk v hv=>?_;rw[Cz rfl,g4];refine O9 (f:=λo=>w.cell? ⟨b,o,none⟩) (o:=0) g3 (λj hj=>(Z j hj).1) (λj hj k v hv=>?_) k v hv;have:=hg.inv.agree b _ v ((Z j hj).2 k v hv);simpa using this
    by_cases d3:J.length+1<=cap
    .rcases g2 e' i.size J b3 with ⟨m,rfl⟩|hnil
     .cases x with
      |tmp m'=>
       have g1:m'=m:=by simpa[oe]using hk
       subst g1;have b0:AK s.e m'= .W e' i.size J:=by simpa[Opd.ev]using b3
       have c2:a.tmps.getD m' undef= .slice (some ⟨b,0,none⟩) J.length cap:=U;have e9:Am (AK s.e m') (a.tmps.getD m' undef)=some b:=by rw[b0,c2];simp[Am];omega
       have a2:J.length*i.size+(Ba 1 vy).length<=c6.size:=by rw[e1,d7,<-sm];exact t7 _ d3
       have b6:=JT (ty:=ty) ht e5 d8 hi c4 W d3 a2 f3
       let G:=w.setRow b (AQ c6.toList (J.length*i.size) (Ba 1 vy)).toArray
       have a6:G.heap[b]?=some (.cells (AQ c6.toList (J.length*i.size) (Ba 1 vy)).toArray e' (0,0)):=setRow_heap w b _ _ _ _ W;have a1:Chg (λz=>z=b) g w g G:=⟨Gh.le.refl g,by simp[G],λb' _ a8=>setRow_other w b b' _ a8,λb' _ a8 o=>rfl,rfl,rfl⟩;have c8:∀b' o v,g.m b' o=some v->G.cell? ⟨b',o,none⟩=some v:=by
        intro b' o v hv;by_cases a8:b'=b
        .subst a8;rw[cell_of_row G b' o _ _ _ a6,<-su,uT,GX _ _ _ (by simpa using a2)];have f0:o <J.length*i.size:=by
          rcases sL o (J.length*i.size)with h|h
          .exact h
          .rw[e7 o h]at hv;cases hv
         rw[if_pos f0];have:=hg.inv.agree b' o v hv;rw[cell_of_row w b' o _ _ _ W]at this;rw[su];exact this
        .rw[World.cell?_of_block (a:=⟨b',o,none⟩) (setRow_other w b b' _ a8)];exact hg.inv.agree b' o v hv
       have b4:RepOwn g G e' i.size J (.slice (some ⟨b,0,none⟩) J.length cap):=by refine .inr ⟨b,_,_,vs,rfl,d6,a6,AE,?_,c1,Z,e7⟩;simp only[uI];rw[F9 _ _ _ (by simpa using a2)];simpa using d7
       refine⟨_,G,g,b,by rw[U];exact b6,⟨?_,hg.glob,by rw[BP,hg.sz]⟩,a1.mono λz hz ho=>?_⟩
       .rw[D5 _ (hg.sz▸hd)];have e2:AK ((d,D.pend b e' i.size J)::Opd.clear s.e (.t m' true))=λn=>if d=n then .pend b e' i.size J else if m'=n then (AK s.e m').copy else AK s.e n:=rfl;rw[e2];exact hg.inv.growD (n:=m') (d0:= .pend b e' i.size J) e9 a1 c8 ⟨_,rfl,d3,b4⟩ (λk=>by cases k<;>rfl) rfl
       .subst hz;exact(hg.inv.sep (.tmp m' 0) z (by simp only[Cm,b0,c2,Ar,Am];rw[Bj])).2 ho
      |const v=>simp[oe]at hk
      |global g=>simp[oe]at hk
      |func f=>simp[oe]at hk
     .rw[hnil]at U;cases U
    .exact c5 _ cap _ vs U AE c1 (λj hj=>(Z j hj).1) rfl hold
  .cases hx
 .rename_i e' s' b3;simp only[rV]at hx;rw[b3]at b5;obtain⟨base,U,c0⟩:=b5;exact a7 base U hx.symm c0
 .cases hx
end
end
section
variable {u:Value} {w:World} {g:Gh} {by_ n t:Nat} {q:Opd} {x y:Operand} {O:Nat->Prop} {a:Act} {s:St} {μ:List Nat} {o:Oper}
section
variable {P:Program} {GL:Ai} {N:Nat}
theorem JP(a6:∀b o v,g.m b o=some v->w.cell? ⟨b,o,none⟩=some v){G:List V}(h:RepV g (.list G) u){s:Nat}(hs:0 <s)(hh:BZ s G=true):
  ∃vy,Src P w s u G.length (Ba G.length vy)/\(∀j y,G[j]?=some y->RepV g y (vy j))/\(∀j,j <G.length->(vy j).cells.size=s)/\∀j,j <G.length->∀v∈(vy j).cells.toList,v.oneCell'=true:=by
 cases h with
 |lnil=>
  refine⟨λ_=> .bool true,⟨λW=>by simp[Builtin.lenOf],by simp[Builtin.firstCells,Ba],by simp[Builtin.firstCells,Ba]⟩,Ac,Ac,Ac⟩
 |list _ a cap s' vs hsp hc hr hz=>
  have a1:0 <G.length->s'=s:=by
   intro h0;have a2:G[0]?=some G[0]:=rW _;have h1:G.head?=some G[0]:=by rw[List.head?_eq_getElem?];exact a2
   simp[BZ,h1]at hh;have h3:=(hr 0 _ a2).cells.1.1;have h4:=(hz 0 h0).1;simp at h3;omega
  have U:∀j,j <G.length->(vs j).cells.size=s:=λj Z=>by rw[<-a1 AE];exact(hz j Z).1
  have J:∀W,(∀b o,W.cell? ⟨b,o,none⟩=w.cell? ⟨b,o,none⟩)->(Builtin.firstCells s G.length (.slice (some a) G.length cap)).run P W= .ok (Ba G.length vs).toArray W:=by intro W a8;refine run_firstCells_some (P:=P) W s G.length a _ _ _ (DR U) λk v hv=>?_;rw[Cz hsp,a8];refine O9 (f:=λo=>w.cell? ⟨a.block,o,none⟩) (o:=a.off) hs U (λj Z k v hv=>?_) k v hv;have h2:=(hz j Z).2;rw[a1 AE]at h2;exact a6 _ _ v (h2 k v hv)
  refine⟨vs,⟨λW=>by simp[Builtin.lenOf],J w λ_ _=>rfl,J w.drew λ_ _=>rfl⟩,hr,U,λj Z v hv=>?_⟩;have a7:G[j]?=some G[j]:=rW Z;exact(hr j _ a7).cells.2 v hv
def GP(P:Program)(e s by_:Nat):Bool:=
 match P.info? e with
 |some i=>i.size==s&&i.bytes==by_&&decide (0 <s)&&(match i.zero with|some z=>z.cells.size==s|none=>false)
 |none=>false
theorem Fv{e s:Nat}(h:GP P e s by_=true):∃i z,P.info? e=some i/\i.size=s/\i.bytes=by_/\0 <i.size/\i.zero=some z/\z.cells.size=i.size:=by
 unfold GP at h;split at h
 .rename_i i hi;simp only[rX,beq_iff_eq,decide_eq_true_eq]at h;obtain⟨⟨⟨rfl,rfl⟩,U⟩,G⟩:=h;split at G
  .rename_i z J;exact⟨i,z,hi,rfl,rfl,U,J,by simpa using G⟩
  .cases G
 .cases h
def D4(P:Program)(t e:Nat):Bool:=match P.underlying t with|some (.slice e')=>e==e'|_=>false
theorem De{e:Nat}(h:D4 P t e=true):P.underlying t=some (.slice e):=by
 unfold D4 at h;split at h
 .rename_i G J;have:e=G:=by simpa using h
  rw[this];exact J
 .cases h
def Eu(q:Opd):Bool:=match q with| .t _ mv=>mv| .c (.W _ _ [])=>true| .c (.nil _ _)=>true|_=>false
theorem PS(hg:Gs GL N g w μ s a O)(G:oe GL x q=true)(W:Eu q=true):
  ∀U s' Z,q.ev s.e= .W U s' Z->(∃m,q= .t m true)\/a.eval x= .slice none 0 0:=by
 intro U s' Z J;cases q with
 |t m mv=>
  simp only[Eu]at W;subst W;exact .inl ⟨m,rfl⟩
 |c d=>
  simp only[Opd.ev]at J;subst J;cases x with
  |const v=>
   right
   rcases ML G with G|⟨cs,xs,rfl,J⟩
   case inr=>cases J
   unfold GR at G;split at G<;>first|rfl|(rename_i h _;cases h)|cases G
   all_goals simp_all [Act.eval]
  |tmp n=>simp[oe]at G
  |global n=>simp[oe]at G
  |func f=>simp[oe]at G
 |g n cs=>simp[Opd.ev]at J
theorem b8{d:Nat}{r:Opd}{t2 e s e2:Nat}(ho:o.dst=some d)(a1:o.op= .call {callee:= .builtin .append,args:= #[x,y],argTypes:= #[t,t2]})(hd:d <N)(hk:oe GL x q=true)(Z:oe GL y r=true)(hb:Eu q=true)(ht:D4 P t e=true)(a6:D4 P t2 e2=true)(he:GP P e s by_=true):EG P GL N o (.app d q r e s by_):=by
 intro g w μ st st' a O hg hs;obtain⟨i,z,hi,rfl,rfl,h0,hz,a7⟩:=Fv he;simp only[AI.step]at hs;split at hs
 .rename_i xs ys hx hy;split at hs
  .rename_i G;simp only[rV]at hs;subst hs;have a2:=Cv ((hg.gd P).ev Z) hy;obtain⟨vy,h1,h2,h3,h4⟩:=JP (P:=P) hg.inv.agree a2 h0 G.1;obtain⟨v,w',g',J,W,U⟩:=Qu hg (ty:=o.type) (De ht) (De a6) Ac hi hz a7 h0 hk hx (PS hg hk hb) h1 h2 h3 h4 G.2 hd;exact⟨v,w',g',μ,.inl (by simp[execOp,a1,resolve,invoke,builtin,J]),by rw[ho];exact W,U,ro _⟩
  .cases hs
 .cases hs
theorem Wk(w:World)(b:ByteArray):Src P w 1 (.string b) (b.data.toList.map λc=>V.int .u8 c.toNat).length (Ba (b.data.toList.map λc=>V.int .u8 c.toNat).length λj=> .int .u8 ((b.data.toList[j]?.map (·.toNat)).getD 0:Nat)):=by
 have U:Ba (b.data.toList.map λc=>V.int .u8 c.toNat).length (λj=>Value.int .u8 ((b.data.toList[j]?.map (·.toNat)).getD 0:Nat))=b.data.toList.map λc=>Value.int .u8 c.toNat:=by
  apply sl;intro k;have Z:=DR (s:=1) (n:=(b.data.toList.map λc=>V.int .u8 c.toNat).length) (vs:=λj=>Value.int .u8 ((b.data.toList[j]?.map (·.toNat)).getD 0:Nat)) (λ_ _=>by simp[Value.cells]);by_cases G:k <b.data.toList.length
  .have:=FA (s:=1) (n:=(b.data.toList.map λc=>V.int .u8 c.toNat).length) (vs:=λj=>Value.int .u8 ((b.data.toList[j]?.map (·.toNat)).getD 0:Nat)) (λ_ _=>by simp[Value.cells]) (i:=k) (j:=0) (by simpa using G) AE;simp only[Nat.mul_one,uH]at this;rw[this];simp[Value.cells,rW G]
  .rw[sU (by rw[Z];simp at G ⊢;omega),sU (by simp at G ⊢;omega)]
 rw[U];have hx:∀J,(Builtin.firstCells 1 (b.data.toList.map λc=>V.int .u8 c.toNat).length (.string b)).run P J= .ok (b.data.toList.map λc=>Value.int .u8 c.toNat).toArray J:=by
  intro J;have W:(b.data.toList.map λc=>V.int .u8 c.toNat).length=b.size:=Ac;rw[W];simp only[Builtin.firstCells,Sem.run_pure]
  congr 1
  have:b.extract 0 b.size=b:=Ac;rw[this];rw[<-tE];simp
 exact⟨λJ=>by simp[Builtin.lenOf],hx w,hx w.drew⟩
theorem YA{d:Nat}{r:Opd}{t2 e:Nat}(ho:o.dst=some d)(a7:o.op= .call {callee:= .builtin .append,args:= #[x,y],argTypes:= #[t,t2]})(hd:d <N)(hk:oe GL x q=true)(a6:oe GL y r=true)(hb:Eu q=true)(ht:D4 P t e=true)(a8:Gr P t2 (λ| .string=>true|_=>false)=true)(he:GP P e 1 by_=true):
  EG P GL N o (.appS d q r e by_):=by
 intro g w μ st st' a O hg hs;obtain⟨i,z,hi,U,rfl,h0,hz,b1⟩:=Fv he;simp only[AI.step]at hs;split at hs
 .rename_i xs b hx hy;split at hs
  .rename_i J;simp only[rV]at hs;subst hs;have a1:=(hg.gd P).ev a6;rw[hy]at a1;have b0:=If a1;have G:=Wk (P:=P) w b;rw[<-U]at G hx;obtain⟨v,w',g',Z,W,a2⟩:=Qu hg (ty:=o.type) (De ht) (Fs a8) Ac hi hz b1 h0 hk hx (PS hg hk hb) G
    (λj y hj=>by simp only[rk,rt]at hj;obtain⟨c,hc,rfl⟩:=hj;simp only[hc,sT,sA];exact .int _ _)
    (λj _=>by rw[U];simp[Value.cells]) (λj _ v hv=>by simp[Value.cells]at hv;rw[hv];rfl) (by simpa using J) hd
   rw[U]at W;exact⟨v,w',g',μ,.inl (by simp[execOp,a7,resolve,invoke,builtin,b0,Z]),by rw[ho];exact W,a2,ro _⟩
  .cases hs
 .cases hs
def Ph{g:Gh}{w:World}{μ:List Nat}{st:St}{a:Act}{h:List Row}{O:Nat->Prop}(hg:Gd P GL g w μ st.e a h O):∀{ps:List Operand}{J:List Opd}{vs:List V},A0 (oe GL) ps J=true->I1 st.e J=some vs->
  All2 (RepV g) vs (ps.map a.eval)
 |[],[],vs,_,hv=>by simp only[I1,rV]at hv;subst hv;exact .nil
 |p::ps,q::J,vs,hk,hv=>by
  simp only[A0,rX]at hk;simp only[I1]at hv;split at hv
  .rename_i x xs hx G;simp only[rV]at hv;subst hv;exact .cons (Cv (hg.ev hk.1) hx) (Ph hg hk.2 G)
  .cases hv
 |[],_::_,_,hk,_=>by simp[A0]at hk
 |_::_,[],_,hk,_=>by simp[A0]at hk
def G5(GL:Ai):Nat->List (Nat×Operand)->List Opd->Bool
 |_,[],[]=>true
 |k,p::ps,q::qs=>p.1==k&&oe GL p.2 q&&G5 GL (k+1) ps qs
 |_,_,_=>false
def LB:∀{k:Nat}{ps:List (Nat×Operand)}{G:List Opd},G5 GL k ps G=true->A0 (oe GL) (ps.map (·.2)) G=true/\∀f:Operand->Value,ps.map (λp=>(p.1,f p.2))=((ps.map λp=>f p.2).zipIdx k).map λx=>(x.2,x.1)
 |_,[],[],_=>⟨rfl,λ_=>rfl⟩
 |k,p::ps,q::G,h=>by simp only[G5,rX,beq_iff_eq]at h;obtain⟨⟨J,h2⟩,U⟩:=h;obtain⟨W,Z⟩:=LB U;refine⟨by simp[A0,h2,W],λf=>?_⟩;simp only[rq,u5,J,Z f]
 |_,[],_::_,h=>by simp[G5]at h
 |_,_::_,[],h=>by simp[G5]at h
theorem be{d e s:Nat}{ps:Array (Nat×Operand)}{qs:List Opd}(ho:o.dst=some d)(b9:o.op= .buildSlice t n ps)(hd:d <N)(ht:D4 P t e=true)(he:GP P e s by_=true)(hn:ps.toList.length=n)(d4:n*s<=2^24)(hk:G5 GL 0 ps.toList qs=true):EG P GL N o (.bsl d e s qs):=by
 intro g w μ st st' a O hg hs;obtain⟨i,z,hi,rfl,rfl,h0,hz,d5⟩:=Fv he;obtain⟨k1,k2⟩:=LB hk;simp only[AI.step]at hs;split at hs
 .rename_i vs d2;split at hs
  .rename_i b5;have J:=Ph (hg.gd P) k1 d2;have G:vs.length=n:=by have:=J.1;simp at this;rw[<-hn];simp;omega
   have a8:(ps.map λp=>(p.1,a.eval p.2)).toList=(((ps.toList.map λp=>a.eval p.2)).zipIdx 0).map λx=>(x.2,x.1):=by rw[Array.toList_map];exact k2 a.eval
   have c5:(ps.toList.map (·.2)).map a.eval=ps.toList.map λp=>a.eval p.2:=Ac;rw[c5]at J;have c9:(ps.toList.map λp=>a.eval p.2).length=n:=by simpa using hn
   have Z:∀(j:Nat)(v:Value)(x:V),(ps.toList.map λp=>a.eval p.2)[j]?=some v->vs[j]?=some x->v.cells.size=i.size:=by intro j v x U hx;have h1:=(J.2 j x v hx U).cells.1.1;have h2:=ry.1 b5 x (rY hx);simp at h1 h2;omega
   cases vs with
   |nil=>
    simp only[rV]at hs;subst hs;have b4:n=0:=by simpa using G.symm
    subst b4;have c8:ps= #[]:=by rw[<-tE];simpa using sf hn
    subst c8;have b6:=CO (λ_=>False) g w (.cells #[] e);refine⟨.slice (some ⟨w.heap.size,0,none⟩) 0 0,w.alloc (.cells #[] e),g,μ,.inl ?_,?_,b6.mono λ_ h=>h.elim,ro _⟩
    .simp[execOp,b9,Instr.buildSlice,run_underlying (De ht),sizeOf,typeInfo,hi,Instr.fill,newRow,show Array.range 0= #[] from rfl]
    .rw[ho];have h2:Gs GL N g (w.alloc (.cells #[] e)) μ st a O:=⟨hg.inv.chg b6 (Dl hg.inv.agree _),hg.glob,hg.sz⟩;refine h2.set hd ⟨_,rfl,λx hx=>by cases hx;rfl⟩ λk=>by cases k<;>simp[Ar,Am]
   |cons x0 xs0=>
    simp only[rV]at hs;subst hs;have b4:0 <n:=by simp at G;omega
    let W:Nat->Value:=λj=>((ps.toList.map λp=>a.eval p.2)[j]?).getD (.bool true)
    have b0:∀j,j <n->(W j).cells.size=i.size:=by intro j hj;have e1:(ps.toList.map λp=>a.eval p.2)[j]?=some (ps.toList.map λp=>a.eval p.2)[j]:=rW AE;have e2:(x0::xs0)[j]?=some (x0::xs0)[j]:=rW AE;simp only[W,e1,sA];exact Z j _ _ e1 e2
    have c3:((ps.toList.map λp=>a.eval p.2).flatMap λv=>v.cells.toList)=Ba n W:=by
     have:(ps.toList.map λp=>a.eval p.2)=(List.range n).map W:=by
      apply sl;intro j;by_cases hj:j <n
      .have e1:(ps.toList.map λp=>a.eval p.2)[j]?=some (ps.toList.map λp=>a.eval p.2)[j]:=rW AE;rw[e1,rk (l:=List.range n),tT hj];simp only[sT,W,e1,sA]
      .rw[sU AE,sU Dd]
     rw[this,Ba,un]
    have a1:=Great.fill_whole h0 (ps.toList.map λp=>a.eval p.2) ((Array.range (n*i.size)).map (z.cells[· %z.cells.size]!)) (λv U=>by obtain⟨j,hj,rfl⟩:=td.1 U;have e1:(ps.toList.map λp=>a.eval p.2)[j]?=some (ps.toList.map λp=>a.eval p.2)[j]:=rW hj;have e2:(x0::xs0)[j]?=some (x0::xs0)[j]:=rW AE;exact Z j _ _ e1 e2) (by rw[c9];simp)
    rw[c3,<-a8]at a1;have c7:¬n*i.size>2^24:=AE;have c6:¬n*i.size=0:=by intro h;rcases Nat.mul_eq_zero.1 h with h|h<;>omega
    have c1:=run_buildSlice (P:=P) w t e n _ _ i z (De ht) hi hz c7 c6 a1
    let w':=w.alloc (.cells (Ba n W).toArray e)
    let g':=g.put w.heap.size 0 (Ba n W)
    have a7:∀o,g.m w.heap.size o=none:=λo=>Gh.lt_of hg.inv.agree (ri _) o;have a2:g.le g':=Gh.le_put _ λo _ _=>a7 o;have a6:w'.heap[w.heap.size]?=some (.cells (Ba n W).toArray e (0,0)):=heap_alloc_new w _;have b1:Chg (λ_=>False) g w g' w':=⟨a2,by simp[w'],λb hb _=>heap_alloc_old w _ b hb,λb hb _ o=>Gh.put_other AE o,rfl,rfl⟩;have b2:(Ba n W).length=n*i.size:=DR b0;have c2:∀b o v,g'.m b o=some v->w'.cell? ⟨b,o,none⟩=some v:=by
     intro b o v U;simp only[g',Gh.put]at U;split at U
     .rename_i hc;obtain⟨rfl,_,d3⟩:=hc;simp only[ul]at U;rw[cell_of_row w' w.heap.size o _ e (0,0) a6];simpa using U
     .exact Dl hg.inv.agree _ b o v U
    have c0:RepOwn g' w' e i.size (x0::xs0) (.slice (some ⟨w.heap.size,0,none⟩) n n):=by
     refine .inr ⟨w.heap.size,n,_,W,by rw[G],b4,a6,AE,by simpa using b2,?_,?_,?_⟩
     .intro j x hx;have hj:=(rZ.1 hx).1;have e1:(ps.toList.map λp=>a.eval p.2)[j]?=some (ps.toList.map λp=>a.eval p.2)[j]:=rW AE;have:=J.2 j x _ hx e1;simp only[W,e1,sA];exact this.mono a2
     .intro j hj;have b3:j <n:=AE;refine⟨b0 j b3,λk v U=>?_⟩;have c4:k <i.size:=by have:=b0 j b3;have:=(rZ.1 U).1;simp at this;omega
      have:=Gh.put_at g w.heap.size 0 (Ba n W) (j*i.size+k) v (by rw[FA b0 b3 c4];exact U);simpa using this
     .intro o ho;simp only[g',Gh.put];rw[if_neg (by rw[b2];rw[G]at ho;omega),a7 o]
    refine⟨.slice (some ⟨w.heap.size,0,none⟩) n n,w',g',μ,.inl ?_,⟨?_,hg.glob.mono a2,by rw[BP,hg.sz]⟩,b1.mono λ_ h=>h.elim,ro _⟩
    .simp[execOp,b9,c1,w']
    .rw[ho,D5 _ (hg.sz▸hd)];refine hg.inv.newOwn b1 c2 c0 (λh=>by simp at h) λb hb=>?_;simp only[Am]at hb;split at hb
     .cases hb
     .simp only[rV]at hb;omega
  .cases hs
 .cases hs
end
end
section
abbrev Kv:Nat->D:=λ_=> .any
abbrev NP:Nat->Value:=λ_=> .bool false
def D.norm(d:D):D:=match d.toV with|some x=> .v x|none=>d
def D.arg(d:D):D:=d.copy.norm
def A9(e:CC)(qs:List Opd):List D:=qs.map λq=>(q.ev e).arg
def Dn(d:D):Option (Nat×List D):=
 match d.norm with
 | .v (.func f cs)=>some (f,cs.map .v)
 | .func f ds=>some (f,ds)
 |_=>none
variable {d:D}
def SX{x:V}(h:d.toV=some x):d.norm= .v x:=by simp[D.norm,h]
def UQ{x:V}(h:d.toV=some x):d.copy.toV=some x:=by
 cases d<;>first
  |exact h
  |(simp[D.toV,D.v?]at h;done)
def bz{x:V}(h:d.toV=some x):d.arg= .v x:=SX (UQ h)
variable {cs:List V} {f:Nat}
def Xf(h:d.toV=some (.func f cs)):Dn d=some (f,cs.map .v):=by simp[Dn,SX h]
def OI{e:CC}:∀{J:List Opd}{vs:List V},I1 e J=some vs->A9 e J=vs.map .v
 |[],vs,h=>by simp only[I1,rV]at h;subst h;rfl
 |q::J,vs,h=>by
  simp only[I1]at h;split at h
  .rename_i x xs hx G;simp only[rV]at h;subst h;have:=OI G;simp only[A9]at this;simp only[A9,rq,bz hx,this]
  .cases h
def Bp:List D->D
 |[x]=>x
 |xs=> .tup xs
variable {u:Value} {ds:List D}
section
variable {P:Program} {GL:Ai} {N:Nat} {g:Gh} {w:World} {μ:List Nat}
theorem RepD.norm{d:D}{u:Value}(h:RepD g w μ d u):RepD g w μ d.norm u:=by
 unfold D.norm;split
 .rename_i x hx;exact Cv h hx
 .exact h
def Y8(h:RepD g w μ d u):RepG g w μ d.copy u:=by
 cases d<;>first
  |exact h
  |exact RepOwn.list h.1
  |trivial
theorem RepD.arg{d:D}{u:Value}(h:RepD g w μ d u):RepG g w μ d.arg u:=by
 unfold D.arg D.norm;split
 .rename_i x hx;exact Cv h.copy hx
 .exact Y8 h
def MJ(d:D)(u:Value):Am d.arg u=none:=by
 unfold D.arg D.norm;split
 .simp[Am]
 .exact Ka d u
def Tame(ds:List D)(us:List Value):Prop:=∀(i:Nat)d v,ds[i]?=some d->us[i]?=some v->Am d v=none
theorem Tame.append{G:List D}{us J:List Value}(W:us.length=ds.length)(h:Tame ds us)(h':Tame G J):Tame (ds++G) (us++J):=by
 intro i d v hd U;by_cases hi:i <ds.length
 .rw[sI hi]at hd;rw[sI AE]at U;exact h i d v hd U
 .rw[sO AE]at hd;rw[sO AE,W]at U;exact h' _ d v hd U
def Fz{st:St}{a:Act}{h:List Row}{O:Nat->Prop}(hg:Gd P GL g w μ st.e a h O):∀{ps:List Operand}{G:List Opd},A0 (oe GL) ps G=true->
  All2 (RepG g w μ) (A9 st.e G) (ps.map a.eval)/\Tame (A9 st.e G) (ps.map a.eval)
 |[],[],_=>⟨.nil,λi d v h=>by simp[A9]at h⟩
 |p::ps,q::G,hk=>by
  simp only[A0,rX]at hk;obtain⟨J,h2⟩:=Fz hg hk.2;refine⟨.cons (hg.ev hk.1).arg J,λi d v hd U=>?_⟩;cases i with
  |zero=>simp[A9]at hd;subst hd;exact MJ _ _
  |succ i=>exact h2 i d v (by simpa[A9]using hd) (by simpa using U)
 |[],_::_,hk=>by simp[A0]at hk
 |_::_,[],hk=>by simp[A0]at hk
theorem Jv(h:RepD g w μ d u){caps:List D}(J:Dn d=some (f,caps)):∃U:List Value,u= .func (.func f) #[] U.toArray/\All2 (RepG g w μ) caps U/\Tame caps U:=by
 have h:=h.norm;unfold Dn at J;generalize d.norm=d at h J;split at J
 .rename_i Z cs;simp only[rV,uo]at J;obtain⟨rfl,rfl⟩:=J;cases h with
  |func _ _ vs hl hr=>
   refine⟨vs,rfl,All2.map_left (f:=D.v) (R:=RepV g) (λx y h=>h) ⟨hl,hr⟩,λi d v hd W=>?_⟩;simp only[rk,rt]at hd;obtain⟨y,_,rfl⟩:=hd;simp[Am]
 .rename_i Z ds;simp only[rV,uo]at J;obtain⟨rfl,rfl⟩:=J;obtain⟨vs,rfl,G⟩:=h;refine⟨vs,rfl,G.imp λd v h=>?_,λi d v hd W=>?_⟩
  .cases d<;>first|exact h|exact h.elim
  .have:=G.2 i d v hd W;cases d<;>first|rfl|exact this.elim
 .cases J
end
variable {b k n:Nat} {μ μ':List Nat} {w w':World} {h h':List Row} {g':Gh} {v:Value}
section
variable {g:Gh} {w:World} {μ:List Nat} {t:Nat->D} {u:Nat->Value} {h:List Row} {O:Nat->Prop}
def ON(t:Nat->D)(u:Nat->Value)(O:Nat->Prop)(b:Nat):Prop:=O b\/∃n k,Ar (t n) (u n) k=some b
def Im:¬Cm Kv NP h w μ (.tmp n k)=some b:=by cases k<;>simp[Cm,Ar,Am]
theorem Inv.call(hi:Inv g w μ t u h O):Inv g w μ Kv NP h (ON t u O) where
 agree:=hi.agree
 olt:=λb J=>by
  rcases J with J|⟨n,k,J⟩
  .exact hi.olt b J
  .exact hi.blk_lt (p:= .tmp n k) J
 rep:=λn=>trivial
 len:=hi.len
 rows:=hi.rows
 nod:=hi.nod
 mo:=λb J G=>by
  rcases G with G|⟨n,k,G⟩
  .exact hi.mo b J G
  .exact(hi.sep (.tmp n k) b G).1 J
 uniq:=λp q b U W=>by
  cases p with
  |tmp n k=>exact absurd U Im
  |cell r k=>cases q with
   |tmp n k=>exact absurd W Im
   |cell r' k'=>exact hi.uniq _ _ b U W
 sep:=λp b U=>by
  cases p with
  |tmp n k=>exact absurd U Im
  |cell r k=>
   obtain⟨Z,h2⟩:=hi.sep (.cell r k) b U;refine⟨Z,λG=>?_⟩;rcases G with G|⟨n,k',G⟩
   .exact h2 G
   .have:=hi.uniq (.cell r k) (.tmp n k') b U G;cases this
theorem Inv.ret(hi:Inv g w μ t u h O)(G:Inv g' w' μ' Kv NP h' (ON t u O))(hc:Chg (λb=>¬ON t u O b) g w g' w')(hμ:μ <+: μ'):Inv g' w' μ' t u h' O where
 agree:=G.agree
 olt:=λb U=>G.olt b (.inl U)
 rep:=λn=>EX hi hc hμ n λk b U hn=>hn (.inr ⟨n,k,U⟩)
 len:=G.len
 rows:=G.rows
 nod:=G.nod
 mo:=λb U Z=>G.mo b U (.inl Z)
 uniq:=λp q b J W=>by
  cases p with
  |tmp n k=>cases q with
   |tmp n' k'=>exact hi.uniq (.tmp n k) (.tmp n' k') b J W
   |cell r' k'=>exact absurd (.inr ⟨n,k,J⟩) (G.sep (.cell r' k') b W).2
  |cell r k=>cases q with
   |tmp n' k'=>exact absurd (.inr ⟨n',k',W⟩) (G.sep (.cell r k) b J).2
   |cell r' k'=>exact G.uniq _ _ b J W
 sep:=λp b J=>by
  cases p with
  |tmp n k=>exact⟨λhm=>G.mo b hm (.inr ⟨n,k,J⟩),(hi.sep (.tmp n k) b J).2⟩
  |cell r k=>
   obtain⟨h1,h2⟩:=G.sep (.cell r k) b J;exact⟨h1,λZ=>h2 (.inl Z)⟩
def Hc{α:Type}(z x:α):Nat->α:=λn=>if 0=n then x else z
theorem Inv.retV(hi:Inv g w μ t u h O){x:D}(U:Inv g' w' μ' (Hc .any x) (Hc (.bool false) v) h' (ON t u O))(G:Inv g' w' μ' t u h' O)(d:Nat):Inv g' w' μ' (λn=>if d=n then x else t n) (λn=>if d=n then v else u n) h' O:=by
 have W:∀k b,Cm (λn=>if d=n then x else t n) (λn=>if d=n then v else u n) h' w' μ' (.tmp d k)=some b->Cm (Hc .any x) (Hc (.bool false) v) h' w' μ' (.tmp 0 k)=some b:=by intro k b G;simpa[Cm,Hc]using G
 have Z:∀n k b,d≠n->Cm (λn=>if d=n then x else t n) (λn=>if d=n then v else u n) h' w' μ' (.tmp n k)=some b->Cm t u h' w' μ' (.tmp n k)=some b:=by intro n k b hn G;simpa[Cm,hn]using G
 have hO:∀n k b,Cm t u h' w' μ' (.tmp n k)=some b->ON t u O b:=λn k b G=> .inr ⟨n,k,G⟩;refine⟨G.agree,G.olt,λn=>?_,G.len,G.rows,G.nod,G.mo,?_,?_⟩
 .by_cases hn:d=n
  .simp only[hn,if_true];simpa[Hc]using U.rep 0
  .simp only[hn,if_false];exact G.rep n
 .intro p q b hp hq;cases p with
  |tmp n k=>
   cases q with
   |tmp n' k'=>
    by_cases hn:d=n
    .subst hn;by_cases J:d=n'
     .subst J;have:=U.uniq _ _ b (W k b hp) (W k' b hq);simp only[Pl.tmp.injEq,true_and]at this;rw[this]
     .exact absurd (hO _ _ _ (Z n' k' b J hq)) (U.sep _ b (W k b hp)).2
    .by_cases J:d=n'
     .subst J;exact absurd (hO _ _ _ (Z n k b hn hp)) (U.sep _ b (W k' b hq)).2
     .exact G.uniq _ _ b (Z n k b hn hp) (Z n' k' b J hq)
   |cell r k'=>
    by_cases hn:d=n
    .subst hn;have:=U.uniq (.tmp 0 k) (.cell r k') b (W k b hp) hq;cases this
    .exact G.uniq _ _ b (Z n k b hn hp) hq
  |cell r k=>
   cases q with
   |tmp n' k'=>
    by_cases J:d=n'
    .subst J;have:=U.uniq (.cell r k) (.tmp 0 k') b hp (W k' b hq);cases this
    .exact G.uniq _ _ b hp (Z n' k' b J hq)
   |cell r' k'=>exact G.uniq (.cell r k) (.cell r' k') b hp hq
 .intro p b hp;cases p with
  |tmp n k=>
   by_cases hn:d=n
   .subst hn;obtain⟨h1,h2⟩:=U.sep _ b (W k b hp);exact⟨h1,λho=>h2 (.inl ho)⟩
   .exact G.sep _ b (Z n k b hn hp)
  |cell r k=>exact G.sep (.cell r k) b hp
theorem Inv.enter(hi:Inv g w μ Kv NP h O)(W:∀n,RepD g w μ (t n) (u n))(J:∀n k,Ar (t n) (u n) k=none):Inv g w μ t u h O where
 agree:=hi.agree
 olt:=hi.olt
 rep:=W
 len:=hi.len
 rows:=hi.rows
 nod:=hi.nod
 mo:=hi.mo
 uniq:=λp q b G U=>by
  cases p with
  |tmp n k=>simp[Cm,J]at G
  |cell r k=>cases q with
   |tmp n k=>simp[Cm,J]at U
   |cell r' k'=>exact hi.uniq _ _ b G U
 sep:=λp b G=>by
  cases p with
  |tmp n k=>simp[Cm,J]at G
  |cell r k=>exact hi.sep (.cell r k) b G
theorem Inv.leave(hi:Inv g w μ t u h O):Inv g w μ Kv NP h O where
 agree:=hi.agree
 olt:=hi.olt
 rep:=λn=>trivial
 len:=hi.len
 rows:=hi.rows
 nod:=hi.nod
 mo:=hi.mo
 uniq:=λp q b G J=>by
  cases p with
  |tmp n k=>exact absurd G Im
  |cell r k=>cases q with
   |tmp n k=>exact absurd J Im
   |cell r' k'=>exact hi.uniq _ _ b G J
 sep:=λp b G=>by
  cases p with
  |tmp n k=>exact absurd G Im
  |cell r k=>exact hi.sep (.cell r k) b G
end
end
section
variable {q:Opd} {p x:Operand} {o:Oper} {u:Value} {xs:List V} {b cap m sz t:Nat} {w:World} {g:Gh}
section
variable {P:Program} {GL:Ai} {N:Nat}
def Rt(P:Program)(t:Nat):Bool:=match P.underlying t with|some (.slice e)=>Gr P e (λ| .int .u8=>true|_=>false)|_=>false
theorem aN{e:Nat}(G:Gr P e (λ| .int .u8=>true|_=>false)=true):P.underlying e=some (.int .u8):=by
 unfold Gr at G;split at G
 .rename_i O J;cases O<;>simp at G
  rename_i k;cases k<;>simp at G
  exact J
 .cases G
def NL(w:World)(e:TypeId)(s:ByteArray):(Lib.bytesWorld w e s).os=w.os:=by unfold Lib.bytesWorld World.freeze;split<;>rfl
def Mq(w:World)(e:TypeId)(s:ByteArray):(Lib.bytesWorld w e s).output=w.output:=by unfold Lib.bytesWorld World.freeze;split<;>rfl
theorem Zb{d a1 dst:Nat}(ho:o.dst=some d)(b4:o.op= .convert a1 dst x)(hd:d <N)(hk:oe GL x q=true)(hs:Gr P a1 (λ| .string=>true|_=>false)=true)(ht:Rt P dst=true):EG P GL N o (.s2b d q):=by
 intro g w μ st st' a O hg hst;unfold Rt at ht;split at ht
 .rename_i e hu;have he:=aN ht;simp only[AI.step]at hst;split at hst
  .rename_i b hb;simp only[rV]at hst;subst hst;have hr:=(hg.gd P).ev hk;rw[hb]at hr;have b6:=If hr;have a6:=Lib.run_convert_string_bytes (P:=P) w a1 dst e b (Fs hs) hu he
   let bs:List Value:=b.data.toList.map λc=> .int .u8 c.toNat
   let W:=g.put w.heap.size 0 bs
   have Z:∀o,g.m w.heap.size o=none:=λo=>Gh.lt_of hg.inv.agree (ri _) o;have U:g.le W:=Gh.le_put _ λo _ _=>Z o;have a2:Chg (λ_=>False) g w W (Lib.bytesWorld w e b):=⟨U,by rw[Lib.bytesWorld_size];omega,λj hj _=>Lib.bytesWorld_at_old w e b j hj,λj hj _ o=>Gh.put_other AE o,NL w e b,Mq w e b⟩;have a7:∀j o v,W.m j o=some v->(Lib.bytesWorld w e b).cell? ⟨j,o,none⟩=some v:=by
    intro j o v J;simp only[W,Gh.put]at J;split at J
    .rename_i hc;obtain⟨rfl,_,b9⟩:=hc;simp only[ul]at J;have b3:o <b.size:=by have:=(rZ.1 J).1;simpa[bs]using this
     rw[Lib.bytesWorld_cell w e b o b3];simp only[bs,rk,rt]at J;obtain⟨c,b0,rfl⟩:=J;simp[List.getD,b0]
    .have hj:j <w.heap.size:=by
      have:=hg.inv.agree j o v J;rcases sL j w.heap.size with h'|h'
      .exact h'
      .simp[World.cell?,uF h']at this
     rw[Lib.bytesWorld_old w e b _ hj];exact hg.inv.agree j o v J
   have b1:Gs GL N W (Lib.bytesWorld w e b) μ st a O:=⟨hg.inv.chg a2 a7,hg.glob.mono U,hg.sz⟩;refine⟨.slice (some ⟨w.heap.size,0,none⟩) b.size (grownCap w b.size 0 e),_,W,μ,.inl (by simp[execOp,b4,b6,a6]),?_,a2.mono λ_ h=>h.elim,ro _⟩;rw[ho];refine b1.set hd ?_ λk=>Ck _ _ _;have G:(b.data.toList.map λc=>V.int .u8 c.toNat).length=b.size:=Ac;have:=RepV.list (g:=W) (b.data.toList.map λc=>V.int .u8 c.toNat) ⟨w.heap.size,0,none⟩ (grownCap w b.size 0 e) 1 (λi=> .int .u8 ((b.data.toList.getD i 0).toNat:Int)) rfl
    (by rw[G];simp only[grownCap];exact Nat.le_add_right _ _) (λi x hx=>by
     simp only[rk,rt]at hx;obtain⟨c,hc,rfl⟩:=hx;simp only[List.getD,hc,sA];exact .int _ _) (λi hi=>by
     rw[G]at hi;refine⟨by simp[Value.cells],λk v J=>?_⟩;have b5:k=0/\v= .int .u8 ((b.data.toList.getD i 0).toNat:Int):=by
      cases k with
      |zero=>exact⟨rfl,by simpa only[Value.cells,uj,rV,eq_comm]using J⟩
      |succ k=>simp[Value.cells]at J
     obtain⟨rfl,rfl⟩:=b5;have a8:bs[i]?=some (.int .u8 ((b.data.toList.getD i 0).toNat:Int)):=by
      have b2:i <b.data.toList.length:=by simpa using hi
      simp only[bs,rk,rW b2,sT,List.getD,sA]
     have:=Gh.put_at g w.heap.size 0 bs i _ a8;simpa using this)
   rw[G]at this;exact this
  .cases hst
 .cases ht
theorem ST(a6:∀b o v,g.m b o=some v->w.cell? ⟨b,o,none⟩=some v){e s:Nat}(h:RepOwn g w e s xs (.slice (some ⟨b,0,none⟩) xs.length cap))(b2:xs.length+1<=cap){y:V}(hr:RepV g y u)(hu:u.cells.size=s):
  ∃G:Array Value,w.heap[b]?=some (.cells G e (0,0))/\xs.length*s+u.cells.toList.length<=G.size/\
   RepOwn (g.put b (xs.length*s) u.cells.toList) (w.setRow b (AQ G.toList (xs.length*s) u.cells.toList).toArray) e s (xs++[y]) (.slice (some ⟨b,0,none⟩) (xs.length+1) cap)/\
   Chg (λz=>z=b) g w (g.put b (xs.length*s) u.cells.toList) (w.setRow b (AQ G.toList (xs.length*s) u.cells.toList).toArray)/\
   ∀W o v,(g.put b (xs.length*s) u.cells.toList).m W o=some v->(w.setRow b (AQ G.toList (xs.length*s) u.cells.toList).toArray).cell? ⟨W,o,none⟩=some v:=by
 rcases h with ⟨a,h1,h2,_⟩|⟨W,b9,G,vs,h1,c0,U,c1,b1,b6,b4,a8⟩
 .simp only[Value.slice.injEq]at h1;omega
 simp only[Value.slice.injEq,rV,Addr.mk.injEq,true_and,and_true]at h1;obtain⟨rfl,rfl⟩:=h1;have b3:u.cells.toList.length=s:=by simpa using hu
 have a2:xs.length*s+u.cells.toList.length<=G.size:=by rw[b3,b1];have:=t7 s b2;rw[sm,Nat.one_mul]at this;exact this
 have Z:g.le (g.put b (xs.length*s) u.cells.toList):=Gh.le_put _ λo h1 _=>a8 o h1;have a1:(w.setRow b (AQ G.toList (xs.length*s) u.cells.toList).toArray).heap[b]?=some (.cells (AQ G.toList (xs.length*s) u.cells.toList).toArray e (0,0)):=setRow_heap w b _ _ _ _ U;have b0:Chg (λz=>z=b) g w (g.put b (xs.length*s) u.cells.toList) (w.setRow b (AQ G.toList (xs.length*s) u.cells.toList).toArray):=
  ⟨Z,Ac,λW _ O=>setRow_other w b W _ O,λW _ O o=>Gh.put_other O o,rfl,rfl⟩
 refine⟨G,U,a2,?_,b0,?_⟩
 .refine .inr ⟨b,cap,_,λj=>if j <xs.length then vs j else u,by rw[re];rfl,AE,a1,by rw[re];exact b2,?_,?_,?_,?_⟩
  .simp only[uI];rw[F9 _ _ _ (by simpa using a2)];simpa using b1
  .intro j z hj;by_cases J:j <xs.length
   .simp only[J,if_true];rw[sI J]at hj;exact(b6 j z hj).mono Z
   .simp only[J,if_false];rw[sO AE]at hj;have a7:j-xs.length=0:=by have:=(rZ.1 hj).1;simp at this;omega
    rw[a7]at hj;simp only[uj,rV]at hj;subst hj;exact hr.mono Z
  .intro j hj;rw[re]at hj;by_cases J:j <xs.length
   .simp only[J,if_true];exact⟨(b4 j J).1,(b4 j J).2.mono Z⟩
   .simp only[J,if_false];have a7:j=xs.length:=by simp at hj;omega
    subst a7;exact⟨hu,Gh.put_at g b (xs.length*s) u.cells.toList⟩
  .intro o ho;rw[re,u6,sm,Nat.one_mul]at ho;simp only[Gh.put];rw[if_neg (by rw[b3];omega)];exact a8 o AE
 .intro W o v hv;by_cases O:W=b
  .subst O;rw[cell_of_row _ W o _ _ _ a1,<-su,uT,GX _ _ _ (by simpa using a2)];simp only[Gh.put]at hv;split at hv
   .rename_i hc;rw[Bj,if_pos hc.2.2];exact hv
   .have b5:o <xs.length*s:=by
     rcases sL o (xs.length*s)with h|h
     .exact h
     .rw[a8 o h]at hv;cases hv
    rw[if_pos b5];have:=a6 W o v hv;rw[cell_of_row w W o _ _ _ U]at this;rw[su];exact this
  .simp only[Gh.put_other O]at hv;rw[World.cell?_of_block (a:=⟨W,o,none⟩) (setRow_other w b W _ O)];exact a6 W o v hv
theorem aq{ad p':Opd}(ho:o.dst=none)(c9:o.op= .store t p x)(hm:m <N)(hp:oe GL p p'=true)(hk:oe GL x q=true)(d4:Bw P t sz=true):
  EG P GL N o (.fin m ad p' q sz):=by
 intro g w μ s s' a O hg hs;simp only[AI.step]at hs;have c7:=(hg.gd P).ev hp;have d3:=(hg.gd P).ev hk;split at hs
 .rename_i b s0 n y hc hy;rw[hc]at c7;have c3:0 <s0->a.eval p= .pointer (some ⟨b,n*s0,none⟩):=λh0=>by
   obtain⟨h1,_⟩|⟨_,h2⟩:=c7
   .omega
   .exact h2
  have b6:=Cv d3 hy;have c0:∀(U:Array Value)(e:Nat),w.heap[b]?=some (.cells U e (0,0))->n*s0+(a.eval x).cells.toList.length<=U.size->(a.eval x).cells.size=sz->0 <s0->
    (execOp a.eval o).run P w= .ok .skip (w.setRow b (AQ U.toList (n*s0) (a.eval x).cells.toList).toArray):=by
   intro U e J W d5 h0;have c3:=c3 h0;have c4:=run_storeCells_at P b (n*s0) e (a.eval x).cells.toList 0 U w J (by simpa using W) (RepV.cells b6).2;simp only[uH]at c4;simp[execOp,c9,c3,Instr.storeAt,Instr.sureAddr,storeVar,By d4,d5,AQ]at c4 ⊢;simp[c4]
  have b9:y.cells.length=sz->(a.eval x).cells.size=sz:=λh=>by have:=(RepV.cells b6).1.1;simp at this;omega
  split at hs
  .rename_i b' e s2 xs a1;split at hs
   .rename_i Z;obtain⟨⟨rfl,rfl,rfl⟩,rfl,b4,b1⟩:=Z;simp only[rV]at hs;subst hs;have c6:=hg.inv.rep m;rw[a1]at c6;obtain⟨cap,b5,a6,b0⟩:=c6;obtain⟨U,J,W,b3,G,c1⟩:=ST hg.inv.agree b0 a6 b6 (b9 b4);have c8:Am (AK s.e m) (a.tmps.getD m undef)=some b':=by rw[a1];rfl
    have a7:=hg.inv.growOwn (d:=m) (n:=m) c8 G c1 b3 (λh=>by simp at h) (by simp[Am];omega);refine⟨undef,_,_,μ,.inr ⟨c0 U _ J W (b9 b4) b1,rfl⟩,⟨?_,hg.glob.mono G.le,by rw[BP,hg.sz]⟩,G.mono λz hz hO=>?_,ro _⟩
    .rw[ho];refine Eq.mp ?_ a7
     congr 1
     .funext k
      by_cases a8:m=k
      .subst a8;simp[AK]
      .simp[AK,a8]
     .funext k
      by_cases a8:m=k
      .subst a8;simp only[if_true];exact b5.symm
      .simp[a8,Act.put]
    .subst hz;exact(hg.inv.sep (.tmp m 0) z (by simp only[Cm,a1];rfl)).2 hO
   .cases hs
  .split at hs
   .rename_i r d6 d7;split at hs
    .rename_i ds hr;split at hs
     .rename_i b' e s2 xs hd;split at hs
      .rename_i Z;obtain⟨⟨rfl,rfl,rfl⟩,rfl,b4,b1⟩:=Z;simp only[rV]at hs;subst hs;have d2:r <μ.length:=by rw[hg.inv.len];exact(rZ.1 hr).1
       obtain⟨br,c5⟩:∃br,μ[r]?=some br:=⟨_,rW d2⟩;have c2:=hg.inv.cell hr c5 hd;obtain⟨cap,b5,a6,b0⟩:=c2;obtain⟨U,J,W,b3,G,c1⟩:=ST hg.inv.agree b0 a6 b6 (b9 b4);have a7:=hg.inv.growCell (d0:= .W e s2 (xs++[y])) hr c5 hd rfl G c1 (by rw[b5];exact⟨b3,λh=>by simp at h⟩) (λb2 a2=>by
        rw[b5]at a2;simp only[Am]at a2;split at a2
        .cases a2
        .simp only[rV]at a2;exact a2.symm)
       refine⟨undef,_,_,μ,.inr ⟨c0 U _ J W (b9 b4) b1,rfl⟩,⟨?_,hg.glob.mono G.le,by rw[BP,hg.sz]⟩,G.mono λz hz hO=>?_,ro _⟩
       .rw[ho];exact a7
       .subst hz;exact(hg.inv.sep (.cell r d6) z (by simp only[Cm,BJ,hr,hd,sA];rfl)).2 hO
      .cases hs
     .cases hs
    .cases hs
   .cases hs
 .cases hs
end
end
section
variable {b r sz t:Nat} {o:Oper} {q:Opd} {x y:Operand} {zs:List D} {w:World} {ks:List Nat}
section
variable {P:Program} {GL:Ai} {N:Nat}
theorem aE{d:Nat}{rs:Option Operand}(W:o.dst=some d)(J:o.op= .makeMap t rs)(U:rs=none)(hd:d <N):EG P GL N o (.mkm d):=by
 intro g w μ s s' a O hg hs;simp only[AI.step,rV]at hs;subst hs;subst U;have G:=hg.inv.newAny (.map [] [] 0) (.map #[] 0) ⟨#[],heap_alloc_new w _,MapKept.stamped_empty 0,rfl,.nil,λo=>Gh.lt_of hg.inv.agree (ri _) o⟩ (λk ds d h=>by cases h);refine⟨.map (some w.heap.size),w.alloc (.map #[] 0),g,μ++[w.heap.size],.inl ?_,⟨?_,hg.glob,by rw[BP,hg.sz]⟩,CO _ g w _,tS _ _⟩
 .simp[execOp,J,Instr.makeMap]
 .rw[W,D5 _ (hg.sz▸hd)];refine G.set ⟨w.heap.size,?_,rfl⟩ λk=>by cases k<;>simp[Ar,Am]
  rw[<-hg.inv.len];simp
theorem XL{d e:Nat}{c:Operand}{z:D}(ho:o.dst=some d)(b3:o.op= .makeSlice t x c)(hd:d <N)(b6:c=x)(hk:oe GL x q=true)(hu:P.underlying t=some (.slice e))(hz:Gt P e [z]=true)(b5:Bw P e 1=true)(b1:((P.info? e).map λi=>decide (i.bytes<=1048576))=some true):EG P GL N o (.mksl d q z):=by
 intro g w μ s s' a O hg hs;subst b6;simp only[AI.step]at hs;have hr:=(hg.gd P).ev hk;split at hs
 .rename_i k n hn;rw[hn]at hr;have b9:=F8 hr;split at hs
  .rename_i a1;simp only[rV]at hs;subst hs;unfold Gt at hz;split at hz
   .rename_i W b0;cases hit:P.info? e with
    |none=>simp[hit]at b0
    |some it=>
     have c0:it.zero=some W:=by simpa[hit]using b0
     have a7:it.size=1:=by simpa[Bw,hit]using b5
     have c1:it.bytes<=1048576:=by simpa[hit]using b1
     obtain⟨r1,r2,r3⟩:=Hq (g:=g) (w:=w) (μ:=μ) hz;obtain⟨v0,a8⟩:∃v0,W.cells.toList=[v0]:=by
      have:=r1.1
      match hq:W.cells.toList,this with
      |[v0],_=>exact⟨v0,rfl⟩
     rw[a8]at r1 r2 r3;have J:W.cells= #[v0]:=by rw[<-tE,a8]
     have a6:=(All2.cons_iff.1 r1).1;have G:=run_make (P:=P) w t e it W hu hit c0 k k n n a1.1 (Int.le_refl _) (by have Z:(it.bytes:Int)<=1048576:=AE;have h2:(it.bytes:Int)*n<=1048576*n:=tJ Z a1.1;omega) AE
     have U:madeCells W.cells (n.toNat*it.size)=(List.replicate n.toNat v0).toArray:=by rw[<-tE,J,a7,Nat.mul_one,toList_madeCells_one]
     rw[U]at G;have a2:=hg.inv.newRow (zs:=List.replicate n.toNat z) (vs:=List.replicate n.toNat v0) e
      ⟨Ac,λi x v hx hv=>by have Z:=(uJ.1 (rY hx)).2;have h2:=(uJ.1 (rY hv)).2;subst Z;subst h2;exact a6⟩
      (λv hv=>by have:=(uJ.1 hv).2;subst this;exact r2 _ Ac)
      (λi x v hx hv=>by have Z:=(uJ.1 (rY hx)).2;have h2:=(uJ.1 (rY hv)).2;subst Z;subst h2;exact r3 0 _ _ rfl rfl)
     refine⟨.slice (some ⟨w.heap.size,0,none⟩) n.toNat n.toNat,w.alloc (.cells (List.replicate n.toNat v0).toArray e),g,μ++[w.heap.size],.inl (by simp[execOp,b3,b9,G]),?_,CO _ g w _,tS _ _⟩;rw[ho];have b2:Gs GL N g (w.alloc (.cells (List.replicate n.toNat v0).toArray e)) (μ++[w.heap.size]) ⟨s.e,s.h++[.cells (List.replicate n.toNat z)]⟩ a O:=⟨a2,hg.glob,hg.sz⟩;have b4:RepD g (w.alloc (.cells (List.replicate n.toNat v0).toArray e)) (μ++[w.heap.size]) (.sr s.h.length n.toNat) (.slice (some ⟨w.heap.size,0,none⟩) n.toNat n.toNat):=⟨w.heap.size,n.toNat,by rw[<-hg.inv.len];simp,rfl,ri _⟩;exact b2.set hd b4 λk=>by cases k<;>simp[Ar,Am]
   .cases hz
  .cases hs
 .cases hs
def O8{α:Type}(zs:List α)(n:Nat):(List.replicate n zs).flatten.length=n*zs.length:=by
 induction n with
 |zero=>simp
 |succ n ih=>rw[u7,List.flatten_cons,re,ih,tZ];omega
def G9{α:Type}(zs:List α):∀(n i:Nat),i <n*zs.length->(List.replicate n zs).flatten[i]?=zs[i%zs.length]?
 |0,i,h=>AE
 |n+1,i,h=>by
  rw[u7,List.flatten_cons];by_cases hi:i <zs.length
  .rw[sI hi,Nat.mod_eq_of_lt hi]
  .rw[tZ]at h;rw[sO AE,G9 zs n (i-zs.length) AE,<-Nat.mod_eq_sub_mod (show zs.length<=i by omega)]
theorem XK{d e:Nat}{c:Operand}(ho:o.dst=some d)(b5:o.op= .makeSlice t x c)(hd:d <N)(c0:c=x)(hk:oe GL x q=true)(hu:P.underlying t=some (.slice e))(hz:Gt P e zs=true)(b9:Bw P e zs.length=true)(b3:((P.info? e).map λi=>decide (i.bytes<=1048576))=some true):EG P GL N o (.mksz d q zs):=by
 intro g w μ s s' a O hg hs;subst c0;simp only[AI.step]at hs;have hr:=(hg.gd P).ev hk;split at hs
 .rename_i k n hn;rw[hn]at hr;have c1:=F8 hr;split at hs
  .rename_i a6;simp only[rV]at hs;subst hs;unfold Gt at hz;split at hz
   .rename_i W b2;cases hit:P.info? e with
    |none=>simp[hit]at b2
    |some it=>
     have c2:it.zero=some W:=by simpa[hit]using b2
     have U:it.size=zs.length:=by simpa[Bw,hit]using b9
     have c3:it.bytes<=1048576:=by simpa[hit]using b3
     obtain⟨r1,r2,r3⟩:=Hq (g:=g) (w:=w) (μ:=μ) hz;have b1:W.cells.size=zs.length:=by have:=r1.1;simpa using this
     have J:=run_make (P:=P) w t e it W hu hit c2 k k n n a6.1 (Int.le_refl _) (by have h1:(it.bytes:Int)<=1048576:=AE;have h2:(it.bytes:Int)*n<=1048576*n:=tJ h1 a6.1;omega) AE
     obtain⟨vs,a2⟩:∃vs,vs=(madeCells W.cells (n.toNat*it.size)).toList:=⟨_,rfl⟩;have Z:madeCells W.cells (n.toNat*it.size)=vs.toArray:=by rw[a2]
     have b0:vs.length=n.toNat*zs.length:=by rw[a2,uq,size_madeCells,U]
     have a1:∀i v,vs[i]?=some v->i <n.toNat*zs.length/\W.cells.toList[i%zs.length]?=some v:=by
      intro i v G;have hi:i <n.toNat*zs.length:=by rw[<-b0];exact(rZ.1 G).1
      refine⟨hi,?_⟩;have a8:0 <zs.length:=by
       rcases ur zs.length with h0|h0
       .rw[h0]at hi;omega
       .exact h0
      have hm:i%zs.length <W.cells.size:=by rw[b1];exact Nat.mod_lt _ a8
      rw[a2,su]at G;unfold madeCells at G;rw[Array.getElem?_map,Array.getElem?_range,if_pos (by rw[U];exact hi)]at G;simp only[sT,rV]at G;rw[su,Array.getElem?_eq_getElem hm,<-G]
      congr 1
      simp only[b1];rw[getElem!_pos W.cells (i%zs.length) hm]
     rw[Z]at J;have a7:=hg.inv.newRow (zs:=(List.replicate n.toNat zs).flatten) (vs:=vs) e
      ⟨by rw[b0,O8],λi x v hx G=>by obtain⟨h1,h2⟩:=a1 i v G;rw[G9 zs _ _ h1]at hx;exact r1.2 _ x v hx h2⟩
      (λv G=>by obtain⟨i,hi⟩:=tK.1 G;exact r2 v (rY (a1 i v hi).2))
      (λi x v hx G=>by obtain⟨h1,h2⟩:=a1 i v G;rw[G9 zs _ _ h1]at hx;exact r3 _ x v hx h2)
     refine⟨.slice (some ⟨w.heap.size,0,none⟩) n.toNat n.toNat,w.alloc (.cells vs.toArray e),g,μ++[w.heap.size],.inl (by simp[execOp,b5,c1,J]),?_,CO _ g w _,tS _ _⟩;rw[ho];have b4:Gs GL N g (w.alloc (.cells vs.toArray e)) (μ++[w.heap.size]) ⟨s.e,s.h++[.cells (List.replicate n.toNat zs).flatten]⟩ a O:=⟨a7,hg.glob,hg.sz⟩;have b6:RepD g (w.alloc (.cells vs.toArray e)) (μ++[w.heap.size]) (.sr s.h.length n.toNat) (.slice (some ⟨w.heap.size,0,none⟩) n.toNat n.toNat):=⟨w.heap.size,n.toNat,by rw[<-hg.inv.len];simp,rfl,ri _⟩;exact b4.set hd b6 λk=>by cases k<;>simp[Ar,Am]
   .cases hz
  .cases hs
 .cases hs
theorem Nx{g:Gh}:∀(J:List V)(G:Nat->Value),(∀(j:Nat)y,J[j]?=some y->RepV g y (G j))->All2 (RepV g) (J.flatMap V.cells) (Ba J.length G)
 |[],G,_=> .nil
 |y::J,G,hvy=>by
  have e2:Ba (y::J).length G=(G 0).cells.toList++Ba J.length (λj=>G (j+1)):=by simp[Ba,u9,un]
  rw[e2,r7];exact(hvy 0 y rfl).cells.1.append (Nx J _ λj x hx=>hvy (j+1) x (by simpa using hx))
theorem bF{d:Option Nat}{r:Opd}{t2:Nat}(ho:o.dst=d)(hd:∀n,d=some n->n <N)(c0:o.op= .call {callee:= .builtin .copy,args:= #[x,y],argTypes:= #[t,t2]})(hk:oe GL x q=true)(b9:oe GL y r=true)(ht:(match P.underlying t with|some (.slice e)=>Bw P e sz|_=>false)=true):EG P GL N o (.cpy d q r sz):=by
 intro g w μ s s' a O hg hs;simp only[AI.step]at hs;have b3:=(hg.gd P).ev hk;have b4:=((hg.gd P).ev b9).copy;split at ht
 .rename_i e hu;split at hs
  .rename_i rr n hq;rw[hq]at b3;obtain⟨b,cap,hb,c1,hn⟩:=b3;split at hs
   .rename_i J hy;rw[hy]at b4;split at hs
    .rename_i ds hr;split at hs
     .rename_i hc;obtain⟨⟨U,a6⟩,h0,hh⟩:=hc;simp only[rV]at hs;subst hs;obtain⟨vs,T,G,Z,c2,c3⟩:=hg.inv.row hb hr;obtain⟨W,h1,h2,h3,h4⟩:=JP (P:=P) hg.inv.agree b4 h0 hh;have a8:(Ba J.length W).length=n*sz:=by rw[DR h3,U]
      have h5:∀v∈Ba J.length W,v.oneCell'=true:=by intro v hv;obtain⟨j,hj,hm⟩:=Jx hv;exact h4 j hj v hm
      have a2:=run_storeCells_at P b 0 T (Ba J.length W) 0 vs.toArray w G (by simp[a8,Z.1,a6]) h5;have a1:vs.drop (Ba J.length W).length=[]:=vU.2 (by rw[a8,Z.1,a6];exact ri _);simp only[uH,tI,List.take_zero,uU,a1,sk]at a2;have b1:min n n=n:=Nat.min_self n;have b2:(execOp a.eval o).run P w= .ok (.value (goInt n)) (w.setRow b (Ba J.length W).toArray):=by have hl:=h1.len w;have a7:=h1.cells;rw[U]at hl a7;simp[execOp,c0,resolve,invoke,builtin,c1,Builtin.copy_,run_underlying hu,hl,By ht,a7,b1];rw[U]at a2;simp[a2,U]
      have b5:=hg.inv.storeRow hr hb G ((J.flatMap V.cells).map .v) (Ba J.length W) (All2.map_left (f:=D.v) (R:=RepV g) (λx y h=>h) (Nx J W h2)) h5 (λi z v hz hv=>by simp only[rk,rt]at hz;obtain⟨y,_,rfl⟩:=hz;exact .inl (by simp[Am]))
      have b6:Chg (λb=>¬O b) g w g (w.setRow b (Ba J.length W).toArray):=(Et g w b _).mono (Dy O hg (rY hb));refine⟨goInt n,_,g,μ,.inl b2,?_,b6,ro _⟩;have b0:Gs GL N g (w.setRow b (Ba J.length W).toArray) μ ⟨s.e,s.h.set rr (.cells ((J.flatMap V.cells).map .v))⟩ a O:=⟨b5,hg.glob,hg.sz⟩;rw[ho];cases d with
      |none=>exact b0
      |some d=>exact b0.set (hd d rfl) (x:= .v (.int .i64 n)) (.int _ _) λk=>by cases k<;>simp[Ar,Am]
     .cases hs
    .cases hs
   .cases hs
  .cases hs
 .cases ht
def Gg{o o':Obj}(Z:w.heap[b]?=some o)(g:Gh)(hg:∀o,g.m b o=none)(O:∀b o v,g.m b o=some v->w.cell? ⟨b,o,none⟩=some v):
  ({w with heap:=w.heap.setIfInBounds b o'}:World).heap[b]?=some o'/\Chg (λx=>x=b) g w g {w with heap:=w.heap.setIfInBounds b o'}/\
  ∀G o v,g.m G o=some v->({w with heap:=w.heap.setIfInBounds b o'}:World).cell? ⟨G,o,none⟩=some v:=by
 have h:=MapKept.heap_set (o':=o') Z;refine⟨h.1,⟨Gh.le.refl g,Ac,λG _ U=>h.2 G U,λ_ _ _ _=>rfl,rfl,rfl⟩,λG o v W=>?_⟩;by_cases J:G=b
 .subst J;rw[hg o]at W;cases W
 .rw[World.cell?_of_block (a:=⟨G,o,none⟩) (h.2 G J)];exact O G o v W
def Ix{α β:Type}(f:α->β):∀(l:List α)(i:Nat),(l.eraseIdx i).map f=(l.map f).eraseIdx i
 |[],_=>Ac
 |x::l,0=>Ac
 |x::l,i+1=>by simp[Ix f l i]
def LQ(G:Array MapEntry)(j:Nat)(f:MapEntry->MapEntry)(O:∀e,(f e).born=e.born):(G.modify j f).toList.map (·.born)=G.toList.map (·.born):=by
 apply sl;intro i;simp only[rk,su,vA];by_cases J:j=i
 .subst J;cases G[j]?<;>simp[O]
 .simp[J]
theorem XJ{k v:Operand}{m' k' v':Opd}{st:Bool}(ho:o.dst=none)(b5:o.op= .mapUpdate t x k v)(ht:(match P.underlying t with|some (.map kt _)=>FY P kt st ks|_=>false)=true)(hm:oe GL x m'=true)(hk:oe GL k k'=true)(hv:oe GL v v'=true):EG P GL N o (.mput m' k' v' st ks):=by
 intro g w μ s s' a O hg hs;simp only[AI.step]at hs;have b6:=(hg.gd P).ev hm;have c8:=(hg.gd P).ev hk;have c9:=(hg.gd P).ev hv;split at ht
 .rename_i kt el hu;split at hs
  .rename_i r c6;rw[c6]at b6;obtain⟨b,hb,c2⟩:=b6;have a8:=rY hb;split at hs
   .rename_i es bs G hr;obtain⟨a1,J,c0,b0,W,a6⟩:=MR hg.inv hr hb;have Bz:=MapKept.run_getObj_map (P:=P) J;split at hs
    .rename_i kv vv c4 d3;have Z:=Cv c8 c4;have c1:=Cv c9 d3;split at hs
     .rename_i U;have b1:=λe=>Gv (P:=P) (w:=w) Z ht U e;split at hs
      .rename_i hf;simp only[rV]at hs;subst hs;have a2:=DF (P:=P) (w:=w) Z ht U W hf;have c7:=(Gk (P:=P) (w:=w) Z ht U W hf).2.2 rfl;obtain⟨p1,p2,p3⟩:=Gg (o':= .map (a1.push {key:=a.eval k,val:=a.eval v,born:=G}) (G+1)) J g a6 hg.inv.agree;refine⟨undef,_,g,μ,.inr ⟨?_,rfl⟩,⟨?_,hg.glob,by rw[BP,hg.sz]⟩,p2.mono (Dy O hg a8),ro _⟩
       .simp[execOp,b5,c2,Instr.mapUpdate,run_underlying hu,Bz,b1,a2,MapKept.run_setObj_map _ J,Result.andThen]
       .rw[ho];refine hg.inv.setAny hr hb (.map (es++[(kv,vv)]) (bs++[G]) (G+1)) p2 p3 ⟨_,p1,MapKept.stamped_push c0 c7,by simp[b0],?_,a6⟩ (λk ds d h=>by cases h);simp only[Array.toList_push];exact W.append (.cons ⟨Z,c1⟩ .nil)
      .rename_i j hf;simp only[rV]at hs;subst hs;have a2:=DF (P:=P) (w:=w) Z ht U W hf;obtain⟨e,he,b3⟩:=(Gk (P:=P) (w:=w) Z ht U W hf).2.1 j rfl;simp only[sW,he,sT]at a2;have a7:a1[j]?=some e:=by simpa using he
       have d2:(Instr.keyThatStays (a.eval k) (a.eval k)).run P w= .ok (a.eval k) w:=by
        have:=(Jo Z Z U U (b:=true) (by
         simp only[Be,rX]at U;cases h2:V.eqL ks kv.cells kv.cells with
         |none=>simp[h2]at U
         |some b=>cases b<;>simp[h2]at U ⊢)).2 9999
        simp[Instr.keyThatStays,this]
       obtain⟨p1,p2,p3⟩:=Gg (o':= .map (a1.modify j λe=>{e with key:=a.eval k,val:=a.eval v}) G) J g a6 hg.inv.agree;refine⟨undef,_,g,μ,.inr ⟨?_,rfl⟩,⟨?_,hg.glob,by rw[BP,hg.sz]⟩,p2.mono (Dy O hg a8),ro _⟩
       .simp[execOp,b5,c2,Instr.mapUpdate,run_underlying hu,Bz,b1,a2,a7,b3,d2,MapKept.run_setObj_map _ J,Result.andThen]
       .rw[ho];refine hg.inv.setAny hr hb (.map (es.set j (kv,vv)) bs G) p2 p3 ⟨_,p1,MapKept.stamped_modify c0 _ _ (λ_ _=>rfl) (λe' _ b2=>?_),?_,?_,a6⟩ (λk ds d h=>by cases h)
        .rw[a7]at b2;cases b2;exact b3.symm
        .rw[<-b0];exact LQ _ _ _ λ_=>rfl
        .have b9:(a1.modify j λe=>{e with key:=a.eval k,val:=a.eval v}).toList=a1.toList.set j {e with key:=a.eval k,val:=a.eval v}:=by
          apply sl;intro i;simp only[su,vA,sr];by_cases b4:j=i
          .subst b4;obtain⟨c5,c3⟩:=uA.1 a7;simp[c5,c3]
          .simp[b4]
         rw[b9];exact W.set ⟨Z,c1⟩
      .cases hs
     .cases hs
    .cases hs
   .cases hs
  .cases hs
 .cases ht
def Hv{α:Type}{l:List α}{x:α}(h:l[r]?=some x):l.set r x=l:=by
 apply sl;intro i;rw[sr];by_cases hi:r=i
 .subst hi;have:=(rZ.1 h).1;simp[this,h];exact((rZ.1 h).2).symm
 .simp[hi]
theorem NI{α β:Type}{R:α->β->Prop}{xs:List α}{G:List β}(h:All2 R xs G)(i:Nat):All2 R (xs.eraseIdx i) (G.eraseIdx i):=by
 induction xs generalizing G i with
 |nil=>
  have:=sf h.1;subst this;simpa using (All2.nil:All2 R [] [])
 |cons x xs ih=>
  cases G with
  |nil=>simp[All2]at h
  |cons y G=>
   rw[All2.cons_iff]at h;cases i with
   |zero=>simpa using h.2
   |succ i=>simp only[List.eraseIdx_cons_succ];exact .cons h.1 (ih h.2 i)
theorem XP{d:Option Nat}{t2:Nat}{k:Operand}{m' k':Opd}{st:Bool}(ho:o.dst=d)(hd:∀n,d=some n->n <N)(b2:o.op= .call {callee:= .builtin .delete,args:= #[x,k],argTypes:= #[t,t2]})(ht:(match P.underlying t with|some (.map kt _)=>FY P kt st ks|_=>false)=true)(hm:oe GL x m'=true)(hk:oe GL k k'=true):EG P GL N o (.mdel d m' k' st ks):=by
 intro g w μ s s' a O hg hs;simp only[AI.step]at hs;have b3:=(hg.gd P).ev hm;have c0:=(hg.gd P).ev hk;have fin:∀{g':Gh}{w':World}{h':List Row},Gs GL N g' w' μ ⟨s.e,h'⟩ a O->Gs GL N g' w' μ ⟨CL s.e d (.tup []),h'⟩ (a.put o.dst (.tuple #[])) O:=by
  intro g' w' h' a2;rw[ho];cases d with
  |none=>exact⟨a2.inv,a2.glob,by rw[BP,a2.sz]⟩
  |some n=>exact a2.set (hd n rfl) ⟨[],rfl,.nil⟩ λk=>by simp[Ar,Am]
 split at ht
 .rename_i kt el hu;split at hs
  .rename_i r b9;rw[b9]at b3;obtain⟨b,hb,b5⟩:=b3;have a8:=rY hb;split at hs
   .rename_i es bs J hr;obtain⟨U,G,b4,b0,W,a1⟩:=MR hg.inv hr hb;have Bz:=MapKept.run_getObj_map (P:=P) G;split at hs
    .rename_i kv b6;have a7:=Cv c0 b6;split at hs
     .rename_i a6;have b1:=λe=>Gv (P:=P) (w:=w) a7 ht a6 e;split at hs
      .rename_i hf;simp only[rV]at hs;subst hs;have Z:=DF (P:=P) (w:=w) a7 ht a6 W hf;obtain⟨p1,p2,p3⟩:=Gg (o':= .map U J) G g a1 hg.inv.agree;refine⟨.tuple #[],_,g,μ,.inl ?_,fin ⟨?_,hg.glob,hg.sz⟩,p2.mono (Dy O hg a8),ro _⟩
       .simp[execOp,b2,b5,resolve,invoke,builtin,Builtin.delete_,run_underlying hu,Bz,b1,Z,MapKept.run_setObj_map _ G,Result.andThen]
       .have:=hg.inv.setAny hr hb (.map es bs J) p2 p3 ⟨_,p1,b4,b0,W,a1⟩ (λk ds d h=>by cases h)
        rwa [Hv hr]at this
      .rename_i j hf;simp only[rV]at hs;subst hs;have Z:=DF (P:=P) (w:=w) a7 ht a6 W hf;obtain⟨e,he,c1⟩:=(Gk (P:=P) (w:=w) a7 ht a6 W hf).2.1 j rfl;simp only[sW,he,sT]at Z;obtain⟨p1,p2,p3⟩:=Gg (o':= .map (U.eraseIdxIfInBounds j) J) G g a1 hg.inv.agree;refine⟨.tuple #[],_,g,μ,.inl ?_,fin ⟨?_,hg.glob,hg.sz⟩,p2.mono (Dy O hg a8),ro _⟩
       .simp[execOp,b2,b5,resolve,invoke,builtin,Builtin.delete_,run_underlying hu,Bz,b1,Z,MapKept.run_setObj_map _ G,Result.andThen]
       .refine hg.inv.setAny hr hb (.map (es.eraseIdx j) (bs.eraseIdx j) J) p2 p3 ⟨_,p1,MapKept.stamped_erase b4 j,?_,?_,a1⟩ (λk ds d h=>by cases h)
        all_goals
         have hj:j <U.size:=by have:=(rZ.1 he).1;simpa using this
         have:(U.eraseIdxIfInBounds j).toList=U.toList.eraseIdx j:=by simp[Array.eraseIdxIfInBounds,hj]
        .rw[this,<-b0,Ix]
        .rw[this];exact NI W j
      .cases hs
     .cases hs
    .cases hs
   .cases hs
  .cases hs
 .cases ht
theorem XO{d:Nat}{k:Operand}{m' k':Opd}{st:Bool}(ho:o.dst=some d)(hd:d <N)(c3:o.op= .mapEntry t x k)(ht:(match P.underlying t with|some (.map kt _)=>FY P kt st ks|_=>false)=true)(hm:oe GL x m'=true)(hk:oe GL k k'=true):EG P GL N o (.ment d m' k' st ks):=by
 intro g w μ s s' a O hg hs;simp only[AI.step]at hs;have b4:=(hg.gd P).ev hm;have c4:=(hg.gd P).ev hk;split at ht
 .rename_i kt el hu;split at hs
  .rename_i r c2;rw[c2]at b4;obtain⟨b,hb,c7⟩:=b4;have b6:=rY hb;split at hs
   .rename_i es bs U hr;obtain⟨G,W,c6,a8,Z,b2⟩:=MR hg.inv hr hb;have Bz:=MapKept.run_getObj_map (P:=P) W;split at hs
    .rename_i kv c1;have a1:=Cv c4 c1;split at hs
     .rename_i J;have b9:=λe=>Gv (P:=P) (w:=w) a1 ht J e;split at hs
      .rename_i j hf;split at hs
       .rename_i p n hp hn;simp only[rV]at hs;subst hs;have b1:=DF (P:=P) (w:=w) a1 ht J Z hf;obtain⟨e,he,b0⟩:=(Gk (P:=P) (w:=w) a1 ht J Z hf).2.1 j rfl;simp only[sW,he,sT]at b1;have a6:G[j]?=some e:=by simpa using he
        have c5:(Instr.keyThatStays (a.eval k) (a.eval k)).run P w= .ok (a.eval k) w:=by
         have:=(Jo a1 a1 J J (b:=true) (by
          simp only[Be,rX]at J;cases h2:V.eqL ks kv.cells kv.cells with
          |none=>simp[h2]at J
          |some b=>cases b<;>simp[h2]at J ⊢)).2 9999
         simp[Instr.keyThatStays,this]
        have a2:e.born=n:=by
         have:bs[j]?=some e.born:=by rw[<-a8];simp[a6]
         rw[hn]at this;simpa using this.symm
        have b5:RepV g p.2 e.val:=(Z.2 j p e hp he).2;have a7:G.modify j (λe=>{e with key:=a.eval k})=G:=by
         apply Array.ext_getElem?;intro i;rw[vA];by_cases b3:j=i
         .subst b3;simp[a6,<-b0]
         .simp[b3]
        obtain⟨p1,p2,p3⟩:=Gg (o':= .map G U) W g b2 hg.inv.agree;refine⟨.tuple #[e.val,.int .i64 n],_,g,μ,.inl ?_,?_,p2.mono (Dy O hg b6),ro _⟩
        .simp[execOp,c3,c7,Instr.mapEntry,run_underlying hu,Bz,b9,b1,a6,b0,c5,a7,MapKept.run_setObj_map _ W,Result.andThen,goInt,a2]
        .have h1:=hg.inv.setAny hr hb (.map es bs U) p2 p3 ⟨_,p1,c6,a8,Z,b2⟩ (λk ds d h=>by cases h);rw[Hv hr]at h1;rw[ho];have c0:Gs GL N g {w with heap:=w.heap.setIfInBounds b (.map G U)} μ s a O:=⟨h1,hg.glob,hg.sz⟩;refine c0.set hd (x:= .tup [.v p.2,(n:D)]) ⟨[e.val,.int .i64 n],rfl,.cons b5 (.cons (.int _ _) .nil)⟩ λk=>?_;simp only[Ar,uT];cases k with
         |zero=>rfl
         |succ k=>cases k with
          |zero=>rfl
          |succ k=>simp[Am]
       .cases hs
      .cases hs
     .cases hs
    .cases hs
   .cases hs
  .cases hs
 .cases ht
theorem XN{b0 v:Operand}{m' b' v':Opd}(ho:o.dst=none)(c2:o.op= .entryStore t x b0 v)(hm:oe GL x m'=true)(hk:oe GL b0 b'=true)(hv:oe GL v v'=true):
  EG P GL N o (.mest m' b' v'):=by
 intro g w μ s s' a O hg hs;simp only[AI.step]at hs;have a8:=(hg.gd P).ev hm;have a7:=(hg.gd P).ev hk;have c3:=(hg.gd P).ev hv;split at hs
 .rename_i r c1;rw[c1]at a8;obtain⟨b,hb,c7⟩:=a8;have b3:=rY hb;split at hs
  .rename_i es bs U hr;obtain⟨G,J,c4,Z,W,a1⟩:=MR hg.inv hr hb;have Bz:=MapKept.run_getObj_map (P:=P) J;split at hs
   .rename_i kk n vv b4 c6;rw[b4]at a7;have b2:=F8 a7;have c5:=Cv c3 c6;split at hs
    .rename_i j hj;split at hs
     .rename_i p hp;simp only[rV]at hs;subst hs;have a2:G.findIdx? (λe=>(e.born:Int)==n)=some j:=by rw[<-Z,List.findIdx?_map]at hj;have:G=G.toList.toArray:=Ac;rw[this,List.findIdx?_toArray];exact hj
      obtain⟨p1,p2,p3⟩:=Gg (o':= .map (G.modify j λe=>{e with val:=a.eval v}) U) J g a1 hg.inv.agree;obtain⟨e,he,b6⟩:=W.get hp;have b5:G[j]?=some e:=by simpa using he
      refine⟨undef,_,g,μ,.inr ⟨?_,rfl⟩,⟨?_,hg.glob,by rw[BP,hg.sz]⟩,p2.mono (Dy O hg b3),ro _⟩
      .simp[execOp,c2,c7,b2,Instr.entryStore,Bz,asInt,asIntOf,a2,MapKept.run_setObj_map _ J,Result.andThen]
      .rw[ho];refine hg.inv.setAny hr hb (.map (es.set j (p.1,vv)) bs U) p2 p3 ⟨_,p1,MapKept.stamped_modify c4 _ _ (λ_ _=>rfl) (λe' _ c8=>rfl),?_,?_,a1⟩ (λk ds d h=>by cases h)
       .rw[<-Z];exact LQ _ _ _ λ_=>rfl
       .have b1:(G.modify j λe=>{e with val:=a.eval v}).toList=G.toList.set j {e with val:=a.eval v}:=by
         apply sl;intro i;simp only[su,vA,sr];by_cases a6:j=i
         .subst a6;obtain⟨c0,b9⟩:=uA.1 b5;simp[c0,b9]
         .simp[a6]
        rw[b1];exact W.set ⟨b6.1,c5⟩
     .cases hs
    .cases hs
   .cases hs
  .cases hs
 .cases hs
end
end
section
def Dm:List (Nat×Nat)->Nat->Nat
 |[],r=>r
 |p::π,r=>if p.1=r then p.2 else Dm π r
def CT(π:List (Nat×Nat)):List (Nat×Nat):=π.map λp=>(p.2,p.1)
mutual
def D.ren(π:List (Nat×Nat)):D->D
 | .R r o=> .R (Dm π r) o
 | .sr r n=> .sr (Dm π r) n
 | .mr r=> .mr (Dm π r)
 | .yld r=> .yld (Dm π r)
 | .agg ds=> .agg (D.rens π ds)
 | .tup ds=> .tup (D.rens π ds)
 | .func f ds=> .func f (D.rens π ds)
 | .meth f ds=> .meth f (D.rens π ds)
 | .v x=> .v x
 | .any=> .any
 | .nil e s=> .nil e s
 | .W e s xs=> .W e s xs
 | .pend b e s xs=> .pend b e s xs
 | .pptr b s n=> .pptr b s n
def D.rens(π:List (Nat×Nat)):List D->List D
 |[]=>[]
 |d::ds=>D.ren π d::D.rens π ds
end
def DB(π:List (Nat×Nat)):∀ds:List D,D.rens π ds=ds.map (D.ren π)
 |[]=>rfl
 |d::ds=>by simp only[D.rens,rq,DB π ds]
def Row.ren(π:List (Nat×Nat)):Row->Row
 | .cells ds=> .cells (D.rens π ds)
 |x=>x
def MG(n0 len:Nat)(π:List (Nat×Nat)):Bool:=
 (List.range len).all λr=>decide (Dm π r <len)&&decide (Dm (CT π) r <len)&&Dm (CT π) (Dm π r)==r&&Dm π (Dm (CT π) r)==r&&(decide (n0<=r)||Dm (CT π) r==r)
def Row.isObj:Row->Bool
 | .obj _ _ _=>true
 |_=>false
def Nn(h:List Row):Bool:=h.all λr=> !r.isObj
def BD(π:List (Nat×Nat))(h:List Row):List Row:=(List.range h.length).map λi=>((h[Dm (CT π) i]?).getD .dead).ren π
def MB(π:List (Nat×Nat))(μ:List Nat):List Nat:=(List.range μ.length).map λi=>(μ[Dm (CT π) i]?).getD 0
def Qy(n0:Nat)(s s2:St):Prop:=
 s2=s\/∃π,MG n0 s.h.length π=true/\Nn s.h=true/\(∀n,AK s2.e n=(AK s.e n).ren π)/\s2.h=BD π s.h
section
variable {g:Gh} {w:World} {μ:List Nat} {π:List (Nat×Nat)}
def RepC.ren{μ':List Nat}(J:∀r b,μ[r]?=some b->μ'[Dm π r]?=some b){d:D}{u:Value}(h:RepC g μ d u):RepC g μ' (d.ren π) u:=by
 cases d<;>simp only[RepC,D.ren]at h ⊢
 .exact h
 .obtain⟨b,G,rfl⟩:=h;exact⟨b,J _ _ G,rfl⟩
def RepE.ren{μ':List Nat}(J:∀r b,μ[r]?=some b->μ'[Dm π r]?=some b){d:D}{u:Value}(h:RepE g w μ d u):RepE g w μ' (d.ren π) u:=by
 cases d<;>simp only[RepE,D.ren]at h ⊢
 .exact h
 .exact h
 .exact h
 .obtain⟨b,G,rfl⟩:=h;exact⟨b,J _ _ G,rfl⟩
 .obtain⟨b,cap,G,rfl,O⟩:=h;exact⟨b,cap,J _ _ G,rfl,O⟩
 .obtain⟨b,G,rfl⟩:=h;exact⟨b,J _ _ G,rfl⟩
 .obtain⟨vs,rfl,h⟩:=h;refine⟨vs,rfl,?_⟩;rw[DB];exact All2.map_left (λx y hx=>RepC.ren J hx) h
 .obtain⟨vs,rfl,h⟩:=h;refine⟨vs,rfl,?_⟩;rw[DB];exact All2.map_left (λx y hx=>RepC.ren J hx) h
 .obtain⟨b,G,rfl⟩:=h;exact⟨b,J _ _ G,rfl⟩
 .exact h
 .exact h
def MI(d:D)(v:Value):Am (d.ren π) v=Am d v:=by cases d<;>simp only[D.ren]<;>simp only[Am]
def RepG.ren{μ':List Nat}(J:∀r b,μ[r]?=some b->μ'[Dm π r]?=some b){d:D}{u:Value}(h:RepG g w μ d u):RepG g w μ' (d.ren π) u:=by
 have key:RepE g w μ d u->RepE g w μ' (d.ren π) u:=λh=>RepE.ren J h;cases d with
 |agg ds=>
  obtain⟨vs,rfl,W,U,h2⟩:=h;simp only[D.ren];refine⟨vs,rfl,?_,U,λd hd v=>?_⟩
  .rw[DB];exact All2.map_left (λx y hx=>RepE.ren J hx) W
  .rw[DB,rl]at hd;obtain⟨O,G,rfl⟩:=hd;rw[MI];exact h2 O G v
 |_=>simp only[D.ren]at key ⊢;exact key h
def RepD.ren{μ':List Nat}(G:∀r b,μ[r]?=some b->μ'[Dm π r]?=some b){d:D}{u:Value}(h:RepD g w μ d u):RepD g w μ' (d.ren π) u:=by
 have key:RepG g w μ d u->RepG g w μ' (d.ren π) u:=λh=>RepG.ren G h;cases d with
 |tup ds=>
  obtain⟨vs,rfl,J⟩:=h;simp only[D.ren];refine⟨vs,rfl,?_⟩;rw[DB];exact All2.map_left (λx y hx=>RepG.ren G hx) J
 |_=>simp only[D.ren]at key ⊢;exact key h
def TQ(d:D)(v:Value)(k:Nat):Ar (d.ren π) v k=Ar d v k:=by
 cases d with
 |tup ds=>
  have e:∀v:Value,Am ((ds.map (D.ren π))[k]?.getD .any) v=Am (ds[k]?.getD .any) v:=by
   intro v;simp only[rk];cases ds[k]? with
   |none=>rfl
   |some d=>simp[MI]
  have e2:∀(ds:List D)(v:Value),Am (.tup ds) v=none:=λ_ _=>rfl;simp only[D.ren,DB];cases v<;>cases k<;>simp only[Ar,e,e2]
 |_=>cases k<;>simp only[D.ren,Ar,Am]
def Inv.ren{t t':Nat->D}{u:Nat->Value}{h:List Row}{O:Nat->Prop}{n0:Nat}(hi:Inv g w μ t u h O)(hp:MG n0 h.length π=true)(ho:Nn h=true)(ht:∀n,t' n=(t n).ren π):
  Inv g w (MB π μ) t' u (BD π h) O:=by
 have b2:μ.length=h.length:=hi.len;have U:∀r,r <h.length->Dm π r <h.length/\Dm (CT π) r <h.length/\Dm (CT π) (Dm π r)=r/\Dm π (Dm (CT π) r)=r:=by intro r G;have:=ry.1 hp r (sM.2 G);simp only[rX,decide_eq_true_eq,beq_iff_eq]at this;exact⟨this.1.1.1.1,this.1.1.1.2,this.1.1.2,this.1.2⟩
 have hμ:∀r b,(MB π μ)[r]?=some b↔r <h.length/\μ[Dm (CT π) r]?=some b:=by
  intro r b;simp only[MB,rk];by_cases G:r <h.length
  .have:(List.range μ.length)[r]?=some r:=tT AE;have a1:=(U r G).2.1;have e1:μ[Dm (CT π) r]?=some μ[Dm (CT π) r]:=rW AE;simp only[this,sT,e1,sA,G,true_and]
  .have:(List.range μ.length)[r]?=none:=by simp;omega
   simp[this,G]
 have hh:∀r row,(BD π h)[r]?=some row↔r <h.length/\∃W,h[Dm (CT π) r]?=some W/\row=W.ren π:=by
  intro r row;simp only[BD,rk];by_cases G:r <h.length
  .have:(List.range h.length)[r]?=some r:=tT G;have a1:=(U r G).2.1;have e1:h[Dm (CT π) r]?=some h[Dm (CT π) r]:=rW a1;simp only[this,sT,e1,sA,G,true_and,rV];exact⟨λh=>⟨_,rfl,h.symm⟩,λ⟨x,hx,G⟩=>by rw[G,hx]⟩
  .have:(List.range h.length)[r]?=none:=by simp;omega
   simp[this,G]
 have hπ:∀r b,μ[r]?=some b->(MB π μ)[Dm π r]?=some b:=by
  intro r b J;have G:r <h.length:=by have:=(rZ.1 J).1;omega
  rw[hμ];exact⟨(U r G).1,by rw[(U r G).2.2.1];exact J⟩
 have a6:∀r k,r <h.length->BT w (MB π μ) r k=BT w μ (Dm (CT π) r) k:=by intro r k G;simp only[BT];have a1:=(U r G).2.1;have e1:μ[Dm (CT π) r]?=some μ[Dm (CT π) r]:=rW AE;rw[(hμ r _).2 ⟨G,e1⟩,e1]
 have a2:∀r k v,r <h.length->Am (BJ (BD π h) r k) v=Am (BJ h (Dm (CT π) r) k) v:=by
  intro r k v G;have a1:=(U r G).2.1;have e1:h[Dm (CT π) r]?=some h[Dm (CT π) r]:=rW a1;simp only[BJ,(hh r _).2 ⟨G,_,e1,rfl⟩,e1];cases h[Dm (CT π) r]with
  |cells ds=>
   simp only[Row.ren,DB,rk];cases ds[k]? with
   |none=>rfl
   |some d=>simp[MI]
  |_=>rfl
 have b0:∀r k v,¬r <h.length->Am (BJ (BD π h) r k) v=none:=by
  intro r k v G;have:(BD π h)[r]?=none:=by simp[BD];omega
  simp[BJ,this,Am]
 have Z:∀p b,Cm t' u (BD π h) w (MB π μ) p=some b->Cm t u h w μ (match p with| .tmp n k=> .tmp n k| .cell r k=> .cell (Dm (CT π) r) k)=some b:=by
  intro p b J;cases p with
  |tmp n k=>simp only[Cm,ht,TQ]at J ⊢;exact J
  |cell r k=>
   simp only[Cm]at J ⊢;by_cases G:r <h.length
   .rw[a2 r k _ G,a6 r k G]at J;exact J
   .rw[b0 r k _ G]at J;cases J
 have a7:∀r k b,Cm t' u (BD π h) w (MB π μ) (.cell r k)=some b->r <h.length:=by
  intro r k b J;by_cases G:r <h.length
  .exact G
  .simp only[Cm,b0 r k _ G]at J;cases J
 have a8:∀b,b∈MB π μ->b∈μ:=by intro b J;obtain⟨r,G⟩:=tK.1 J;exact rY ((hμ r b).1 G).2
 refine⟨hi.agree,hi.olt,λn=>by rw[ht];exact(hi.rep n).ren hπ,by simp[MB,BD,b2],?_,?_,λb J=>hi.mo b (a8 b J),?_,λp b J=>⟨λhm=>(hi.sep _ b (Z p b J)).1 (a8 b hm),(hi.sep _ b (Z p b J)).2⟩⟩
 .intro r row b G J;obtain⟨_,W,b3,rfl⟩:=(hh r row).1 G;have b5:=((hμ r b).1 J).2;have:=hi.rows _ W b b3 b5;cases W with
  |cells ds=>
   obtain⟨vs,T,h1,h2,h3,h4⟩:=this;exact⟨vs,T,h1,by rw[DB];exact All2.map_left (λx y hx=>RepE.ren hπ hx) h2,h3,h4⟩
  |map es st ck=>exact this
  |obj tag p m=>
   have:=ry.1 ho _ (rY b3);simp[Row.isObj]at this
  |dead=>exact this
 .intro r r' b J b4;obtain⟨G,h1⟩:=(hμ r b).1 J;obtain⟨b1,h2⟩:=(hμ r' b).1 b4;have:=hi.nod _ _ b h1 h2;rw[<-(U r G).2.2.2,<-(U r' b1).2.2.2,this]
 .intro p q b hp hq;have h1:=Z p b hp;have h2:=Z q b hq;have:=hi.uniq _ _ b h1 h2;cases p with
  |tmp n k=>cases q with
   |tmp n' k'=>exact this
   |cell r' k'=>cases this
  |cell r k=>cases q with
   |tmp n' k'=>cases this
   |cell r' k'=>
    simp only[Pl.cell.injEq]at this;have G:=a7 r k b hp;have b1:=a7 r' k' b hq;rw[<-(U r G).2.2.2,<-(U r' b1).2.2.2,this.1,this.2]
end
section
variable {GL:Ai} {N:Nat}
theorem Gs.ren{g:Gh}{w:World}{μ:List Nat}{s s2:St}{a:Act}{O:Nat->Prop}{n0:Nat}(hg:Gs GL N g w μ s a O)(hr:Qy n0 s s2):∃μ2,Gs GL N g w μ2 s2 a O/\∀μ0:List Nat,μ0.length<=n0->μ0 <+: μ->μ0 <+: μ2:=by
 rcases hr with rfl|⟨π,W,ho,he,hh⟩
 .exact⟨μ,hg,λ_ _ h=>h⟩
 .refine⟨MB π μ,⟨?_,hg.glob,hg.sz⟩,λμ0 hl hpre=>?_⟩
  .rw[hh];exact hg.inv.ren W ho he
  .have U:μ.length=s.h.length:=hg.inv.len;rw[List.prefix_iff_eq_take];apply sl;intro i;rw[sP];by_cases hi:i <μ0.length
   .rw[if_pos hi];have J:μ0[i]?=some μ0[i]:=rW hi;have h2:μ[i]?=some μ0[i]:=Fa hpre J;have G:i <s.h.length:=by have:=(rZ.1 h2).1;omega
    have:=ry.1 W i (sM.2 G);simp only[rX,ta,decide_eq_true_eq,beq_iff_eq]at this;have Z:Dm (CT π) i=i:=by
     rcases this.2 with h|h
     .omega
     .exact h
    simp only[MB,rk,tT (show i <μ.length by omega),sT,Z,h2,sA,J]
   .rw[if_neg hi,sU AE]
end
end
end Go.Va
