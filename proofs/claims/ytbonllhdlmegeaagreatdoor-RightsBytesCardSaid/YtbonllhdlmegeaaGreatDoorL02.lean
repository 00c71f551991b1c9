/- Laws, part 2. No condition. -/
import Derived.CallsIn
import Derived.Laws.AppendOwn
import Derived.Laws.Cells
import Derived.MapKept
import Derived.Laws.Panics
import Derived.Laws.StructEq
import Derived.Laws.IdiomStrings
import Derived.WideKeyRuns
import Derived.Great.BuildSlice
set_option linter.all false
set_option maxRecDepth 100000
set_option maxHeartbeats 4000000
noncomputable section
namespace Go.Va
inductive V where
 |int (k:IntKind) (n:Int)
 |bool (b:Bool)
 |str (s:ByteArray)
 |list (xs:List V)
 |agg (cs:List V)
 |ptr (cs:List V)
 |nilp
 |func (f:Nat) (caps:List V)
 |nilf
 |nilm
 deriving Inhabited
inductive D where
 |v (x:V)
 |any
 |nil (e s:Nat)
 |own (e s:Nat) (xs:List V)
 |agg (ds:List D)
 |tup (ds:List D)
 |ref (r off:Nat)
 |sref (r n:Nat)
 |mref (r:Nat)
 |func (f:Nat) (caps:List D)
 |meth (f:Nat) (caps:List D)
 |yld (r:Nat)
 |pend (b e s:Nat) (xs:List V)
 |pptr (b s n:Nat)
 deriving Inhabited
@[simp] abbrev NoGrow (e:Nat):Prop:=e≠70∧e≠3
def V.cells:V→List V
 | .agg cs=>cs
 |x=>[x]
structure Gh where
 m:Nat→Nat→Option Value
def Gh.at (g:Gh) (b o:Nat) (cs:List Value):Prop:=∀i v,cs[i]?=some v→g.m b (o+i)=some v
def Gh.le (g g':Gh):Prop:=∀b o v,g.m b o=some v→g'.m b o=some v
theorem Gh.le.refl (g:Gh):g.le g:=λ_ _ _ h=>h
theorem Gh.le.trans {a b c:Gh} (h:a.le b) (h':b.le c):a.le c:=λ_ _ _ x=>h' _ _ _ (h _ _ _ x)
theorem Gh.at.mono {g g':Gh} (h:g.le g') {b o:Nat} {cs:List Value} (ha:g.at b o cs):g'.at b o cs:=λi v hv=>h _ _ _ (ha i v hv)
inductive Tag where
 |ready
 |busy
 |done (e:Option Nat)
 deriving Inhabited,DecidableEq
inductive Row where
 |cells (ds:List D)
 |map (es:List (V×V)) (st:List Nat) (ck:Nat)
 |obj (tag:Tag) (p:Gh→List Nat→Obj→Prop) (mono:∀g g' μ μ' o,g.le g'→μ <+: μ'→p g μ o→p g' μ' o)
 |dead
 deriving Inhabited
inductive RepV (g:Gh):V→Value→Prop
 |int (k:IntKind) (n:Int):RepV g (.int k n) (.int k n)
 |bool (b:Bool):RepV g (.bool b) (.bool b)
 |str (s:ByteArray):RepV g (.str s) (.string s)
 |lnil:RepV g (.list []) (.slice none 0 0)
 |list (xs:List V) (a:Addr) (cap s:Nat) (vs:Nat→Value) (hs:a.spot=none) (hc:xs.length≤cap)
   (hr:∀i x,xs[i]?=some x→RepV g x (vs i)) (hz:∀i,i <xs.length→(vs i).cells.size=s∧g.at a.block (a.off+i*s) (vs i).cells.toList):
   RepV g (.list xs) (.slice (some a) xs.length cap)
 |agg (cs:List V) (vs:List Value) (hl:vs.length=cs.length) (hr:∀(i:Nat) x v,cs[i]?=some x→vs[i]?=some v→RepV g x v) (h1:∀v∈vs,v.oneCell'=true):
   RepV g (.agg cs) (.agg vs.toArray)
 |ptr (cs:List V) (a:Addr) (vs:List Value) (hs:a.spot=none) (hl:vs.length=cs.length) (hr:∀(i:Nat) x v,cs[i]?=some x→vs[i]?=some v→RepV g x v)
   (h1:∀v∈vs,v.oneCell'=true) (ha:g.at a.block a.off vs):RepV g (.ptr cs) (.pointer (some a))
 |nilp:RepV g .nilp (.pointer none)
 |func (f:Nat) (caps:List V) (vs:List Value) (hl:vs.length=caps.length) (hr:∀(i:Nat) x v,caps[i]?=some x→vs[i]?=some v→RepV g x v):
   RepV g (.func f caps) (.func (.func f) #[] vs.toArray)
 |nilf:RepV g .nilf .nilFunc
 |nilm:RepV g .nilm (.map none)
theorem RepV.mono {g g':Gh} (h:g.le g') {x:V} {v:Value} (hr:RepV g x v):RepV g' x v:=by
 induction hr with
 |int=>exact .int _ _
 |bool=>exact .bool _
 |str=>exact .str _
 |lnil=>exact .lnil
 |list xs a cap s vs hs hc _ hz ih=>exact .list xs a cap s vs hs hc ih λi hi=>⟨(hz i hi).1,(hz i hi).2.mono h⟩
 |agg cs vs hl _ h1 ih=>exact .agg cs vs hl ih h1
 |ptr cs a vs hs hl _ h1 ha ih=>exact .ptr cs a vs hs hl ih h1 (ha.mono h)
 |nilp=>exact .nilp
 |func f caps vs hl _ ih=>exact .func f caps vs hl ih
 |nilf=>exact .nilf
 |nilm=>exact .nilm
def All2 {α β:Type} (R:α→β→Prop) (xs:List α) (ys:List β):Prop:=
 ys.length=xs.length∧∀(i:Nat) x y,xs[i]?=some x→ys[i]?=some y→R x y
theorem All2.nil {α β:Type} {R:α→β→Prop}:All2 R [] []:=⟨rfl,λi x y h=>by simp at h⟩
theorem All2.cons {α β:Type} {R:α→β→Prop} {x:α} {y:β} {xs:List α} {ys:List β} (h:R x y) (hs:All2 R xs ys):All2 R (x::xs) (y::ys):=by
 refine⟨by simp[hs.1],λi a b ha hb=>?_⟩;cases i with
 |zero=>simp at ha hb;subst ha;subst hb;exact h
 |succ i=>exact hs.2 i a b (by simpa using ha) (by simpa using hb)
theorem All2.cons_iff {α β:Type} {R:α→β→Prop} {x:α} {y:β} {xs:List α} {ys:List β}:All2 R (x::xs) (y::ys)↔R x y∧All2 R xs ys:=by
 constructor
 ·intro h;refine⟨h.2 0 x y rfl rfl,by simpa using h.1,λi a b ha hb=>h.2 (i+1) a b (by simpa using ha) (by simpa using hb)⟩
 ·exact λ⟨h,hs⟩=> .cons h hs
theorem All2.imp {α β:Type} {R S:α→β→Prop} (f:∀x y,R x y→S x y) {xs:List α} {ys:List β} (h:All2 R xs ys):All2 S xs ys:=
 ⟨h.1,λi x y hx hy=>f _ _ (h.2 i x y hx hy)⟩
theorem All2.append {α β:Type} {R:α→β→Prop} {xs:List α} {ys:List β} {xs':List α} {ys':List β} (h:All2 R xs ys) (h':All2 R xs' ys'):All2 R (xs++xs') (ys++ys'):=by
 refine⟨by simp[h.1,h'.1],λi a b ha hb=>?_⟩;by_cases hi:i <xs.length
 ·rw[List.getElem?_append_left hi]at ha;rw[List.getElem?_append_left (h.1▸hi)]at hb;exact h.2 i a b ha hb
 ·rw[List.getElem?_append_right (by omega)]at ha;rw[List.getElem?_append_right (by have:=h.1;omega),h.1]at hb;exact h'.2 _ a b ha hb
theorem All2.take {α β:Type} {R:α→β→Prop} {xs:List α} {ys:List β} (h:All2 R xs ys) (n:Nat):All2 R (xs.take n) (ys.take n):=by
 refine⟨by simp[h.1],λi a b ha hb=>?_⟩;rw[List.getElem?_take]at ha hb;split at ha<;>simp_all
 exact h.2 i a b ha hb
theorem All2.drop {α β:Type} {R:α→β→Prop} {xs:List α} {ys:List β} (h:All2 R xs ys) (n:Nat):All2 R (xs.drop n) (ys.drop n):=by
 refine⟨by simp[h.1],λi a b ha hb=>?_⟩;rw[List.getElem?_drop]at ha hb;exact h.2 _ a b ha hb
theorem All2.get {α β:Type} {R:α→β→Prop} {xs:List α} {ys:List β} (h:All2 R xs ys) {i:Nat} {x:α} (hx:xs[i]?=some x):∃y,ys[i]?=some y∧R x y:=by
 have hi:i <xs.length:=(List.getElem?_eq_some_iff.1 hx).1;have hy:ys[i]?=some (ys[i]'(h.1▸hi)):=List.getElem?_eq_getElem _;exact⟨_,hy,h.2 i x _ hx hy⟩
theorem All2.set {α β:Type} {R:α→β→Prop} {xs:List α} {ys:List β} (h:All2 R xs ys) {i:Nat} {x:α} {y:β} (hxy:R x y):All2 R (xs.set i x) (ys.set i y):=by
 refine⟨by simp[h.1],λj a b ha hb=>?_⟩;rw[List.getElem?_set]at ha hb;by_cases hij:i=j
 ·subst hij;by_cases hi:i <xs.length
  ·have hi':i <ys.length:=h.1▸hi;simp[hi,hi']at ha hb;subst ha;subst hb;exact hxy
  ·simp[hi]at ha
 ·simp[hij]at ha hb;exact h.2 j a b ha hb
def AllP {α β:Type} (R:α→β→Prop) (xs:List α) (ys:List β):Prop:=
 xs.length≤ys.length∧∀(i:Nat) x y,xs[i]?=some x→ys[i]?=some y→R x y
theorem All2.p {α β:Type} {R:α→β→Prop} {xs:List α} {ys:List β} (h:All2 R xs ys):AllP R xs ys:=⟨Nat.le_of_eq h.1.symm,h.2⟩
theorem All2.pre {α β:Type} {R:α→β→Prop} {xs:List α} {ys zs:List β} (h:All2 R xs ys):AllP R xs (ys++zs):=by
 have:=h.1;refine⟨by simp;omega,λi x y hx hy=>?_⟩;have hi:=(List.getElem?_eq_some_iff.1 hx).1;rw[List.getElem?_append_left (by omega)]at hy;exact h.2 i x y hx hy
theorem AllP.get {α β:Type} {R:α→β→Prop} {xs:List α} {ys:List β} (h:AllP R xs ys) {i:Nat} {x:α} (hx:xs[i]?=some x):∃y,ys[i]?=some y∧R x y:=by
 have hi:i <xs.length:=(List.getElem?_eq_some_iff.1 hx).1;have hy:ys[i]?=some (ys[i]'(Nat.lt_of_lt_of_le hi h.1)):=List.getElem?_eq_getElem _;exact⟨_,hy,h.2 i x _ hx hy⟩
theorem AllP.part {α β:Type} {R:α→β→Prop} {xs:List α} {ys:List β} (h:AllP R xs ys) {off n:Nat} (hl:off+n≤xs.length):All2 R ((xs.drop off).take n) ((ys.drop off).take n):=by
 have:=h.1;refine⟨by simp;omega,λi a b ha hb=>?_⟩;rw[List.getElem?_take]at ha hb;split at ha<;>simp_all
 exact h.2 _ a b ha hb
theorem AllP.take {α β:Type} {R:α→β→Prop} {xs:List α} {ys:List β} (h:AllP R xs ys) {n:Nat} (hl:n≤xs.length):All2 R (xs.take n) (ys.take n):=by
 simpa using h.part (off:=0) (n:=n) (by omega)
theorem AllP.map_left {α β γ:Type} {R:α→β→Prop} {S:γ→β→Prop} {f:α→γ} (hf:∀x y,R x y→S (f x) y) {xs:List α} {ys:List β} (h:AllP R xs ys):AllP S (xs.map f) ys:=by
 refine⟨by simpa using h.1,λi x y hx hy=>?_⟩;simp only[List.getElem?_map,Option.map_eq_some_iff]at hx;obtain⟨x',hx',rfl⟩:=hx;exact hf _ _ (h.2 i x' y hx' hy)
theorem RepV.agg' {g:Gh} {cs:List V} {vs:List Value} (h:All2 (RepV g) cs vs) (h1:∀v∈vs,v.oneCell'=true):RepV g (.agg cs) (.agg vs.toArray):= .agg cs vs h.1 h.2 h1
theorem RepV.agg_inv {g:Gh} {cs:List V} {v:Value} (h:RepV g (.agg cs) v):∃vs:List Value,v= .agg vs.toArray∧All2 (RepV g) cs vs∧∀v∈vs,v.oneCell'=true:=by
 cases h with
 |agg _ vs hl hr h1=>exact⟨vs,rfl,⟨hl,hr⟩,h1⟩
theorem cells_of_one {v:Value} (h:v.oneCell'=true):v.cells= #[v]:=by cases v<;>simp_all [Value.oneCell',Value.cells]
theorem RepV.cells {g:Gh} {x:V} {v:Value} (h:RepV g x v):All2 (RepV g) x.cells v.cells.toList∧∀u∈v.cells.toList,u.oneCell'=true:=by
 cases h with
 |agg cs vs hl hr h1=>simpa[V.cells,Value.cells]using ⟨⟨hl,hr⟩,h1⟩
 |int k n=>exact⟨.cons (.int k n) .nil,by simp[Value.cells,Value.oneCell']⟩
 |bool b=>exact⟨.cons (.bool b) .nil,by simp[Value.cells,Value.oneCell']⟩
 |str s=>exact⟨.cons (.str s) .nil,by simp[Value.cells,Value.oneCell']⟩
 |lnil=>exact⟨.cons .lnil .nil,by simp[Value.cells,Value.oneCell']⟩
 |list xs a cap s vs hs hc hr hz=>exact⟨.cons (.list xs a cap s vs hs hc hr hz) .nil,by simp[Value.cells,Value.oneCell']⟩
 |ptr cs a vs hs hl hr h1 ha=>exact⟨.cons (.ptr cs a vs hs hl hr h1 ha) .nil,by simp[Value.cells,Value.oneCell']⟩
 |nilp=>exact⟨.cons .nilp .nil,by simp[Value.cells,Value.oneCell']⟩
 |func f caps vs hl hr=>exact⟨.cons (.func f caps vs hl hr) .nil,by simp[Value.cells,Value.oneCell']⟩
 |nilf=>exact⟨.cons .nilf .nil,by simp[Value.cells,Value.oneCell']⟩
 |nilm=>exact⟨.cons .nilm .nil,by simp[Value.cells,Value.oneCell']⟩
def own1:D→Value→Option Nat
 | .own _ _ _,.slice (some a) _ cap=>if cap=0 then none else some a.block
 | .pend b _ _ _,_=>some b
 |_,_=>none
def ownAt:D→Value→Nat→Option Nat
 | .tup ds,.tuple vs,k=>own1 (ds[k]?.getD .any) (vs.toList[k]?.getD (.bool false))
 |d,v,0=>own1 d v
 |_,_,_=>none
def RepOwn (g:Gh) (w:World) (e s:Nat) (xs:List V) (v:Value):Prop:=
 (∃a:Option Addr,v= .slice a 0 0∧xs=[]∧(∀x,a=some x→x.spot=none))∨
 ∃b cap cur,∃vs:Nat→Value,v= .slice (some ⟨b,0,none⟩) xs.length cap∧0 <cap∧w.heap[b]?=some (.cells cur e (0,0))∧xs.length≤cap∧cur.size=cap*s∧
  (∀i x,xs[i]?=some x→RepV g x (vs i))∧(∀i,i <xs.length→(vs i).cells.size=s∧g.at b (i*s) (vs i).cells.toList)∧
  (∀o,xs.length*s≤o→g.m b o=none)
def D.copy:D→D
 | .own _ _ xs=> .v (.list xs)
 | .tup _=> .any
 | .pend _ _ _ _=> .any
 |d=>d
def D.v?:D→Option V
 | .v x=>some x
 | .own _ _ xs=>some (.list xs)
 | .nil _ _=>some (.list [])
 |_=>none
def D.vs?:List D→Option (List V)
 |[]=>some []
 |d::ds=>match d.v?,D.vs? ds with
  |some x,some xs=>some (x::xs)
  |_,_=>none
def D.toV:D→Option V
 | .agg ds=>(D.vs? ds).map .agg
 | .func f caps=>(D.vs? caps).map (.func f)
 |d=>d.v?
def RepC (g:Gh) (μ:List Nat):D→Value→Prop
 | .v x,u=>RepV g x u
 | .ref r off,u=>∃b,μ[r]?=some b∧u= .pointer (some ⟨b,off,none⟩)
 |_,_=>False
def RepE (g:Gh) (w:World) (μ:List Nat):D→Value→Prop
 | .v x,u=>RepV g x u
 | .any,_=>True
 | .nil _ _,u=>∃a:Option Addr,u= .slice a 0 0∧∀x,a=some x→x.spot=none
 | .own e s xs,u=>RepOwn g w e s xs u∧(xs=[]→NoGrow e→∃a,u= .slice a 0 0)
 | .ref r off,u=>∃b,μ[r]?=some b∧u= .pointer (some ⟨b,off,none⟩)
 | .sref r n,u=>∃b cap,μ[r]?=some b∧u= .slice (some ⟨b,0,none⟩) n cap∧n≤cap
 | .mref r,u=>∃b,μ[r]?=some b∧u= .map (some b)
 | .func f caps,u=>∃vs:List Value,u= .func (.func f) #[] vs.toArray∧All2 (RepC g μ) caps vs
 | .meth f caps,u=>∃vs:List Value,u= .func (.func f) vs.toArray #[]∧All2 (RepC g μ) caps vs
 | .yld r,u=>∃b,μ[r]?=some b∧u= .func (.yield b) #[] #[]
 | .pend b e s xs,u=>∃cap,u= .slice (some ⟨b,0,none⟩) (xs.length+1) cap∧xs.length+1≤cap∧RepOwn g w e s xs (.slice (some ⟨b,0,none⟩) xs.length cap)
 | .pptr b s n,u=>(s=0∧∃cap,u= .slice (some ⟨b,0,none⟩) (n+1) cap)∨(0 <s∧u= .pointer (some ⟨b,n*s,none⟩))
 |_,_=>False
def RepG (g:Gh) (w:World) (μ:List Nat):D→Value→Prop
 | .agg ds,u=>∃vs:List Value,u= .agg vs.toArray∧All2 (RepE g w μ) ds vs∧(∀v∈vs,v.oneCell'=true)∧∀d∈ds,∀v,own1 d v=none
 |d,u=>RepE g w μ d u
def RepD (g:Gh) (w:World) (μ:List Nat):D→Value→Prop
 | .tup ds,u=>∃vs:List Value,u= .tuple vs.toArray∧All2 (RepG g w μ) ds vs
 |d,u=>RepG g w μ d u
structure Chg (M:Nat→Prop) (g:Gh) (w:World) (g':Gh) (w':World):Prop where
 le:g.le g'
 size:w.heap.size≤w'.heap.size
 heap:∀b,b <w.heap.size→¬M b→w'.heap[b]?=w.heap[b]?
 gh:∀b,b <w.heap.size→¬M b→∀o,g'.m b o=g.m b o
 os:w'.os=w.os
 out:w'.output=w.output
theorem Chg.refl (M:Nat→Prop) (g:Gh) (w:World):Chg M g w g w:=⟨Gh.le.refl g,Nat.le_refl _,λ_ _ _=>rfl,λ_ _ _ _=>rfl,rfl,rfl⟩
theorem Chg.mono {M M':Nat→Prop} (hm:∀b,M b→M' b) {g g':Gh} {w w':World} (h:Chg M g w g' w'):Chg M' g w g' w':=
 ⟨h.le,h.size,λb hb hn=>h.heap b hb λx=>hn (hm b x),λb hb hn=>h.gh b hb λx=>hn (hm b x),h.os,h.out⟩
theorem Chg.trans {M:Nat→Prop} {g g' g'':Gh} {w w' w'':World} (h:Chg M g w g' w') (h':Chg M g' w' g'' w''):Chg M g w g'' w'':=
 ⟨h.le.trans h'.le,Nat.le_trans h.size h'.size,λb hb hn=>(h'.heap b (Nat.lt_of_lt_of_le hb h.size) hn).trans (h.heap b hb hn),
  λb hb hn o=>(h'.gh b (Nat.lt_of_lt_of_le hb h.size) hn o).trans (h.gh b hb hn o),h'.os.trans h.os,h'.out.trans h.out⟩
theorem lt_of_heap {w:World} {b:Nat} {o:Obj} (h:w.heap[b]?=some o):b <w.heap.size:=by
 rcases Nat.lt_or_ge b w.heap.size with h'|h'
 ·exact h'
 ·simp[Array.getElem?_eq_none h']at h
theorem pre_get {μ μ':List Nat} (hμ:μ <+: μ') {r b:Nat} (h:μ[r]?=some b):μ'[r]?=some b:=by
 obtain⟨t,rfl⟩:=hμ;rw[List.getElem?_append_left (List.getElem?_eq_some_iff.1 h).1];exact h
section chg
variable {M:Nat→Prop} {g g':Gh} {w w':World} {μ μ':List Nat}
theorem RepOwn.chg (hc:Chg M g w g' w') {e s:Nat} {xs:List V} {u:Value} (h:RepOwn g w e s xs u)
  (hn:∀b,own1 (.own e s xs) u=some b→¬M b):RepOwn g' w' e s xs u:=by
 rcases h with h|⟨b,cap,cur,vs,rfl,h0,hb,hl,hs,hr,hz,hf⟩
 ·exact .inl h
 ·have hM:¬M b:=hn b (by simp[own1];omega);have hlt:=lt_of_heap hb;exact .inr ⟨b,cap,cur,vs,rfl,h0,(hc.heap b hlt hM).trans hb,hl,hs,λi x hx=>(hr i x hx).mono hc.le,λi hi=>⟨(hz i hi).1,(hz i hi).2.mono hc.le⟩,
   λo ho=>(hc.gh b hlt hM o).trans (hf o ho)⟩
theorem RepC.chg (hl:g.le g') (hμ:μ <+: μ') {d:D} {u:Value} (h:RepC g μ d u):RepC g' μ' d u:=by
 cases d<;>simp only[RepC]at h ⊢
 ·exact h.mono hl
 ·obtain⟨b,hb,rfl⟩:=h;exact⟨b,pre_get hμ hb,rfl⟩
theorem RepE.chg (hc:Chg M g w g' w') (hμ:μ <+: μ') {d:D} {u:Value} (h:RepE g w μ d u) (hn:∀b,own1 d u=some b→¬M b):RepE g' w' μ' d u:=by
 cases d<;>simp only[RepE]at h ⊢
 ·exact h.mono hc.le
 ·exact h
 ·exact⟨RepOwn.chg hc h.1 hn,h.2⟩
 ·obtain⟨b,hb,rfl⟩:=h;exact⟨b,pre_get hμ hb,rfl⟩
 ·obtain⟨b,cap,hb,rfl,hcap⟩:=h;exact⟨b,cap,pre_get hμ hb,rfl,hcap⟩
 ·obtain⟨b,hb,rfl⟩:=h;exact⟨b,pre_get hμ hb,rfl⟩
 ·obtain⟨vs,rfl,h⟩:=h;exact⟨vs,rfl,h.imp λ_ _=>RepC.chg hc.le hμ⟩
 ·obtain⟨vs,rfl,h⟩:=h;exact⟨vs,rfl,h.imp λ_ _=>RepC.chg hc.le hμ⟩
 ·obtain⟨b,hb,rfl⟩:=h;exact⟨b,pre_get hμ hb,rfl⟩
 ·obtain⟨cap,rfl,hcap,ho⟩:=h;refine⟨cap,rfl,hcap,RepOwn.chg hc ho λb' hb'=>hn b' ?_⟩;simp only[own1]at hb' ⊢;split at hb'
  ·cases hb'
  ·exact hb'
 ·exact h
theorem RepG.chg (hc:Chg M g w g' w') (hμ:μ <+: μ') {d:D} {u:Value} (h:RepG g w μ d u) (hn:∀b,own1 d u=some b→¬M b):RepG g' w' μ' d u:=by
 cases d<;>simp only[RepG]at h ⊢ <;>first
  |exact h.chg hc hμ hn
  |(obtain⟨vs,rfl,ha,h1,h0⟩:=h
    refine⟨vs,rfl,⟨ha.1,λi x v hx hv=>(ha.2 i x v hx hv).chg hc hμ λb hb=>?_⟩,h1,h0⟩;rw[h0 x (List.mem_of_getElem? hx) v]at hb;cases hb)
theorem RepD.chg (hc:Chg M g w g' w') (hμ:μ <+: μ') {d:D} {u:Value} (h:RepD g w μ d u) (hn:∀k b,ownAt d u k=some b→¬M b):RepD g' w' μ' d u:=by
 cases d<;>simp only[RepD]at h ⊢ <;>first
  |exact h.chg hc hμ λb hb=>hn 0 b (by simpa[ownAt]using hb)
  |(obtain⟨vs,rfl,ha⟩:=h
    refine⟨vs,rfl,ha.1,λi x v hx hv=>(ha.2 i x v hx hv).chg hc hμ λb hb=>hn i b ?_⟩;simp[ownAt,hx,hv,hb])
end chg
def RowOK (g:Gh) (w:World) (μ:List Nat) (b:Nat):Row→Prop
 | .cells ds=>∃(vs:List Value) (T:TypeId),w.heap[b]?=some (.cells vs.toArray T (0,0))∧AllP (RepE g w μ) ds vs∧(∀v∈vs,v.oneCell'=true)∧∀o,g.m b o=none
 | .map es st ck=>∃(ents:Array MapEntry),w.heap[b]?=some (.map ents ck)∧MapKept.Stamped ents ck∧ents.toList.map (·.born)=st∧All2 (λkv x=>RepV g kv.1 x.key∧RepV g kv.2 x.val) es ents.toList∧∀o,g.m b o=none
 | .obj _ p _=>∃o,w.heap[b]?=some o∧p g μ o∧∀o,g.m b o=none
 | .dead=>b <w.heap.size
def cellD (h:List Row) (r k:Nat):D:=
 match h[r]? with
 |some (.cells ds)=>ds[k]?.getD .any
 |_=> .any
def cellU (w:World) (μ:List Nat) (r k:Nat):Value:=((μ[r]?).bind λb=>w.cell? ⟨b,k,none⟩).getD (.bool false)
inductive Pl where
 |tmp (n k:Nat)
 |cell (r k:Nat)
def blk (t:Nat→D) (u:Nat→Value) (h:List Row) (w:World) (μ:List Nat):Pl→Option Nat
 | .tmp n k=>ownAt (t n) (u n) k
 | .cell r k=>own1 (cellD h r k) (cellU w μ r k)
structure Inv (g:Gh) (w:World) (μ:List Nat) (t:Nat→D) (u:Nat→Value) (h:List Row) (O:Nat→Prop):Prop where
 agree:∀b o v,g.m b o=some v→w.cell? ⟨b,o,none⟩=some v
 olt:∀b,O b→b <w.heap.size
 rep:∀n,RepD g w μ (t n) (u n)
 len:μ.length=h.length
 rows:∀(r:Nat) row b,h[r]?=some row→μ[r]?=some b→RowOK g w μ b row
 nod:∀(r r':Nat) b,μ[r]?=some b→μ[r']?=some b→r=r'
 mo:∀b,b∈μ→¬O b
 uniq:∀p q b,blk t u h w μ p=some b→blk t u h w μ q=some b→p=q
 sep:∀p b,blk t u h w μ p=some b→b∉μ∧¬O b
theorem RowOK.lt {g:Gh} {w:World} {μ:List Nat} {b:Nat} {row:Row} (h:RowOK g w μ b row):b <w.heap.size:=by
 cases row with
 |cells ds=>obtain⟨vs,T,hb,_⟩:=h;exact lt_of_heap hb
 |map es st ck=>obtain⟨_,hb,_⟩:=h;exact lt_of_heap hb
 |obj _ p _=>obtain⟨_,hb,_⟩:=h;exact lt_of_heap hb
 |dead=>exact h
theorem own1_lt {g:Gh} {w:World} {μ:List Nat} {d:D} {u:Value} (h:RepE g w μ d u) {b:Nat} (hb:own1 d u=some b):b <w.heap.size:=by
 cases d<;>simp only[own1]at hb<;>try (cases hb;done)
 case pend b' e s xs=>
  obtain⟨cap,rfl,hcap,ho⟩:=h;simp only[Option.some.injEq]at hb;subst hb;rcases ho with ⟨a,h1,h2,_⟩|⟨b',cap',cur,vs,h1,h0,hb',_⟩
  ·simp only[Value.slice.injEq]at h1;omega
  ·simp only[Value.slice.injEq,Option.some.injEq,Addr.mk.injEq]at h1;obtain⟨⟨rfl,_,_⟩,_,_⟩:=h1;exact lt_of_heap hb'
 rcases h with ⟨a,rfl,_⟩|⟨b',cap,cur,vs,rfl,h0,hb',_⟩
 ·cases a<;>simp at hb
 ·simp at hb;obtain⟨_,rfl⟩:=hb;exact lt_of_heap hb'
theorem cellU_of {w:World} {μ:List Nat} {r k b:Nat} {vs:List Value} {T:TypeId} (hμ:μ[r]?=some b)
  (hb:w.heap[b]?=some (.cells vs.toArray T (0,0))) {v:Value} (hv:vs[k]?=some v):cellU w μ r k=v:=by
 simp[cellU,hμ,World.cell?,hb,hv]
inductive Opd where
 |t (n:Nat) (mv:Bool)
 |c (d:D)
 |g (n:Nat) (cs:List V)
 deriving Inhabited
abbrev Env:=List (Nat×D)
def find:Env→Nat→D
 |[],_=> .any
 |(k,d)::e,n=>if k=n then d else find e n
noncomputable def findF (e:Env) (n:Nat):D:=List.rec (motive:=λ_=>D) .any (λp _ ih=>Bool.rec (motive:=λ_=>D) ih p.2 (Nat.beq p.1 n)) e
@[simp] theorem findF_eq (e:Env) (n:Nat):findF e n=find e n:=by
 induction e with
 |nil=>rfl
 |cons p e ih=>
  have h:findF (p::e) n=Bool.rec (motive:=λ_=>D) (findF e n) p.2 (Nat.beq p.1 n):=rfl;rw[h,ih,find];cases hb:Nat.beq p.1 n with
  |false=>rw[if_neg (Nat.ne_of_beq_eq_false hb)]
  |true=>rw[if_pos (Nat.eq_of_beq_eq_true hb)]
def Opd.ev (e:Env):Opd→D
 | .t n mv=>if mv then findF e n else (findF e n).copy
 | .c d=>d
 | .g _ cs=> .v (.ptr cs)
inductive PI where
 |pick (c a b:Opd)
 |build (zs:List D) (ps:List (Nat×Nat×Opd))
 |load (a:Opd) (n:Nat) (ag:Bool)
 |nilc (x:Opd)
 |bin (op:BinOp) (x y:Opd)
 |eqB (ne:Bool) (x y:Opd)
 |eqA (ne:Bool) (ks:List Nat) (x y:Opd)
 |eqP (ne:Bool) (x y:Opd)
 |not (x:Opd)
 |neg (x:Opd)
 |inv (x:Opd)
 |cint (k:IntKind) (x:Opd)
 |faddr (x:Opd) (off n:Nat)
 |fld (x:Opd) (off n:Nat) (ag:Bool)
 |iaddr (x i:Opd) (s:Nat)
 |iaddrA (x i:Opd) (len s:Nat)
 |iaddrP (x i:Opd) (s:Nat)
 |idxS (x i:Opd)
 |slc (x:Opd) (lo hi:Option Opd) (s:Nat)
 |slcS (x:Opd) (lo hi:Option Opd)
 |slc0 (x:Opd) (e s:Nat)
 |ext (x:Opd) (i:Nat)
 |mkf (f:Nat) (caps:List Opd)
 |mkme (f:Nat) (firsts:List Opd)
 |idxA (x i:Opd) (n s:Nat) (ag:Bool)
 |alen (x:Opd)
 |lenS (x:Opd)
 |minmax (mx:Bool) (x y:Opd)
 |b2s (x:Opd)
 |look (m k:Opd) (st:Bool) (ks:List Nat) (zs:List D) (ag ok:Bool)
 |mlen (m:Opd)
 deriving Inhabited
def V.bin (op:BinOp):V→V→Option V
 | .int k a,.int k' b=>
  match op with
  | .shl=>if 0≤b then some (.int k (k.wrap (a*2^(min b.toNat k.bits)))) else none
  | .shr=>if 0≤b then some (.int k (a.fdiv (2^(min b.toNat k.bits)))) else none
  |op=>if k=k' then
    match op with
    | .add=>some (.int k (k.wrap (a+b)))
    | .sub=>some (.int k (k.wrap (a-b)))
    | .mul=>some (.int k (k.wrap (a*b)))
    | .quo=>if b=0 then none else some (.int k (k.wrap (a.tdiv b)))
    | .rem=>if b=0 then none else some (.int k (a.tmod b))
    | .and=>some (.int k (k.wrap (BitVec.ofInt k.bits a &&& BitVec.ofInt k.bits b).toNat))
    | .or=>some (.int k (k.wrap (BitVec.ofInt k.bits a ||| BitVec.ofInt k.bits b).toNat))
    | .xor=>some (.int k (k.wrap (BitVec.ofInt k.bits a ^^^ BitVec.ofInt k.bits b).toNat))
    | .andNot=>some (.int k (k.wrap (BitVec.ofInt k.bits a &&& ~~~BitVec.ofInt k.bits b).toNat))
    | .eql=>some (.bool (a==b))
    | .neq=>some (.bool (a != b))
    | .lss=>some (.bool (decide (a <b)))
    | .leq=>some (.bool (decide (a≤b)))
    | .gtr=>some (.bool (decide (a>b)))
    | .geq=>some (.bool (decide (a≥b)))
    |_=>none
   else none
 | .str a,.str b=>
  match op with
  | .eql=>some (.bool (a.toList==b.toList))
  | .neq=>some (.bool (!(a.toList==b.toList)))
  |_=>none
 |_,_=>none
def V.eq1:Nat→V→V→Option Bool
 |0,.int k a,.int k' b=>if k=k' then some (a==b) else none
 |1,.bool a,.bool b=>some (a==b)
 |2,.str a,.str b=>some (a.toList==b.toList)
 |_,_,_=>none
def V.eqL:List Nat→List V→List V→Option Bool
 |[],[],[]=>some true
 |k::ks,x::xs,y::ys=>match V.eq1 k x y,V.eqL ks xs ys with
  |some a,some b=>some (a&&b)
  |_,_=>none
 |_,_,_=>none
def D.isNil:D→Option Bool
 | .v .nilp| .v .nilf| .v .nilm=>some true
 | .v (.ptr _)| .v (.func _ _)| .ref _ _| .func _ _| .mref _=>some false
 |_=>none
def D.isNilP:D→Option Bool
 | .v .nilp=>some true
 | .v (.ptr _)| .ref _ _=>some false
 |_=>none
def V.getI (xs:List V) (i:Int):Option V:=if 0≤i then xs[i.toNat]? else none
def V.part (cs:List V) (off n:Nat) (ag:Bool):Option V:=
 if off+n≤cs.length then (if ag then some (.agg ((cs.drop off).take n)) else cs[off]?) else none
def D.part (cs:List D) (off n:Nat) (ag:Bool):Option D:=
 if off+n≤cs.length then (if ag then some (.agg (((cs.drop off).take n).map D.copy)) else (cs[off]?).map D.copy) else none
def headOK (s:Nat) (xs:List V):Bool:=xs.head?.all λx=>x.cells.length==s
def bndI (d:Option D) (dflt:Nat):Option Nat:=
 match d with
 |none=>some dflt
 |some (.v (.int _ n))=>if 0≤n then some n.toNat else none
 |_=>none
def putL {α:Type} (cs:List α) (off:Nat) (xs:List α):List α:=cs.take off++xs++cs.drop (off+xs.length)
def D.cells?:D→Option (List D)
 | .agg ds=>some ds
 | .v (.agg cs)=>some (cs.map .v)
 | .any| .tup _| .own _ _ _| .pend _ _ _ _| .pptr _ _ _=>none
 |d=>some [d]
def fillD (e:Env):List D→List (Nat×Nat×Opd)→Option (List D)
 |cs,[]=>some cs
 |cs,(off,n,x)::ps=>match (x.ev e).copy.cells? with
  |some xs=>if xs.length=n∧off+n≤cs.length then fillD e (putL cs off xs) ps else none
  |none=>none
def capsOf (e:Env):List Opd→List D
 |[]=>[]
 |x::xs=>(x.ev e).copy::capsOf e xs
def D.isCap:D→Bool
 | .v _| .ref _ _=>true
 |_=>false
def keyOK (st:Bool) (ks:List Nat) (x:V):Bool:=(match x with| .agg _=>st|_=> !st)&&(match V.eqL ks x.cells x.cells with|some true=>true|_=>false)
def mfind (st:Bool) (ks:List Nat) (x:V):List (V×V)→Option (Option Nat)
 |[]=>some none
 |p::es=>if keyOK st ks p.1 then (match V.eqL ks x.cells p.1.cells with
  |some true=>some (some 0)
  |some false=>(mfind st ks x es).map λr=>r.map (· +1)
  |none=>none) else none
def lookD (ok:Bool) (d:D) (b:Bool):D:=if ok then .tup [d,.v (.bool b)] else d
def bytesOf:List V→Option (List UInt8)
 |[]=>some []
 | .int .u8 n::xs=>if 0≤n∧n <256 then (bytesOf xs).map (UInt8.ofNat n.toNat::·) else none
 |_=>none
def PI.val (e:Env) (h:List Row):PI→Option D
 | .pick c a b=>match c.ev e with
  | .v (.bool t)=>some (if t then (a.ev e).copy else (b.ev e).copy)
  |_=>none
 | .build zs ps=>(fillD e zs ps).map .agg
 | .load a n ag=>match a.ev e with
  | .v (.ptr cs)=>(V.part cs 0 n ag).map .v
  | .ref r off=>match h[r]? with
   |some (.cells ds)=>D.part ds off n ag
   |_=>none
  |_=>none
 | .nilc x=>match (x.ev e).isNil with
  |some false=>some (x.ev e).copy
  |_=>none
 | .bin op x y=>match x.ev e,y.ev e with
  | .v a,.v b=>(V.bin op a b).map .v
  |_,_=>none
 | .eqB ne x y=>match x.ev e,y.ev e with
  | .v (.bool a),.v (.bool b)=>some (.v (.bool ((a==b) != ne)))
  |_,_=>none
 | .eqA ne ks x y=>match (x.ev e).toV,(y.ev e).toV with
  |some (.agg cs),some (.agg ds)=>(V.eqL ks cs ds).map λb=> .v (.bool (b != ne))
  |_,_=>none
 | .eqP ne x y=>match (x.ev e).isNilP,(y.ev e).isNilP with
  |some true,some b=>some (.v (.bool (b != ne)))
  |some b,some true=>some (.v (.bool (b != ne)))
  |_,_=>none
 | .not x=>match x.ev e with
  | .v (.bool a)=>some (.v (.bool (!a)))
  |_=>none
 | .neg x=>match x.ev e with
  | .v (.int k n)=>some (.v (.int k (k.wrap (0-n))))
  |_=>none
 | .inv x=>match x.ev e with
  | .v (.int k n)=>some (.v (.int k (k.wrap (BitVec.ofInt k.bits (if k.signed then -1 else k.max) ^^^ BitVec.ofInt k.bits n).toNat)))
  |_=>none
 | .cint k x=>match x.ev e with
  | .v (.int _ n)=>some (.v (.int k (k.wrap n)))
  |_=>none
 | .faddr x off n=>match x.ev e with
  | .v (.ptr cs)=>some (.v (.ptr ((cs.drop off).take n)))
  | .ref r o=>some (.ref r (o+off))
  |_=>none
 | .fld x off n ag=>match x.ev e with
  | .v (.agg cs)=>(V.part cs off n ag).map .v
  | .agg ds=>D.part ds off n ag
  |_=>none
 | .iaddr x i s=>match (x.ev e).copy,i.ev e with
  | .v (.list xs),.v (.int _ n)=>match V.getI xs n with
   |some y=>if y.cells.length=s then some (.v (.ptr y.cells)) else none
   |none=>none
  | .sref r m,.v (.int _ n)=>if 0≤n∧n <m then some (.ref r (n.toNat*s)) else none
  |_,_=>none
 | .iaddrA x i len s=>match x.ev e,i.ev e with
  | .v (.ptr cs),.v (.int _ n)=>if 0≤n∧n <len then some (.v (.ptr ((cs.drop (n.toNat*s)).take s))) else none
  | .ref r o,.v (.int _ n)=>if 0≤n∧n <len then some (.ref r (o+n.toNat*s)) else none
  |_,_=>none
 | .iaddrP x i s=>match x.ev e,i.ev e with
  | .pend b _ s' xs,.v (.int _ n)=>if (n=xs.length∧s'=s)∧0 <s then some (.pptr b s xs.length) else none
  | .pptr b 0 m,.v (.int _ n)=>if n=m∧0 <s then some (.pptr b s m) else none
  |_,_=>none
 | .idxS x i=>match x.ev e,i.ev e with
  | .v (.str s),.v (.int _ n)=>if 0≤n then (s[n.toNat]?).map λb=> .v (.int .u8 b.toNat) else none
  |_,_=>none
 | .slc x lo hi s=>match (x.ev e).copy with
  | .v (.list xs)=>match bndI (lo.map (·.ev e)) 0,bndI (hi.map (·.ev e)) xs.length with
   |some l,some m=>if l≤m∧m≤xs.length∧headOK s xs=true then some (.v (.list ((xs.take m).drop l))) else none
   |_,_=>none
  | .sref r n=>match bndI (lo.map (·.ev e)) 0,bndI (hi.map (·.ev e)) n with
   |some l,some m=>if l=0∧m≤n then some (.sref r m) else none
   |_,_=>none
  |_=>none
 | .slcS x lo hi=>match x.ev e with
  | .v (.str s)=>match bndI (lo.map (·.ev e)) 0,bndI (hi.map (·.ev e)) s.size with
   |some l,some m=>if l≤m∧m≤s.size then some (.v (.str (s.extract l m))) else none
   |_,_=>none
  |_=>none
 | .slc0 x el s=>match (x.ev e).copy with
  | .v (.list _)=>some (.nil el s)
  |_=>none
 | .ext x i=>match x with
  | .t n _=>match findF e n with
   | .tup ds=>(ds[i]?).map D.copy
   |_=>none
  |_=>none
 | .mkf f caps=>if (capsOf e caps).all D.isCap then some (.func f (capsOf e caps)) else none
 | .mkme f firsts=>if (capsOf e firsts).all D.isCap then some (.meth f (capsOf e firsts)) else none
 | .idxA x i n s ag=>match x.ev e,i.ev e with
  | .v (.agg cs),.v (.int _ k)=>if 0≤k∧k <n then (V.part cs (k.toNat*s) s ag).map .v else none
  | .agg ds,.v (.int _ k)=>if 0≤k∧k <n then D.part ds (k.toNat*s) s ag else none
  |_,_=>none
 | .alen x=>match (x.ev e).copy with
  | .v (.list xs)=>some (.v (.int .i64 xs.length))
  | .nil _ _=>some (.v (.int .i64 0))
  | .sref _ n=>some (.v (.int .i64 n))
  |_=>none
 | .lenS x=>match x.ev e with
  | .v (.str s)=>some (.v (.int .i64 s.size))
  |_=>none
 | .b2s x=>match (x.ev e).copy with
  | .v (.list xs)=>(bytesOf xs).map λbs=> .v (.str ⟨bs.toArray⟩)
  | .nil _ _=>some (.v (.str .empty))
  |_=>none
 | .look m k st ks zs ag ok=>match (k.ev e).toV with
  |some kv=>if keyOK st ks kv=true then
    match (if ag then some (D.agg zs) else zs.head?)with
    |some z=>match m.ev e with
     | .v .nilm=>some (lookD ok z false)
     | .mref r=>match h[r]? with
      |some (.map es _ _)=>match mfind st ks kv es with
       |some (some i)=>(es[i]?).map λp=>lookD ok (.v p.2) true
       |some none=>some (lookD ok z false)
       |none=>none
      |_=>none
     |_=>none
    |none=>none
   else none
  |none=>none
 | .mlen m=>match m.ev e with
  | .v .nilm=>some (.v (.int .i64 0))
  | .mref r=>match h[r]? with
   |some (.map es _ _)=>some (.v (.int .i64 es.length))
   |_=>none
  |_=>none
 | .minmax mx x y=>match x.ev e,y.ev e with
  | .v (.int k a),.v (.int k' b)=>if k=k' then some (.v (.int k (if mx then (if b>a then b else a) else (if b <a then b else a)))) else none
  |_,_=>none
def constV:Value→V→Bool
 | .int k n,.int k' n'=>k==k'&&n==n'
 | .bool b,.bool b'=>b==b'
 | .string s,.str s'=>decide (s=s')
 | .pointer none,.nilp=>true
 | .nilFunc,.nilf=>true
 | .map none,.nilm=>true
 |_,_=>false
def constD:Value→D→Bool
 | .slice none 0 0,.nil _ _=>true
 | .slice none 0 0,.own _ _ []=>true
 |v,.v x=>constV v x
 |_,_=>false
def zipOK {α β:Type} (f:α→β→Bool):List α→List β→Bool
 |[],[]=>true
 |x::xs,y::ys=>f x y&&zipOK f xs ys
 |_,_=>false
theorem zipOK_all2 {α β:Type} {f:α→β→Bool} {R:β→α→Prop} (hf:∀x y,f x y=true→R y x):∀ {xs:List α} {ys:List β},zipOK f xs ys=true→All2 R ys xs
 |[],[],_=> .nil
 |x::xs,y::ys,h=>by
  simp only[zipOK,Bool.and_eq_true]at h;exact .cons (hf _ _ h.1) (zipOK_all2 hf h.2)
 |[],_::_,h=>by simp[zipOK]at h
 |_::_,[],h=>by simp[zipOK]at h
theorem constV_one {v:Value} {x:V} (h:constV v x=true):v.oneCell'=true:=by
 cases v<;>cases x<;>simp_all [constV,Value.oneCell']
theorem constV_rep {g:Gh} {v:Value} {x:V} (h:constV v x=true):RepV g x v:=by
 unfold constV at h;split at h<;>(try simp only[Bool.and_eq_true,beq_iff_eq,decide_eq_true_eq]at h)<;>(try (obtain⟨rfl,rfl⟩:=h))<;>(try subst h)
 ·exact .int _ _
 ·exact .bool _
 ·exact .str _
 ·exact .nilp
 ·exact .nilf
 ·exact .nilm
abbrev Globals:=List (Nat×List Value)
def globOK (GL:Globals) (n:Nat) (cs:List V):Bool:=GL.any λp=>p.1==n&&zipOK constV p.2 cs
def constL:Value→V→Bool
 | .slice none 0 0,.list []=>true
 |v,x=>constV v x
theorem constL_rep {g:Gh} {v:Value} {x:V} (h:constL v x=true):RepV g x v:=by
 unfold constL at h;split at h
 ·exact .lnil
 ·exact constV_rep h
theorem constL_one {v:Value} {x:V} (h:constL v x=true):v.oneCell'=true:=by
 unfold constL at h;split at h
 ·rfl
 ·exact constV_one h
def oe (GL:Globals):Operand→Opd→Bool
 | .tmp n,.t n' _=>n==n'
 | .const (.agg cs),.c (.v (.agg xs))=>zipOK constL cs.toList xs
 | .const v,.c d=>constD v d
 | .func f,.c (.v (.func f' []))=>f==f'
 | .global n,.g n' cs=>n==n'&&globOK GL n cs
 |_,_=>false
theorem oe_const {GL:Globals} {v:Value} {d:D} (h:oe GL (.const v) (.c d)=true):constD v d=true∨∃cs xs,v= .agg cs∧d= .v (.agg xs):=by
 unfold oe at h;split at h
 ·rename_i h1 _;cases h1
 ·rename_i h1 h2;cases h1;cases h2;exact .inr ⟨_,_,rfl,rfl⟩
 ·rename_i h1 h2;cases h1;cases h2;exact .inl h
 ·rename_i h1 _;cases h1
 ·rename_i h1 _;cases h1
 ·cases h
def GlobOK (GL:Globals) (g:Gh):Prop:=∀p∈GL,g.at p.1 0 p.2
theorem RepOwn.list {g:Gh} {w:World} {e s:Nat} {xs:List V} {u:Value} (h:RepOwn g w e s xs u):RepV g (.list xs) u:=by
 rcases h with ⟨a,rfl,rfl,hs⟩|⟨b,cap,cur,vs,rfl,h0,hb,hl,hs,hr,hz,hf⟩
 ·cases a with
  |none=>exact .lnil
  |some a=>exact .list [] a 0 0 (λ_=> .bool true) (hs a rfl) (Nat.le_refl _) (by simp) (by simp)
 ·exact .list xs ⟨b,0,none⟩ cap s vs rfl hl hr λi hi=>by simpa using hz i hi
theorem RepNil.list {g:Gh} {u:Value} (h:∃a:Option Addr,u= .slice a 0 0∧∀x,a=some x→x.spot=none):RepV g (.list []) u:=by
 obtain⟨a,rfl,hs⟩:=h;cases a with
 |none=>exact .lnil
 |some a=>exact .list [] a 0 0 (λ_=> .bool true) (hs a rfl) (Nat.le_refl _) (by simp) (by simp)
theorem RepD.copy {g:Gh} {w:World} {μ:List Nat} {d:D} {u:Value} (h:RepD g w μ d u):RepD g w μ d.copy u:=by
 cases d<;>simp only[D.copy]<;>first
  |exact h
  |exact RepOwn.list h.1
  |trivial
theorem copy_tame (d:D) (u:Value) (k:Nat):ownAt d.copy u k=none:=by
 cases d<;>cases k<;>simp[D.copy,ownAt,own1]
theorem own1_copy (d:D) (u:Value):own1 d.copy u=none:=by cases d<;>simp[D.copy,own1]
section
variable {GL:Globals} {g:Gh} {w:World} {μ:List Nat} {e:Env} {a:Act}
theorem ev_rep (hr:∀n,RepD g w μ (find e n) (a.tmps.getD n undef)) (hG:GlobOK GL g) {p:Operand} {q:Opd} (h:oe GL p q=true):RepD g w μ (q.ev e) (a.eval p):=by
 unfold oe at h;split at h
 ·simp at h;subst h;simp only[Opd.ev,Act.eval,findF_eq];split
  ·exact hr _
  ·exact(hr _).copy
 ·rename_i cs xs;simp only[Opd.ev,Act.eval];have h2:All2 (RepV g) xs cs.toList:=zipOK_all2 (λ_ _=>constL_rep) h;have h3:=zipOK_all2 (R:=λ_ v=>v.oneCell'=true) (λ_ _=>constL_one) h;refine RepV.agg' (vs:=cs.toList) h2 λv hv=>?_;obtain⟨i,hi,rfl⟩:=List.mem_iff_getElem.1 hv;have hi':i <xs.length:=h3.1▸hi;exact h3.2 i _ _ (List.getElem?_eq_getElem hi') (List.getElem?_eq_getElem hi)
 ·rename_i v d _;simp only[Opd.ev,Act.eval];unfold constD at h;split at h
  ·exact⟨none,rfl,by simp⟩
  ·exact⟨.inl ⟨none,rfl,rfl,by simp⟩,λ_ _=>⟨none,rfl⟩⟩
  ·exact constV_rep h
  ·cases h
 ·simp at h;subst h;exact RepV.func _ [] [] rfl (by simp)
 ·simp only[Bool.and_eq_true,beq_iff_eq]at h;obtain⟨rfl,h⟩:=h;simp only[globOK,List.any_eq_true,Bool.and_eq_true,beq_iff_eq]at h;obtain⟨p,hp,rfl,hz⟩:=h;have h2:All2 (RepV g) _ p.2:=zipOK_all2 (λ_ _=>constV_rep) hz;refine RepV.ptr _ ⟨p.1,0,none⟩ p.2 rfl h2.1 h2.2 ?_ (hG p hp);have h3:=zipOK_all2 (R:=λ_ v=>v.oneCell'=true) (λ_ _=>constV_one) hz;intro v hv;obtain⟨i,hi,rfl⟩:=List.mem_iff_getElem.1 hv;have hi':i <_:=h3.1▸hi;exact h3.2 i _ _ (List.getElem?_eq_getElem hi') (List.getElem?_eq_getElem hi)
 ·cases h
end
def sizeIs (P:Program) (t n:Nat):Bool:=((P.info? t).map (·.size))==some n
def aggIs (P:Program) (t:Nat) (ag:Bool):Bool:=
 match P.underlying t with
 |some (.struct _)|some (.array _ _)=>ag
 |some _=> !ag
 |none=>false
def fieldIs (P:Program) (t i off n:Nat):Bool:=
 match P.underlying t with
 |some (.struct fs)=>match fs[i]? with
  |some f=>f.offset==off&&sizeIs P f.type n
  |none=>false
 |_=>false
def fieldAg (P:Program) (t i:Nat) (ag:Bool):Bool:=
 match P.underlying t with
 |some (.struct fs)=>match fs[i]? with
  |some f=>aggIs P f.type ag
  |none=>false
 |_=>false
def sliceOf (P:Program) (t e s:Nat):Bool:=
 match P.underlying t with
 |some (.slice e')=>e==e'&&sizeIs P e s
 |_=>false
def arrayOf (P:Program) (t len s:Nat):Bool:=
 match P.underlying t with
 |some (.array len' e)=>len==len'&&sizeIs P e s&&decide (2≤len)
 |_=>false
def zeroIs (P:Program) (t:Nat) (zs:List D):Bool:=
 match (P.info? t).bind (·.zero)with
 |some z=>zipOK constD z.cells.toList zs
 |none=>false
def isK (P:Program) (t:Nat) (f:TypeDesc→Bool):Bool:=
 match P.underlying t with
 |some d=>f d
 |none=>false
def constN:Value→D→Bool
 | .slice none 0 0,.nil _ _=>true
 |v,.v x=>constV v x
 |_,_=>false
def zeroIsN (P:Program) (t:Nat) (zs:List D):Bool:=
 match (P.info? t).bind (·.zero)with
 |some z=>zipOK constN z.cells.toList zs
 |none=>false
def structParts (P:Program) (GL:Globals) (t:Nat) (ps:List (Nat×Operand)) (qs:List (Nat×Nat×Opd)):Bool:=
 match P.underlying t with
 |some (.struct fs)=>match fs.toList.mapM (λf=>(P.info? f.type).map λi=>(f.offset,i.size))with
  |some places=>zipOK (λp q=>oe GL p.2 q.2.2&&places[p.1]?==some (q.1,q.2.1)) ps qs
  |none=>false
 |some (.array _ el)=>match P.info? el with
  |some i=>zipOK (λp q=>oe GL p.2 q.2.2&&some (p.1*i.size,i.size)==some (q.1,q.2.1)) ps qs
  |none=>false
 |_=>false
def one1 {α:Type} (l:List α) (p:α→Bool):Bool:=match l with|[x]=>p x|_=>false
def two2 {α:Type} (l:List α) (p:α→α→Bool):Bool:=match l with|[x,y]=>p x y|_=>false
def sliceSz (P:Program) (t s:Nat):Bool:=match P.underlying t with|some (.slice e)=>sizeIs P e s|_=>false
def kindIs (P:Program) (t k:Nat):Bool:=
 match P.underlying t,k with
 |some (.int _),0=>true
 |some .bool,1=>true
 |some .string,2=>true
 |_,_=>false
def fieldsFlat (P:Program):Nat→List Field→List Nat→Bool
 |_,[],[]=>true
 |i,f::fs,k::ks=>f.offset==i&&f.name != "_" &&kindIs P f.type k&&fieldsFlat P (i+1) fs ks
 |_,_,_=>false
def eqFlat (P:Program) (t:Nat) (ks:List Nat):Bool:=
 match P.underlying t with
 |some (.struct fs)=> !P.stoodInHeld t&& !P.eqGuardType P.depth t&&fieldsFlat P 0 fs.toList ks
 |_=>false
def fieldsNest (P:Program):Nat→List Field→List Nat→Bool
 |_,[],ks=>ks.isEmpty
 |i,f::fs,ks=>f.offset==i&&f.name != "_" &&(match P.underlying f.type with
  |some (.struct sub)=> !P.stoodInHeld f.type&&sizeIs P f.type sub.size&&fieldsFlat P 0 sub.toList (ks.take sub.size)&&fieldsNest P (i+sub.size) fs (ks.drop sub.size)
  |_=>match ks with
   |k::ks=>kindIs P f.type k&&fieldsNest P (i+1) fs ks
   |[]=>false)
def eqNest (P:Program) (t:Nat) (ks:List Nat):Bool:=
 match P.underlying t with
 |some (.struct fs)=> !P.stoodInHeld t&& !P.eqGuardType P.depth t&&fieldsNest P 0 fs.toList ks
 |_=>false
def keyIs (P:Program) (kt:Nat) (st:Bool) (ks:List Nat):Bool:=
 if st then eqFlat P kt ks else (match ks with|[k]=>kindIs P kt k|_=>false)
def lookZ (P:Program) (el:Nat) (zs:List D) (ag:Bool):Bool:=
 match (P.info? el).bind (·.zero)with
 |some (.agg cs)=>ag&&zipOK constN cs.toList zs
 |some v=> !ag&&(match zs with|[z]=>constN v z|_=>false)
 |none=>false
def chkP (P:Program) (GL:Globals):Op→PI→Bool
 | .pick c a b,.pick c' a' b'=>oe GL c c'&&oe GL a a'&&oe GL b b'
 | .load t a,.load a' n ag=>oe GL a a'&&sizeIs P t n&&aggIs P t ag&&(ag||n==1)
 | .nilCheck x,.nilc x'=>oe GL x x'
 | .binOp op _ x y _,.bin op' x' y'=>(op==op')&&oe GL x x'&&oe GL y y'
 | .binOp op t x y _,.eqB ne x' y'=>(op==if ne then .neq else .eql)&&isK P t (λ| .bool=>true|_=>false)&&oe GL x x'&&oe GL y y'
 | .binOp op t x y _,.eqP ne x' y'=>(op==if ne then .neq else .eql)&&isK P t (λ| .pointer _=>true|_=>false)&&oe GL x x'&&oe GL y y'
 | .binOp op t x y _,.eqA ne ks x' y'=>(op==if ne then .neq else .eql)&&(eqFlat P t ks||eqNest P t ks)&&oe GL x x'&&oe GL y y'
 | .unOp op _ x,.not x'=>(op== .not)&&oe GL x x'
 | .unOp op _ x,.neg x'=>(op== .neg)&&oe GL x x'
 | .unOp op _ x,.inv x'=>(op== .xor)&&oe GL x x'
 | .convert s d x,.cint k x'=>isK P s (λ| .int _=>true|_=>false)&&isK P d (λ| .int k'=>k==k'|_=>false)&&oe GL x x'
 | .fieldAddr t x i,.faddr x' off n=>fieldIs P t i off n&&decide (0 <n)&&oe GL x x'
 | .field t x i,.fld x' off n ag=>fieldIs P t i off n&&fieldAg P t i ag&&(ag||n==1)&&oe GL x x'
 | .indexAddr t x i,.iaddr x' i' s=>sliceSz P t s&&oe GL x x'&&oe GL i i'
 | .indexAddr t x i,.iaddrP x' i' s=>sliceSz P t s&&oe GL x x'&&oe GL i i'
 | .indexAddr t x i,.iaddrA x' i' len s=>arrayOf P t len s&&oe GL x x'&&oe GL i i'
 | .index t x i,.idxS x' i'=>isK P t (λ| .string=>true|_=>false)&&oe GL x x'&&oe GL i i'
 | .extract t i,.ext t' i'=>oe GL t t'&&i==i'
 | .makeFunc (.func f) first caps,.mkf f' caps'=>f==f'&&first.isEmpty&&zipOK (oe GL) caps.toList caps'
 | .makeFunc (.func f) first caps,.mkme f' caps'=>f==f'&&caps.isEmpty&&zipOK (oe GL) first.toList caps'
 | .index t x i,.idxA x' i' n s ag=>(match P.underlying t with|some (.array n' e)=>n'==n&&sizeIs P e s&&aggIs P e ag&&(ag||s==1)|_=>false)&&oe GL x x'&&oe GL i i'
 | .call {callee:= .builtin .len,args,argTypes},.alen x'=>one1 args.toList (λx=>oe GL x x')&&one1 argTypes.toList (λt=>isK P t (λ| .slice _=>true|_=>false))
 | .call {callee:= .builtin .len,args,argTypes},.lenS x'=>one1 args.toList (λx=>oe GL x x')&&one1 argTypes.toList (λt=>isK P t (λ| .string=>true|_=>false))
 | .call {callee:= .builtin .max,args,..},.minmax true x' y'=>two2 args.toList (λx y=>oe GL x x'&&oe GL y y')
 | .call {callee:= .builtin .min,args,..},.minmax false x' y'=>two2 args.toList (λx y=>oe GL x x'&&oe GL y y')
 | .slice t x lo hi mx,.slc x' lo' hi' s=>sliceSz P t s&&oe GL x x'&&mx.isNone&&
   zipOK (oe GL) lo.toList lo'.toList&&zipOK (oe GL) hi.toList hi'.toList
 | .slice t x lo hi mx,.slcS x' lo' hi'=>isK P t (λ| .string=>true|_=>false)&&oe GL x x'&&mx.isNone&&zipOK (oe GL) lo.toList lo'.toList&&zipOK (oe GL) hi.toList hi'.toList
 | .slice t x lo hi mx,.slc0 x' el s=>(match P.underlying t with|some (.slice e)=>e==el&&sizeIs P e s|_=>false)&&oe GL x x'&&lo.isNone&&(match hi,mx with|some (.const (.int _ 0)),some (.const (.int _ 0))=>true|_,_=>false)
 | .convert s d x,.b2s x'=>isK P d (λ| .string=>true|_=>false)&&(match P.underlying s with|some (.slice e)=>isK P e (λ| .int .u8=>true|_=>false)|_=>false)&&oe GL x x'
 | .lookup t x i ok',.look m k st ks zs ag ok=>(match P.underlying t with|some (.map kt el)=>keyIs P kt st ks&&lookZ P el zs ag|_=>false)&&oe GL x m&&oe GL i k&&ok'==ok
 | .call {callee:= .builtin .len,args,argTypes},.mlen x'=>one1 args.toList (λx=>oe GL x x')&&one1 argTypes.toList (λt=>isK P t (λ| .map _ _=>true|_=>false))
 | .build t ps,.build zs ps'=>zeroIsN P t zs&&structParts P GL t ps.toList ps'
 |_,_=>false
structure Gd (P:Program) (GL:Globals) (g:Gh) (w:World) (μ:List Nat) (e:Env) (a:Act) (h:List Row) (O:Nat→Prop):Prop where
 inv:Inv g w μ (find e) (λn=>a.tmps.getD n undef) h O
 glob:GlobOK GL g
def ValOK (P:Program) (GL:Globals) (op:Op) (pi:PI):Prop:=
 ∀ {g:Gh} {w:World} {μ:List Nat} {e:Env} {a:Act} {h:List Row} {O:Nat→Prop} {x:D},Gd P GL g w μ e a h O→pi.val e h=some x→
  ∀o:Oper,o.op=op→∃v,(execOp a.eval o).run P w= .ok (.value v) w∧RepD g w μ x v∧∀k,ownAt x v k=none
section
variable {P:Program} {GL:Globals}
theorem Gd.ev {g:Gh} {w:World} {μ:List Nat} {e:Env} {a:Act} {h:List Row} {O:Nat→Prop} (hd:Gd P GL g w μ e a h O) {p:Operand} {q:Opd} (hk:oe GL p q=true):
  RepD g w μ (q.ev e) (a.eval p):=ev_rep hd.inv.rep hd.glob hk
theorem own_v (x:V) (v:Value) (k:Nat):ownAt (.v x) v k=none:=by cases k<;>simp[ownAt,own1]
theorem rep_bool {g:Gh} {w:World} {μ:List Nat} {b:Bool} {v:Value} (h:RepD g w μ (.v (.bool b)) v):v= .bool b:=by cases h;rfl
theorem rep_int {g:Gh} {w:World} {μ:List Nat} {k:IntKind} {n:Int} {v:Value} (h:RepD g w μ (.v (.int k n)) v):v= .int k n:=by cases h;rfl
theorem rep_str {g:Gh} {w:World} {μ:List Nat} {s:ByteArray} {v:Value} (h:RepD g w μ (.v (.str s)) v):v= .string s:=by cases h;rfl
theorem pick_ok {c a b:Operand} {c' a' b':Opd} (hc:oe GL c c'=true) (ha:oe GL a a'=true) (hb:oe GL b b'=true):ValOK P GL (.pick c a b) (.pick c' a' b'):=by
 intro g w μ e act h O x hd hx o ho;have h1:=hd.ev hc;simp only[PI.val]at hx;split at hx
 ·rename_i t ht;rw[ht]at h1;have h2:=rep_bool h1;simp only[Option.some.injEq]at hx;subst hx;cases t with
  |true=>exact⟨act.eval a,by simp[execOp,ho,h2,asBool],(hd.ev ha).copy,λk=>copy_tame _ _ _⟩
  |false=>exact⟨act.eval b,by simp[execOp,ho,h2,asBool],(hd.ev hb).copy,λk=>copy_tame _ _ _⟩
 ·cases hx
theorem run_isAgg {w:World} {t:Nat} {ag:Bool} (h:aggIs P t ag=true):(isAgg t).run P w= .ok ag w:=by
 unfold aggIs at h;split at h<;>simp_all [isAgg,run_underlying]
theorem run_sizeOf {w:World} {t n:Nat} (h:sizeIs P t n=true):(sizeOf t).run P w= .ok n w:=by
 simp only[sizeIs,beq_iff_eq,Option.map_eq_some_iff]at h;obtain⟨i,hi,rfl⟩:=h;simp[sizeOf,typeInfo,hi]
theorem addr_add {a:Addr} (hs:a.spot=none) (n:Nat):a.add n=⟨a.block,a.off+n,none⟩:=by
 unfold Addr.add;split
 ·subst_vars;cases a;simp_all
 ·cases a;simp_all
theorem run_loadVar_at {w:World} {t n:Nat} {ag:Bool} (hs:sizeIs P t n=true) (hg:aggIs P t ag=true) {a:Addr} (ha:a.spot=none) {vs:List Value} (hn:n≤vs.length)
  (hc:∀i v,vs[i]?=some v→w.cell? ⟨a.block,a.off+i,none⟩=some v) (h1:ag=false→n=1):
  (loadVar t a).run P w= .ok (if ag then .agg (vs.take n).toArray else (vs[0]?.getD undef)) w:=by
 cases ag with
 |true=>
  have hl:=run_loadCells_list (P:=P) w a (vs.take n) (λj v hv=>by
   rw[addr_add ha];rw[List.getElem?_take]at hv;split at hv
   ·exact hc j v hv
   ·cases hv)
  rw[List.length_take,Nat.min_eq_left hn]at hl;simp[loadVar,run_isAgg hg,run_sizeOf hs,hl]
 |false=>
  have hn1:=h1 rfl;subst hn1;have h0:vs[0]?=some vs[0]:=List.getElem?_eq_getElem _;have:=hc 0 _ h0;have e:(⟨a.block,a.off+0,none⟩:Addr)=a:=by cases a;simp_all
  rw[e]at this;simp[loadVar,run_isAgg hg,this,h0]
theorem at_cells {g:Gh} {w:World} (hag:∀b o v,g.m b o=some v→w.cell? ⟨b,o,none⟩=some v) {b o:Nat} {vs:List Value} (h:g.at b o vs):
  ∀(i:Nat) v,vs[i]?=some v→w.cell? ⟨b,o+i,none⟩=some v:=λi v hv=>hag _ _ _ (h i v hv)
theorem part_rep {g:Gh} {w:World} {μ:List Nat} {cs:List V} {vs:List Value} (ha:All2 (RepV g) cs vs) (h1:∀v∈vs,v.oneCell'=true) {off n:Nat} {ag:Bool} {y:V}
  (hy:V.part cs off n ag=some y):RepD g w μ (.v y) (if ag then .agg ((vs.drop off).take n).toArray else (vs[off]?.getD undef))∧off+n≤vs.length:=by
 unfold V.part at hy;split at hy
 ·rename_i hl;refine⟨?_,by rw[ha.1];exact hl⟩;cases ag with
  |true=>
   simp only[if_true,Option.some.injEq]at hy ⊢;subst hy;exact RepV.agg' ((ha.drop off).take n) λv hv=>h1 v (List.mem_of_mem_drop (List.mem_of_mem_take hv))
  |false=>
   simp only[Bool.false_eq_true,if_false]at hy ⊢;obtain⟨v,hv,hr⟩:=ha.get hy;simp only[hv,Option.getD_some];exact hr
 ·cases hy
theorem RepE.copy {g:Gh} {w:World} {μ:List Nat} {d:D} {u:Value} (h:RepE g w μ d u):RepE g w μ d.copy u:=by
 cases d<;>simp only[D.copy]<;>first
  |exact h
  |exact RepOwn.list h.1
  |trivial
theorem RepE.toG {g:Gh} {w:World} {μ:List Nat} {d:D} {u:Value} (h:RepE g w μ d u):RepG g w μ d u:=by
 cases d<;>first
  |exact h
  |exact h.elim
theorem RepG.toD {g:Gh} {w:World} {μ:List Nat} {d:D} {u:Value} (h:RepG g w μ d u):RepD g w μ d u:=by
 cases d<;>first
  |exact h
  |exact h.elim
theorem All2.map_left {α β γ:Type} {R:α→β→Prop} {S:γ→β→Prop} {f:α→γ} (hf:∀x y,R x y→S (f x) y) {xs:List α} {ys:List β} (h:All2 R xs ys):All2 S (xs.map f) ys:=by
 refine⟨by simp[h.1],λi x y hx hy=>?_⟩;simp only[List.getElem?_map,Option.map_eq_some_iff]at hx;obtain⟨x',hx',rfl⟩:=hx;exact hf _ _ (h.2 i x' y hx' hy)
theorem dpart_rep {g:Gh} {w:World} {μ:List Nat} {cs:List D} {vs:List Value} (ha:AllP (RepE g w μ) cs vs) (h1:∀v∈vs,v.oneCell'=true) {off n:Nat} {ag:Bool} {y:D}
  (hy:D.part cs off n ag=some y):RepD g w μ y (if ag then .agg ((vs.drop off).take n).toArray else (vs[off]?.getD undef))∧off+n≤vs.length∧∀u k,ownAt y u k=none:=by
 unfold D.part at hy;split at hy
 ·rename_i hl;refine⟨?_,Nat.le_trans hl ha.1,?_⟩
  ·cases ag with
   |true=>
    simp only[if_true,Option.some.injEq]at hy ⊢;subst hy;refine⟨_,rfl,(All2.map_left (S:=RepE g w μ) (f:=D.copy) (λ_ _ h=>RepE.copy h) (ha.part hl)),λv hv=>h1 v (List.mem_of_mem_drop (List.mem_of_mem_take hv)),?_⟩;intro d hd v;simp only[List.mem_map]at hd;obtain⟨d',_,rfl⟩:=hd;exact own1_copy _ _
   |false=>
    simp only[Bool.false_eq_true,if_false,Option.map_eq_some_iff]at hy ⊢;obtain⟨y',hy',rfl⟩:=hy;obtain⟨v,hv,hr⟩:=ha.get hy';simp only[hv,Option.getD_some];exact hr.copy.toG.toD
  ·intro u k;cases ag with
   |true=>simp only[if_true,Option.some.injEq]at hy;subst hy;cases k<;>simp[ownAt,own1]
   |false=>
    simp only[Bool.false_eq_true,if_false,Option.map_eq_some_iff]at hy;obtain⟨y',hy',rfl⟩:=hy;exact copy_tame _ _ _
 ·cases hy
theorem rep_ptr {g:Gh} {w:World} {μ:List Nat} {cs:List V} {u:Value} (h:RepD g w μ (.v (.ptr cs)) u):
  ∃(a:Addr) (vs:List Value),u= .pointer (some a)∧a.spot=none∧All2 (RepV g) cs vs∧(∀v∈vs,v.oneCell'=true)∧g.at a.block a.off vs:=by
 cases h with
 |ptr _ a vs hs hl hr h1 ha=>exact⟨a,vs,rfl,hs,⟨hl,hr⟩,h1,ha⟩
theorem Inv.row {g:Gh} {w:World} {μ:List Nat} {t:Nat→D} {u:Nat→Value} {h:List Row} {O:Nat→Prop} (hi:Inv g w μ t u h O) {r b:Nat} (hb:μ[r]?=some b) {ds:List D}
  (hr:h[r]?=some (.cells ds)):∃(vs:List Value) (T:TypeId),w.heap[b]?=some (.cells vs.toArray T (0,0))∧AllP (RepE g w μ) ds vs∧(∀v∈vs,v.oneCell'=true)∧∀o,g.m b o=none:=
 hi.rows r _ b hr hb
theorem row_cells {w:World} {b:Nat} {vs:List Value} {T:TypeId} (hb:w.heap[b]?=some (.cells vs.toArray T (0,0))) (off:Nat):
  ∀(i:Nat) v,(vs.drop off)[i]?=some v→w.cell? ⟨b,off+i,none⟩=some v:=by
 intro i v hv;rw[List.getElem?_drop]at hv;simp[World.cell?,hb,hv]
theorem load_ok {t:Nat} {a:Operand} {a':Opd} {n:Nat} {ag:Bool} (ha:oe GL a a'=true) (hs:sizeIs P t n=true) (hg:aggIs P t ag=true) (h1:(ag||n==1)=true):
  ValOK P GL (.load t a) (.load a' n ag):=by
 intro g w μ e act h O x hd hx o ho;have hr:=hd.ev ha;have hn1:ag=false→n=1:=by intro h;simpa[h]using h1
 simp only[PI.val]at hx;split at hx
 ·rename_i cs hc;rw[hc]at hr;obtain⟨ad,vs,hu,hsp,hall,hone,hat⟩:=rep_ptr hr;simp only[Option.map_eq_some_iff]at hx;obtain⟨y,hy,rfl⟩:=hx;obtain⟨hrep,hlen⟩:=part_rep (w:=w) (μ:=μ) hall hone hy;have hl:=run_loadVar_at (w:=w) hs hg hsp (vs:=vs) (by simpa using hlen) (at_cells hd.inv.agree hat) hn1;refine⟨if ag then .agg (vs.take n).toArray else (vs[0]?.getD undef),?_,?_,λk=>own_v _ _ _⟩
  ·simp[execOp,ho,hu,Instr.loadAt,Instr.sureAddr,hl]
  ·simpa using hrep
 ·rename_i r off hc;rw[hc]at hr;obtain⟨b,hb,hu⟩:=hr;split at hx
  ·rename_i ds hrow;obtain⟨vs,T,hheap,hall,hone,_⟩:=hd.inv.row hb hrow;obtain⟨hrep,hlen,hown⟩:=dpart_rep hall hone hx;have hl:=run_loadVar_at (P:=P) (w:=w) hs hg (a:=⟨b,off,none⟩) rfl (vs:=vs.drop off) (by simp;omega) (row_cells hheap off) hn1;refine⟨if ag then .agg ((vs.drop off).take n).toArray else (vs[off]?.getD undef),?_,hrep,λk=>hown _ _⟩;simp[execOp,ho,hu,Instr.loadAt,Instr.sureAddr,hl,List.getElem?_drop]
  ·cases hx
 ·cases hx
end
theorem v?_rep {g:Gh} {w:World} {μ:List Nat} {d:D} {u:Value} (h:RepE g w μ d u) {x:V} (hx:d.v?=some x):RepV g x u:=by
 cases d<;>simp only[D.v?,Option.some.injEq,reduceCtorEq]at hx<;>subst hx
 ·exact h
 ·exact RepNil.list h
 ·exact RepOwn.list h.1
theorem vs?_rep {g:Gh} {R:D→Value→Prop} (hR:∀d u x,R d u→d.v?=some x→RepV g x u):∀ {ds:List D} {us:List Value} {xs:List V},All2 R ds us→D.vs? ds=some xs→All2 (RepV g) xs us
 |[],us,xs,h,hx=>by
  simp only[D.vs?,Option.some.injEq]at hx;subst hx;have:=List.eq_nil_of_length_eq_zero h.1;subst this;exact .nil
 |d::ds,[],xs,h,_=>by simp[All2]at h
 |d::ds,u::us,xs,h,hx=>by
  rw[All2.cons_iff]at h;simp only[D.vs?]at hx;split at hx
  ·rename_i y ys hy hys;simp only[Option.some.injEq]at hx;subst hx;exact .cons (hR _ _ _ h.1 hy) (vs?_rep hR h.2 hys)
  ·cases hx
theorem repC_v {g:Gh} {μ:List Nat} {d:D} {u:Value} (h:RepC g μ d u) {x:V} (hx:d.v?=some x):RepV g x u:=by
 cases d<;>simp only[D.v?,Option.some.injEq,reduceCtorEq]at hx<;>subst hx<;>first|exact h|exact h.elim
theorem toV_rep {g:Gh} {w:World} {μ:List Nat} {d:D} {u:Value} (h:RepD g w μ d u) {x:V} (hx:d.toV=some x):RepV g x u:=by
 cases d with
 |agg ds=>
  simp only[D.toV,Option.map_eq_some_iff]at hx;obtain⟨xs,hxs,rfl⟩:=hx;obtain⟨vs,rfl,ha,h1,_⟩:=h;exact RepV.agg' (vs?_rep (λ_ _ _ h hx=>v?_rep h hx) ha hxs) h1
 |func f caps=>
  simp only[D.toV,Option.map_eq_some_iff]at hx;obtain⟨xs,hxs,rfl⟩:=hx;obtain⟨vs,rfl,ha⟩:=h;have:=vs?_rep (λ_ _ _ h hx=>repC_v h hx) ha hxs;exact RepV.func f xs vs this.1 this.2
 |v x'=>exact v?_rep (μ:=μ) (w:=w) (d:= .v x') h hx
 |any=>simp[D.toV,D.v?]at hx
 |nil e s=>exact v?_rep (μ:=μ) (w:=w) (d:= .nil e s) h hx
 |own e s xs=>exact v?_rep (μ:=μ) (d:= .own e s xs) h hx
 |tup ds=>simp[D.toV,D.v?]at hx
 |ref r o=>simp[D.toV,D.v?]at hx
 |sref r n=>simp[D.toV,D.v?]at hx
 |mref r=>simp[D.toV,D.v?]at hx
 |meth f caps=>simp[D.toV,D.v?]at hx
 |yld r=>simp[D.toV,D.v?]at hx
 |pend b e s xs=>simp[D.toV,D.v?]at hx
 |pptr b s n=>simp[D.toV,D.v?]at hx
section
variable {P:Program} {GL:Globals}
theorem own_ref (r o:Nat) (v:Value) (k:Nat):ownAt (.ref r o) v k=none:=by cases k<;>simp[ownAt,own1]
theorem isNil_rep {g:Gh} {w:World} {μ:List Nat} {d:D} {u:Value} (h:RepD g w μ d u) {b:Bool} (hb:d.isNil=some b):
  (b=true∧(u= .pointer none∨u= .nilFunc∨u= .map none))∨(b=false∧((∃a,u= .pointer (some a))∨(∃f vs,u= .func (.func f) #[] vs)∨(∃r,u= .map (some r)))):=by
 unfold D.isNil at hb;split at hb<;>simp only[Option.some.injEq,reduceCtorEq]at hb<;>subst hb
 ·cases h;exact .inl ⟨rfl,.inl rfl⟩
 ·cases h;exact .inl ⟨rfl,.inr (.inl rfl)⟩
 ·cases h;exact .inl ⟨rfl,.inr (.inr rfl)⟩
 ·obtain⟨a,vs,rfl,_⟩:=rep_ptr h;exact .inr ⟨rfl,.inl ⟨a,rfl⟩⟩
 ·cases h;exact .inr ⟨rfl,.inr (.inl ⟨_,_,rfl⟩)⟩
 ·obtain⟨b,_,rfl⟩:=h;exact .inr ⟨rfl,.inl ⟨_,rfl⟩⟩
 ·obtain⟨vs,rfl,_⟩:=h;exact .inr ⟨rfl,.inr (.inl ⟨_,_,rfl⟩)⟩
 ·obtain⟨b,_,rfl⟩:=h;exact .inr ⟨rfl,.inr (.inr ⟨_,rfl⟩)⟩
theorem nilc_ok {x:Operand} {x':Opd} (hk:oe GL x x'=true):ValOK P GL (.nilCheck x) (.nilc x'):=by
 intro g w μ e act h O y hd hx o ho;have hr:=hd.ev hk;simp only[PI.val]at hx;split at hx
 ·rename_i hn;simp only[Option.some.injEq]at hx;subst hx;refine⟨act.eval x,?_,hr.copy,λk=>copy_tame _ _ _⟩;rcases isNil_rep hr hn with ⟨h,_⟩|⟨_,⟨a,hu⟩|⟨f,vs,hu⟩|⟨r,hu⟩⟩
  ·cases h
  ·simp[execOp,ho,hu]
  ·simp[execOp,ho,hu]
  ·simp[execOp,ho,hu]
 ·cases hx
theorem eqGuard_skip {op:BinOp} {t:Nat} {x y:Operand} {a b:Value} {w:World} (h:(∀cs,a≠ .agg cs)∧a≠ .nilIface):(eqGuard op t x y a b).run P w= .ok () w:=by
 cases a<;>first
  |exact absurd rfl h.2
  |exact absurd rfl (h.1 _)
  |(cases op<;>rfl)
theorem bin_ok {op:BinOp} {t s:Nat} {x y:Operand} {x' y':Opd} (hx':oe GL x x'=true) (hy':oe GL y y'=true):ValOK P GL (.binOp op t x y s) (.bin op x' y'):=by
 intro g w μ e act h O d hd hx o ho;have hr1:=hd.ev hx';have hr2:=hd.ev hy';simp only[PI.val]at hx;split at hx
 ·rename_i a b ha hb;rw[ha]at hr1;rw[hb]at hr2;simp only[Option.map_eq_some_iff]at hx;obtain⟨z,hz,rfl⟩:=hx
  suffices hs:∃v,(eqGuard op t x y (act.eval x) (act.eval y)).run P w= .ok () w∧(binOp op t (act.eval x) (act.eval y)).run P w= .ok v w∧RepV g z v by
   obtain⟨v,h1,h2,h3⟩:=hs;exact⟨v,by simp[execOp,ho,h1,h2],h3,λk=>own_v _ _ _⟩
  unfold V.bin at hz;split at hz
  ·rename_i k a k' b;have e1:=rep_int hr1;have e2:=rep_int hr2;rw[e1,e2];have hg:(eqGuard op t x y (.int k a) (.int k' b)).run P w= .ok () w:=eqGuard_skip ⟨by simp,by simp⟩;cases op<;>simp only[]at hz
   case shl=>
    split at hz
    ·rename_i h0;simp only[Option.some.injEq]at hz;subst hz;exact⟨_,hg,by simp[binOp,Op.shift,show ¬b <0 by omega],.int _ _⟩
    ·cases hz
   case shr=>
    split at hz
    ·rename_i h0;simp only[Option.some.injEq]at hz;subst hz;exact⟨_,hg,by simp[binOp,Op.shift,show ¬b <0 by omega],.int _ _⟩
    ·cases hz
   all_goals
    split at hz
    ·rename_i hkk;subst hkk
     first
      |(cases hz;done)
      |(simp only[Option.some.injEq]at hz;subst hz
        first
         |(refine⟨_,hg,?_,.int _ _⟩;first|(simp[binOp,Op.intArith];done)|(unfold binOp;simp only[ne_eq,not_true_eq_false,if_false];rfl))
         |(refine⟨_,hg,?_,.bool _⟩;simp[binOp,Op.intCmp];done))
      |(split at hz
        ·cases hz
        ·rename_i h0;simp only[Option.some.injEq]at hz;subst hz;refine⟨_,hg,?_,.int _ _⟩;simp[binOp,Op.intDiv,h0])
    ·cases hz
  ·rename_i a b;have e1:=rep_str hr1;have e2:=rep_str hr2;rw[e1,e2];have hg:(eqGuard op t x y (.string a) (.string b)).run P w= .ok () w:=eqGuard_skip ⟨by simp,by simp⟩;cases op<;>simp only[reduceCtorEq,Option.some.injEq]at hz<;>subst hz
   ·exact⟨_,hg,by simp[binOp,Op.stringOp],.bool _⟩
   ·exact⟨_,hg,by simp[binOp,Op.stringOp],.bool _⟩
  ·cases hz
 ·cases hx
theorem run_equal {t:Nat} {x y:Value} {w:World} {r:Bool} (h:∀d,(Op.equalIn (d+1) t x y).run P w= .ok r w):(Op.equal t x y).run P w= .ok r w:=h 9999
theorem run_equalIn_bool (d:Nat) {t:Nat} {w:World} (hu:P.underlying t=some .bool) (a b:Bool):(Op.equalIn (d+1) t (.bool a) (.bool b)).run P w= .ok (a==b) w:=by
 simp[Op.equalIn,run_underlying hu]
theorem run_equalIn_ptr0 (d:Nat) {t el:Nat} {w:World} (hu:P.underlying t=some (.pointer el)) (b:Option Addr):
  (Op.equalIn (d+1) t (.pointer none) (.pointer b)).run P w= .ok b.isNone w:=by
 simp[Op.equalIn,run_underlying hu]
theorem run_equalIn_ptr1 (d:Nat) {t el:Nat} {w:World} (hu:P.underlying t=some (.pointer el)) (a:Addr):
  (Op.equalIn (d+1) t (.pointer (some a)) (.pointer none)).run P w= .ok false w:=by
 simp[Op.equalIn,run_underlying hu]
theorem beq_binop {op:BinOp} {ne:Bool} (h:(op==if ne then BinOp.neq else BinOp.eql)=true):op=if ne then BinOp.neq else BinOp.eql:=by
 cases ne<;>cases op<;>first|rfl|cases h
theorem eqB_ok {op:BinOp} {ne:Bool} {t s:Nat} {x y:Operand} {x' y':Opd} (hop:(op==if ne then BinOp.neq else BinOp.eql)=true)
  (ht:isK P t (λ| .bool=>true|_=>false)=true) (hx':oe GL x x'=true) (hy':oe GL y y'=true):ValOK P GL (.binOp op t x y s) (.eqB ne x' y'):=by
 intro g w μ e act h O d hd hx o ho;have hr1:=hd.ev hx';have hr2:=hd.ev hy';simp only[PI.val]at hx;split at hx
 ·rename_i a b ha hb;rw[ha]at hr1;rw[hb]at hr2;have e1:=rep_bool hr1;have e2:=rep_bool hr2;simp only[Option.some.injEq]at hx;subst hx;have hg:(eqGuard op t x y (.bool a) (.bool b)).run P w= .ok () w:=eqGuard_skip ⟨by simp,by simp⟩;have hu:P.underlying t=some .bool:=by
   unfold isK at ht;split at ht
   ·rename_i d' hd';cases d'<;>simp_all
   ·cases ht
  have heq:(Op.equal t (.bool a) (.bool b)).run P w= .ok (a==b) w:=run_equal λd=>run_equalIn_bool d hu a b;refine⟨.bool ((a==b) != ne),?_,.bool _,λk=>own_v _ _ _⟩;have:=beq_binop hop;subst this;cases ne<;>simp[execOp,ho,e1,e2,binOp,heq]at hg ⊢ <;>simp[hg,heq]
 ·cases hx
theorem eqP_ok {op:BinOp} {ne:Bool} {t s:Nat} {x y:Operand} {x' y':Opd} (hop:(op==if ne then BinOp.neq else BinOp.eql)=true)
  (ht:isK P t (λ| .pointer _=>true|_=>false)=true) (hx':oe GL x x'=true) (hy':oe GL y y'=true):ValOK P GL (.binOp op t x y s) (.eqP ne x' y'):=by
 intro g w μ e act h O d hd hx o ho;have hr1:=hd.ev hx';have hr2:=hd.ev hy';have hu:∃el,P.underlying t=some (.pointer el):=by
  unfold isK at ht;split at ht
  ·rename_i d' hd';cases d'<;>simp_all
  ·cases ht
 obtain⟨el,hu⟩:=hu;have hp:∀ {q:D} {b:Bool} {v:Value},RepD g w μ q v→q.isNilP=some b→(b=true∧v= .pointer none)∨(b=false∧∃a,v= .pointer (some a)):=by
  intro q b v hq hb;unfold D.isNilP at hb;split at hb<;>simp only[Option.some.injEq,reduceCtorEq]at hb<;>subst hb
  ·cases hq;exact .inl ⟨rfl,rfl⟩
  ·obtain⟨a,vs,rfl,_⟩:=rep_ptr hq;exact .inr ⟨rfl,a,rfl⟩
  ·obtain⟨b,_,rfl⟩:=hq;exact .inr ⟨rfl,_,rfl⟩
 have hop':=beq_binop hop;subst hop';have fin:∀(r:Bool),(Op.equal t (act.eval x) (act.eval y)).run P w= .ok r w→(∃p1,act.eval x= .pointer p1)→(∃p2,act.eval y= .pointer p2)→
   ∃v,(execOp act.eval o).run P w= .ok (.value v) w∧RepD g w μ (.v (.bool (r != ne))) v∧∀k,ownAt (.v (.bool (r != ne))) v k=none:=by
  rintro r hq ⟨p1,h1⟩ ⟨p2,h2⟩;refine⟨.bool (r != ne),?_,.bool _,λk=>own_v _ _ _⟩;have hg:∀op,(eqGuard op t x y (.pointer p1) (.pointer p2)).run P w= .ok () w:=λop=>eqGuard_skip ⟨by simp,by simp⟩;rw[h1,h2]at hq;cases ne<;>simp[execOp,ho,h1,h2,hg,binOp,hq]
 simp only[PI.val]at hx;split at hx
 ·rename_i b h1 h2;simp only[Option.some.injEq]at hx;subst hx;rcases hp hr1 h1 with ⟨_,e1⟩|⟨h,_⟩
  ·rcases hp hr2 h2 with ⟨rfl,e2⟩|⟨rfl,a2,e2⟩
   ·exact fin true (by rw[e1,e2];exact run_equal λd=>run_equalIn_ptr0 d hu none) ⟨_,e1⟩ ⟨_,e2⟩
   ·exact fin false (by rw[e1,e2];exact run_equal λd=>run_equalIn_ptr0 d hu (some a2)) ⟨_,e1⟩ ⟨_,e2⟩
  ·cases h
 ·rename_i b h1 h2;simp only[Option.some.injEq]at hx;subst hx;rcases hp hr2 h2 with ⟨_,e2⟩|⟨h,_⟩
  ·rcases hp hr1 h1 with ⟨rfl,e1⟩|⟨rfl,a1,e1⟩
   ·exact fin true (by rw[e1,e2];exact run_equal λd=>run_equalIn_ptr0 d hu none) ⟨_,e1⟩ ⟨_,e2⟩
   ·exact fin false (by rw[e1,e2];exact run_equal λd=>run_equalIn_ptr1 d hu a1) ⟨_,e1⟩ ⟨_,e2⟩
  ·cases h
 ·cases hx
theorem not_ok {op:UnOp} {t:Nat} {x:Operand} {x':Opd} (hop:(op==UnOp.not)=true) (hk:oe GL x x'=true):ValOK P GL (.unOp op t x) (.not x'):=by
 intro g w μ e act h O d hd hx o ho;have hr:=hd.ev hk;have:op= .not:=by cases op<;>first|rfl|cases hop
 subst this;simp only[PI.val]at hx;split at hx
 ·rename_i a ha;rw[ha]at hr;simp only[Option.some.injEq]at hx;subst hx;exact⟨_,by simp[execOp,ho,rep_bool hr,Op.unary],.bool _,λk=>own_v _ _ _⟩
 ·cases hx
theorem neg_ok {op:UnOp} {t:Nat} {x:Operand} {x':Opd} (hop:(op==UnOp.neg)=true) (hk:oe GL x x'=true):ValOK P GL (.unOp op t x) (.neg x'):=by
 intro g w μ e act h O d hd hx o ho;have hr:=hd.ev hk;have:op= .neg:=by cases op<;>first|rfl|cases hop
 subst this;simp only[PI.val]at hx;split at hx
 ·rename_i k n ha;rw[ha]at hr;simp only[Option.some.injEq]at hx;subst hx;exact⟨.int k (k.wrap (0-n)),by simp[execOp,ho,rep_int hr,Op.unary,Op.intArith],.int _ _,λk=>own_v _ _ _⟩
 ·cases hx
theorem inv_ok {op:UnOp} {t:Nat} {x:Operand} {x':Opd} (hop:(op==UnOp.xor)=true) (hk:oe GL x x'=true):ValOK P GL (.unOp op t x) (.inv x'):=by
 intro g w μ e act h O d hd hx o ho;have hr:=hd.ev hk;have:op= .xor:=by cases op<;>first|rfl|cases hop
 subst this;simp only[PI.val]at hx;split at hx
 ·rename_i k n ha;rw[ha]at hr;simp only[Option.some.injEq]at hx;subst hx;exact⟨_,by simp[execOp,ho,rep_int hr,Op.unary,Op.intBits],.int _ _,λk=>own_v _ _ _⟩
 ·cases hx
theorem isK_int {s:Nat} (h:isK P s (λ| .int _=>true|_=>false)=true):∃k,P.underlying s=some (.int k):=by
 unfold isK at h;split at h
 ·rename_i d hd;cases d<;>simp_all
 ·cases h
theorem cint_ok {s d:Nat} {k:IntKind} {x:Operand} {x':Opd} (hs:isK P s (λ| .int _=>true|_=>false)=true) (hd':isK P d (λ| .int k'=>k==k'|_=>false)=true)
  (hk:oe GL x x'=true):ValOK P GL (.convert s d x) (.cint k x'):=by
 intro g w μ e act h O y hd hx o ho;have hr:=hd.ev hk;obtain⟨ks,hs'⟩:=isK_int hs;have hdd:P.underlying d=some (.int k):=by
  unfold isK at hd';split at hd'
  ·rename_i d' hd2;cases d'<;>simp_all
  ·cases hd'
 simp only[PI.val]at hx;split at hx
 ·rename_i k' n ha;rw[ha]at hr;simp only[Option.some.injEq]at hx;subst hx;exact⟨_,by simp[execOp,ho,rep_int hr,convert,run_underlying hs',run_underlying hdd,Conv.intToInt],.int _ _,λk=>own_v _ _ _⟩
 ·cases hx
end
section
variable {P:Program} {GL:Globals}
theorem fieldIs_inv {t i off n:Nat} (h:fieldIs P t i off n=true):∃fs f,P.underlying t=some (.struct fs)∧fs[i]?=some f∧f.offset=off∧sizeIs P f.type n=true:=by
 unfold fieldIs at h;split at h
 ·rename_i fs hfs;split at h
  ·rename_i f hf;simp only[Bool.and_eq_true,beq_iff_eq]at h;exact⟨fs,f,hfs,hf,h.1,h.2⟩
  ·cases h
 ·cases h
theorem rep_ref {g:Gh} {w:World} {μ:List Nat} {r o:Nat} {u:Value} (h:RepD g w μ (.ref r o) u):∃b,μ[r]?=some b∧u= .pointer (some ⟨b,o,none⟩):=h
theorem at_drop {g:Gh} {b o:Nat} {vs:List Value} (h:g.at b o vs) (k n:Nat):g.at b (o+k) ((vs.drop k).take n):=by
 intro i v hv;rw[List.getElem?_take]at hv;split at hv
 ·rw[List.getElem?_drop]at hv;have:=h _ v hv
  rwa [show o+(k+i)=o+k+i by omega]at this
 ·cases hv
theorem rep_subptr {g:Gh} {w:World} {μ:List Nat} {cs:List V} {vs:List Value} {ad:Addr} (hall:All2 (RepV g) cs vs) (hone:∀v∈vs,v.oneCell'=true) (hat:g.at ad.block ad.off vs)
  (k n:Nat):RepD g w μ (.v (.ptr ((cs.drop k).take n))) (.pointer (some ⟨ad.block,ad.off+k,none⟩)):=by
 have h2:=(hall.drop k).take n;exact RepV.ptr _ ⟨ad.block,ad.off+k,none⟩ ((vs.drop k).take n) rfl h2.1 h2.2 (λv hv=>hone v (List.mem_of_mem_drop (List.mem_of_mem_take hv))) (at_drop hat k n)
theorem faddr_ok {t i off n:Nat} {x:Operand} {x':Opd} (hf:fieldIs P t i off n=true) (h0:decide (0 <n)=true) (hk:oe GL x x'=true):ValOK P GL (.fieldAddr t x i) (.faddr x' off n):=by
 intro g w μ e act h O y hd hx o ho;have hr:=hd.ev hk;obtain⟨fs,f,hu,hi,rfl,hsz⟩:=fieldIs_inv hf;have hn:n≠0:=by simp at h0;omega
 have run:∀ad:Addr,act.eval x= .pointer (some ad)→ad.spot=none→(execOp act.eval o).run P w= .ok (.value (.pointer (some ⟨ad.block,ad.off+f.offset,none⟩))) w:=by
  intro ad hv hs;simp[execOp,ho,hv,Instr.fieldAt,run_underlying hu,hi,Instr.sureAddr,fieldPlace,run_sizeOf hsz,hn,addr_add hs]
 simp only[PI.val]at hx;split at hx
 ·rename_i cs hc;rw[hc]at hr;obtain⟨ad,vs,hv,hs,hall,hone,hat⟩:=rep_ptr hr;simp only[Option.some.injEq]at hx;subst hx;exact⟨_,run ad hv hs,rep_subptr hall hone hat _ _,λk=>own_v _ _ _⟩
 ·rename_i r off' hc;rw[hc]at hr;obtain⟨b,hb,hv⟩:=rep_ref hr;simp only[Option.some.injEq]at hx;subst hx;exact⟨_,run _ hv rfl,⟨b,hb,rfl⟩,λk=>own_ref _ _ _ _⟩
 ·cases hx
theorem run_part {w:World} {t n:Nat} {ag:Bool} (hs:sizeIs P t n=true) (hg:aggIs P t ag=true) {vs:List Value} {off:Nat} (hl:off+n≤vs.length) (h1:ag=false→n=1):
  (part t vs.toArray off).run P w= .ok (if ag then .agg ((vs.drop off).take n).toArray else (vs[off]?.getD undef)) w:=by
 cases ag with
 |true=>
  simp[part,run_isAgg hg,run_sizeOf hs]
 |false=>
  have:=h1 rfl;subst this;have h0:vs[off]?=some vs[off]:=List.getElem?_eq_getElem _;simp[part,run_isAgg hg,h0]
theorem fld_ok {t i off n:Nat} {ag:Bool} {x:Operand} {x':Opd} (hf:fieldIs P t i off n=true) (hga:fieldAg P t i ag=true) (h1:(ag||n==1)=true) (hk:oe GL x x'=true):
  ValOK P GL (.field t x i) (.fld x' off n ag):=by
 intro g w μ e act h O y hd hx o ho;have hr:=hd.ev hk;obtain⟨fs,f,hu,hi,rfl,hsz⟩:=fieldIs_inv hf;have hg:aggIs P f.type ag=true:=by simpa[fieldAg,hu,hi]using hga
 have hn1:ag=false→n=1:=by intro h;simpa[h]using h1
 simp only[PI.val]at hx;split at hx
 ·rename_i cs hc;rw[hc]at hr;obtain⟨vs,hv,hall,hone⟩:=RepV.agg_inv hr;simp only[Option.map_eq_some_iff]at hx;obtain⟨z,hz,rfl⟩:=hx;obtain⟨hrep,hlen⟩:=part_rep (w:=w) (μ:=μ) hall hone hz;exact⟨_,by simp[execOp,ho,hv,Instr.field,run_underlying hu,hi,asAgg,run_part hsz hg hlen hn1],hrep,λk=>own_v _ _ _⟩
 ·rename_i ds hc;rw[hc]at hr;obtain⟨vs,hv,hall,hone,_⟩:=hr;obtain⟨hrep,hlen,hown⟩:=dpart_rep hall.p hone hx;exact⟨_,by simp[execOp,ho,hv,Instr.field,run_underlying hu,hi,asAgg,run_part hsz hg hlen hn1],hrep,λk=>hown _ _⟩
 ·cases hx
theorem ev_int {g:Gh} {w:World} {μ:List Nat} {e:Env} {act:Act} {h:List Row} {O:Nat→Prop} (hd:Gd P GL g w μ e act h O) {i:Operand} {i':Opd} (hk:oe GL i i'=true) {k:IntKind} {n:Int}
  (hc:i'.ev e= .v (.int k n)):act.eval i= .int k n:=by
 have:=hd.ev hk;rw[hc]at this;exact rep_int this
theorem rep_list_get {g:Gh} {xs:List V} {u:Value} (h:RepV g (.list xs) u) {i:Nat} {x:V} (hx:xs[i]?=some x):
  ∃(a:Addr) (cap s:Nat) (vs:List Value),u= .slice (some a) xs.length cap∧a.spot=none∧All2 (RepV g) x.cells vs∧(∀v∈vs,v.oneCell'=true)∧g.at a.block (a.off+i*s) vs∧s=x.cells.length:=by
 have hi:=(List.getElem?_eq_some_iff.1 hx).1;cases h with
 |lnil=>simp at hx
 |list _ a cap s vs hs hc hr hz=>
  have hc2:=(hr i x hx).cells;have hz2:=hz i hi;refine⟨a,cap,s,(vs i).cells.toList,rfl,hs,hc2.1,hc2.2,hz2.2,?_⟩;have:=hc2.1.1;simp at this;omega
theorem iaddr_ok {t s:Nat} {x i:Operand} {x' i':Opd} (ht:sliceSz P t s=true) (hk:oe GL x x'=true) (hki:oe GL i i'=true):
  ValOK P GL (.indexAddr t x i) (.iaddr x' i' s):=by
 intro g w μ e act h O y hd hx o ho;have hr:=(hd.ev hk).copy;have hu:∃el,P.underlying t=some (.slice el)∧sizeIs P el s=true:=by
  unfold sliceSz at ht;split at ht
  ·rename_i el hel;exact⟨el,hel,ht⟩
  ·cases ht
 obtain⟨el,hu,hsz⟩:=hu;simp only[PI.val]at hx;split at hx
 ·rename_i xs k n hc hci;rw[hc]at hr;have hiv:=ev_int hd hki hci;unfold V.getI at hx;split at hx
  ·rename_i z hz;split at hz
   ·rename_i h0;split at hx
    ·rename_i hs;simp only[Option.some.injEq]at hx;subst hx;obtain⟨a,cap,s',vs,hv,hsp,hall,hone,hat,hs'⟩:=rep_list_get hr hz;have hss:s'=s:=by omega
     subst hss;have hi:=(List.getElem?_eq_some_iff.1 hz).1;refine⟨.pointer (some ⟨a.block,a.off+n.toNat*s',none⟩),?_,?_,λk=>own_v _ _ _⟩
     ·have hlt:0≤n∧n <(xs.length:Int):=⟨h0,by omega⟩;simp[execOp,ho,hv,hiv,Instr.indexAt,asIntOf,run_underlying hu,hlt,run_sizeOf hsz,addr_add hsp]
     ·exact RepV.ptr _ ⟨a.block,a.off+n.toNat*s',none⟩ vs rfl hall.1 hall.2 hone hat
    ·cases hx
   ·cases hz
  ·cases hx
 ·rename_i r m k n hc hci;rw[hc]at hr;have hiv:=ev_int hd hki hci;obtain⟨b,cap,hb,hv,_⟩:=hr;split at hx
  ·rename_i h0;simp only[Option.some.injEq]at hx;subst hx;refine⟨.pointer (some ⟨b,n.toNat*s,none⟩),?_,⟨b,hb,rfl⟩,λk=>own_ref _ _ _ _⟩;simp[execOp,ho,hv,hiv,Instr.indexAt,asIntOf,run_underlying hu,h0,run_sizeOf hsz];rw[addr_add rfl];simp
  ·cases hx
 ·cases hx
theorem iaddrP_ok {t s:Nat} {x i:Operand} {x' i':Opd} (ht:sliceSz P t s=true) (hk:oe GL x x'=true) (hki:oe GL i i'=true):
  ValOK P GL (.indexAddr t x i) (.iaddrP x' i' s):=by
 intro g w μ e act h O y hd hx o ho;have hr:=hd.ev hk;have hu:∃el,P.underlying t=some (.slice el)∧sizeIs P el s=true:=by
  unfold sliceSz at ht;split at ht
  ·rename_i el hel;exact⟨el,hel,ht⟩
  ·cases ht
 obtain⟨el,hu,hsz⟩:=hu;simp only[PI.val]at hx;split at hx
 ·rename_i b el' s' xs k n hc hci;rw[hc]at hr;have hiv:=ev_int hd hki hci;split at hx
  ·rename_i hn;obtain⟨⟨rfl,rfl⟩,hpos⟩:=hn;simp only[Option.some.injEq]at hx;subst hx;obtain⟨cap,hv,hcap,_⟩:=hr;refine⟨.pointer (some ⟨b,xs.length*s',none⟩),?_,.inr ⟨hpos,rfl⟩,λk=>by cases k<;>simp[ownAt,own1]⟩
   have hlt:(0:Int)≤xs.length∧(xs.length:Int) <((xs.length+1:Nat):Int):=⟨by omega,by omega⟩;simp[execOp,ho,hv,hiv,Instr.indexAt,asIntOf,run_underlying hu,hlt,run_sizeOf hsz]
   try (rw[addr_add rfl];simp)
  ·cases hx
 ·rename_i b m k n hc hci;rw[hc]at hr;have hiv:=ev_int hd hki hci;split at hx
  ·rename_i hn;obtain⟨rfl,hpos⟩:=hn;simp only[Option.some.injEq]at hx;subst hx;obtain⟨_,cap,hv⟩|⟨h0,_⟩:=hr
   ·refine⟨.pointer (some ⟨b,m*s,none⟩),?_,.inr ⟨hpos,rfl⟩,λk=>by cases k<;>simp[ownAt,own1]⟩
    have hlt:(0:Int)≤m∧(m:Int) <((m+1:Nat):Int):=⟨by omega,by omega⟩;simp[execOp,ho,hv,hiv,Instr.indexAt,asIntOf,run_underlying hu,hlt,run_sizeOf hsz]
    try (rw[addr_add rfl];simp)
   ·omega
  ·cases hx
 ·cases hx
theorem iaddrA_ok {t len s:Nat} {x i:Operand} {x' i':Opd} (ht:arrayOf P t len s=true) (hk:oe GL x x'=true) (hki:oe GL i i'=true):
  ValOK P GL (.indexAddr t x i) (.iaddrA x' i' len s):=by
 intro g w μ e act h O y hd hx o ho;have hr:=hd.ev hk;have hu:∃el,P.underlying t=some (.array len el)∧sizeIs P el s=true:=by
  unfold arrayOf at ht;split at ht
  ·rename_i l el hel;simp only[Bool.and_eq_true,beq_iff_eq]at ht;obtain⟨⟨rfl,h2⟩,_⟩:=ht;exact⟨el,hel,h2⟩
  ·cases ht
 obtain⟨el,hu,hsz⟩:=hu;have run:∀(ad:Addr) (k:IntKind) (n:Int),act.eval x= .pointer (some ad)→ad.spot=none→act.eval i= .int k n→0≤n∧n <(len:Int)→
   (execOp act.eval o).run P w= .ok (.value (.pointer (some ⟨ad.block,ad.off+n.toNat*s,none⟩))) w:=by
  intro ad k n hv hs hi hlt;simp[execOp,ho,hv,hi,Instr.indexAt,asIntOf,run_underlying hu,hlt,run_sizeOf hsz,Instr.sureAddr,addr_add hs]
 simp only[PI.val]at hx;split at hx
 ·rename_i cs k n hc hci;rw[hc]at hr;obtain⟨ad,vs,hv,hs,hall,hone,hat⟩:=rep_ptr hr;split at hx
  ·rename_i h0;simp only[Option.some.injEq]at hx;subst hx;exact⟨_,run ad k n hv hs (ev_int hd hki hci) h0,rep_subptr hall hone hat _ _,λk=>own_v _ _ _⟩
  ·cases hx
 ·rename_i r off' k n hc hci;rw[hc]at hr;obtain⟨b,hb,hv⟩:=rep_ref hr;split at hx
  ·rename_i h0;simp only[Option.some.injEq]at hx;subst hx;exact⟨_,run _ k n hv rfl (ev_int hd hki hci) h0,⟨b,hb,rfl⟩,λk=>own_ref _ _ _ _⟩
  ·cases hx
 ·cases hx
theorem isK_string {t:Nat} (h:isK P t (λ| .string=>true|_=>false)=true):P.underlying t=some .string:=by
 unfold isK at h;split at h
 ·rename_i d hd;cases d<;>simp_all
 ·cases h
theorem idxS_ok {t:Nat} {x i:Operand} {x' i':Opd} (ht:isK P t (λ| .string=>true|_=>false)=true) (hk:oe GL x x'=true) (hki:oe GL i i'=true):
  ValOK P GL (.index t x i) (.idxS x' i'):=by
 intro g w μ e act h O y hd hx o ho;have hr:=hd.ev hk;have hu:=isK_string ht;simp only[PI.val]at hx;split at hx
 ·rename_i s k n hc hci;rw[hc]at hr;split at hx
  ·rename_i h0;simp only[Option.map_eq_some_iff]at hx;obtain⟨b,hb,rfl⟩:=hx;exact⟨.int .u8 b.toNat,by simp[execOp,ho,rep_str hr,ev_int hd hki hci,Instr.index,asIntOf,run_underlying hu,h0,hb],.int _ _,λk=>own_v _ _ _⟩
  ·cases hx
 ·cases hx
theorem opt_one {p:Option Operand} {q:Option Opd} (h:zipOK (oe GL) p.toList q.toList=true):(p=none∧q=none)∨∃x y,p=some x∧q=some y∧oe GL x y=true:=by
 cases p<;>cases q<;>simp_all [zipOK]
theorem run_bound {g:Gh} {w:World} {μ:List Nat} {e:Env} {act:Act} {h:List Row} {O:Nat→Prop} (hd:Gd P GL g w μ e act h O) {p:Operand} {q:Opd} (hk:oe GL p q=true) {dflt l y:Nat}
  (hb:bndI (some (q.ev e)) dflt=some l) (hl:l≤y) (code:BoundsCode):(Instr.sliceBound (act.eval p) y code).run P w= .ok l w:=by
 unfold bndI at hb;split at hb
 ·rename_i h;cases h
 ·rename_i k n h;simp only[Option.some.injEq]at h;split at hb
  ·rename_i h0;simp only[Option.some.injEq]at hb;have hv:=ev_int hd hk h;have:0≤n∧n≤(y:Int):=⟨h0,by omega⟩;simp[Instr.sliceBound,hv,asIntOf,this,hb]
  ·cases hb
 ·cases hb
theorem run_bounds {g:Gh} {w:World} {μ:List Nat} {e:Env} {act:Act} {h:List Row} {O:Nat→Prop} (hd:Gd P GL g w μ e act h O) {lo hi:Option Operand} {lo' hi':Option Opd}
  (hlo:zipOK (oe GL) lo.toList lo'.toList=true) (hhi:zipOK (oe GL) hi.toList hi'.toList=true) {l m len cap:Nat} (isS:Bool)
  (hl:bndI (lo'.map (·.ev e)) 0=some l) (hm:bndI (hi'.map (·.ev e)) len=some m) (hlm:l≤m) (hml:m≤len) (hlc:len≤cap):
  (Instr.sliceBounds isS len cap (lo.map act.eval) (hi.map act.eval) none).run P w= .ok (l,m,cap) w:=by
 rcases opt_one hlo with ⟨rfl,rfl⟩|⟨p,q,rfl,rfl,hpq⟩<;>rcases opt_one hhi with ⟨rfl,rfl⟩|⟨p',q',rfl,rfl,hpq'⟩
 ·simp[bndI]at hl hm;subst hl;subst hm;simp[Instr.sliceBounds]
 ·simp[bndI]at hl;subst hl;have h2:=run_bound hd hpq' (y:=cap) hm (by omega) (if isS then .sliceAcap else .sliceAlen);simp[Instr.sliceBounds,h2]
 ·simp[bndI]at hm;subst hm;have h2:=run_bound hd hpq (y:=len) hl (by omega) .sliceB;simp[Instr.sliceBounds,h2]
 ·have h1:=run_bound hd hpq' (y:=cap) hm (by omega) (if isS then .sliceAcap else .sliceAlen);have h2:=run_bound hd hpq (y:=m) hl (by omega) .sliceB;simp[Instr.sliceBounds,h1,h2]
theorem rep_sublist {g:Gh} {xs:List V} {u:Value} (h:RepV g (.list xs) u) {l m s:Nat} (hlm:l≤m) (hml:m≤xs.length) (hs:headOK s xs=true):
  ∃(a:Option Addr) (cap:Nat),u= .slice a xs.length cap∧xs.length≤cap∧RepV g (.list ((xs.take m).drop l)) (.slice (if cap=l then a else a.map (·.add (l*s))) (m-l) (cap-l)):=by
 cases h with
 |lnil=>
  have hm0:m=0:=by simpa using hml
  subst hm0;have hl0:l=0:=by omega
  subst hl0;exact⟨none,0,rfl,Nat.le_refl _,by simpa using RepV.lnil⟩
 |list _ a cap s' vs hsp hc hr hz=>
  refine⟨some a,cap,rfl,hc,?_⟩;have hlen:((xs.take m).drop l).length=m-l:=by simp;omega
  have hget:∀i x,((xs.take m).drop l)[i]?=some x→xs[l+i]?=some x:=by
   intro i x hx;rw[List.getElem?_drop,List.getElem?_take]at hx;split at hx
   ·exact hx
   ·cases hx
  have hs':0 <xs.length→s'=s:=by
   intro h0;have hx0:xs[0]?=some xs[0]:=List.getElem?_eq_getElem _;have h1:xs.head?=some xs[0]:=by rw[List.head?_eq_getElem?];exact hx0
   simp[headOK,h1]at hs;have h3:=(hr 0 _ hx0).cells.1.1;have h4:=(hz 0 h0).1;simp at h3;omega
  rw[←hlen];by_cases hcl:cap=l
  ·simp only[hcl,if_true];refine RepV.list _ a _ s' (λi=>vs (l+i)) hsp (by rw[hlen];omega) (λi x hx=>hr _ x (hget i x hx)) λi hi=>?_;rw[hlen]at hi;omega
  ·simp only[hcl,if_false,Option.map_some];refine RepV.list _ (a.add (l*s)) _ s' (λi=>vs (l+i)) (by rw[addr_add hsp]) (by rw[hlen];omega) (λi x hx=>hr _ x (hget i x hx)) λi hi=>?_;rw[hlen]at hi;have h0:0 <xs.length:=by omega
   have hss:=hs' h0;subst hss;rw[addr_add hsp];have:=hz (l+i) (by omega);refine⟨this.1,?_⟩;have h2:=this.2;simp only
   rwa [show a.off+(l+i)*s'=a.off+l*s'+i*s' by rw[Nat.add_mul];omega]at h2
theorem slc_ok {t s:Nat} {x:Operand} {lo hi mx:Option Operand} {x':Opd} {lo' hi':Option Opd} (ht:sliceSz P t s=true)
  (hk:oe GL x x'=true) (hmx:mx.isNone=true) (hlo:zipOK (oe GL) lo.toList lo'.toList=true) (hhi:zipOK (oe GL) hi.toList hi'.toList=true):
  ValOK P GL (.slice t x lo hi mx) (.slc x' lo' hi' s):=by
 intro g w μ e act h O y hd hx o ho;have hr:=(hd.ev hk).copy;have hu:∃el,P.underlying t=some (.slice el)∧sizeIs P el s=true:=by
  unfold sliceSz at ht;split at ht
  ·rename_i el hel;exact⟨el,hel,ht⟩
  ·cases ht
 obtain⟨el,hu,hsz⟩:=hu;have hmx':mx=none:=by simpa using hmx
 subst hmx';simp only[PI.val]at hx;split at hx
 ·rename_i xs hc;rw[hc]at hr;split at hx
  ·rename_i l m hl hm;split at hx
   ·rename_i hcond;simp only[Option.some.injEq]at hx;subst hx;obtain⟨a,cap,hv,hlc,hrep⟩:=rep_sublist hr hcond.1 hcond.2.1 hcond.2.2;have hb:=run_bounds (w:=w) hd hlo hhi true hl hm hcond.1 hcond.2.1 hlc;exact⟨_,by simp[execOp,ho,hv,Instr.sliceAt,Instr.slice,run_underlying hu,hb,run_sizeOf hsz],hrep,λk=>own_v _ _ _⟩
   ·cases hx
  ·cases hx
 ·rename_i r n hc;rw[hc]at hr;obtain⟨b,cap,hbm,hv,hnc⟩:=hr;split at hx
  ·rename_i l m hl hm;split at hx
   ·rename_i hcond;obtain⟨rfl,hmn⟩:=hcond;simp only[Option.some.injEq]at hx;subst hx;have hb:=run_bounds (w:=w) hd hlo hhi true hl hm (Nat.zero_le _) hmn hnc;have e0:(if cap=0 then some (⟨b,0,none⟩:Addr) else some ((⟨b,0,none⟩:Addr).add (0*s)))=some ⟨b,0,none⟩:=by
     rw[addr_add rfl];simp
    refine⟨.slice (some ⟨b,0,none⟩) m cap,?_,⟨b,cap,hbm,rfl,by omega⟩,λk=>by cases k<;>simp[ownAt,own1]⟩
    have e1:((⟨b,0,none⟩:Addr).add (0*s))=⟨b,0,none⟩:=by rw[addr_add rfl];simp
    simp[execOp,ho,hv,Instr.sliceAt,Instr.slice,run_underlying hu,hb,run_sizeOf hsz]
    try (intro _;simpa using e1)
   ·cases hx
  ·cases hx
 ·cases hx
theorem slcS_ok {t:Nat} {x:Operand} {lo hi mx:Option Operand} {x':Opd} {lo' hi':Option Opd} (ht:isK P t (λ| .string=>true|_=>false)=true)
  (hk:oe GL x x'=true) (hmx:mx.isNone=true) (hlo:zipOK (oe GL) lo.toList lo'.toList=true) (hhi:zipOK (oe GL) hi.toList hi'.toList=true):
  ValOK P GL (.slice t x lo hi mx) (.slcS x' lo' hi'):=by
 intro g w μ e act h O y hd hx o ho;have hr:=hd.ev hk;have hu:=isK_string ht;have hmx':mx=none:=by simpa using hmx
 subst hmx';simp only[PI.val]at hx;split at hx
 ·rename_i s hc;rw[hc]at hr;split at hx
  ·rename_i l m hl hm;split at hx
   ·rename_i hcond;simp only[Option.some.injEq]at hx;subst hx;have hb:=run_bounds (w:=w) hd hlo hhi false hl hm hcond.1 hcond.2 (Nat.le_refl _);exact⟨_,by simp[execOp,ho,rep_str hr,Instr.sliceAt,Instr.slice,run_underlying hu,hb],.str _,λk=>own_v _ _ _⟩
   ·cases hx
  ·cases hx
 ·cases hx
theorem ext_ok {t:Operand} {t':Opd} {i i':Nat} (hk:oe GL t t'=true) (hi:(i==i')=true):ValOK P GL (.extract t i) (.ext t' i'):=by
 intro g w μ e act h O y hd hx o ho;have:i=i':=by simpa using hi
 subst this;simp only[PI.val]at hx;split at hx
 ·rename_i n mv;cases t with
  |tmp n'=>
   have:n'=n:=by simpa[oe]using hk
   subst this;split at hx
   ·rename_i ds hds;have hr:=hd.inv.rep n';rw[findF_eq]at hds;rw[hds]at hr;obtain⟨vs,hv,hall⟩:=hr;simp only[Option.map_eq_some_iff]at hx;obtain⟨z,hz,rfl⟩:=hx;obtain⟨v,hvs,hrep⟩:=hall.get hz;refine⟨v,?_,hrep.toD.copy,λk=>copy_tame _ _ _⟩;simp[execOp,ho,Act.eval,hv,Instr.extract,hvs]
   ·cases hx
  |const v=>simp[oe]at hk
  |global g=>simp[oe]at hk
  |func f=>simp[oe]at hk
 ·cases hx
theorem caps_rep {g:Gh} {w:World} {μ:List Nat} {e:Env} {act:Act} {h:List Row} {O:Nat→Prop} (hd:Gd P GL g w μ e act h O):
  ∀ {ps:List Operand} {qs:List Opd},zipOK (oe GL) ps qs=true→(capsOf e qs).all D.isCap=true→All2 (RepC g μ) (capsOf e qs) (ps.map act.eval)
 |[],[],_,_=> .nil
 |p::ps,q::qs,hk,hc=>by
  simp only[zipOK,Bool.and_eq_true]at hk;simp only[capsOf,List.all_cons,Bool.and_eq_true]at hc ⊢;refine .cons ?_ (caps_rep hd hk.2 hc.2);have hr:=(hd.ev hk.1).copy;generalize (q.ev e).copy=d at hr hc ⊢;cases d<;>simp[D.isCap]at hc<;>exact hr
 |[],_::_,hk,_=>by simp[zipOK]at hk
 |_::_,[],hk,_=>by simp[zipOK]at hk
theorem mkf_ok {f f':Nat} {first caps:Array Operand} {caps':List Opd} (hf:(f==f')=true) (h1:first.isEmpty=true) (hk:zipOK (oe GL) caps.toList caps'=true):
  ValOK P GL (.makeFunc (.func f) first caps) (.mkf f' caps'):=by
 intro g w μ e act h O y hd hx o ho;have:f=f':=by simpa using hf
 subst this;have hfe:first= #[]:=by simpa using h1
 subst hfe;simp only[PI.val]at hx;split at hx
 ·rename_i hc;simp only[Option.some.injEq]at hx;subst hx;refine⟨.func (.func f) #[] (caps.toList.map act.eval).toArray,?_,⟨_,rfl,caps_rep hd hk hc⟩,λk=>by cases k<;>simp[ownAt,own1]⟩
  simp[execOp,ho,Instr.makeFunc];rw[←Array.toList_inj];simp
 ·cases hx
theorem mkme_ok {f f':Nat} {first caps:Array Operand} {caps':List Opd} (hf:(f==f')=true) (h1:caps.isEmpty=true) (hk:zipOK (oe GL) first.toList caps'=true):
  ValOK P GL (.makeFunc (.func f) first caps) (.mkme f' caps'):=by
 intro g w μ e act h O y hd hx o ho;have:=eq_of_beq hf;subst this;simp only[PI.val]at hx;split at hx
 ·rename_i hall;simp only[Option.some.injEq]at hx;subst hx;have h2:caps= #[]:=by simpa using h1
  subst h2;have:=caps_rep hd hk hall;refine⟨.func (.func f) (first.toList.map act.eval).toArray #[],?_,⟨_,rfl,this⟩,λk=>by cases k<;>simp[ownAt,own1]⟩
  have e1:first.map act.eval=(first.toList.map act.eval).toArray:=by rw[←Array.toList_inj];simp
  simp[execOp,ho,Instr.makeFunc,e1]
 ·cases hx
theorem idxA_ok {t n s:Nat} {ag:Bool} {x i:Operand} {x' i':Opd} (ht:(match P.underlying t with|some (.array n' e)=>n'==n&&sizeIs P e s&&aggIs P e ag&&(ag||s==1)|_=>false)=true)
  (hk:oe GL x x'=true) (hki:oe GL i i'=true):ValOK P GL (.index t x i) (.idxA x' i' n s ag):=by
 intro g w μ e act h O y hd hx o ho;have hr:=hd.ev hk;split at ht
 ·rename_i n' el hu;simp only[Bool.and_eq_true,beq_iff_eq]at ht;obtain⟨⟨⟨rfl,hs⟩,hg⟩,h1⟩:=ht;have hn1:ag=false→s=1:=by intro h;simpa[h]using h1
  simp only[PI.val]at hx;split at hx
  ·rename_i cs k z hc hci;rw[hc]at hr;obtain⟨vs,hv,hall,hone⟩:=RepV.agg_inv hr;split at hx
   ·rename_i hlt;simp only[Option.map_eq_some_iff]at hx;obtain⟨z',hz,rfl⟩:=hx;obtain⟨hrep,hlen⟩:=part_rep (w:=w) (μ:=μ) hall hone hz;exact⟨_,by simp[execOp,ho,hv,ev_int hd hki hci,Instr.index,asIntOf,run_underlying hu,hlt,run_sizeOf hs,run_part hs hg hlen hn1],hrep,λk=>own_v _ _ _⟩
   ·cases hx
  ·rename_i ds k z hc hci;rw[hc]at hr;obtain⟨vs,hv,hall,hone,_⟩:=hr;split at hx
   ·rename_i hlt;obtain⟨hrep,hlen,hown⟩:=dpart_rep hall.p hone hx;exact⟨_,by simp[execOp,ho,hv,ev_int hd hki hci,Instr.index,asIntOf,run_underlying hu,hlt,run_sizeOf hs,run_part hs hg hlen hn1],hrep,λk=>hown _ _⟩
   ·cases hx
  ·cases hx
 ·cases ht
theorem one_arr {α:Type} {asx:Array α} {p:α→Bool} (h:one1 asx.toList p=true):∃x,asx= #[x]∧p x=true:=by
 unfold one1 at h;split at h
 ·rename_i x hx;exact⟨x,by rw[←Array.toArray_toList (xs:=asx),hx],h⟩
 ·cases h
theorem two_arr {α:Type} {asx:Array α} {p:α→α→Bool} (h:two2 asx.toList p=true):∃x y,asx= #[x,y]∧p x y=true:=by
 unfold two2 at h;split at h
 ·rename_i x y hx;exact⟨x,y,by rw[←Array.toArray_toList (xs:=asx),hx],h⟩
 ·cases h
theorem isK_slice {t:Nat} (h:isK P t (λ| .slice _=>true|_=>false)=true):∃el,P.underlying t=some (.slice el):=by
 unfold isK at h;split at h
 ·rename_i d hd;cases d<;>simp_all
 ·cases h
theorem alen_ok {args:Array Operand} {ts:Array TypeId} {x':Opd} (hk:one1 args.toList (λx=>oe GL x x')=true)
  (ht:one1 ts.toList (λt=>isK P t (λ| .slice _=>true|_=>false))=true):ValOK P GL (.call {callee:= .builtin .len,args:=args,argTypes:=ts}) (.alen x'):=by
 intro g w μ e act h O y hd hx o ho;obtain⟨x,rfl,hx1⟩:=one_arr hk;obtain⟨t,rfl,ht1⟩:=one_arr ht;obtain⟨el,hu⟩:=isK_slice ht1;have hr:=(hd.ev hx1).copy;have run:∀a n c,act.eval x= .slice a n c→(execOp act.eval o).run P w= .ok (.value (.int .i64 n)) w:=by
  intro a n c hv;simp[execOp,ho,resolve,invoke,builtin,Builtin.len_,run_underlying hu,hv,goInt]
 simp only[PI.val]at hx;split at hx
 ·rename_i xs hc;rw[hc]at hr;simp only[Option.some.injEq]at hx;subst hx;refine⟨.int .i64 xs.length,?_,.int _ _,λk=>own_v _ _ _⟩;generalize hv:act.eval x=u at hr;cases hr with
  |lnil=>exact run _ _ _ hv
  |list _ a cap s vs=>exact run _ _ _ hv
 ·rename_i el' s' hc;rw[hc]at hr;simp only[Option.some.injEq]at hx;subst hx;obtain⟨a,hv,_⟩:=hr;exact⟨.int .i64 0,run _ _ _ hv,.int _ _,λk=>own_v _ _ _⟩
 ·rename_i r n hc;rw[hc]at hr;simp only[Option.some.injEq]at hx;subst hx;obtain⟨b,cap,_,hv,_⟩:=hr;exact⟨.int .i64 n,run _ _ _ hv,.int _ _,λk=>own_v _ _ _⟩
 ·cases hx
theorem lenS_ok {args:Array Operand} {ts:Array TypeId} {x':Opd} (hk:one1 args.toList (λx=>oe GL x x')=true)
  (ht:one1 ts.toList (λt=>isK P t (λ| .string=>true|_=>false))=true):ValOK P GL (.call {callee:= .builtin .len,args:=args,argTypes:=ts}) (.lenS x'):=by
 intro g w μ e act h O y hd hx o ho;obtain⟨x,rfl,hx1⟩:=one_arr hk;obtain⟨t,rfl,ht1⟩:=one_arr ht;have hu:=isK_string ht1;have hr:=hd.ev hx1;simp only[PI.val]at hx;split at hx
 ·rename_i s hc;rw[hc]at hr;simp only[Option.some.injEq]at hx;subst hx;exact⟨.int .i64 s.size,by simp[execOp,ho,resolve,invoke,builtin,Builtin.len_,run_underlying hu,rep_str hr,goInt],.int _ _,λk=>own_v _ _ _⟩
 ·cases hx
theorem max_ok {args:Array Operand} {ts:Array TypeId} {x' y':Opd} (hk:two2 args.toList (λx y=>oe GL x x'&&oe GL y y')=true):
  ValOK P GL (.call {callee:= .builtin .max,args:=args,argTypes:=ts}) (.minmax true x' y'):=by
 intro g w μ e act h O z hd hx o ho;obtain⟨x,y,rfl,hxy⟩:=two_arr hk;simp only[Bool.and_eq_true]at hxy;simp only[PI.val]at hx;split at hx
 ·rename_i k a k' b hc hc';split at hx
  ·rename_i hkk;subst hkk;simp only[if_true,Option.some.injEq]at hx;subst hx;exact⟨_,by simp[execOp,ho,resolve,invoke,builtin,Builtin.max_,Builtin.max2,ev_int hd hxy.1 hc,ev_int hd hxy.2 hc'],.int _ _,λk=>own_v _ _ _⟩
  ·cases hx
 ·cases hx
theorem min_ok {args:Array Operand} {ts:Array TypeId} {x' y':Opd} (hk:two2 args.toList (λx y=>oe GL x x'&&oe GL y y')=true):
  ValOK P GL (.call {callee:= .builtin .min,args:=args,argTypes:=ts}) (.minmax false x' y'):=by
 intro g w μ e act h O z hd hx o ho;obtain⟨x,y,rfl,hxy⟩:=two_arr hk;simp only[Bool.and_eq_true]at hxy;simp only[PI.val]at hx;split at hx
 ·rename_i k a k' b hc hc';split at hx
  ·rename_i hkk;subst hkk;simp only[Bool.false_eq_true,if_false,Option.some.injEq]at hx;subst hx;exact⟨_,by simp[execOp,ho,resolve,invoke,builtin,Builtin.min_,Builtin.min2,ev_int hd hxy.1 hc,ev_int hd hxy.2 hc'],.int _ _,λk=>own_v _ _ _⟩
  ·cases hx
 ·cases hx
end
section
variable {P:Program} {GL:Globals}
theorem eq1_run {g:Gh} {w:World} {x y:V} {u v:Value} (hx:RepV g x u) (hy:RepV g y v) {k:Nat} {b:Bool} (hb:V.eq1 k x y=some b) {t:Nat} (ht:kindIs P t k=true) (d:Nat):
  (Op.equalIn (d+1) t u v).run P w= .ok b w∧(part t #[] 0=part t #[] 0)∧(isAgg t).run P w= .ok false w:=by
 unfold kindIs at ht;split at ht
 ·rename_i k' hu;cases x<;>cases y<;>simp only[V.eq1,reduceCtorEq]at hb
  rename_i k1 a k2 c;split at hb
  ·rename_i hkk;subst hkk;simp only[Option.some.injEq]at hb;subst hb;cases hx;cases hy;exact⟨run_equalIn_int w d t k1 _ a c hu,rfl,by simp[isAgg,run_underlying hu]⟩
  ·cases hb
 ·rename_i hu;cases x<;>cases y<;>simp only[V.eq1,reduceCtorEq]at hb
  simp only[Option.some.injEq]at hb;subst hb;cases hx;cases hy;exact⟨run_equalIn_bool' w d t _ _ hu,rfl,by simp[isAgg,run_underlying hu]⟩
 ·rename_i hu;cases x<;>cases y<;>simp only[V.eq1,reduceCtorEq]at hb
  simp only[Option.some.injEq]at hb;subst hb;cases hx;cases hy;exact⟨run_equalIn_string w d t _ _ hu,rfl,by simp[isAgg,run_underlying hu]⟩
 ·cases ht
theorem run_part0 {t:Nat} {w:World} (h:(isAgg t).run P w= .ok false w) {cs:Array Value} {i:Nat} {v:Value} (hv:cs[i]?=some v):(part t cs i).run P w= .ok v w:=by
 simp[part,h,hv]
theorem eqL_run {g:Gh} {w:World} {us vs:List Value} (d:Nat):∀(fs:List Field) (ks:List Nat) (xs ys:List V) (i:Nat) {b:Bool},fieldsFlat P i fs ks=true→V.eqL ks xs ys=some b→
  (∀j x,xs[j]?=some x→∃u,us[i+j]?=some u∧RepV g x u)→(∀j y,ys[j]?=some y→∃v,vs[i+j]?=some v∧RepV g y v)→
  (Op.eqFields (d+1) us.toArray vs.toArray fs).run P w= .ok b w
 |[],[],xs,ys,i,b,_,hb,_,_=>by
  cases xs<;>cases ys<;>simp[V.eqL]at hb
  subst hb;rfl
 |[],_::_,_,_,_,_,hf,_,_,_=>by simp[fieldsFlat]at hf
 |_::_,[],_,_,_,_,hf,_,_,_=>by simp[fieldsFlat]at hf
 |f::fs,k::ks,xs,ys,i,b,hf,hb,hx,hy=>by
  simp only[fieldsFlat,Bool.and_eq_true,beq_iff_eq,bne_iff_ne,ne_eq]at hf;obtain⟨⟨⟨ho,hn⟩,hk⟩,hrest⟩:=hf;cases xs with
  |nil=>cases ys<;>simp[V.eqL]at hb
  |cons x xs=>
   cases ys with
   |nil=>simp[V.eqL]at hb
   |cons y ys=>
    simp only[V.eqL]at hb;split at hb
    ·rename_i b1 b2 h1 h2;simp only[Option.some.injEq]at hb;subst hb;obtain⟨u,hu,ru⟩:=hx 0 x rfl;obtain⟨v,hv,rv⟩:=hy 0 y rfl;obtain⟨e1,_,e2⟩:=eq1_run (w:=w) ru rv h1 hk d;have ih:=eqL_run (g:=g) (w:=w) d fs ks xs ys (i+1) hrest h2 (λj z hz=>by
      obtain⟨u',hu',r'⟩:=hx (j+1) z (by simpa using hz);exact⟨u',by rw[show i+1+j=i+(j+1) by omega];exact hu',r'⟩) (λj z hz=>by
      obtain⟨u',hu',r'⟩:=hy (j+1) z (by simpa using hz);exact⟨u',by rw[show i+1+j=i+(j+1) by omega];exact hu',r'⟩)
     have p1:(part f.type us.toArray f.offset).run P w= .ok u w:=run_part0 e2 (by rw[ho];simpa using hu);have p2:(part f.type vs.toArray f.offset).run P w= .ok v w:=run_part0 e2 (by rw[ho];simpa using hv);simp only[Op.eqFields,ne_eq,hn,not_false_eq_true,if_true,Sem.run_bind,p1,p2,e1,Result.andThen_ok];cases b1
     ·simp
     ·simpa using ih
    ·cases hb
theorem eqL_split:∀(m:Nat) (ks:List Nat) (xs ys:List V) {b:Bool},V.eqL ks xs ys=some b→∃b1 b2,V.eqL (ks.take m) (xs.take m) (ys.take m)=some b1∧V.eqL (ks.drop m) (xs.drop m) (ys.drop m)=some b2∧b=(b1&&b2)
 |0,ks,xs,ys,b,h=>⟨true,b,by simp[V.eqL],by simpa using h,by simp⟩
 |m+1,[],xs,ys,b,h=>by
  cases xs<;>cases ys<;>simp[V.eqL]at h
  subst h;exact⟨true,true,by simp[V.eqL],by simp[V.eqL],rfl⟩
 |m+1,k::ks,xs,ys,b,h=>by
  cases xs with
  |nil=>cases ys<;>simp[V.eqL]at h
  |cons x xs=>
   cases ys with
   |nil=>simp[V.eqL]at h
   |cons y ys=>
    simp only[V.eqL]at h;split at h
    ·rename_i c1 c2 h1 h2;simp only[Option.some.injEq]at h;subst h;obtain⟨b1,b2,e1,e2,rfl⟩:=eqL_split m ks xs ys h2;exact⟨c1&&b1,b2,by simp[V.eqL,h1,e1],by simpa using e2,by rw[Bool.and_assoc]⟩
    ·cases h
theorem eqN_run {g:Gh} {w:World} {us vs:List Value} (d:Nat):∀(fs:List Field) (ks:List Nat) (xs ys:List V) (i:Nat) {b:Bool},fieldsNest P i fs ks=true→V.eqL ks xs ys=some b→
  (∀j x,xs[j]?=some x→∃u,us[i+j]?=some u∧RepV g x u)→(∀j y,ys[j]?=some y→∃v,vs[i+j]?=some v∧RepV g y v)→
  (Op.eqFields (d+2) us.toArray vs.toArray fs).run P w= .ok b w
 |[],ks,xs,ys,i,b,hf,hb,_,_=>by
  simp only[fieldsNest,List.isEmpty_iff]at hf;subst hf;cases xs<;>cases ys<;>simp[V.eqL]at hb
  subst hb;rfl
 |f::fs,ks,xs,ys,i,b,hf,hb,hx,hy=>by
  simp only[fieldsNest,Bool.and_eq_true,beq_iff_eq,bne_iff_ne,ne_eq]at hf;obtain⟨⟨ho,hn⟩,hk⟩:=hf;split at hk
  ·rename_i sub hsub;simp only[Bool.and_eq_true,Bool.not_eq_true',beq_iff_eq]at hk;obtain⟨⟨⟨k1,k2⟩,k3⟩,k4⟩:=hk;obtain⟨b1,b2,e1,e2,rfl⟩:=eqL_split sub.size ks xs ys hb;have hfo:P.fieldsOf f.type=sub:=by simp[Program.fieldsOf,hsub]
   have ha:(isAgg f.type).run P w= .ok true w:=by simp[isAgg,run_underlying hsub]
   have hs:(sizeOf f.type).run P w= .ok sub.size w:=run_sizeOf k2;have hp:∀zs:List Value,(part f.type zs.toArray f.offset).run P w= .ok (.agg ((zs.drop i).take sub.size).toArray) w:=by
    intro zs;have:zs.toArray.extract i (i+sub.size)=((zs.drop i).take sub.size).toArray:=by simp
    simp[part,ha,hs,ho,this]
   have hin:(Op.equalIn (d+2) f.type (.agg ((us.drop i).take sub.size).toArray) (.agg ((vs.drop i).take sub.size).toArray)).run P w= .ok b1 w:=by
    rw[run_equalIn_struct w (d+1) f.type _ _ (by rw[hfo];exact hsub) k1,hfo];refine eqL_run (g:=g) d sub.toList _ _ _ 0 k3 e1 (λj x hj=>?_) (λj y hj=>?_)
    ·rw[List.getElem?_take]at hj;split at hj
     ·rename_i hlt;obtain⟨u,hu,hr⟩:=hx j x hj;exact⟨u,by rw[Nat.zero_add,List.getElem?_take,if_pos hlt,List.getElem?_drop];exact hu,hr⟩
     ·cases hj
    ·rw[List.getElem?_take]at hj;split at hj
     ·rename_i hlt;obtain⟨u,hu,hr⟩:=hy j y hj;exact⟨u,by rw[Nat.zero_add,List.getElem?_take,if_pos hlt,List.getElem?_drop];exact hu,hr⟩
     ·cases hj
   have ih:=eqN_run (g:=g) (w:=w) d fs _ _ _ (i+sub.size) k4 e2 (λj z hz=>by
    rw[List.getElem?_drop]at hz;obtain⟨u,hu,hr⟩:=hx _ z hz;exact⟨u,by rw[Nat.add_assoc];exact hu,hr⟩) (λj z hz=>by
    rw[List.getElem?_drop]at hz;obtain⟨u,hu,hr⟩:=hy _ z hz;exact⟨u,by rw[Nat.add_assoc];exact hu,hr⟩)
   simp only[Op.eqFields,ne_eq,hn,not_false_eq_true,if_true,Sem.run_bind,hp,hin,Result.andThen_ok];cases b1
   ·simp
   ·simpa using ih
  ·rename_i hns;cases ks with
   |nil=>cases hk
   |cons k ks=>
    simp only[Bool.and_eq_true]at hk;obtain⟨hk,hrest⟩:=hk;cases xs with
    |nil=>cases ys<;>simp[V.eqL]at hb
    |cons x xs=>
     cases ys with
     |nil=>simp[V.eqL]at hb
     |cons y ys=>
      simp only[V.eqL]at hb;split at hb
      ·rename_i b1 b2 h1 h2;simp only[Option.some.injEq]at hb;subst hb;obtain⟨u,hu,ru⟩:=hx 0 x rfl;obtain⟨v,hv,rv⟩:=hy 0 y rfl;obtain⟨e1,_,e2⟩:=eq1_run (w:=w) ru rv h1 hk (d+1);have ih:=eqN_run (g:=g) (w:=w) d fs ks xs ys (i+1) hrest h2 (λj z hz=>by
        obtain⟨u',hu',r'⟩:=hx (j+1) z (by simpa using hz);exact⟨u',by rw[show i+1+j=i+(j+1) by omega];exact hu',r'⟩) (λj z hz=>by
        obtain⟨u',hu',r'⟩:=hy (j+1) z (by simpa using hz);exact⟨u',by rw[show i+1+j=i+(j+1) by omega];exact hu',r'⟩)
       have p1:(part f.type us.toArray f.offset).run P w= .ok u w:=run_part0 e2 (by rw[ho];simpa using hu);have p2:(part f.type vs.toArray f.offset).run P w= .ok v w:=run_part0 e2 (by rw[ho];simpa using hv);simp only[Op.eqFields,ne_eq,hn,not_false_eq_true,if_true,Sem.run_bind,p1,p2,e1,Result.andThen_ok];cases b1
       ·simp
       ·simpa using ih
      ·cases hb
theorem eqA_ok {op:BinOp} {ne:Bool} {t s:Nat} {ks:List Nat} {x y:Operand} {x' y':Opd} (hop:(op==if ne then BinOp.neq else BinOp.eql)=true)
  (ht:(eqFlat P t ks||eqNest P t ks)=true) (hx':oe GL x x'=true) (hy':oe GL y y'=true):ValOK P GL (.binOp op t x y s) (.eqA ne ks x' y'):=by
 intro g w μ e act h O d hd hx o ho;have hr1:=hd.ev hx';have hr2:=hd.ev hy';simp only[PI.val]at hx;split at hx
 ·rename_i cs ds hc hd2;simp only[Option.map_eq_some_iff]at hx;obtain⟨b,hb,rfl⟩:=hx;obtain⟨us,e1,h1,_⟩:=RepV.agg_inv (toV_rep hr1 hc);obtain⟨vs,e2,h2,_⟩:=RepV.agg_inv (toV_rep hr2 hd2);obtain⟨t2,hrun⟩:P.eqGuardType P.depth t=false∧(Op.equalIn 10000 t (.agg us.toArray) (.agg vs.toArray)).run P w= .ok b w:=by
   rcases (by simpa using ht:eqFlat P t ks=true∨eqNest P t ks=true)with ht|ht
   ·unfold eqFlat at ht;split at ht
    ·rename_i fs hu;simp only[Bool.and_eq_true,Bool.not_eq_true']at ht;obtain⟨⟨t1,t2⟩,t3⟩:=ht;have hfs:P.fieldsOf t=fs:=by simp[Program.fieldsOf,hu]
     refine⟨t2,?_⟩;rw[run_equalIn_struct w 9999 t us.toArray vs.toArray (by rw[hfs];exact hu) t1,hfs];exact eqL_run 9998 fs.toList ks cs ds 0 t3 hb (λj x hx=>by simpa using h1.get hx) (λj x hx=>by simpa using h2.get hx)
    ·cases ht
   ·unfold eqNest at ht;split at ht
    ·rename_i fs hu;simp only[Bool.and_eq_true,Bool.not_eq_true']at ht;obtain⟨⟨t1,t2⟩,t3⟩:=ht;have hfs:P.fieldsOf t=fs:=by simp[Program.fieldsOf,hu]
     refine⟨t2,?_⟩;rw[run_equalIn_struct w 9999 t us.toArray vs.toArray (by rw[hfs];exact hu) t1,hfs];exact eqN_run 9997 fs.toList ks cs ds 0 t3 hb (λj x hx=>by simpa using h1.get hx) (λj x hx=>by simpa using h2.get hx)
    ·cases ht
  have hg:(eqGuard op t x y (.agg us.toArray) (.agg vs.toArray)).run P w= .ok () w:=run_eqGuard_agg w op t x y _ _ t2;refine⟨.bool (b != ne),?_,.bool _,λk=>own_v _ _ _⟩;have:=beq_binop hop;subst this;cases ne
  ·simp only[Bool.false_eq_true,if_false]at hg;simp[execOp,ho,e1,e2,hg,run_eql_struct,hrun]
  ·simp only[if_true]at hg;simp[execOp,ho,e1,e2,hg,run_neq_struct,hrun]
 ·cases hx
theorem slc0_ok {t el s:Nat} {x:Operand} {lo hi mx:Option Operand} {x':Opd} (ht:(match P.underlying t with|some (.slice e)=>e==el&&sizeIs P e s|_=>false)=true)
  (hk:oe GL x x'=true) (hlo:lo.isNone=true) (hhm:(match hi,mx with|some (.const (.int _ 0)),some (.const (.int _ 0))=>true|_,_=>false)=true):
  ValOK P GL (.slice t x lo hi mx) (.slc0 x' el s):=by
 intro g w μ e act h O y hd hx o ho;have hr:=(hd.ev hk).copy;have hlo':lo=none:=by simpa using hlo
 subst hlo';split at hhm
 ·rename_i k1 k2;split at ht
  ·rename_i e' hu;simp only[Bool.and_eq_true,beq_iff_eq]at ht;obtain⟨rfl,hsz⟩:=ht;simp only[PI.val]at hx;split at hx
   ·rename_i xs hc;simp only[Option.some.injEq]at hx;subst hx;rw[hc]at hr;have hev1:act.eval (.const (.int k1 0))= .int k1 0:=rfl;have hev2:act.eval (.const (.int k2 0))= .int k2 0:=rfl;have key:∃a n cap,act.eval x= .slice a n cap∧∀z,a=some z→z.spot=none:=by
     have hr':RepV g (.list xs) (act.eval x):=hr;generalize act.eval x=u at hr';cases hr' with
     |lnil=>exact⟨none,0,0,rfl,by simp⟩
     |list _ a cap _ _ hs=>exact⟨some a,_,cap,rfl,by simpa using hs⟩
    obtain⟨a,n,cap,hv,hsp⟩:=key;refine⟨.slice a 0 0,?_,⟨a,rfl,hsp⟩,λk=>by cases k<;>cases a<;>simp[ownAt,own1]⟩
    simp[execOp,ho,hv,hev1,hev2,Instr.sliceAt,Instr.slice,run_underlying hu,Instr.sliceBounds,Instr.sliceBound,asIntOf,run_sizeOf hsz]
   ·cases hx
  ·cases ht
 ·cases hhm
theorem bytesOf_rep {g:Gh}:∀ {xs:List V} {bs:List UInt8},bytesOf xs=some bs→bs.length=xs.length∧∀(i:Nat) b,bs[i]?=some b→∃x,xs[i]?=some x∧∀v,RepV g x v→v= .int .u8 (b.toNat:Int)
 |[],bs,h=>by simp only[bytesOf,Option.some.injEq]at h;subst h;exact⟨rfl,λi b h=>by simp at h⟩
 |x::xs,bs,h=>by
  cases x with
  |int k n=>
   cases k<;>simp only[bytesOf,reduceCtorEq]at h
   split at h
   ·rename_i hn;simp only[Option.map_eq_some_iff]at h;obtain⟨bs',hb,rfl⟩:=h;obtain⟨h1,h2⟩:=bytesOf_rep hb;refine⟨by simp[h1],λi b hi=>?_⟩;cases i with
    |zero=>
     simp only[List.getElem?_cons_zero,Option.some.injEq]at hi;subst hi;refine⟨_,rfl,λv hv=>?_⟩;cases hv;have:n.toNat%256=n.toNat:=Nat.mod_eq_of_lt (by omega);simp[this];omega
    |succ i=>simpa using h2 i b (by simpa using hi)
   ·cases h
  |_=>simp[bytesOf]at h
theorem b2s_ok {s d:Nat} {x:Operand} {x':Opd} (hd':isK P d (λ| .string=>true|_=>false)=true)
  (hs:(match P.underlying s with|some (.slice e)=>isK P e (λ| .int .u8=>true|_=>false)|_=>false)=true) (hk:oe GL x x'=true):
  ValOK P GL (.convert s d x) (.b2s x'):=by
 intro g w μ e act h O y hd hx o ho;have hr:=(hd.ev hk).copy;have hud:=isK_string hd';split at hs
 ·rename_i el hus;have hue:P.underlying el=some (.int .u8):=by
   unfold isK at hs;split at hs
   ·rename_i d' hd2;cases d'<;>simp at hs
    rename_i k;cases k<;>simp at hs
    exact hd2
   ·cases hs
  have fin:∀ {v:Value} {sv:ByteArray},act.eval x=v→(convert s d v).run P w= .ok (.string sv) w→y= .v (.str sv)→
    ∃v,(execOp act.eval o).run P w= .ok (.value v) w∧RepD g w μ y v∧∀k,ownAt y v k=none:=by
   rintro v sv rfl hrun rfl;exact⟨_,by simp[execOp,ho,hrun],.str _,λk=>own_v _ _ _⟩
  have hnil:∀(a:Option Addr) (c:Nat),(∀z,a=some z→z.spot=none)→(convert s d (.slice a 0 c)).run P w= .ok (.string .empty) w:=by
   intro a c hsp;cases a with
   |none=>rw[run_convert_bytes_string w s d el none 0 c hus hue hud];simp[Conv.bytesToString,Sem.run_pure]
   |some z=>exact run_convert_bytes_back w s d el z c [] hus hue hud (λj hj=>by simp at hj)
  simp only[PI.val]at hx;split at hx
  ·rename_i xs hc;rw[hc]at hr;simp only[Option.map_eq_some_iff]at hx;obtain⟨bs,hb,rfl⟩:=hx;obtain⟨h1,h2⟩:=bytesOf_rep (g:=g) hb;have hr':RepV g (.list xs) (act.eval x):=hr;generalize hu:act.eval x=u at hr';cases hr' with
   |lnil=>
    have:bs=[]:=List.eq_nil_of_length_eq_zero (by simpa using h1);subst this;exact fin hu (hnil none 0 (by simp)) rfl
   |list _ a cap sz vs hsp hc2 hr2 hz=>
    refine fin hu ?_ rfl;rw[←h1];refine run_convert_bytes_back w s d el a cap bs hus hue hud λj hj=>?_;obtain⟨x0,hx0,hv0⟩:=h2 j _ (List.getElem?_eq_getElem hj);have hvj:=hv0 _ (hr2 j x0 hx0);have hjx:j <xs.length:=by omega
    obtain⟨z1,z2⟩:=hz j hjx;rw[hvj]at z1 z2;have hs1:sz=1:=by simpa[Value.cells]using z1.symm
    have:=hd.inv.agree a.block (a.off+j*sz) _ (by simpa[Value.cells]using z2 0 (.int .u8 (bs[j].toNat:Int)) (by simp[Value.cells]));rw[hs1]at this;rw[addr_add hsp];simpa using this
  ·rename_i e0 s0 hc;rw[hc]at hr;simp only[Option.some.injEq]at hx;subst hx;obtain⟨a,hv,hsp⟩:=hr;exact fin hv (hnil a 0 hsp) rfl
  ·cases hx
 ·cases hs
end
section
variable {P:Program} {GL:Globals}
theorem constN_rep {g:Gh} {w:World} {μ:List Nat} {v:Value} {d:D} (h:constN v d=true):RepE g w μ d v∧v.oneCell'=true∧∀u,own1 d u=none:=by
 unfold constN at h;split at h
 ·exact⟨⟨none,rfl,by simp⟩,rfl,λu=>by simp[own1]⟩
 ·exact⟨constV_rep h,constV_one h,λu=>by simp[own1]⟩
 ·cases h
section
variable {g:Gh} {w:World} {μ:List Nat}
theorem ownAt_of1 {d:D} {u:Value} (hr:RepG g w μ d u) (h:own1 d u=none) (k:Nat):ownAt d u k=none:=by
 cases d<;>first
  |exact hr.elim
  |(cases k<;>first|exact h|simp[ownAt])
end
theorem rep_nilm {g:Gh} {w:World} {μ:List Nat} {v:Value} (h:RepD g w μ (.v .nilm) v):v= .map none:=by cases h;rfl
theorem kindIs_inv {t k:Nat} (h:kindIs P t k=true):∃d,P.underlying t=some d∧((∃q,d= .int q∧k=0)∨(d= .bool∧k=1)∨(d= .string∧k=2)):=by
 unfold kindIs at h;split at h
 ·rename_i q hu;exact⟨_,hu,.inl ⟨q,rfl,rfl⟩⟩
 ·rename_i hu;exact⟨_,hu,.inr (.inl ⟨rfl,rfl⟩)⟩
 ·rename_i hu;exact⟨_,hu,.inr (.inr ⟨rfl,rfl⟩)⟩
 ·cases h
theorem eq1_same {g:Gh} {x y:V} {u v:Value} (hx:RepV g x u) (hy:RepV g y v) {k:Nat} {b:Bool} (hb:V.eq1 k x y=some b):(b=true↔u=v)∧∀n,Instr.sameBits n u u=true:=by
 unfold V.eq1 at hb;split at hb
 ·split at hb
  ·rename_i hkk;subst hkk;simp only[Option.some.injEq]at hb;subst hb;cases hx;cases hy;exact⟨by simp,λn=>by cases n<;>simp[Instr.sameBits]⟩
  ·cases hb
 ·simp only[Option.some.injEq]at hb;subst hb;cases hx;cases hy;exact⟨by simp,λn=>by cases n<;>simp[Instr.sameBits]⟩
 ·rename_i a c;simp only[Option.some.injEq]at hb;subst hb;cases hx;cases hy;refine⟨?_,λn=>by cases n<;>simp[Instr.sameBits,MapKept.bytes_beq]⟩
  rw[←beq_toListBytes,MapKept.bytes_beq];simp
 ·cases hb
theorem eqL_same {g:Gh}:∀ {ks:List Nat} {xs ys:List V} {us vs:List Value} {b:Bool},All2 (RepV g) xs us→All2 (RepV g) ys vs→V.eqL ks xs ys=some b→(b=true↔us=vs)∧∀n,∀u∈us,Instr.sameBits n u u=true
 |[],xs,ys,us,vs,b,h1,h2,hb=>by
  cases xs<;>cases ys<;>simp[V.eqL]at hb
  subst hb;have e1:=List.eq_nil_of_length_eq_zero h1.1;have e2:=List.eq_nil_of_length_eq_zero h2.1;subst e1;subst e2;simp
 |k::ks,xs,ys,us,vs,b,h1,h2,hb=>by
  cases xs with
  |nil=>cases ys<;>simp[V.eqL]at hb
  |cons x xs=>
   cases ys with
   |nil=>simp[V.eqL]at hb
   |cons y ys=>
    cases us with
    |nil=>simp[All2]at h1
    |cons u us=>
     cases vs with
     |nil=>simp[All2]at h2
     |cons v vs=>
      rw[All2.cons_iff]at h1 h2;simp only[V.eqL]at hb;split at hb
      ·rename_i b1 b2 e1 e2;simp only[Option.some.injEq]at hb;subst hb;obtain⟨r1,s1⟩:=eq1_same h1.1 h2.1 e1;obtain⟨r2,s2⟩:=eqL_same h1.2 h2.2 e2;refine⟨by simp[r1,r2],λn w hw=>?_⟩;rcases List.mem_cons.1 hw with rfl|hw
       ·exact s1 n
       ·exact s2 n w hw
      ·cases hb
theorem key_same {g:Gh} {st:Bool} {ks:List Nat} {x y:V} {u v:Value} (hx:RepV g x u) (hy:RepV g y v) (kx:keyOK st ks x=true) (ky:keyOK st ks y=true) {b:Bool} (hb:V.eqL ks x.cells y.cells=some b):
  (b=true↔u=v)∧∀n,Instr.sameBits (n+1) u u=true:=by
 simp only[keyOK,Bool.and_eq_true]at kx ky;obtain⟨cx,_⟩:=RepV.cells hx;obtain⟨cy,_⟩:=RepV.cells hy;obtain⟨r,s⟩:=eqL_same cx cy hb;cases st with
 |true=>
  cases x<;>simp at kx
  cases y<;>simp at ky
  obtain⟨us,rfl,_,_⟩:=RepV.agg_inv hx;obtain⟨vs,rfl,_,_⟩:=RepV.agg_inv hy;simp only[Value.cells]at r s;refine⟨by rw[r];constructor<;>intro h<;>simp_all,λn=>?_⟩
  simp only[Instr.sameBits,beq_self_eq_true,Bool.true_and,List.all_eq_true];intro p hp;have:p.1=p.2∧p.1∈us:=by
   have hz:∀(l:List Value),∀p∈l.zip l,p.1=p.2∧p.1∈l:=by
    intro l;induction l with
    |nil=>simp
    |cons a l ih=>
     intro p hp;simp only[List.zip_cons_cons,List.mem_cons]at hp;rcases hp with rfl|hp
     ·exact⟨rfl,by simp⟩
     ·exact⟨(ih p hp).1,by simp[(ih p hp).2]⟩
   exact hz us p (by simpa using hp)
  rw[←this.1];exact s n _ this.2
 |false=>
  have e1:∀ {z:V} {q:Value},RepV g z q→(match z with| .agg _=>false|_=> !false)=true→q.cells.toList=[q]:=by
   intro z q hz hk;cases hz<;>simp at hk<;>rfl
  rw[e1 hx kx.1,e1 hy ky.1]at r;rw[e1 hx kx.1]at s;exact⟨by rw[r];simp,λn=>s (n+1) u (by simp)⟩
theorem run_chkPlain {kt k:Nat} {w:World} (hk:kindIs P kt k=true) (e:Bool) (n:Nat) (u:Value):(Instr.checkKey e (n+1) kt u).run P w= .ok () w:=by
 obtain⟨d,hu,hd⟩:=kindIs_inv hk;unfold Instr.checkKey;simp only[Sem.run_bind,run_underlying hu,Result.andThen];rcases hd with ⟨q,rfl,_⟩|⟨rfl,_⟩|⟨rfl,_⟩<;>cases u<;>rfl
theorem run_chkFields {w:World} {cs:Array Value} (e:Bool) (n:Nat):∀(fs:List Field) (ks:List Nat) (i:Nat),fieldsFlat P i fs ks=true→(∀j,j <fs.length→∃v,cs[i+j]?=some v)→
  (forIn fs PUnit.unit (λf _=>(if f.name≠ "_" then do
    let a ←part f.type cs f.offset
    Instr.checkKey e (n+1) f.type a
    pure (ForInStep.yield PUnit.unit) else pure (ForInStep.yield PUnit.unit):Sem (ForInStep PUnit)))).run P w= .ok PUnit.unit w
 |[],_,_,_,_=>rfl
 |_::_,[],_,hf,_=>by simp[fieldsFlat]at hf
 |f::fs,k::ks,i,hf,hc=>by
  simp only[fieldsFlat,Bool.and_eq_true,beq_iff_eq,bne_iff_ne,ne_eq]at hf;obtain⟨⟨⟨ho,hn⟩,hk⟩,hrest⟩:=hf;obtain⟨v,hv⟩:=hc 0 (by simp);obtain⟨d,hu,hd⟩:=kindIs_inv hk;have hag:(isAgg f.type).run P w= .ok false w:=by
   rcases hd with ⟨q,rfl,_⟩|⟨rfl,_⟩|⟨rfl,_⟩<;>simp[isAgg,run_underlying hu]
  have p1:(part f.type cs f.offset).run P w= .ok v w:=run_part0 hag (by rw[ho];simpa using hv);have ih:=run_chkFields (w:=w) (cs:=cs) e n fs ks (i+1) hrest λj hj=>by
   obtain⟨v,hv⟩:=hc (j+1) (by simp;omega);exact⟨v,by rw[show i+1+j=i+(j+1) by omega];exact hv⟩
  simp only[List.forIn_cons,ne_eq,hn,not_false_eq_true,if_true,Sem.run_bind,p1,run_chkPlain hk,Result.andThen_ok,Sem.run_pure];exact ih
theorem fieldsFlat_len:∀(fs:List Field) (ks:List Nat) (i:Nat),fieldsFlat P i fs ks=true→fs.length=ks.length
 |[],[],_,_=>rfl
 |[],_::_,_,h=>by simp[fieldsFlat]at h
 |_::_,[],_,h=>by simp[fieldsFlat]at h
 |f::fs,k::ks,i,h=>by
  simp only[fieldsFlat,Bool.and_eq_true]at h;simp[fieldsFlat_len fs ks (i+1) h.2]
theorem eqL_len:∀ {ks:List Nat} {xs ys:List V} {b:Bool},V.eqL ks xs ys=some b→xs.length=ks.length
 |[],[],[],_,_=>rfl
 |[],[],_::_,_,h=>by simp[V.eqL]at h
 |[],_::_,_,_,h=>by simp[V.eqL]at h
 |_::_,[],_,_,h=>by simp[V.eqL]at h
 |k::ks,x::xs,[],_,h=>by simp[V.eqL]at h
 |k::ks,x::xs,y::ys,b,h=>by
  simp only[V.eqL]at h;split at h
  ·rename_i b1 b2 h1 h2;simp[eqL_len h2]
  ·cases h
theorem run_chkKey {g:Gh} {w:World} {kt:Nat} {st:Bool} {ks:List Nat} {x:V} {u:Value} (hx:RepV g x u) (ht:keyIs P kt st ks=true) (kx:keyOK st ks x=true) (e:Bool):
  (Instr.checkKey e 10000 kt u).run P w= .ok () w:=by
 unfold keyIs at ht;cases st with
 |false=>
  simp only[Bool.false_eq_true,if_false]at ht;split at ht
  ·exact run_chkPlain ht e 9999 u
  ·cases ht
 |true=>
  simp only[if_true]at ht;simp only[keyOK,Bool.and_eq_true]at kx;cases x<;>simp at kx
  rename_i cs;obtain⟨us,rfl,hall,_⟩:=RepV.agg_inv hx;unfold eqFlat at ht;split at ht
  ·rename_i fs hu;simp only[Bool.and_eq_true]at ht;have hl:=fieldsFlat_len _ _ _ ht.2;have hl2:cs.length=ks.length:=by
    cases h2:V.eqL ks cs cs with
    |none=>simp[V.cells,h2]at kx
    |some b=>exact eqL_len h2
   unfold Instr.checkKey;simp only[Sem.run_bind,run_underlying hu,Result.andThen_ok];rw[←Array.forIn_toList];have:=run_chkFields (P:=P) (w:=w) (cs:=us.toArray) e 9998 fs.toList ks 0 ht.2 λj hj=>by
    have hj2:j <us.length:=by rw[hall.1];omega
    exact⟨us[j],by simp[hj2]⟩
   exact(congrArg (λr=>Result.andThen r λa w'=>Sem.run P (pure ()) w') this).trans rfl
  ·cases ht
theorem sameNow_run {g:Gh} {x y:V} {u v:Value} (hx:RepV g x u) (hy:RepV g y v) {k:Nat} {b:Bool} (hb:V.eq1 k x y=some b) {d:TypeDesc} (hd:(∃q,d= .int q∧k=0)∨(d= .bool∧k=1)∨(d= .string∧k=2)):
  Instr.sameNow d u v=some b:=by
 unfold V.eq1 at hb;split at hb
 ·split at hb
  ·rename_i hkk;subst hkk;simp only[Option.some.injEq]at hb;subst hb;cases hx;cases hy;rcases hd with ⟨q,rfl,_⟩|⟨_,h⟩|⟨_,h⟩<;>first|cases h|simp[Instr.sameNow]
  ·cases hb
 ·simp only[Option.some.injEq]at hb;subst hb;cases hx;cases hy;rcases hd with ⟨q,_,h⟩|⟨rfl,_⟩|⟨_,h⟩<;>first|cases h|simp[Instr.sameNow]
 ·simp only[Option.some.injEq]at hb;subst hb;cases hx;cases hy;rcases hd with ⟨q,_,h⟩|⟨_,h⟩|⟨rfl,_⟩<;>first|cases h|simp[Instr.sameNow,beq_toListBytes]
 ·cases hb
theorem cells_plain {g:Gh} {x:V} {u:Value} (hx:RepV g x u) {ks:List Nat} (kx:keyOK false ks x=true):x.cells=[x]:=by
 simp only[keyOK,Bool.and_eq_true]at kx;cases x<;>simp at kx<;>rfl
abbrev EntR (g:Gh):V×V→MapEntry→Prop:=λkv x=>RepV g kv.1 x.key∧RepV g kv.2 x.val
theorem find_run {g:Gh} {w:World} {kt:Nat} {st:Bool} {ks:List Nat} {x:V} {u:Value} (hx:RepV g x u) (ht:keyIs P kt st ks=true) (kx:keyOK st ks x=true):∀ {es:List (V×V)} {l:List MapEntry} {r:Option Nat},
  All2 (EntR g) es l→mfind st ks x es=some r→
  ((∀i,(st=false→∀d,P.underlying kt=some d→Instr.findNow d u l i=some (r.bind λj=>(l[j]?).map λe=>(i+j,e.val)))∧
   (st=true→(Instr.findAsking kt u l i).run P w= .ok (r.bind λj=>(l[j]?).map λe=>(i+j,e.val)) w))∧
  (∀j,r=some j→∃e,l[j]?=some e∧e.key=u)∧(r=none→∀e∈l,e.key≠u))
 |[],l,r,hall,hm=>by
  have:=List.eq_nil_of_length_eq_zero hall.1;subst this;simp only[mfind,Option.some.injEq]at hm;subst hm;exact⟨λi=>⟨λ_ d _=>rfl,λ_=>rfl⟩,by simp,by simp⟩
 |p::es,[],r,hall,_=>by simp[All2]at hall
 |p::es,e::l,r,hall,hm=>by
  rw[All2.cons_iff]at hall;obtain⟨⟨hk,hv⟩,hall⟩:=hall;simp only[mfind]at hm;split at hm
  ·rename_i kp;have hnow:∀ {b:Bool},V.eqL ks x.cells p.1.cells=some b→st=false→∀d,P.underlying kt=some d→Instr.sameNow d u e.key=some b:=by
    intro b hb hst d hu;subst hst;rw[cells_plain hx kx,cells_plain hk kp]at hb;simp only[keyIs,Bool.false_eq_true,if_false]at ht;split at ht
    ·rename_i k;simp only[V.eqL]at hb;split at hb
     ·rename_i b1 b2 h1 h2;simp only[Option.some.injEq]at h2 hb;subst h2;subst hb;obtain⟨d',hu',hd⟩:=kindIs_inv ht;rw[hu]at hu';cases hu';simpa using sameNow_run hx hk h1 hd
     ·cases hb
    ·cases ht
   have hask:∀ {b:Bool},V.eqL ks x.cells p.1.cells=some b→st=true→(Op.equal kt u e.key).run P w= .ok b w:=by
    intro b hb hst;subst hst;have kx':=kx;have kp':=kp;simp only[keyOK,Bool.and_eq_true]at kx' kp';cases x<;>simp at kx'
    obtain⟨k1,k2⟩:=p;cases k1<;>simp at kp'
    obtain⟨us,rfl,h1,_⟩:=RepV.agg_inv hx;obtain⟨vs,h2e,h2,_⟩:=RepV.agg_inv hk;rw[h2e];simp only[keyIs,if_true]at ht;unfold eqFlat at ht;split at ht
    ·rename_i fs hu;simp only[Bool.and_eq_true,Bool.not_eq_true']at ht;have hfs:P.fieldsOf kt=fs:=by simp[Program.fieldsOf,hu]
     show (Op.equalIn 10000 kt _ _).run P w=_;rw[run_equalIn_struct w 9999 kt us.toArray vs.toArray (by rw[hfs];exact hu) ht.1.1,hfs];exact eqL_run 9998 fs.toList ks _ _ 0 ht.2 hb (λj x hx=>by simpa using h1.get hx) (λj x hx=>by simpa using h2.get hx)
    ·cases ht
   split at hm
   ·rename_i hb;simp only[Option.some.injEq]at hm;subst hm;have hsame:=((key_same hx hk kx kp hb).1.1 rfl);refine⟨λi=>⟨λhst d hu=>?_,λhst=>?_⟩,λj hj=>?_,by simp⟩
    ·simp[Instr.findNow,hnow hb hst d hu]
    ·simp[Instr.findAsking,hask hb hst,Result.andThen]
    ·simp only[Option.some.injEq]at hj;subst hj;exact⟨e,rfl,hsame.symm⟩
   ·rename_i hb;simp only[Option.map_eq_some_iff]at hm;obtain⟨r',hm',rfl⟩:=hm;obtain⟨h1,h2,h3⟩:=find_run hx ht kx hall hm';have hne:e.key≠u:=λq=>by have:=(key_same hx hk kx kp hb).1.2 q.symm;cases this
    refine⟨λi=>⟨λhst d hu=>?_,λhst=>?_⟩,λj hj=>?_,λhr=>?_⟩
    ·rw[Instr.findNow,hnow hb hst d hu,(h1 (i+1)).1 hst d hu];cases r' with
     |none=>rfl
     |some k=>simp only[Option.bind_some,Option.map_some,List.getElem?_cons_succ,show i+1+k=i+(k+1) by omega]
    ·rw[Instr.findAsking,Sem.run_bind,hask hb hst,Result.andThen_ok];simp only[Bool.false_eq_true,if_false];rw[(h1 (i+1)).2 hst];cases r' with
     |none=>rfl
     |some k=>simp only[Option.bind_some,Option.map_some,List.getElem?_cons_succ,show i+1+k=i+(k+1) by omega]
    ·cases r' with
     |none=>cases hj
     |some k=>
      simp only[Option.map_some,Option.some.injEq]at hj;subst hj;exact h2 k rfl
    ·cases r' with
     |none=>
      intro e' he';rcases List.mem_cons.1 he' with rfl|he'
      ·exact hne
      ·exact h3 rfl e' he'
     |some k=>cases hr
   ·cases hm
  ·cases hm
theorem findKey_run {g:Gh} {w:World} {kt:Nat} {st:Bool} {ks:List Nat} {x:V} {u:Value} (hx:RepV g x u) (ht:keyIs P kt st ks=true) (kx:keyOK st ks x=true) {es:List (V×V)} {l:List MapEntry} {r:Option Nat}
  (hall:All2 (EntR g) es l) (hm:mfind st ks x es=some r):(Instr.findKey kt u l).run P w= .ok (r.bind λj=>(l[j]?).map λe=>(j,e.val)) w:=by
 have h1:=(find_run (w:=w) hx ht kx hall hm).1 0;simp only[Nat.zero_add]at h1;cases st with
 |false=>
  have hu:∃d,P.underlying kt=some d:=by
   simp only[keyIs,Bool.false_eq_true,if_false]at ht;split at ht
   ·obtain⟨d,hu,_⟩:=kindIs_inv ht;exact⟨d,hu⟩
   ·cases ht
  obtain⟨d,hu⟩:=hu;exact MapKept.run_findKey hu (h1.1 rfl d hu)
 |true=>
  have hw:(match P.underlying kt with|some (.array _ _)|some (.struct _)=>true|_=>false)=true:=by
   simp only[keyIs,if_true]at ht;unfold eqFlat at ht;split at ht
   ·rename_i fs hu;simp[hu]
   ·cases ht
  rw[run_findKey_eq w hw];exact h1.2 rfl
theorem lookZ_rep {g:Gh} {w:World} {μ:List Nat} {el:Nat} {zs:List D} {ag:Bool} (hz:lookZ P el zs ag=true) {z:D} (h:(if ag then some (D.agg zs) else zs.head?)=some z):
  ∃v,(zeroValue el).run P w= .ok v w∧RepG g w μ z v∧own1 z v=none:=by
 unfold lookZ at hz;split at hz
 ·rename_i cs hcs;simp only[Bool.and_eq_true]at hz;obtain⟨rfl,hz⟩:=hz;simp only[if_true,Option.some.injEq]at h;subst h;have hall:All2 (λd v=>RepE g w μ d v∧v.oneCell'=true∧∀u,own1 d u=none) zs cs.toList:=zipOK_all2 (λv d h=>constN_rep h) hz;cases hi:P.info? el with
  |none=>simp[hi]at hcs
  |some i=>
   have hz1:i.zero=some (.agg cs):=by simpa[hi]using hcs
   refine⟨.agg cs,by simp[zeroValue,typeInfo,hi,hz1],⟨cs.toList,rfl,hall.imp λ_ _ h=>h.1,λv hv=>?_,λd hd v=>?_⟩,rfl⟩
   ·obtain⟨j,hj,rfl⟩:=List.mem_iff_getElem.1 hv;exact(hall.2 j _ _ (List.getElem?_eq_getElem (by rw[←hall.1];exact hj)) (List.getElem?_eq_getElem hj)).2.1
   ·obtain⟨j,hj,rfl⟩:=List.mem_iff_getElem.1 hd;have hj':j <cs.toList.length:=by rw[hall.1];exact hj
    exact(hall.2 j _ _ (List.getElem?_eq_getElem hj) (List.getElem?_eq_getElem hj')).2.2 v
 ·rename_i v hv hne;simp only[Bool.and_eq_true,Bool.not_eq_true']at hz;obtain⟨rfl,hz⟩:=hz;split at hz
  ·rename_i z0;simp only[Bool.false_eq_true,if_false,List.head?_cons,Option.some.injEq]at h;subst h;obtain⟨h1,h2,h3⟩:=constN_rep (g:=g) (w:=w) (μ:=μ) hz;cases hi:P.info? el with
   |none=>simp[hi]at hne
   |some i=>
    have hz1:i.zero=some v:=by simpa[hi]using hne
    exact⟨v,by simp[zeroValue,typeInfo,hi,hz1],h1.toG,h3 v⟩
  ·cases hz
 ·cases hz
theorem mapRow {g:Gh} {w:World} {μ:List Nat} {t:Nat→D} {u:Nat→Value} {h:List Row} {O:Nat→Prop} (hi:Inv g w μ t u h O) {r b:Nat} {es:List (V×V)} {bs:List Nat} {ck:Nat} (hr:h[r]?=some (.map es bs ck)) (hb:μ[r]?=some b):
  ∃(ents:Array MapEntry),w.heap[b]?=some (.map ents ck)∧MapKept.Stamped ents ck∧ents.toList.map (·.born)=bs∧All2 (EntR g) es ents.toList∧∀o,g.m b o=none:=hi.rows r _ b hr hb
theorem look_ok {t:Nat} {x i:Operand} {ok':Bool} {m k:Opd} {st:Bool} {ks:List Nat} {zs:List D} {ag ok:Bool} (ht:(match P.underlying t with|some (.map kt el)=>keyIs P kt st ks&&lookZ P el zs ag|_=>false)=true)
  (hm:oe GL x m=true) (hk:oe GL i k=true) (ho':(ok'==ok)=true):ValOK P GL (.lookup t x i ok') (.look m k st ks zs ag ok):=by
 intro g w μ e act h O y hd hx o ho;have hrm:=hd.ev hm;have hrk:=hd.ev hk;have:=eq_of_beq ho';subst this;split at ht
 ·rename_i kt el hu;simp only[Bool.and_eq_true]at ht;obtain⟨hkt,hlz⟩:=ht;simp only[PI.val]at hx;split at hx
  ·rename_i kv hkv;split at hx
   ·rename_i hko;have hkr:=toV_rep hrk hkv;have hck:=λe=>run_chkKey (P:=P) (w:=w) hkr hkt hko e;split at hx
    ·rename_i z hz;obtain⟨zv,hzrun,hzrep,hzown⟩:=lookZ_rep (P:=P) (g:=g) (w:=w) (μ:=μ) hlz hz;have fin:∀ {d:D} {v:Value} (b:Bool),RepG g w μ d v→own1 d v=none→lookD ok' d b=y→
       (execOp act.eval o).run P w= .ok (.value (if ok' then .tuple #[v,.bool b] else v)) w→
       ∃v,(execOp act.eval o).run P w= .ok (.value v) w∧RepD g w μ y v∧∀k,ownAt y v k=none:=by
      rintro d v b hr hown rfl hrun;refine⟨_,hrun,?_⟩;cases ok' with
      |false=>exact⟨hr.toD,ownAt_of1 hr hown⟩
      |true=>
       refine⟨⟨[v,.bool b],rfl,.cons hr (.cons (RepV.bool b) .nil)⟩,λk=>?_⟩
       match k with
       |0=>exact hown
       |1=>simp[lookD,ownAt,own1]
       |k+2=>simp[lookD,ownAt,own1]
     split at hx
     ·rename_i hmv;rw[hmv]at hrm;simp only[Option.some.injEq]at hx;have hv:act.eval x= .map none:=rep_nilm hrm;have hfk:=findKey_run (P:=P) (w:=w) hkr hkt hko (es:=[]) (l:=[]) (r:=none) .nil rfl;refine fin false hzrep hzown hx ?_;cases ok'<;>simp[execOp,ho,hv,Instr.lookup,run_underlying hu,hck,hfk,hzrun,Result.andThen]
     ·rename_i r hmv;rw[hmv]at hrm;obtain⟨b,hb,hv⟩:=hrm;split at hx
      ·rename_i es bs ck hr;obtain⟨ents,hheap,hst,_,hall,_⟩:=mapRow hd.inv hr hb;have hget:=MapKept.run_getObj_map (P:=P) hheap;split at hx
       ·rename_i j hf;have hfk:=findKey_run (P:=P) (w:=w) hkr hkt hko hall hf;simp only[Option.map_eq_some_iff]at hx;obtain⟨p,hp,hy⟩:=hx;obtain⟨en,hen,h1,h2⟩:=hall.get hp;simp only[Option.bind_some,hen,Option.map_some]at hfk;refine fin true (d:= .v p.2) (v:=en.val) h2 (by simp[own1]) hy ?_;cases ok'<;>simp[execOp,ho,hv,Instr.lookup,run_underlying hu,hget,hck,hfk,Result.andThen]
       ·rename_i hf;have hfk:=findKey_run (P:=P) (w:=w) hkr hkt hko hall hf;simp only[Option.some.injEq]at hx;refine fin false hzrep hzown hx ?_;cases ok'<;>simp[execOp,ho,hv,Instr.lookup,run_underlying hu,hget,hck,hfk,hzrun,Result.andThen]
       ·cases hx
      ·cases hx
     ·cases hx
    ·cases hx
   ·cases hx
  ·cases hx
 ·cases ht
theorem mlen_ok {args:Array Operand} {ats:Array TypeId} {x':Opd} (h1:one1 args.toList (λx=>oe GL x x')=true)
  (h2:one1 ats.toList (λt=>isK P t (λ| .map _ _=>true|_=>false))=true):ValOK P GL (.call {callee:= .builtin .len,args:=args,argTypes:=ats}) (.mlen x'):=by
 intro g w μ e act h O y hd hx o ho;obtain⟨x,rfl,hk⟩:=one_arr h1;obtain⟨t,rfl,ht⟩:=one_arr h2;have hu:∃kt el,P.underlying t=some (.map kt el):=by
  unfold isK at ht;split at ht
  ·rename_i d hd;cases d<;>simp at ht;exact⟨_,_,hd⟩
  ·cases ht
 obtain⟨kt,el,hu⟩:=hu;have hr:=hd.ev hk;simp only[PI.val]at hx;split at hx
 ·rename_i hc;rw[hc]at hr;simp only[Option.some.injEq]at hx;subst hx;exact⟨.int .i64 0,by simp[execOp,ho,resolve,invoke,builtin,Builtin.len_,run_underlying hu,rep_nilm hr,goInt],.int _ _,λk=>own_v _ _ _⟩
 ·rename_i r hc;rw[hc]at hr;obtain⟨b,hb,hv⟩:=hr;split at hx
  ·rename_i es bs ck hr;simp only[Option.some.injEq]at hx;subst hx;obtain⟨ents,hheap,_,_,hall,_⟩:=mapRow hd.inv hr hb;have hget:=MapKept.run_getObj_map (P:=P) hheap;have hl:ents.size=es.length:=by have:=hall.1;simpa using this
   exact⟨.int .i64 es.length,by simp[execOp,ho,resolve,invoke,builtin,Builtin.len_,run_underlying hu,hv,hget,goInt,hl],.int _ _,λk=>own_v _ _ _⟩
  ·cases hx
 ·cases hx
end
theorem putL_length {α:Type} (cs:List α) (off:Nat) (xs:List α) (h:off+xs.length≤cs.length):(putL cs off xs).length=cs.length:=by
 simp[putL];omega
theorem putL_get {α:Type} (cs:List α) (off:Nat) (xs:List α) (h:off+xs.length≤cs.length) (i:Nat):
  (putL cs off xs)[i]?=if i <off then cs[i]? else if i <off+xs.length then xs[i-off]? else cs[i]?:=by
 have hto:(cs.take off).length=off:=by simp;omega
 unfold putL;by_cases h1:i <off
 ·rw[List.append_assoc,List.getElem?_append_left (by rw[hto];exact h1),List.getElem?_take];simp[h1]
 ·by_cases h2:i <off+xs.length
  ·rw[List.append_assoc,List.getElem?_append_right (by rw[hto];omega),hto,List.getElem?_append_left (by omega)];simp[h1,h2]
  ·rw[List.append_assoc,List.getElem?_append_right (by rw[hto];omega),hto,List.getElem?_append_right (by omega),List.getElem?_drop];simp[h1,h2];congr 1;omega
theorem fold_put (cs:List Value):∀(off k:Nat) (A:Array Value),off+k+cs.length≤A.size→
  (cs.zipIdx k).foldl (λacc p=>acc.setIfInBounds (off+p.2) p.1) A=(putL A.toList (off+k) cs).toArray:=by
 induction cs with
 |nil=>intro off k A _;simp[putL]
 |cons c cs ih=>
  intro off k A h;simp only[List.length_cons]at h;simp only[List.zipIdx_cons,List.foldl_cons];rw[show k+1=k+1 from rfl,ih off (k+1) _ (by simp;omega)];apply congrArg;apply List.ext_getElem?;intro i;rw[putL_get _ _ _ (by simp;omega),putL_get _ _ _ (by simp;omega)];simp only[Array.toList_setIfInBounds,List.getElem?_set,List.length_cons];by_cases h1:i <off+k
  ·simp[h1,show i <off+(k+1) by omega,show off+k≠i by omega]
  ·by_cases h2:i=off+k
   ·subst h2;simp[show off+k <off+(k+1) by omega,show off+k <A.size by omega]
   ·simp only[h1,if_false,show ¬i <off+(k+1) by omega];by_cases h3:i <off+k+(cs.length+1)
    ·simp only[show i <off+(k+1)+cs.length by omega,if_true,h3];rw[show i-(off+k)=(i-(off+(k+1)))+1 by omega,List.getElem?_cons_succ]
    ·simp[show ¬i <off+(k+1)+cs.length by omega,h3,show off+k≠i by omega]
theorem All2.putL {α β:Type} {R:α→β→Prop} {xs:List α} {ys:List β} (h:All2 R xs ys) {xs':List α} {ys':List β} (h':All2 R xs' ys') (off:Nat):
  All2 R (putL xs off xs') (putL ys off ys'):=by
 unfold Va.putL;rw[h'.1];exact((h.take off).append h').append (h.drop _)
theorem AllP.putL {α β:Type} {R:α→β→Prop} {xs:List α} {ys:List β} (h:AllP R xs ys) {xs':List α} {ys':List β} (h':All2 R xs' ys') {off:Nat} (hl:off+xs'.length≤xs.length):
  AllP R (putL xs off xs') (putL ys off ys'):=by
 have e:=h'.1;have e1:=h.1;refine⟨by simp only[Va.putL,List.length_append,List.length_take,List.length_drop];omega,λi x y hx hy=>?_⟩;rw[putL_get _ _ _ hl]at hx;rw[putL_get _ _ _ (by omega),e]at hy;by_cases c1:i <off
 ·simp only[c1,if_true]at hx hy;exact h.2 i x y hx hy
 ·by_cases c2:i <off+xs'.length
  ·simp only[c1,c2,if_true,if_false]at hx hy;exact h'.2 _ x y hx hy
  ·simp only[c1,c2,if_false]at hx hy;exact h.2 i x y hx hy
section
variable {P:Program} {GL:Globals}
theorem dcells {g:Gh} {w:World} {μ:List Nat} {d:D} {u:Value} (h:RepD g w μ d u) {cs:List D} (hc:d.cells?=some cs):
  All2 (RepE g w μ) cs u.cells.toList∧(∀v∈u.cells.toList,v.oneCell'=true)∧∀c∈cs,∀v,own1 c v=none:=by
 cases d with
 |agg ds=>
  simp only[D.cells?,Option.some.injEq]at hc;subst hc;obtain⟨vs,rfl,ha,h1,h0⟩:=h;exact⟨by simpa[Value.cells]using ha,by simpa[Value.cells]using h1,h0⟩
 |v x=>
  have hx:=RepV.cells (show RepV g x u from h);cases x<;>simp only[D.cells?,Option.some.injEq]at hc<;>subst hc
  case agg cs=>
   refine⟨All2.map_left (S:=RepE g w μ) (f:=D.v) (λ_ _ h=>h) hx.1,hx.2,?_⟩;intro c hc v;simp only[List.mem_map]at hc;obtain⟨_,_,rfl⟩:=hc;simp[own1]
  all_goals exact⟨All2.map_left (S:=RepE g w μ) (f:=D.v) (λ_ _ h=>h) hx.1,hx.2,by simp[own1]⟩
 |any=>simp[D.cells?]at hc
 |tup ds=>simp[D.cells?]at hc
 |own e s xs=>simp[D.cells?]at hc
 |nil e s=>
  simp only[D.cells?,Option.some.injEq]at hc;subst hc;obtain⟨a,rfl,hs⟩:=h;exact⟨.cons ⟨a,rfl,hs⟩ .nil,by simp[Value.cells,Value.oneCell'],by simp[own1]⟩
 |ref r o=>
  simp only[D.cells?,Option.some.injEq]at hc;subst hc;obtain⟨b,hb,rfl⟩:=h;exact⟨.cons ⟨b,hb,rfl⟩ .nil,by simp[Value.cells,Value.oneCell'],by simp[own1]⟩
 |sref r n=>
  simp only[D.cells?,Option.some.injEq]at hc;subst hc;obtain⟨b,cap,hb,rfl,hn⟩:=h;exact⟨.cons ⟨b,cap,hb,rfl,hn⟩ .nil,by simp[Value.cells,Value.oneCell'],by simp[own1]⟩
 |mref r=>
  simp only[D.cells?,Option.some.injEq]at hc;subst hc;obtain⟨b,hb,rfl⟩:=h;exact⟨.cons ⟨b,hb,rfl⟩ .nil,by simp[Value.cells,Value.oneCell'],by simp[own1]⟩
 |func f caps=>
  simp only[D.cells?,Option.some.injEq]at hc;subst hc;obtain⟨vs,rfl,ha⟩:=h;exact⟨.cons ⟨vs,rfl,ha⟩ .nil,by simp[Value.cells,Value.oneCell'],by simp[own1]⟩
 |meth f caps=>
  simp only[D.cells?,Option.some.injEq]at hc;subst hc;obtain⟨vs,rfl,ha⟩:=h;exact⟨.cons ⟨vs,rfl,ha⟩ .nil,by simp[Value.cells,Value.oneCell'],by simp[own1]⟩
 |pend b e s xs=>simp[D.cells?]at hc
 |pptr b s n=>simp[D.cells?]at hc
 |yld r=>
  simp only[D.cells?,Option.some.injEq]at hc;subst hc;obtain⟨b,hb,rfl⟩:=h;exact⟨.cons ⟨b,hb,rfl⟩ .nil,by simp[Value.cells,Value.oneCell'],by simp[own1]⟩
theorem putL_mem {α:Type} {cs:List α} {off:Nat} {xs:List α} {x:α} (h:x∈putL cs off xs):x∈cs∨x∈xs:=by
 simp only[putL,List.mem_append]at h;rcases h with (h|h)|h
 ·exact .inl (List.mem_of_mem_take h)
 ·exact .inr h
 ·exact .inl (List.mem_of_mem_drop h)
theorem fill_rep {g:Gh} {w:World} {μ:List Nat} {e:Env} {place:Nat→Option (Nat×Nat)}:
  ∀ {ps:List (Nat×Value)} {qs:List (Nat×Nat×Opd)} {zs zs':List D} {A:Array Value},
  All2 (λ(q:Nat×Nat×Opd) (p:Nat×Value)=>place p.1=some (q.1,q.2.1)∧RepD g w μ (q.2.2.ev e).copy p.2) qs ps→
  All2 (RepE g w μ) zs A.toList→(∀v∈A.toList,v.oneCell'=true)→(∀d∈zs,∀v,own1 d v=none)→fillD e zs qs=some zs'→
  ∃A':Array Value,Instr.fill place A ps=some A'∧All2 (RepE g w μ) zs' A'.toList∧(∀v∈A'.toList,v.oneCell'=true)∧(∀d∈zs',∀v,own1 d v=none)∧A'.size=A.size
 |[],[],zs,zs',A,_,ha,h1,h0,hf=>by
  simp only[fillD,Option.some.injEq]at hf;subst hf;exact⟨A,rfl,ha,h1,h0,rfl⟩
 |[],_::_,_,_,_,h,_,_,_,_=>by simp[All2]at h
 |_::_,[],_,_,_,h,_,_,_,_=>by simp[All2]at h
 |(i,v)::ps,(off,n,q)::qs,zs,zs',A,h,ha,h1,h0,hf=>by
  rw[All2.cons_iff]at h;obtain⟨⟨hp,hr⟩,hrest⟩:=h;simp only[fillD]at hf;split at hf
  ·rename_i xs hxs;split at hf
   ·rename_i hcond;obtain⟨hx1,hx2,hx3⟩:=dcells hr hxs;have hsz:v.cells.size=n:=by have:=hx1.1;simp at this;omega
    have hlen:A.size=zs.length:=by have:=ha.1;simpa using this
    have hput:v.cells.zipIdx.foldl (λcs p=>cs.setIfInBounds (off+p.2) p.1) A=(putL A.toList off v.cells.toList).toArray:=by
     have:=fold_put v.cells.toList off 0 A (by simp;omega);rw[←Array.foldl_toList,Array.toList_zipIdx];simpa using this
    obtain⟨A',hA',r1,r2,r3,r4⟩:=fill_rep (place:=place) hrest (zs:=putL zs off xs) (zs':=zs') (A:=(putL A.toList off v.cells.toList).toArray)
     (by simpa using ha.putL hx1 off) (λu hu=>(putL_mem (by simpa using hu)).elim (h1 u) (hx2 u))
     (λd hd=>(putL_mem hd).elim (h0 d) (hx3 d)) hf
    refine⟨A',?_,r1,r2,r3,?_⟩
    ·simp only[Instr.fill,hp,hsz];rw[if_neg (by simp;omega)];rw[hput];exact hA'
    ·rw[r4];simp;rw[putL_length _ _ _ (by simp;omega)];simp
   ·cases hf
  ·cases hf
theorem zipOK_map {α β γ:Type} {f:α→β→Bool} {R:β→γ→Prop} {m:α→γ} (hf:∀x y,f x y=true→R y (m x)):∀ {xs:List α} {ys:List β},zipOK f xs ys=true→All2 R ys (xs.map m)
 |[],[],_=> .nil
 |x::xs,y::ys,h=>by
  simp only[zipOK,Bool.and_eq_true]at h;exact .cons (hf _ _ h.1) (zipOK_map hf h.2)
 |[],_::_,h=>by simp[zipOK]at h
 |_::_,[],h=>by simp[zipOK]at h
theorem build_ok {t:Nat} {ps:Array (Nat×Operand)} {zs:List D} {qs:List (Nat×Nat×Opd)} (hz:zeroIsN P t zs=true) (hp:structParts P GL t ps.toList qs=true):
  ValOK P GL (.build t ps) (.build zs qs):=by
 intro g w μ e act h O y hd hx o ho;simp only[PI.val,Option.map_eq_some_iff]at hx;obtain⟨zs',hf,rfl⟩:=hx;unfold zeroIsN at hz;split at hz
 ·rename_i z hzz;cases hit:P.info? t with
  |none=>simp[hit]at hzz
  |some it=>
   have hz1:it.zero=some z:=by simpa[hit]using hzz
   have key:∀place:Nat→Option (Nat×Nat),zipOK (λp q=>oe GL p.2 q.2.2&&place p.1==some (q.1,q.2.1)) ps.toList qs=true→
     (∀A',Instr.fill place z.cells (ps.toList.map λp=>(p.1,act.eval p.2))=some A'→P.built t (ps.map λp=>(p.1,act.eval p.2)).toList=some A')→
     ∃v,(execOp act.eval o).run P w= .ok (.value v) w∧RepD g w μ (.agg zs') v∧∀k,ownAt (.agg zs') v k=none:=by
    intro place hp hbuilt;have h0:All2 (λd v=>RepE g w μ d v∧v.oneCell'=true∧∀u,own1 d u=none) zs z.cells.toList:=zipOK_all2 (λ_ _=>constN_rep) hz;have hq:All2 (λ(q:Nat×Nat×Opd) (p:Nat×Value)=>place p.1=some (q.1,q.2.1)∧RepD g w μ (q.2.2.ev e).copy p.2) qs (ps.toList.map λp=>(p.1,act.eval p.2)):=
     zipOK_map (λp q hpq=>by
      simp only[Bool.and_eq_true,beq_iff_eq]at hpq;exact⟨hpq.2,(hd.ev hpq.1).copy⟩) hp
    obtain⟨A',hA,r1,r2,r3,_⟩:=fill_rep (place:=place) hq (h0.imp λ_ _ h=>h.1)
     (λv hv=>by
      obtain⟨i,hi,rfl⟩:=List.mem_iff_getElem.1 hv;have hi':i <zs.length:=h0.1▸hi;exact(h0.2 i _ _ (List.getElem?_eq_getElem hi') (List.getElem?_eq_getElem hi)).2.1)
     (λd hd'=>by
      obtain⟨i,hi,rfl⟩:=List.mem_iff_getElem.1 hd';have hi':i <z.cells.toList.length:=h0.1.symm▸hi;exact(h0.2 i _ _ (List.getElem?_eq_getElem hi) (List.getElem?_eq_getElem hi')).2.2) hf
    refine⟨.agg A',?_,⟨A'.toList,by simp,r1,r2,r3⟩,λk=>by cases k<;>simp[ownAt,own1]⟩
    have:=run_build (P:=P) w t (ps.map λp=>(p.1,act.eval p.2)) A' (hbuilt A' hA);simp[execOp,ho,this]
   unfold structParts at hp;split at hp
   ·rename_i fs hu;split at hp
    ·rename_i places hpl;refine key (λi=>places[i]?) hp λA' hA=>?_;simp only[Program.built,hit,hu,hz1,hpl,Array.toList_map];simpa using hA
    ·cases hp
   ·rename_i n el hu;split at hp
    ·rename_i ie hie;refine key (λi=>some (i*ie.size,ie.size)) hp λA' hA=>?_;simp only[Program.built,hit,hu,hz1,hie,Array.toList_map];simpa using hA
    ·cases hp
   ·cases hp
 ·cases hz
theorem val_ok {op:Op} {pi:PI} (hk:chkP P GL op pi=true):ValOK P GL op pi:=by
 unfold chkP at hk;split at hk<;>(try simp only[Bool.and_eq_true]at hk)
 ·exact pick_ok hk.1.1 hk.1.2 hk.2
 ·exact load_ok hk.1.1.1 hk.1.1.2 hk.1.2 hk.2
 ·exact nilc_ok hk
 ·obtain⟨⟨h1,h2⟩,h3⟩:=hk;have:=eq_of_beq h1;subst this;exact @bin_ok P GL _ _ _ _ _ _ _ h2 h3
 ·exact eqB_ok hk.1.1.1 hk.1.1.2 hk.1.2 hk.2
 ·exact eqP_ok hk.1.1.1 hk.1.1.2 hk.1.2 hk.2
 ·exact eqA_ok hk.1.1.1 hk.1.1.2 hk.1.2 hk.2
 ·exact not_ok hk.1 hk.2
 ·exact neg_ok hk.1 hk.2
 ·exact inv_ok hk.1 hk.2
 ·exact cint_ok hk.1.1 hk.1.2 hk.2
 ·exact faddr_ok hk.1.1 hk.1.2 hk.2
 ·exact fld_ok hk.1.1.1 hk.1.1.2 hk.1.2 hk.2
 ·exact iaddr_ok hk.1.1 hk.1.2 hk.2
 ·exact iaddrP_ok hk.1.1 hk.1.2 hk.2
 ·exact iaddrA_ok hk.1.1 hk.1.2 hk.2
 ·exact idxS_ok hk.1.1 hk.1.2 hk.2
 ·exact ext_ok hk.1 hk.2
 ·exact mkf_ok hk.1.1 hk.1.2 hk.2
 ·exact mkme_ok hk.1.1 hk.1.2 hk.2
 ·exact idxA_ok hk.1.1 hk.1.2 hk.2
 ·exact alen_ok hk.1 hk.2
 ·exact lenS_ok hk.1 hk.2
 ·exact max_ok hk
 ·exact min_ok hk
 ·exact slc_ok hk.1.1.1.1 hk.1.1.1.2 hk.1.1.2 hk.1.2 hk.2
 ·exact slcS_ok hk.1.1.1.1 hk.1.1.1.2 hk.1.1.2 hk.1.2 hk.2
 ·exact slc0_ok hk.1.1.1 hk.1.1.2 hk.1.2 hk.2
 ·exact b2s_ok hk.1.1 hk.1.2 hk.2
 ·exact look_ok hk.1.1.1 hk.1.1.2 hk.1.2 hk.2
 ·exact mlen_ok hk.1 hk.2
 ·exact build_ok hk.1 hk.2
 ·cases hk
end
section
variable {g:Gh} {w:World} {μ:List Nat} {t:Nat→D} {u:Nat→Value} {h:List Row} {O:Nat→Prop}
theorem Inv.cell (hi:Inv g w μ t u h O) {r k:Nat} {ds:List D} {b:Nat} (hr:h[r]?=some (.cells ds)) (hb:μ[r]?=some b) {d:D} (hd:ds[k]?=some d):
  RepE g w μ d (cellU w μ r k):=by
 obtain⟨vs,T,hheap,hall,hone,_⟩:=hi.row hb hr;obtain⟨v,hv,hrep⟩:=hall.get hd;rw[cellU_of hb hheap hv];exact hrep
theorem Inv.blk_lt (hi:Inv g w μ t u h O) {p:Pl} {b:Nat} (hb:blk t u h w μ p=some b):b <w.heap.size:=by
 cases p with
 |tmp n k=>
  have hr:=hi.rep n;simp only[blk]at hb;generalize t n=d at hr hb;generalize u n=v at hr hb;cases d with
  |tup ds=>
   obtain⟨vs,rfl,ha⟩:=hr;simp only[ownAt,List.toList_toArray]at hb;cases hd:ds[k]? with
   |none=>simp[hd,own1]at hb
   |some d=>
    obtain⟨v,hv,hrv⟩:=ha.get hd;simp only[hd,hv,Option.getD_some]at hb;cases d<;>simp only[own1]at hb<;>try (cases hb;done)
    case pend b' e s xs=>exact own1_lt (μ:=μ) (d:= .pend b' e s xs) hrv (by simpa[own1]using hb)
    exact own1_lt (μ:=μ) (d:= .own _ _ _) hrv (by simpa[own1]using hb)
  |pend b' e s xs=>cases k with
   |zero=>exact own1_lt (μ:=μ) (d:= .pend b' e s xs) hr (by simpa[ownAt]using hb)
   |succ k=>simp[ownAt]at hb
  |own e s xs=>cases k with
   |zero=>exact own1_lt (μ:=μ) (d:= .own e s xs) hr (by simpa[ownAt]using hb)
   |succ k=>simp[ownAt]at hb
  |_=>cases k<;>simp[ownAt,own1]at hb
 |cell r k=>
  simp only[blk,cellD]at hb;split at hb
  ·rename_i ds hr;cases hd:ds[k]? with
   |none=>simp[hd,own1]at hb
   |some d=>
    have hlt:r <μ.length:=by rw[hi.len];exact(List.getElem?_eq_some_iff.1 hr).1
    have:=hi.cell hr (List.getElem?_eq_getElem hlt) hd;exact own1_lt this (by simpa[hd]using hb)
  ·simp[own1]at hb
theorem Inv.upd (hi:Inv g w μ t u h O) {g':Gh} {w':World} {μ':List Nat} {t':Nat→D} {u':Nat→Value} {h':List Row} {M:Nat→Prop} (hc:Chg M g w g' w')
  (hag:∀b o v,g'.m b o=some v→w'.cell? ⟨b,o,none⟩=some v) (hrep:∀n,RepD g' w' μ' (t' n) (u' n)) (hlen:μ'.length=h'.length)
  (hrows:∀(r:Nat) row b,h'[r]?=some row→μ'[r]?=some b→RowOK g' w' μ' b row) (hnod:∀(r r':Nat) b,μ'[r]?=some b→μ'[r']?=some b→r=r')
  (hμ:∀b,b∈μ'→b∈μ∨w.heap.size≤b) (σ:Pl→Option Pl) (hσ:∀p q r,σ p=some r→σ q=some r→p=q) (p0:Pl)
  (hb:∀p b,blk t' u' h' w' μ' p=some b→(∃r,σ p=some r∧blk t u h w μ r=some b)∨(p=p0∧w.heap.size≤b∧b∉μ')):Inv g' w' μ' t' u' h' O where
 agree:=hag
 olt:=λb hb=>Nat.lt_of_lt_of_le (hi.olt b hb) hc.size
 rep:=hrep
 len:=hlen
 rows:=hrows
 nod:=hnod
 mo:=λb hb ho=>by
  rcases hμ b hb with h1|h1
  ·exact hi.mo b h1 ho
  ·have:=hi.olt b ho;omega
 uniq:=λp q b hp hq=>by
  rcases hb p b hp with ⟨r,hr,hbr⟩|⟨rfl,h1,_⟩
  ·rcases hb q b hq with ⟨r',hr',hbr'⟩|⟨rfl,h1,_⟩
   ·have:=hi.uniq r r' b hbr hbr';subst this;exact hσ p q r hr hr'
   ·have:=hi.blk_lt hbr;omega
  ·rcases hb q b hq with ⟨r',hr',hbr'⟩|⟨rfl,_,_⟩
   ·have:=hi.blk_lt hbr';omega
   ·rfl
 sep:=λp b hp=>by
  rcases hb p b hp with ⟨r,hr,hbr⟩|⟨rfl,h1,h2⟩
  ·have hlt:=hi.blk_lt hbr;obtain⟨s1,s2⟩:=hi.sep r b hbr;refine⟨λhm=>?_,s2⟩;rcases hμ b hm with h3|h3
   ·exact s1 h3
   ·omega
  ·exact⟨h2,λho=>by have:=hi.olt b ho;omega⟩
theorem Inv.set (hi:Inv g w μ t u h O) {d:Nat} {x:D} {v:Value} (hx:RepD g w μ x v) (h0:∀k,ownAt x v k=none):
  Inv g w μ (λn=>if d=n then x else t n) (λn=>if d=n then v else u n) h O:=by
 refine hi.upd (Chg.refl (λ_=>False) g w) hi.agree (λn=>?_) hi.len hi.rows hi.nod (λb hb=> .inl hb) (λp=>some p) (λp q r hp hq=>by simp at hp hq;rw[hp,hq]) (.tmp 0 0) ?_
 ·by_cases hn:d=n
  ·simp[hn,hx]
  ·simp[hn,hi.rep n]
 ·intro p b hb;refine .inl ⟨p,rfl,?_⟩;cases p with
  |tmp n k=>
   simp only[blk]at hb ⊢;by_cases hn:d=n
   ·simp[hn,h0]at hb
   ·simpa[hn]using hb
  |cell r k=>exact hb
theorem Inv.move (hi:Inv g w μ t u h O) {d s:Nat}:
  Inv g w μ (λn=>if d=n then t s else if s=n then (t s).copy else t n) (λn=>if d=n then u s else if s=n then u s else u n) h O:=by
 refine hi.upd (Chg.refl (λ_=>False) g w) hi.agree (λn=>?_) hi.len hi.rows hi.nod (λb hb=> .inl hb)
  (λp=>match p with| .tmp n k=>if d=n then some (.tmp s k) else if s=n then none else some (.tmp n k)| .cell r k=>some (.cell r k)) ?_ (.tmp 0 0) ?_
 ·by_cases hn:d=n
  ·simp[hn,hi.rep s]
  ·by_cases hs:s=n
   ·simpa[hn,hs]using (hi.rep n).copy
   ·simp[hn,hs,hi.rep n]
 ·intro p q r hp hq;cases p<;>cases q<;>simp only[]at hp hq
  ·rename_i n k n' k';by_cases h1:d=n<;>by_cases h2:d=n'<;>by_cases h3:s=n<;>by_cases h4:s=n'<;>simp_all
   all_goals (subst_vars;simp_all)
  ·rename_i n k r' k';by_cases h1:d=n<;>by_cases h3:s=n<;>simp_all
   all_goals (subst_vars;simp_all)
  ·rename_i r' k' n k;by_cases h1:d=n<;>by_cases h3:s=n<;>simp_all
   all_goals (subst_vars;simp_all)
  ·simp_all
 ·intro p b hb;cases p with
  |tmp n k=>
   simp only[blk]at hb;by_cases hn:d=n
   ·exact .inl ⟨.tmp s k,by simp[hn],by simpa[hn,blk]using hb⟩
   ·by_cases hs:s=n
    ·simp[hn,hs,copy_tame]at hb
    ·exact .inl ⟨.tmp n k,by simp[hn,hs],by simpa[hn,hs,blk]using hb⟩
  |cell r k=>exact .inl ⟨.cell r k,rfl,hb⟩
end
theorem Gh.lt_of {g:Gh} {w:World} (hag:∀b o v,g.m b o=some v→w.cell? ⟨b,o,none⟩=some v) {b:Nat} (hb:w.heap.size≤b) (o:Nat):g.m b o=none:=by
 cases hm:g.m b o with
 |none=>rfl
 |some v=>
  have:=World.block_lt_of_cell? w ⟨b,o,none⟩ (hag b o v hm);simp at this;omega
def Gh.put (g:Gh) (b o:Nat) (vs:List Value):Gh where
 m:=λb' o'=>if b'=b∧o≤o'∧o' <o+vs.length then vs[o'-o]? else g.m b' o'
theorem Gh.put_at (g:Gh) (b o:Nat) (vs:List Value):(g.put b o vs).at b o vs:=by
 intro i v hv;have hi:=(List.getElem?_eq_some_iff.1 hv).1;simp only[Gh.put];rw[if_pos ⟨trivial,by omega,by omega⟩,show o+i-o=i by omega];exact hv
theorem Gh.le_put {g:Gh} {b o:Nat} (vs:List Value) (h:∀o',o≤o'→o' <o+vs.length→g.m b o'=none):g.le (g.put b o vs):=by
 intro b' o' v hv;simp only[Gh.put];split
 ·rename_i hc;rw[hc.1]at hv;rw[h o' hc.2.1 hc.2.2]at hv;cases hv
 ·exact hv
theorem Gh.put_other {g:Gh} {b o:Nat} {vs:List Value} {b':Nat} (h:b'≠b) (o':Nat):(g.put b o vs).m b' o'=g.m b' o':=by simp[Gh.put,h]
section
variable {g:Gh} {w:World} {μ:List Nat} {t:Nat→D} {u:Nat→Value} {h:List Row} {O:Nat→Prop}
theorem chg_alloc (M:Nat→Prop) (g:Gh) (w:World) (o:Obj):Chg M g w g (w.alloc o):=
 ⟨Gh.le.refl g,by simp,λb hb _=>heap_alloc_old w o b hb,λ_ _ _ _=>rfl,rfl,rfl⟩
theorem agree_alloc (hag:∀b o v,g.m b o=some v→w.cell? ⟨b,o,none⟩=some v) (ob:Obj):∀b o v,g.m b o=some v→(w.alloc ob).cell? ⟨b,o,none⟩=some v:=by
 intro b o v hv;have:=hag b o v hv;rw[World.cell?_alloc_lt w ob _ (World.block_lt_of_cell? w _ this)];exact this
theorem Inv.mem_lt (hi:Inv g w μ t u h O) {b:Nat} (hb:b∈μ):b <w.heap.size:=by
 obtain⟨r,hr,rfl⟩:=List.mem_iff_getElem.1 hb;have hr':r <h.length:=hi.len▸hr;exact(hi.rows r _ _ (List.getElem?_eq_getElem hr') (List.getElem?_eq_getElem hr)).lt
theorem RowOK.chg {M:Nat→Prop} {g':Gh} {w':World} {μ':List Nat} (hc:Chg M g w g' w') (hμ:μ <+: μ') {b:Nat} {row:Row} (hr:RowOK g w μ b row) (hb:¬M b)
  (hn:∀k ds d v,row= .cells ds→ds[k]?=some d→w.cell? ⟨b,k,none⟩=some v→∀b',own1 d v=some b'→¬M b'):RowOK g' w' μ' b row:=by
 have hlt:=hr.lt;cases row with
 |cells ds=>
  obtain⟨vs,T,hheap,hall,hone,hg⟩:=hr;refine⟨vs,T,(hc.heap b hlt hb).trans hheap,⟨hall.1,λk d v hd hv=>(hall.2 k d v hd hv).chg hc hμ λb' hb'=>?_⟩,hone,λo=>(hc.gh b hlt hb o).trans (hg o)⟩;exact hn k ds d v rfl hd (by simp[World.cell?,hheap,hv]) b' hb'
 |map es st ck=>
  obtain⟨ents,hheap,hst,hbs,hall,hg⟩:=hr;exact⟨ents,(hc.heap b hlt hb).trans hheap,hst,hbs,hall.imp λ_ _ h=>⟨h.1.mono hc.le,h.2.mono hc.le⟩,λo=>(hc.gh b hlt hb o).trans (hg o)⟩
 |obj tag p mono=>
  obtain⟨o,hheap,hp,hg⟩:=hr;exact⟨o,(hc.heap b hlt hb).trans hheap,mono _ _ _ _ _ hc.le hμ hp,λo=>(hc.gh b hlt hb o).trans (hg o)⟩
 |dead=>exact Nat.lt_of_lt_of_le hlt hc.size
theorem Inv.rowChg (hi:Inv g w μ t u h O) {M:Nat→Prop} {g':Gh} {w':World} {μ':List Nat} (hc:Chg M g w g' w') (hμ:μ <+: μ') {r b:Nat} {row:Row} (hr:h[r]?=some row) (hb:μ[r]?=some b)
  (hM:¬M b) (hn:∀p b',blk t u h w μ p=some b'→M b'→∀k,p≠ .cell r k):RowOK g' w' μ' b row:=by
 refine(hi.rows r row b hr hb).chg hc hμ hM ?_;intro k ds d v hrow hd hv b' hb' hm;subst hrow;refine hn (.cell r k) b' ?_ hm k rfl;simp only[blk,cellD,hr,cellU,hb,Option.bind_some,hv,Option.getD_some,hd];exact hb'
theorem chg_tmp (hi:Inv g w μ t u h O) {M:Nat→Prop} {g':Gh} {w':World} {μ':List Nat} (hc:Chg M g w g' w') (hμ:μ <+: μ') (n:Nat)
  (hn:∀k b',blk t u h w μ (.tmp n k)=some b'→¬M b'):RepD g' w' μ' (t n) (u n):=
 (hi.rep n).chg hc hμ λk b hb=>hn k b hb
theorem Inv.newRow (hi:Inv g w μ t u h O) {zs:List D} {vs:List Value} (T:TypeId) (ha:AllP (RepE g w μ) zs vs) (h1:∀v∈vs,v.oneCell'=true)
  (h0:∀(i:Nat) z v,zs[i]?=some z→vs[i]?=some v→own1 z v=none):
  Inv g (w.alloc (.cells vs.toArray T)) (μ++[w.heap.size]) t u (h++[.cells zs]) O:=by
 have hc:=chg_alloc (λ_=>False) g w (.cells vs.toArray T);have hpre:μ <+: μ++[w.heap.size]:=List.prefix_append _ _;have hold:∀r,r <h.length→(h++[Row.cells zs])[r]?=h[r]?:=λr hr=>List.getElem?_append_left hr;have holdμ:∀r,r <h.length→(μ++[w.heap.size])[r]?=μ[r]?:=λr hr=>List.getElem?_append_left (hi.len▸hr);have hnewμ:(μ++[w.heap.size])[h.length]?=some w.heap.size:=by rw[←hi.len];simp
 have hnew:(h++[Row.cells zs])[h.length]?=some (.cells zs):=by simp
 refine hi.upd hc (agree_alloc hi.agree _) (λn=>chg_tmp hi hc hpre n λ_ _ _ h=>h) (by simp[hi.len]) ?_ ?_ ?_ (λp=>some p) (λp q r hp hq=>by simp at hp hq;rw[hp,hq]) (.tmp 0 0) ?_
 ·intro r row b hr hb;by_cases hlt:r <h.length
  ·rw[hold r hlt]at hr;rw[holdμ r hlt]at hb;exact hi.rowChg hc hpre hr hb (λh=>h) (λ_ _ _ h=>h.elim)
  ·have:r=h.length:=by
    have:=(List.getElem?_eq_some_iff.1 hr).1;simp at this;omega
   subst this;rw[hnew]at hr;rw[hnewμ]at hb;simp only[Option.some.injEq]at hr hb;subst hr;subst hb;refine⟨vs,T,heap_alloc_new w _,⟨ha.1,λi x v hx hv=>(ha.2 i x v hx hv).chg hc hpre λ_ _ h=>h⟩,h1,λo=>Gh.lt_of hi.agree (Nat.le_refl _) o⟩
 ·intro r r' b hr hr';have hlen:∀x,(μ++[w.heap.size])[x]?=some b→x <h.length+1:=λx hx=>by
   have:=(List.getElem?_eq_some_iff.1 hx).1;simp[hi.len]at this;omega
  have l1:=hlen r hr;have l2:=hlen r' hr';by_cases a1:r <h.length<;>by_cases a2:r' <h.length
  ·rw[holdμ r a1]at hr;rw[holdμ r' a2]at hr';exact hi.nod r r' b hr hr'
  ·have:r'=h.length:=by omega
   subst this;rw[hnewμ]at hr';rw[holdμ r a1]at hr;simp only[Option.some.injEq]at hr';subst hr';have:=hi.mem_lt (List.mem_of_getElem? hr);omega
  ·have:r=h.length:=by omega
   subst this;rw[hnewμ]at hr;rw[holdμ r' a2]at hr';simp only[Option.some.injEq]at hr;subst hr;have:=hi.mem_lt (List.mem_of_getElem? hr');omega
  ·omega
 ·intro b hb;simp only[List.mem_append,List.mem_singleton]at hb;rcases hb with h|h
  ·exact .inl h
  ·exact .inr (by omega)
 ·intro p b hb;refine .inl ⟨p,rfl,?_⟩;cases p with
  |tmp n k=>exact hb
  |cell r k=>
   simp only[blk]at hb ⊢;by_cases hlt:r <h.length
   ·have e1:cellD (h++[.cells zs]) r k=cellD h r k:=by simp only[cellD,hold r hlt]
    have e2:cellU (w.alloc (.cells vs.toArray T)) (μ++[w.heap.size]) r k=cellU w μ r k:=by
     simp only[cellU,holdμ r hlt];cases hm:μ[r]? with
     |none=>rfl
     |some b'=>
      have:=hi.mem_lt (List.mem_of_getElem? hm);simp only[Option.bind_some];rw[World.cell?_alloc_lt w _ ⟨b',k,none⟩ this]
    rw[e1,e2]at hb;exact hb
   ·by_cases he:r=h.length
    ·subst he;simp only[cellD,hnew]at hb;cases hz:zs[k]? with
     |none=>simp[hz,own1]at hb
     |some z=>
      obtain⟨v,hv,_⟩:=ha.get hz;have e2:cellU (w.alloc (.cells vs.toArray T)) (μ++[w.heap.size]) h.length k=v:=
       cellU_of hnewμ (heap_alloc_new w _) hv
      rw[e2,hz]at hb;simp only[Option.getD_some]at hb;rw[h0 k z v hz hv]at hb;cases hb
    ·have:(h++[Row.cells zs])[r]?=none:=by simp;omega
     simp[cellD,this,own1]at hb
theorem Inv.newAny (hi:Inv g w μ t u h O) (row:Row) (ob:Obj) (hR:RowOK g (w.alloc ob) (μ++[w.heap.size]) w.heap.size row)
  (h0:∀k ds d,row= .cells ds→ds[k]?=some d→own1 d (cellU (w.alloc ob) (μ++[w.heap.size]) h.length k)=none):
  Inv g (w.alloc ob) (μ++[w.heap.size]) t u (h++[row]) O:=by
 have hc:=chg_alloc (λ_=>False) g w ob;have hpre:μ <+: μ++[w.heap.size]:=List.prefix_append _ _;have hold:∀r,r <h.length→(h++[row])[r]?=h[r]?:=λr hr=>List.getElem?_append_left hr;have holdμ:∀r,r <h.length→(μ++[w.heap.size])[r]?=μ[r]?:=λr hr=>List.getElem?_append_left (hi.len▸hr);have hnewμ:(μ++[w.heap.size])[h.length]?=some w.heap.size:=by rw[←hi.len];simp
 have hnew:(h++[row])[h.length]?=some row:=by simp
 refine hi.upd hc (agree_alloc hi.agree _) (λn=>chg_tmp hi hc hpre n λ_ _ _ h=>h) (by simp[hi.len]) ?_ ?_ ?_ (λp=>some p) (λp q r hp hq=>by simp at hp hq;rw[hp,hq]) (.tmp 0 0) ?_
 ·intro r row b hr hb;by_cases hlt:r <h.length
  ·rw[hold r hlt]at hr;rw[holdμ r hlt]at hb;exact hi.rowChg hc hpre hr hb (λh=>h) (λ_ _ _ h=>h.elim)
  ·have:r=h.length:=by
    have:=(List.getElem?_eq_some_iff.1 hr).1;simp at this;omega
   subst this;rw[hnew]at hr;rw[hnewμ]at hb;simp only[Option.some.injEq]at hr hb;subst hr;subst hb;exact hR
 ·intro r r' b hr hr';have hlen:∀x,(μ++[w.heap.size])[x]?=some b→x <h.length+1:=λx hx=>by
   have:=(List.getElem?_eq_some_iff.1 hx).1;simp[hi.len]at this;omega
  have l1:=hlen r hr;have l2:=hlen r' hr';by_cases a1:r <h.length<;>by_cases a2:r' <h.length
  ·rw[holdμ r a1]at hr;rw[holdμ r' a2]at hr';exact hi.nod r r' b hr hr'
  ·have:r'=h.length:=by omega
   subst this;rw[hnewμ]at hr';rw[holdμ r a1]at hr;simp only[Option.some.injEq]at hr';subst hr';have:=hi.mem_lt (List.mem_of_getElem? hr);omega
  ·have:r=h.length:=by omega
   subst this;rw[hnewμ]at hr;rw[holdμ r' a2]at hr';simp only[Option.some.injEq]at hr;subst hr;have:=hi.mem_lt (List.mem_of_getElem? hr');omega
  ·omega
 ·intro b hb;simp only[List.mem_append,List.mem_singleton]at hb;rcases hb with h|h
  ·exact .inl h
  ·exact .inr (by omega)
 ·intro p b hb;refine .inl ⟨p,rfl,?_⟩;cases p with
  |tmp n k=>exact hb
  |cell r k=>
   simp only[blk]at hb ⊢;by_cases hlt:r <h.length
   ·have e1:cellD (h++[row]) r k=cellD h r k:=by simp only[cellD,hold r hlt]
    have e2:cellU (w.alloc ob) (μ++[w.heap.size]) r k=cellU w μ r k:=by
     simp only[cellU,holdμ r hlt];cases hm:μ[r]? with
     |none=>rfl
     |some b'=>
      have:=hi.mem_lt (List.mem_of_getElem? hm);simp only[Option.bind_some];rw[World.cell?_alloc_lt w _ ⟨b',k,none⟩ this]
    rw[e1,e2]at hb;exact hb
   ·by_cases he:r=h.length
    ·subst he;simp only[cellD,hnew]at hb;cases row with
     |cells ds=>
      cases hz:ds[k]? with
      |none=>simp[hz,own1]at hb
      |some z=>simp only[hz,Option.getD_some]at hb;rw[h0 k ds z rfl hz]at hb;cases hb
     |_=>simp[own1]at hb
    ·have:(h++[row])[r]?=none:=by simp;omega
     simp[cellD,this,own1]at hb
end
section
variable {g:Gh} {w:World} {μ:List Nat} {t:Nat→D} {u:Nat→Value} {h:List Row} {O:Nat→Prop}
theorem chg_setRow (g:Gh) (w:World) (b:Nat) (cs:Array Value):Chg (λx=>x=b) g w g (w.setRow b cs):=
 ⟨Gh.le.refl g,by simp,λb' _ hb=>setRow_other w b b' cs hb,λ_ _ _ _=>rfl,rfl,rfl⟩
theorem agree_setRow (hag:∀b o v,g.m b o=some v→w.cell? ⟨b,o,none⟩=some v) {b:Nat} (hg:∀o,g.m b o=none) (cs:Array Value):
  ∀b' o v,g.m b' o=some v→(w.setRow b cs).cell? ⟨b',o,none⟩=some v:=by
 intro b' o v hv;by_cases hb:b'=b
 ·subst hb;rw[hg o]at hv;cases hv
 ·rw[World.cell?_of_block (a:=⟨b',o,none⟩) (setRow_other w b b' cs hb)];exact hag b' o v hv
theorem Inv.storeRow (hi:Inv g w μ t u h O) {r b:Nat} {ds:List D} (hr:h[r]?=some (.cells ds)) (hb:μ[r]?=some b) {vs:List Value} {T:TypeId}
  (hheap:w.heap[b]?=some (.cells vs.toArray T (0,0))) (ds':List D) (vs':List Value)
  (ha:AllP (RepE g w μ) ds' vs') (h1:∀v∈vs',v.oneCell'=true)
  (h0:∀(i:Nat) z v,ds'[i]?=some z→vs'[i]?=some v→own1 z v=none∨(ds[i]?=some z∧vs[i]?=some v)):
  Inv g (w.setRow b vs'.toArray) μ t u (h.set r (.cells ds')) O:=by
 have hbm:b∈μ:=List.mem_of_getElem? hb;obtain⟨_,_,hheap',_,_,hg⟩:=hi.row hb hr;have hc:=chg_setRow g w b vs'.toArray;have hrl:r <h.length:=(List.getElem?_eq_some_iff.1 hr).1;have hnb:∀p b',blk t u h w μ p=some b'→b'≠b:=λp b' hp he=>(hi.sep p b' hp).1 (he▸hbm);have hcellU:∀k,(∀v,vs[k]?=some v→cellU w μ r k=v):=λk v hv=>cellU_of hb hheap hv;have hnew:(w.setRow b vs'.toArray).heap[b]?=some (.cells vs'.toArray T (0,0)):=setRow_heap w b _ _ T _ hheap;have hblk:∀p b',blk t u (h.set r (.cells ds')) (w.setRow b vs'.toArray) μ p=some b'→blk t u h w μ p=some b':=by
  intro p b' hp;cases p with
  |tmp n k=>exact hp
  |cell r' k=>
   simp only[blk]at hp ⊢;by_cases he:r'=r
   ·subst he;simp only[cellD,List.getElem?_set_self hrl]at hp;cases hz:ds'[k]? with
    |none=>simp[hz,own1]at hp
    |some z=>
     obtain⟨v,hv,_⟩:=ha.get hz;rw[cellU_of hb hnew hv,hz]at hp;simp only[Option.getD_some]at hp;rcases h0 k z v hz hv with h3|⟨h3,h4⟩
     ·rw[h3]at hp;cases hp
     ·simp only[cellD,hr,h3,Option.getD_some,hcellU k v h4];exact hp
   ·have e1:cellD (h.set r (.cells ds')) r' k=cellD h r' k:=by simp only[cellD,List.getElem?_set_ne (Ne.symm he)]
    have e2:cellU (w.setRow b vs'.toArray) μ r' k=cellU w μ r' k:=by
     simp only[cellU];cases hm:μ[r']? with
     |none=>rfl
     |some b2=>
      simp only[Option.bind_some];have hne:b2≠b:=λe=>he (hi.nod r' r b (e▸hm) hb);rw[World.cell?_of_block (a:=⟨b2,k,none⟩) (setRow_other w b b2 _ hne)]
    rw[e1,e2]at hp;exact hp
 refine hi.upd hc (agree_setRow hi.agree hg _) (λn=>chg_tmp hi hc (List.prefix_refl μ) n λk b' hb'=>hnb _ b' hb') (by simp[hi.len]) ?_ hi.nod (λb hb=> .inl hb)
  (λp=>some p) (λp q r hp hq=>by simp at hp hq;rw[hp,hq]) (.tmp 0 0) (λp b' hp=> .inl ⟨p,rfl,hblk p b' hp⟩)
 intro r' row b' hrow hb';by_cases he:r'=r
 ·subst he;rw[List.getElem?_set_self hrl]at hrow;simp only[Option.some.injEq]at hrow;subst hrow;rw[hb]at hb';simp only[Option.some.injEq]at hb';subst hb';refine⟨vs',T,hnew,⟨ha.1,λi x v hx hv=>(ha.2 i x v hx hv).chg hc (List.prefix_refl μ) λb2 hb2=>?_⟩,h1,hg⟩;rcases h0 i x v hx hv with h3|⟨h3,h4⟩
  ·rw[h3]at hb2;cases hb2
  ·refine hnb (.cell r' i) b2 ?_;simp only[blk,cellD,hr,h3,Option.getD_some,hcellU i v h4];exact hb2
 ·rw[List.getElem?_set_ne (Ne.symm he)]at hrow;have hne:b'≠b:=λe=>he (hi.nod r' r b (e▸hb') hb);exact hi.rowChg hc (List.prefix_refl μ) hrow hb' hne λp b2 hp hm k=>absurd hm (hnb p b2 hp)
theorem Inv.giveD (hi:Inv g w μ t u h O) {r b k n:Nat} {ds:List D} (hr:h[r]?=some (.cells ds)) (hb:μ[r]?=some b) {vs:List Value} {T:TypeId}
  (hheap:w.heap[b]?=some (.cells vs.toArray T (0,0))) (hk:k <ds.length) {d0:D} (ht:t n=d0) (hrn:RepE g w μ d0 (u n)) (hbl:ownAt d0 (u n) 0=own1 d0 (u n)) (h1:(u n).oneCell'=true) {d1:D} (hd1:∀w',RepD g w' μ d1 (u n)) (ho1:∀j,ownAt d1 (u n) j=none):
  Inv g (w.setRow b (vs.set k (u n)).toArray) μ (λm=>if n=m then d1 else t m) u (h.set r (.cells (ds.set k d0))) O:=by
 have hbm:b∈μ:=List.mem_of_getElem? hb;obtain⟨vs0,T0,hheap',hall0,hone0,hg⟩:=hi.row hb hr;rw[hheap]at hheap';simp only[Option.some.injEq,Obj.cells.injEq,true_and,and_true]at hheap';obtain⟨hvv,rfl⟩:=hheap';have hvv':vs=vs0:=by simpa using congrArg Array.toList hvv
 subst hvv';have hc:=chg_setRow g w b (vs.set k (u n)).toArray;have hrl:r <h.length:=(List.getElem?_eq_some_iff.1 hr).1;have hnb:∀p b',blk t u h w μ p=some b'→b'≠b:=λp b' hp he=>(hi.sep p b' hp).1 (he▸hbm);have hnew:(w.setRow b (vs.set k (u n)).toArray).heap[b]?=some (.cells (vs.set k (u n)).toArray T (0,0)):=setRow_heap w b _ _ T _ hheap;have hkv:k <vs.length:=Nat.lt_of_lt_of_le hk hall0.1;have hblkn:blk t u h w μ (.tmp n 0)=own1 d0 (u n):=by simp only[blk,ht];exact hbl
 refine hi.upd hc (agree_setRow hi.agree hg _) (λm=>?_) (by simp[hi.len]) ?_ hi.nod (λb hb=> .inl hb)
  (λp=>match p with| .tmp m j=>if n=m then none else some (.tmp m j)| .cell r' j=>if r'=r∧j=k then some (.tmp n 0) else some (.cell r' j)) ?_ (.tmp 0 0) ?_
 ·by_cases hm:n=m
  ·subst hm;simp only[if_true];exact hd1 _
  ·simp only[hm,if_false];exact chg_tmp hi hc (List.prefix_refl μ) m λk b' hb'=>hnb _ b' hb'
 ·intro r' row b' hrow hb';by_cases he:r'=r
  ·subst he;rw[List.getElem?_set_self hrl]at hrow;simp only[Option.some.injEq]at hrow;subst hrow;rw[hb]at hb';simp only[Option.some.injEq]at hb';subst hb';refine⟨vs.set k (u n),T,hnew,⟨by simpa using hall0.1,λi x v hx hv=>?_⟩,?_,hg⟩
   ·rw[List.getElem?_set]at hx hv;by_cases hik:k=i
    ·subst hik;simp only[if_true,hk,hkv]at hx hv;simp only[Option.some.injEq]at hx hv;subst hx;subst hv;exact hrn.chg hc (List.prefix_refl μ) λb2 hb2=>hnb (.tmp n 0) b2 (by rw[hblkn];exact hb2)
    ·simp only[hik,if_false]at hx hv;refine(hall0.2 i x v hx hv).chg hc (List.prefix_refl μ) λb2 hb2=>hnb (.cell r' i) b2 ?_;simp only[blk,cellD,hr,hx,Option.getD_some,cellU_of hb hheap hv];exact hb2
   ·intro v hv;rcases List.mem_or_eq_of_mem_set hv with h|h
    ·exact hone0 v h
    ·rw[h];exact h1
  ·rw[List.getElem?_set_ne (Ne.symm he)]at hrow;have hne:b'≠b:=λe=>he (hi.nod r' r b (e▸hb') hb);exact hi.rowChg hc (List.prefix_refl μ) hrow hb' hne λp b2 hp hm k=>absurd hm (hnb p b2 hp)
 ·intro p q z hp hq;cases p<;>cases q<;>simp only[]at hp hq
  ·rename_i m j m' j';by_cases a1:n=m<;>by_cases a2:n=m'<;>simp_all
  ·rename_i m j r' j';by_cases a1:n=m<;>by_cases a2:r'=r∧j'=k<;>simp_all
   all_goals (try (subst_vars;simp_all))
  ·rename_i r' j' m j;by_cases a1:n=m<;>by_cases a2:r'=r∧j'=k<;>simp_all
   all_goals (try (subst_vars;simp_all))
  ·rename_i r1 j1 r2 j2;by_cases a1:r1=r∧j1=k<;>by_cases a2:r2=r∧j2=k<;>simp_all
   all_goals (try (subst_vars;simp_all))
 ·intro p b' hp;cases p with
  |tmp m j=>
   simp only[blk]at hp;by_cases hm:n=m
   ·subst hm;simp only[if_true,ho1]at hp;cases hp
   ·simp only[hm,if_false]at hp;exact .inl ⟨.tmp m j,by simp[hm],hp⟩
  |cell r' j=>
   simp only[blk]at hp;by_cases he:r'=r
   ·subst he;simp only[cellD,List.getElem?_set_self hrl]at hp;by_cases hj:j=k
    ·subst hj;have hv:(vs.set j (u n))[j]?=some (u n):=by simp[hkv]
     rw[cellU_of hb hnew hv]at hp;simp only[List.getElem?_set_self hk,Option.getD_some]at hp;exact .inl ⟨.tmp n 0,by simp,by rw[hblkn];exact hp⟩
    ·refine .inl ⟨.cell r' j,by simp[hj],?_⟩;rw[List.getElem?_set_ne (Ne.symm hj)]at hp;simp only[blk,cellD,hr];cases hz:ds[j]? with
     |none=>simp[hz,own1]at hp
     |some z=>
      obtain⟨v,hv,_⟩:=hall0.get hz;have hv':(vs.set k (u n))[j]?=some v:=by rw[List.getElem?_set_ne (Ne.symm hj)];exact hv
      rw[cellU_of hb hnew hv',hz]at hp;rw[cellU_of hb hheap hv];exact hp
   ·refine .inl ⟨.cell r' j,by simp[he],?_⟩;have e1:cellD (h.set r (.cells (ds.set k d0))) r' j=cellD h r' j:=by simp only[cellD,List.getElem?_set_ne (Ne.symm he)]
    have e2:cellU (w.setRow b (vs.set k (u n)).toArray) μ r' j=cellU w μ r' j:=by
     simp only[cellU];cases hm:μ[r']? with
     |none=>rfl
     |some b2=>
      simp only[Option.bind_some];have hne:b2≠b:=λe=>he (hi.nod r' r b (e▸hm) hb);rw[World.cell?_of_block (a:=⟨b2,j,none⟩) (setRow_other w b b2 _ hne)]
    rw[e1,e2]at hp;exact hp
theorem Inv.give (hi:Inv g w μ t u h O) {r b k n:Nat} {ds:List D} (hr:h[r]?=some (.cells ds)) (hb:μ[r]?=some b) {vs:List Value} {T:TypeId}
  (hheap:w.heap[b]?=some (.cells vs.toArray T (0,0))) (hk:k <ds.length) {e s:Nat} {xs:List V} (ht:t n= .own e s xs) (h1:(u n).oneCell'=true):
  Inv g (w.setRow b (vs.set k (u n)).toArray) μ (λm=>if n=m then .any else t m) u (h.set r (.cells (ds.set k (.own e s xs)))) O:=
 hi.giveD hr hb hheap hk ht (by have:=hi.rep n;rw[ht]at this;exact this) (by cases u n<;>rfl) h1 (d1:= .any) (λ_=>by simp[RepD,RepG,RepE]) (λj=>by cases j<;>simp[ownAt,own1])
theorem Inv.setAny (hi:Inv g w μ t u h O) {r b:Nat} {row0:Row} (hr:h[r]?=some row0) (hb:μ[r]?=some b) (row:Row) {g':Gh} {w':World} (hc:Chg (λx=>x=b) g w g' w')
  (hag:∀b o v,g'.m b o=some v→w'.cell? ⟨b,o,none⟩=some v) (hR:RowOK g' w' μ b row)
  (h0:∀k ds d,row= .cells ds→ds[k]?=some d→own1 d (cellU w' μ r k)=none):Inv g' w' μ t u (h.set r row) O:=by
 have hbm:b∈μ:=List.mem_of_getElem? hb;have hrl:r <h.length:=(List.getElem?_eq_some_iff.1 hr).1;have hnb:∀p b',blk t u h w μ p=some b'→b'≠b:=λp b' hp he=>(hi.sep p b' hp).1 (he▸hbm);have hblk:∀p b',blk t u (h.set r row) w' μ p=some b'→blk t u h w μ p=some b':=by
  intro p b' hp;cases p with
  |tmp n k=>exact hp
  |cell r' k=>
   simp only[blk]at hp ⊢;by_cases he:r'=r
   ·subst he;exfalso;simp only[cellD,List.getElem?_set_self hrl]at hp;cases row with
    |cells ds=>
     cases hz:ds[k]? with
     |none=>simp[hz,own1]at hp
     |some z=>simp only[hz,Option.getD_some]at hp;rw[h0 k ds z rfl hz]at hp;cases hp
    |_=>simp[own1]at hp
   ·have e1:cellD (h.set r row) r' k=cellD h r' k:=by simp only[cellD,List.getElem?_set_ne (Ne.symm he)]
    have e2:cellU w' μ r' k=cellU w μ r' k:=by
     simp only[cellU];cases hm:μ[r']? with
     |none=>rfl
     |some b2=>
      simp only[Option.bind_some];have hne:b2≠b:=λe=>he (hi.nod r' r b (e▸hm) hb);rw[World.cell?_of_block (a:=⟨b2,k,none⟩) (hc.heap b2 (hi.mem_lt (List.mem_of_getElem? hm)) hne)]
    rw[e1,e2]at hp;exact hp
 refine hi.upd hc hag (λn=>chg_tmp hi hc (List.prefix_refl μ) n λk b' hb'=>hnb _ b' hb') (by simp[hi.len]) ?_ hi.nod (λb hb=> .inl hb)
  (λp=>some p) (λp q r hp hq=>by simp at hp hq;rw[hp,hq]) (.tmp 0 0) (λp b' hp=> .inl ⟨p,rfl,hblk p b' hp⟩)
 intro r' row' b' hrow hb';by_cases he:r'=r
 ·subst he;rw[hb]at hb';cases hb';rw[List.getElem?_set_self hrl]at hrow;cases hrow;exact hR
 ·rw[List.getElem?_set_ne (Ne.symm he)]at hrow;have hne:b'≠b:=λe=>he (hi.nod r' r b (e▸hb') hb);exact hi.rowChg hc (List.prefix_refl μ) hrow hb' hne λp b2 hp hm=>absurd hm (hnb p b2 hp)
end
def σtake (d r k:Nat):Pl→Option Pl
 | .tmp m j=>if d=m then (if j=0 then some (.cell r k) else none) else some (.tmp m j)
 | .cell r' j=>if r'=r∧j=k then none else some (.cell r' j)
theorem σtake_inj (d r k:Nat) (p q z:Pl) (hp:σtake d r k p=some z) (hq:σtake d r k q=some z):p=q:=by
 cases p<;>cases q<;>simp only[σtake]at hp hq<;>(repeat' split at hp)<;>(repeat' split at hq)<;>
  first
   |(cases hp;done)
   |(cases hq;done)
   |(simp only[Option.some.injEq]at hp hq;subst hp;(simp only[Pl.tmp.injEq,Pl.cell.injEq,reduceCtorEq]at hq<;>simp_all);done)
def σgrow (d n:Nat):Pl→Option Pl
 | .tmp m k=>if d=m then (if k=0 then some (.tmp n 0) else none) else if n=m then none else some (.tmp m k)
 | .cell r k=>some (.cell r k)
theorem σgrow_inj (d n:Nat) (p q z:Pl) (hp:σgrow d n p=some z) (hq:σgrow d n q=some z):p=q:=by
 cases p<;>cases q<;>simp only[σgrow]at hp hq<;>(repeat' split at hp)<;>(repeat' split at hq)<;>
  first
   |(cases hp;done)
   |(cases hq;done)
   |(simp only[Option.some.injEq]at hp hq;subst hp;(simp only[Pl.tmp.injEq,Pl.cell.injEq,reduceCtorEq]at hq<;>simp_all);done)
section
variable {g:Gh} {w:World} {μ:List Nat} {t:Nat→D} {u:Nat→Value} {h:List Row} {O:Nat→Prop}
theorem Inv.take (hi:Inv g w μ t u h O) {r k d:Nat} {ds:List D} (hr:h[r]?=some (.cells ds)) {e s:Nat} {xs:List V} (hk:ds[k]?=some (.own e s xs)):
  Inv g w μ (λn=>if d=n then .own e s xs else t n) (λn=>if d=n then cellU w μ r k else u n) (h.set r (.cells (ds.set k (.v (.list xs))))) O:=by
 have hrl:r <h.length:=(List.getElem?_eq_some_iff.1 hr).1;have hkl:k <ds.length:=(List.getElem?_eq_some_iff.1 hk).1;have hμr:r <μ.length:=hi.len▸hrl;have hb:μ[r]?=some μ[r]:=List.getElem?_eq_getElem hμr;have hcell:=hi.cell hr hb hk;have hblk0:blk t u h w μ (.cell r k)=own1 (.own e s xs) (cellU w μ r k):=by simp only[blk,cellD,hr,hk,Option.getD_some]
 refine hi.upd (Chg.refl (λ_=>False) g w) hi.agree (λn=>?_) (by simp[hi.len]) ?_ hi.nod (λb hb=> .inl hb)
  (σtake d r k) (σtake_inj d r k) (.tmp 0 0) ?_
 ·by_cases hn:d=n
  ·simp only[hn,if_true];exact hcell
  ·simp only[hn,if_false];exact hi.rep n
 ·intro r' row b' hrow hb';by_cases he:r'=r
  ·subst he;rw[List.getElem?_set_self hrl]at hrow;simp only[Option.some.injEq]at hrow;subst hrow;obtain⟨vs,T,hheap,hall,hone,hg⟩:=hi.row hb' hr;refine⟨vs,T,hheap,⟨by simpa using hall.1,λi x v hx hv=>?_⟩,hone,hg⟩;rw[List.getElem?_set]at hx;by_cases hik:k=i
   ·subst hik;simp only[if_true,hkl,Option.some.injEq]at hx;subst hx;exact RepOwn.list (hall.2 k _ v hk hv).1
   ·simp only[hik,if_false]at hx;exact hall.2 i x v hx hv
  ·rw[List.getElem?_set_ne (Ne.symm he)]at hrow;exact hi.rows r' row b' hrow hb'
 ·intro p b' hp;cases p with
  |tmp m j=>
   simp only[blk]at hp;by_cases hm:d=m
   ·simp only[hm,if_true]at hp;cases j with
    |zero=>exact .inl ⟨.cell r k,by simp[σtake,hm],by rw[hblk0];simpa[ownAt]using hp⟩
    |succ j=>simp[ownAt]at hp
   ·simp only[hm,if_false]at hp;exact .inl ⟨.tmp m j,by simp[σtake,hm],hp⟩
  |cell r' j=>
   simp only[blk]at hp;by_cases he:r'=r
   ·subst he;simp only[cellD,List.getElem?_set_self hrl]at hp;by_cases hj:j=k
    ·subst hj;simp[List.getElem?_set_self hkl,own1]at hp
    ·rw[List.getElem?_set_ne (Ne.symm hj)]at hp;exact .inl ⟨.cell r' j,by simp[σtake,hj],by simp only[blk,cellD,hr];exact hp⟩
   ·have e1:cellD (h.set r (.cells (ds.set k (.v (.list xs))))) r' j=cellD h r' j:=by simp only[cellD,List.getElem?_set_ne (Ne.symm he)]
    rw[e1]at hp;exact .inl ⟨.cell r' j,by simp[σtake,he],hp⟩
theorem Inv.newD (hi:Inv g w μ t u h O) {g':Gh} {w':World} (hc:Chg (λ_=>False) g w g' w') (hag:∀b o v,g'.m b o=some v→w'.cell? ⟨b,o,none⟩=some v)
  {d:Nat} {d0:D} {v:Value} (hv:RepD g' w' μ d0 v) (hs:∀k,ownAt d0 v k=if k=0 then own1 d0 v else none) (hn:∀b,own1 d0 v=some b→w.heap.size≤b):
  Inv g' w' μ (λn=>if d=n then d0 else t n) (λn=>if d=n then v else u n) h O:=by
 have hcellU:∀r k,cellU w' μ r k=cellU w μ r k:=by
  intro r k;simp only[cellU];cases hm:μ[r]? with
  |none=>rfl
  |some b=>
   have:=hi.mem_lt (List.mem_of_getElem? hm);simp only[Option.bind_some];rw[World.cell?_of_block (a:=⟨b,k,none⟩) (hc.heap b this (λh=>h))]
 refine hi.upd hc hag (λn=>?_) hi.len (λr row b hr hb=>hi.rowChg hc (List.prefix_refl μ) hr hb (λh=>h) (λ_ _ _ h=>h.elim)) hi.nod (λb hb=> .inl hb)
  (λp=>some p) (λp q r hp hq=>by simp at hp hq;rw[hp,hq]) (.tmp d 0) ?_
 ·by_cases hnn:d=n
  ·simp only[hnn,if_true];exact hv
  ·simp only[hnn,if_false];exact chg_tmp hi hc (List.prefix_refl μ) n λ_ _ _ h=>h
 ·intro p b hp;cases p with
  |tmp m j=>
   simp only[blk]at hp;by_cases hm:d=m
   ·subst hm;simp only[if_true]at hp;cases j with
    |zero=>
     have hb:=hn b (by simpa[hs]using hp);exact .inr ⟨rfl,hb,λhmem=>by have:=hi.mem_lt hmem;omega⟩
    |succ j=>simp[hs]at hp
   ·simp only[hm,if_false]at hp;exact .inl ⟨.tmp m j,rfl,hp⟩
  |cell r k=>
   simp only[blk,hcellU]at hp;exact .inl ⟨.cell r k,rfl,hp⟩
theorem Inv.newOwn (hi:Inv g w μ t u h O) {g':Gh} {w':World} (hc:Chg (λ_=>False) g w g' w') (hag:∀b o v,g'.m b o=some v→w'.cell? ⟨b,o,none⟩=some v)
  {d e s:Nat} {xs:List V} {v:Value} (hv:RepOwn g' w' e s xs v) (h0:xs=[]→NoGrow e→∃a,v= .slice a 0 0) (hn:∀b,own1 (.own e s xs) v=some b→w.heap.size≤b):
  Inv g' w' μ (λn=>if d=n then .own e s xs else t n) (λn=>if d=n then v else u n) h O:=
 hi.newD hc hag ⟨hv,h0⟩ (λk=>by cases k<;>rfl) hn
theorem Inv.growD (hi:Inv g w μ t u h O) {n d b:Nat} (hb:own1 (t n) (u n)=some b) {g':Gh} {w':World} (hc:Chg (λx=>x=b) g w g' w')
  (hag:∀b o v,g'.m b o=some v→w'.cell? ⟨b,o,none⟩=some v) {d0:D} {v:Value} (hv:RepD g' w' μ d0 v) (hs:∀k,ownAt d0 v k=if k=0 then own1 d0 v else none) (hn:own1 d0 v=some b):
  Inv g' w' μ (λm=>if d=m then d0 else if n=m then (t n).copy else t m) (λm=>if d=m then v else u m) h O:=by
 have hblkn:blk t u h w μ (.tmp n 0)=some b:=by
  simp only[blk];generalize t n=x at hb;generalize u n=y at hb;cases x with
  |own e s xs=>
   cases y<;>simp[ownAt,own1]at hb ⊢
   exact hb
  |pend b' e s xs=>simpa[ownAt,own1]using hb
  |_=>simp[own1]at hb
 obtain⟨hbμ,_⟩:=hi.sep _ b hblkn;have honly:∀p b',blk t u h w μ p=some b'→b'=b→p= .tmp n 0:=λp b' hp he=>hi.uniq p (.tmp n 0) b (he▸hp) hblkn;have hcellU:∀r k,cellU w' μ r k=cellU w μ r k:=by
  intro r k;simp only[cellU];cases hm:μ[r]? with
  |none=>rfl
  |some b'=>
   have hmem:=List.mem_of_getElem? hm;have:=hi.mem_lt hmem;simp only[Option.bind_some];rw[World.cell?_of_block (a:=⟨b',k,none⟩) (hc.heap b' this (λhe=>hbμ (he▸hmem)))]
 refine hi.upd hc hag (λm=>?_) hi.len (λr row b' hr hb'=>hi.rowChg hc (List.prefix_refl μ) hr hb' (λhe=>hbμ (he▸List.mem_of_getElem? hb')) (λp b2 hp he k=>by rw[honly p b2 hp he];simp))
  hi.nod (λb hb=> .inl hb)
  (σgrow d n) (σgrow_inj d n) (.tmp 0 0) ?_
 ·by_cases hd:d=m
  ·simp only[hd,if_true];exact hv
  ·by_cases hm:n=m
   ·subst hm;have h1:=(hi.rep n).copy;simp only[hd,if_true,if_false];cases ht:t n with
    |own e s xs=>rw[ht]at h1;exact RepV.mono hc.le h1
    |pend=>trivial
    |_=>rw[ht]at hb;simp[own1]at hb
   ·simp only[hd,hm,if_false];exact chg_tmp hi hc (List.prefix_refl μ) m λk b' hb' he=>by
     have:=honly _ b' hb' he;simp only[Pl.tmp.injEq]at this;exact hm this.1.symm
 ·intro p b' hp;cases p with
  |tmp m k=>
   simp only[blk]at hp;by_cases hd:d=m
   ·simp only[hd,if_true]at hp;cases k with
    |zero=>
     refine .inl ⟨.tmp n 0,by simp[σgrow,hd],?_⟩;rw[hblkn];have:own1 d0 v=some b':=by simpa[hs]using hp
     rw[←hn,this]
    |succ k=>simp[hs]at hp
   ·by_cases hm:n=m
    ·simp[hd,hm,copy_tame]at hp
    ·simp only[hd,hm,if_false]at hp;exact .inl ⟨.tmp m k,by simp[σgrow,hd,hm],hp⟩
  |cell r k=>
   simp only[blk,hcellU]at hp;exact .inl ⟨.cell r k,rfl,hp⟩
theorem Inv.growOwn (hi:Inv g w μ t u h O) {n d b:Nat} (hb:own1 (t n) (u n)=some b) {g':Gh} {w':World} (hc:Chg (λx=>x=b) g w g' w')
  (hag:∀b o v,g'.m b o=some v→w'.cell? ⟨b,o,none⟩=some v) {e s:Nat} {xs:List V} {v:Value} (hv:RepOwn g' w' e s xs v) (h0:xs=[]→NoGrow e→∃a,v= .slice a 0 0) (hn:own1 (.own e s xs) v=some b):
  Inv g' w' μ (λm=>if d=m then .own e s xs else if n=m then (t n).copy else t m) (λm=>if d=m then v else u m) h O:=
 hi.growD hb hc hag ⟨hv,h0⟩ (λk=>by cases k<;>rfl) hn
theorem Inv.growCell (hi:Inv g w μ t u h O) {r k b br:Nat} {ds:List D} {x d0:D} (hr:h[r]?=some (.cells ds)) (hbr:μ[r]?=some br) (hk:ds[k]?=some x) (hb:own1 x (cellU w μ r k)=some b)
  {g':Gh} {w':World} (hc:Chg (λx=>x=b) g w g' w') (hag:∀b o v,g'.m b o=some v→w'.cell? ⟨b,o,none⟩=some v) (hv:RepE g' w' μ d0 (cellU w μ r k)) (hn:∀b',own1 d0 (cellU w μ r k)=some b'→b'=b):
  Inv g' w' μ t u (h.set r (.cells (ds.set k d0))) O:=by
 have hrl:r <h.length:=(List.getElem?_eq_some_iff.1 hr).1;have hkl:k <ds.length:=(List.getElem?_eq_some_iff.1 hk).1;have hblkn:blk t u h w μ (.cell r k)=some b:=by simp only[blk,cellD,hr,hk,Option.getD_some];exact hb
 obtain⟨hbμ,_⟩:=hi.sep _ b hblkn;have honly:∀p b',blk t u h w μ p=some b'→b'=b→p= .cell r k:=λp b' hp he=>hi.uniq p (.cell r k) b (he▸hp) hblkn;obtain⟨vs,T,hheap,hall,hone,hgn⟩:=hi.row hbr hr;have hneb:br≠b:=λhe=>hbμ (he▸List.mem_of_getElem? hbr);have hheap':w'.heap[br]?=some (.cells vs.toArray T (0,0)):=(hc.heap br (lt_of_heap hheap) hneb).trans hheap;have hcellU:∀r k,cellU w' μ r k=cellU w μ r k:=by
  intro r k;simp only[cellU];cases hm:μ[r]? with
  |none=>rfl
  |some b'=>
   have hmem:=List.mem_of_getElem? hm;have:=hi.mem_lt hmem;simp only[Option.bind_some];rw[World.cell?_of_block (a:=⟨b',k,none⟩) (hc.heap b' this (λhe=>hbμ (he▸hmem)))]
 refine hi.upd hc hag (λm=>?_) (by simp[hi.len]) ?_ hi.nod (λb hb=> .inl hb) (λp=>some p) (λp q r hp hq=>by simp at hp hq;rw[hp,hq]) (.tmp 0 0) ?_
 ·exact chg_tmp hi hc (List.prefix_refl μ) m λj b' hb' he=>by have:=honly _ b' hb' he;cases this
 ·intro r' row b' hrow hb';by_cases he:r'=r
  ·subst he;rw[List.getElem?_set_self hrl]at hrow;simp only[Option.some.injEq]at hrow;subst hrow;rw[hbr]at hb';simp only[Option.some.injEq]at hb';subst hb';refine⟨vs,T,hheap',⟨by simpa using hall.1,λi y v hy hv2=>?_⟩,hone,λo=>(hc.gh br (lt_of_heap hheap) hneb o).trans (hgn o)⟩;rw[List.getElem?_set]at hy;by_cases hik:k=i
   ·subst hik;simp only[if_true,hkl]at hy;simp only[Option.some.injEq]at hy;subst hy;rw[cellU_of hbr hheap hv2]at hv;exact hv
   ·simp only[hik,if_false]at hy;refine(hall.2 i y v hy hv2).chg hc (List.prefix_refl μ) λb2 hb2 he=>?_;have h3:blk t u h w μ (.cell r' i)=some b2:=by simp only[blk,cellD,hr,hy,Option.getD_some,cellU_of hbr hheap hv2];exact hb2
    have:=honly _ b2 h3 he;simp only[Pl.cell.injEq]at this;exact hik this.2.symm
  ·rw[List.getElem?_set_ne (Ne.symm he)]at hrow;have hne:¬b'=b:=λe=>hbμ (e▸List.mem_of_getElem? hb');exact hi.rowChg hc (List.prefix_refl μ) hrow hb' hne λp b2 hp hm j hpj=>by
    have:=honly p b2 hp hm;rw[hpj]at this;simp only[Pl.cell.injEq]at this;exact he this.1
 ·intro p b' hp;refine .inl ⟨p,rfl,?_⟩;cases p with
  |tmp m j=>exact hp
  |cell r' j=>
   simp only[blk,hcellU]at hp ⊢;by_cases he:r'=r
   ·subst he;simp only[cellD,List.getElem?_set_self hrl,List.getElem?_set]at hp;by_cases hj:k=j
    ·subst hj;simp only[if_true,hkl,Option.getD_some]at hp;have:=hn b' hp;subst this;simpa[cellD,hr,hk]using hb
    ·simp only[hj,if_false]at hp;simpa[cellD,hr]using hp
   ·have e1:cellD (h.set r (.cells (ds.set k d0))) r' j=cellD h r' j:=by simp only[cellD,List.getElem?_set_ne (Ne.symm he)]
    rw[e1]at hp;exact hp
theorem Inv.chg (hi:Inv g w μ t u h O) {g':Gh} {w':World} (hc:Chg (λ_=>False) g w g' w') (hag:∀b o v,g'.m b o=some v→w'.cell? ⟨b,o,none⟩=some v):Inv g' w' μ t u h O:=by
 have hcellU:∀r k,cellU w' μ r k=cellU w μ r k:=by
  intro r k;simp only[cellU];cases hm:μ[r]? with
  |none=>rfl
  |some b=>
   have:=hi.mem_lt (List.mem_of_getElem? hm);simp only[Option.bind_some];rw[World.cell?_of_block (a:=⟨b,k,none⟩) (hc.heap b this (λh=>h))]
 refine hi.upd hc hag (λn=>chg_tmp hi hc (List.prefix_refl μ) n λ_ _ _ h=>h) hi.len
  (λr row b hr hb=>hi.rowChg hc (List.prefix_refl μ) hr hb (λh=>h) (λ_ _ _ h=>h.elim)) hi.nod (λb hb=> .inl hb)
  (λp=>some p) (λp q r hp hq=>by simp at hp hq;rw[hp,hq]) (.tmp 0 0) ?_
 intro p b hp;cases p with
 |tmp m j=>exact .inl ⟨.tmp m j,rfl,hp⟩
 |cell r k=>simp only[blk,hcellU]at hp;exact .inl ⟨.cell r k,rfl,hp⟩
theorem Inv.weaken (hi:Inv g w μ t u h O) (t':Nat→D) (ht:∀n,t' n=t n∨(∀v,RepD g w μ (t n) v→RepD g w μ (t' n) v)∧∀v k,ownAt (t' n) v k=none):Inv g w μ t' u h O:=by
 refine hi.upd (Chg.refl (λ_=>False) g w) hi.agree (λn=>?_) hi.len hi.rows hi.nod (λb hb=> .inl hb) (λp=>some p) (λp q r hp hq=>by simp at hp hq;rw[hp,hq]) (.tmp 0 0) ?_
 ·rcases ht n with h|h
  ·rw[h];exact hi.rep n
  ·exact h.1 _ (hi.rep n)
 ·intro p b hp;cases p with
  |tmp m j=>
   simp only[blk]at hp;rcases ht m with h|h
   ·rw[h]at hp;exact .inl ⟨.tmp m j,rfl,hp⟩
   ·rw[h.2]at hp;cases hp
  |cell r k=>exact .inl ⟨.cell r k,rfl,hp⟩
end
structure St where
 e:Env
 h:List Row
 deriving Inhabited
inductive AI where
 |p (d:Nat) (i:PI)
 |mv (d:Nat) (x:Opd)
 |alloc (d:Nat) (zs:List D)
 |box (d:Nat) (x:Opd)
 |store (a x:Opd) (n:Nat)
 |take (d:Nat) (a:Opd)
 |app (d:Nat) (x y:Opd) (e s by_:Nat)
 |appS (d:Nat) (x y:Opd) (e by_:Nat)
 |bsl (d e s:Nat) (ps:List Opd)
 |s2b (d:Nat) (x:Opd)
 |nilS (d:Nat) (ne:Bool) (x:Opd)
 |mkm (d:Nat)
 |mksl (d:Nat) (x:Opd) (z:D)
 |ment (d:Nat) (m k:Opd) (st:Bool) (ks:List Nat)
 |mest (m b v:Opd)
 |mput (m k v:Opd) (st:Bool) (ks:List Nat)
 |mdel (d:Option Nat) (m k:Opd) (st:Bool) (ks:List Nat)
 |call (d:Option Nat) (f:Opd) (args:List Opd)
 |callF (d:Option Nat) (f:Opd) (args:List Opd)
 |callC (d:Option Nat) (f:Opd) (args:List Opd)
 |callO (d:Option Nat) (f q:Opd) (args:List Opd)
 |appR (d:Nat) (x y:Opd) (e s by_:Nat)
 |frz (d:Nat) (x:Opd) (s:Nat)
 |mksz (d:Nat) (x:Opd) (zs:List D)
 |cpy (d:Option Nat) (x y:Opd) (s:Nat)
 |callN (d:Option Nat) (f:Opd) (args:List Opd)
 |appP (d:Nat) (x y:Opd) (e s by_:Nat)
 |fin (m:Nat) (a p x:Opd) (s:Nat)
 |bsr (d s:Nat) (ps:List Opd)
 |clr (d:Option Nat) (x:Opd) (zs:List D)
 |itr (k d:Nat) (x:Opd)
 deriving Inhabited
def D.toRow:D→D
 | .nil e s=> .own e s []
 |d=>d
def D.toRowX (x:Opd) (n:Nat):D→D:=match x with
 | .t _ true=>if n=1 then D.toRow else id
 |_=>D.toRow
def Opd.clear (e:Env):Opd→Env
 | .t n true=>(n,(find e n).copy)::e
 |_=>e
def setO (e:Env):Option Nat→D→Env
 |some d,x=>(d,x)::e
 |none,_=>e
def toVs (e:Env):List Opd→Option (List V)
 |[]=>some []
 |x::xs=>match (x.ev e).toV,toVs e xs with
  |some v,some vs=>some (v::vs)
  |_,_=>none
def toCells (e:Env) (sz:Nat):List Opd→Option (List D)
 |[]=>some []
 |x::xs=>match (x.ev e).copy.cells?,toCells e sz xs with
  |some c,some cs=>if c.length=sz then some (c.map D.toRow++cs) else none
  |_,_=>none
def ownOf (e s:Nat):D→Option (List V)
 | .own e' s' xs=>if e'=e∧s'=s then some xs else none
 | .nil _ _=>some []
 |_=>none
def roomy (n by_:Nat):Bool:=decide (n*by_≤140737488355328∧n≤140737488355328)
def AI.step (s:St):AI→Option St
 | .p d i=>(i.val s.e s.h).map λx=>⟨(d,x)::s.e,s.h⟩
 | .mv d x=>some ⟨(d,x.ev s.e)::x.clear s.e,s.h⟩
 | .alloc d zs=>some ⟨(d,.ref s.h.length 0)::s.e,s.h++[.cells zs]⟩
 | .box d x=>match (x.ev s.e).copy.cells? with
  |some cs=>some ⟨(d,.ref s.h.length 0)::s.e,s.h++[.cells (cs.map D.toRow)]⟩
  |none=>none
 | .store a x n=>match a.ev s.e with
  | .ref r off=>match s.h[r]? with
   |some (.cells ds)=>match x.ev s.e with
    | .own e sz xs=>match x with
     | .t m true=>if off <ds.length∧n=1 then some ⟨(m,.any)::s.e,s.h.set r (.cells (ds.set off (.own e sz xs)))⟩ else none
     |_=>none
    | .pend bb e sz xs=>match x with
     | .t m true=>if off <ds.length∧n=1 then some ⟨(m,.pptr bb 0 xs.length)::s.e,s.h.set r (.cells (ds.set off (.pend bb e sz xs)))⟩ else none
     |_=>none
    |d=>match d.copy.cells? with
     |some cs=>if cs.length=n∧off+n≤ds.length then some ⟨s.e,s.h.set r (.cells (putL ds off (cs.map (D.toRowX x n))))⟩ else none
     |none=>none
   |_=>none
  |_=>none
 | .take d a=>match a.ev s.e with
  | .ref r off=>match s.h[r]? with
   |some (.cells ds)=>match ds[off]? with
    |some (.own e sz xs)=>some ⟨(d,.own e sz xs)::s.e,s.h.set r (.cells (ds.set off (.v (.list xs))))⟩
    |_=>none
   |_=>none
  |_=>none
 | .app d x y e sz by_=>match ownOf e sz (x.ev s.e),(y.ev s.e).toV with
  |some xs,some (.list ys)=>if headOK sz ys=true∧roomy (xs.length+ys.length) by_=true then some ⟨(d,.own e sz (xs++ys))::x.clear s.e,s.h⟩ else none
  |_,_=>none
 | .appS d x y e by_=>match ownOf e 1 (x.ev s.e),y.ev s.e with
  |some xs,.v (.str b)=>if roomy (xs.length+b.size) by_=true then some ⟨(d,.own e 1 (xs++b.data.toList.map λc=> .int .u8 c.toNat))::x.clear s.e,s.h⟩ else none
  |_,_=>none
 | .bsl d e sz ps=>match toVs s.e ps with
  |some vs=>if vs.all (λv=>v.cells.length==sz)=true then
    match vs with
    |[]=>some ⟨(d,.nil e sz)::s.e,s.h⟩
    |vs=>some ⟨(d,.own e sz vs)::s.e,s.h⟩
   else none
  |none=>none
 | .bsr d sz ps=>match toCells s.e sz ps with
  |some cs=>some ⟨(d,.sref s.h.length ps.length)::s.e,s.h++[.cells cs]⟩
  |none=>none
 | .s2b d x=>match x.ev s.e with
  | .v (.str b)=>some ⟨(d,.v (.list (b.data.toList.map λc=> .int .u8 c.toNat)))::s.e,s.h⟩
  |_=>none
 | .nilS _ _ _=>none
 | .mkm d=>some ⟨(d,.mref s.h.length)::s.e,s.h++[.map [] [] 0]⟩
 | .mksl d x z=>match x.ev s.e with
  | .v (.int _ n)=>if 0≤n∧n≤16777216 then some ⟨(d,.sref s.h.length n.toNat)::s.e,s.h++[.cells (List.replicate n.toNat z)]⟩ else none
  |_=>none
 | .mput m k v st ks=>match m.ev s.e with
  | .mref r=>match s.h[r]? with
   |some (.map es bs ck)=>match (k.ev s.e).toV,(v.ev s.e).toV with
    |some kv,some vv=>if keyOK st ks kv=true then
      match mfind st ks kv es with
      |some none=>some ⟨s.e,s.h.set r (.map (es++[(kv,vv)]) (bs++[ck]) (ck+1))⟩
      |some (some i)=>some ⟨s.e,s.h.set r (.map (es.set i (kv,vv)) bs ck)⟩
      |none=>none
     else none
    |_,_=>none
   |_=>none
  |_=>none
 | .ment d m k st ks=>match m.ev s.e with
  | .mref r=>match s.h[r]? with
   |some (.map es bs _)=>match (k.ev s.e).toV with
    |some kv=>if keyOK st ks kv=true then
      match mfind st ks kv es with
      |some (some i)=>match es[i]?,bs[i]? with
       |some en,some n=>some ⟨(d,.tup [.v en.2,.v (.int .i64 n)])::s.e,s.h⟩
       |_,_=>none
      |_=>none
     else none
    |_=>none
   |_=>none
  |_=>none
 | .mest m b v=>match m.ev s.e with
  | .mref r=>match s.h[r]? with
   |some (.map es bs ck)=>match b.ev s.e,(v.ev s.e).toV with
    | .v (.int _ n),some vv=>match bs.findIdx? (λx:Nat=>(x:Int)==n)with
     |some i=>match es[i]? with
      |some en=>some ⟨s.e,s.h.set r (.map (es.set i (en.1,vv)) bs ck)⟩
      |none=>none
     |none=>none
    |_,_=>none
   |_=>none
  |_=>none
 | .mdel d m k st ks=>match m.ev s.e with
  | .mref r=>match s.h[r]? with
   |some (.map es bs ck)=>match (k.ev s.e).toV with
    |some kv=>if keyOK st ks kv=true then
      match mfind st ks kv es with
      |some none=>some ⟨setO s.e d (.tup []),s.h⟩
      |some (some i)=>some ⟨setO s.e d (.tup []),s.h.set r (.map (es.eraseIdx i) (bs.eraseIdx i) ck)⟩
      |none=>none
     else none
    |_=>none
   |_=>none
  |_=>none
 | .call _ _ _=>none
 | .callF _ _ _=>none
 | .callC _ _ _=>none
 | .callO _ _ _ _=>none
 | .appR _ _ _ _ _ _=>none
 | .frz _ _ _=>none
 | .callN _ _ _=>none
 | .appP _ _ _ _ _ _=>none
 | .itr _ _ _=>none
 | .fin m ad pp x sz=>match pp.ev s.e,(x.ev s.e).toV with
  | .pptr b s' n,some y=>match find s.e m with
   | .pend b' e s2 xs=>if (b'=b∧s'=sz∧s2=sz)∧n=xs.length∧y.cells.length=sz∧0 <sz then some ⟨(m,.own e sz (xs++[y]))::s.e,s.h⟩ else none
   |_=>match ad.ev s.e with
    | .ref r off=>match s.h[r]? with
     |some (.cells ds)=>match ds[off]? with
      |some (.pend b' e s2 xs)=>if (b'=b∧s'=sz∧s2=sz)∧n=xs.length∧y.cells.length=sz∧0 <sz then some ⟨s.e,s.h.set r (.cells (ds.set off (.own e sz (xs++[y]))))⟩ else none
      |_=>none
     |_=>none
    |_=>none
  |_,_=>none
 | .mksz d x zs=>match x.ev s.e with
  | .v (.int _ n)=>if 0≤n∧n≤16777216 then some ⟨(d,.sref s.h.length n.toNat)::s.e,s.h++[.cells (List.replicate n.toNat zs).flatten]⟩ else none
  |_=>none
 | .clr d x zs=>match x.ev s.e with
  | .sref r n=>match s.h[r]? with
   |some (.cells ds)=>if 0 <n∧n*zs.length≤ds.length then some ⟨setO s.e d (.tup []),s.h.set r (.cells (putL ds 0 (List.replicate n zs).flatten))⟩ else none
   |_=>none
  |_=>none
 | .cpy d x y sz=>match x.ev s.e with
  | .sref r n=>match (y.ev s.e).copy with
   | .v (.list ys)=>match s.h[r]? with
    |some (.cells ds)=>if (ys.length=n∧ds.length=n*sz)∧0 <sz∧headOK sz ys=true then some ⟨setO s.e d (.v (.int .i64 n)),s.h.set r (.cells ((ys.flatMap V.cells).map .v))⟩ else none
    |_=>none
   |_=>none
  |_=>none
structure Gs (GL:Globals) (N:Nat) (g:Gh) (w:World) (μ:List Nat) (s:St) (a:Act) (O:Nat→Prop):Prop where
 inv:Inv g w μ (find s.e) (λn=>a.tmps.getD n undef) s.h O
 glob:GlobOK GL g
 sz:a.tmps.size=N
theorem Gs.gd {GL:Globals} {N:Nat} {g:Gh} {w:World} {μ:List Nat} {s:St} {a:Act} {O:Nat→Prop} (h:Gs GL N g w μ s a O) (P:Program):Gd P GL g w μ s.e a s.h O:=⟨h.inv,h.glob⟩
theorem GlobOK.mono {GL:Globals} {g g':Gh} (h:GlobOK GL g) (hl:g.le g'):GlobOK GL g':=λp hp=>(h p hp).mono hl
def EffOK (P:Program) (GL:Globals) (N:Nat) (o:Oper) (ai:AI):Prop:=
 ∀ {g:Gh} {w:World} {μ:List Nat} {s s':St} {a:Act} {O:Nat→Prop},Gs GL N g w μ s a O→ai.step s=some s'→
  ∃v w' g' μ',((execOp a.eval o).run P w= .ok (.value v) w'∨((execOp a.eval o).run P w= .ok .skip w'∧v=undef))∧
   Gs GL N g' w' μ' s' (a.put o.dst v) O∧Chg (λb=>¬O b) g w g' w'∧μ <+: μ'
section
variable {P:Program} {GL:Globals} {N:Nat}
theorem put_size (a:Act) (d:Option Nat) (v:Value):(a.put d v).tmps.size=a.tmps.size:=by cases d<;>simp[Act.put]
theorem put_get {a:Act} {d:Nat} (v:Value) (hd:d <a.tmps.size):(λn=>(a.put (some d) v).tmps.getD n undef)=λn=>if d=n then v else a.tmps.getD n undef:=by
 funext n
 simp only[Act.put];by_cases h:d=n
 ·subst h;simp[hd]
 ·simp[h]
theorem Gs.set {g:Gh} {w:World} {μ:List Nat} {s:St} {a:Act} {O:Nat→Prop} (h:Gs GL N g w μ s a O) {d:Nat} (hd:d <N) {x:D} {v:Value} (hx:RepD g w μ x v)
  (h0:∀k,ownAt x v k=none):Gs GL N g w μ ⟨(d,x)::s.e,s.h⟩ (a.put (some d) v) O where
 inv:=by
  rw[put_get v (h.sz▸hd)];exact h.inv.set hx h0
 glob:=h.glob
 sz:=by rw[put_size,h.sz]
theorem p_ok {o:Oper} {d:Nat} {i:PI} (ho:o.dst=some d) (hd:d <N) (hk:chkP P GL o.op i=true):EffOK P GL N o (.p d i):=by
 intro g w μ s s' a O hg hs;simp only[AI.step,Option.map_eq_some_iff]at hs;obtain⟨x,hx,rfl⟩:=hs;obtain⟨v,h1,h2,h3⟩:=val_ok hk (hg.gd P) hx o rfl;exact⟨v,w,g,μ,.inl h1,by rw[ho];exact hg.set hd h2 h3,Chg.refl _ _ _,List.prefix_refl _⟩
def movable (q:Opd):Bool:=match q with| .c (.own _ _ (_::_))=>false| .c (.tup _)=>false| .c (.pend _ _ _ _)=>false|_=>true
theorem mv_ok {o:Oper} {d:Nat} {x:Operand} {q:Opd} (ho:o.dst=some d) (hop:o.op= .move x∨o.op= .assign x) (hd:d <N) (hk:oe GL x q=true) (hm:movable q=true):EffOK P GL N o (.mv d q):=by
 intro g w μ s s' a O hg hs;simp only[AI.step,Option.some.injEq]at hs;subst hs;have hrun:(execOp a.eval o).run P w= .ok (.value (a.eval x)) w:=by rcases hop with h|h<;>simp[execOp,h]
 have hr:=(hg.gd P).ev hk;refine⟨a.eval x,w,g,μ,.inl hrun,?_,Chg.refl _ _ _,List.prefix_refl _⟩;rw[ho];have plain:(∀k,ownAt (q.ev s.e) (a.eval x) k=none)→Gs GL N g w μ ⟨(d,q.ev s.e)::s.e,s.h⟩ (a.put (some d) (a.eval x)) O:=λh0=>hg.set hd hr h0;cases q with
 |t n mv=>
  cases mv with
  |false=>exact plain λk=>copy_tame _ _ _
  |true=>
   cases x with
   |tmp n'=>
    have:n'=n:=by simpa[oe]using hk
    subst this;refine⟨?_,hg.glob,by rw[put_size,hg.sz]⟩;rw[put_get _ (hg.sz▸hd)];have:=hg.inv.move (d:=d) (s:=n');have e1:(λm=>if d=m then a.eval (.tmp n') else a.tmps.getD m undef)=λn=>if d=n then a.tmps.getD n' undef else if n'=n then a.tmps.getD n' undef else a.tmps.getD n undef:=by
     funext m
     by_cases h1:d=m
     ·simp[h1,Act.eval]
     ·by_cases h2:n'=m
      ·subst h2;simp[h1]
      ·simp[h1,h2]
    rw[e1];have e2:find ((d,Opd.ev s.e (.t n' true))::Opd.clear s.e (.t n' true))=λn=>if d=n then find s.e n' else if n'=n then (find s.e n').copy else find s.e n:=by simp only[Opd.ev,Opd.clear,findF_eq];rfl
    rw[e2];exact this
   |const v=>simp[oe]at hk
   |global g=>simp[oe]at hk
   |func f=>simp[oe]at hk
 |c dd=>
  refine plain λk=>?_;cases x with
  |tmp n=>simp[oe]at hk
  |global n=>simp[oe]at hk
  |const v=>
   rcases oe_const hk with hk|⟨cs,xs,rfl,rfl⟩
   case inr=>exact own_v _ _ _
   simp only[Opd.ev,Act.eval];unfold constD at hk;split at hk
   ·cases k<;>simp[ownAt,own1]
   ·cases k<;>simp[ownAt,own1]
   ·exact own_v _ _ _
   ·cases hk
  |func f=>
   cases dd<;>simp[oe]at hk
   exact own_v _ _ _
 |g n cs=>exact plain λk=>own_v _ _ _
theorem zip_rep_row {g:Gh} {w:World} {μ:List Nat} {vs:List Value} {zs:List D} (h:zipOK constD vs zs=true):
  All2 (RepE g w μ) zs vs∧(∀v∈vs,v.oneCell'=true)∧∀(i:Nat) z v,zs[i]?=some z→vs[i]?=some v→own1 z v=none:=by
 have key:∀v d,constD v d=true→RepE g w μ d v∧v.oneCell'=true∧own1 d v=none:=by
  intro v d hvd;unfold constD at hvd;split at hvd
  ·exact⟨⟨none,rfl,by simp⟩,rfl,rfl⟩
  ·exact⟨⟨.inl ⟨none,rfl,rfl,by simp⟩,λ_ _=>⟨none,rfl⟩⟩,rfl,rfl⟩
  ·exact⟨constV_rep hvd,constV_one hvd,by simp[own1]⟩
  ·cases hvd
 have ha:All2 (λd v=>RepE g w μ d v∧v.oneCell'=true∧own1 d v=none) zs vs:=zipOK_all2 (λv d h=>key v d h) h;refine⟨ha.imp λ_ _ h=>h.1,λv hv=>?_,λi z v hz hv=>(ha.2 i z v hz hv).2.2⟩;obtain⟨i,hi,rfl⟩:=List.mem_iff_getElem.1 hv;have hi':i <zs.length:=ha.1▸hi;exact(ha.2 i _ _ (List.getElem?_eq_getElem hi') (List.getElem?_eq_getElem hi)).2.1
theorem Gs.newRow {g:Gh} {w:World} {μ:List Nat} {s:St} {a:Act} {O:Nat→Prop} (hg:Gs GL N g w μ s a O) {d:Nat} (hd:d <N) {zs:List D} {vs:List Value} (T:TypeId)
  (ha:All2 (RepE g w μ) zs vs) (h1:∀v∈vs,v.oneCell'=true) (h0:∀(i:Nat) z v,zs[i]?=some z→vs[i]?=some v→own1 z v=none):
  Gs GL N g (w.alloc (.cells vs.toArray T)) (μ++[w.heap.size]) ⟨(d,.ref s.h.length 0)::s.e,s.h++[.cells zs]⟩ (a.put (some d) (.pointer (some ⟨w.heap.size,0,none⟩))) O where
 inv:=by
  rw[put_get _ (hg.sz▸hd)];refine(hg.inv.newRow T ha.p h1 h0).set ⟨w.heap.size,?_,rfl⟩ λk=>own_ref _ _ _ _;rw[←hg.inv.len];simp
 glob:=hg.glob
 sz:=by rw[put_size,hg.sz]
theorem alloc_ok {o:Oper} {d t:Nat} {zs:List D} (ho:o.dst=some d) (hop:o.op= .alloc t) (hd:d <N) (hz:zeroIs P t zs=true):EffOK P GL N o (.alloc d zs):=by
 intro g w μ s s' a O hg hs;simp only[AI.step,Option.some.injEq]at hs;subst hs;unfold zeroIs at hz;split at hz
 ·rename_i z hzz;cases hit:P.info? t with
  |none=>simp[hit]at hzz
  |some it=>
   have hz1:it.zero=some z:=by simpa[hit]using hzz
   obtain⟨r1,r2,r3⟩:=zip_rep_row (g:=g) (w:=w) (μ:=μ) hz;refine⟨_,_,g,_,.inl ?_,by rw[ho];exact hg.newRow hd t r1 r2 r3,chg_alloc _ g w _,List.prefix_append _ _⟩;simp[execOp,hop,Instr.alloc,zeroValue,typeInfo,hit,hz1,newVar,newRow]
 ·cases hz
theorem toRow_rep {g:Gh} {w:World} {μ:List Nat} {d:D} {v:Value} (h:RepE g w μ d v) (h0:∀u,own1 d u=none):RepE g w μ d.toRow v∧own1 d.toRow v=none:=by
 cases d<;>first
  |exact⟨h,h0 v⟩
  |(obtain⟨a,rfl,hs⟩:=h
    exact⟨⟨.inl ⟨a,rfl,rfl,hs⟩,λ_ _=>⟨a,rfl⟩⟩,by cases a<;>simp[D.toRow,own1]⟩)
theorem cells_row {g:Gh} {w:World} {μ:List Nat} {d:D} {u:Value} (h:RepD g w μ d u) {cs:List D} (hc:d.cells?=some cs):
  All2 (RepE g w μ) (cs.map D.toRow) u.cells.toList∧(∀v∈u.cells.toList,v.oneCell'=true)∧∀(i:Nat) z v,(cs.map D.toRow)[i]?=some z→u.cells.toList[i]?=some v→own1 z v=none:=by
 obtain⟨h1,h2,h3⟩:=dcells h hc;refine⟨⟨by simp[h1.1],λi x v hx hv=>?_⟩,h2,λi z v hz hv=>?_⟩
 ·simp only[List.getElem?_map,Option.map_eq_some_iff]at hx;obtain⟨y,hy,rfl⟩:=hx;exact(toRow_rep (h1.2 i y v hy hv) (h3 y (List.mem_of_getElem? hy))).1
 ·simp only[List.getElem?_map,Option.map_eq_some_iff]at hz;obtain⟨y,hy,rfl⟩:=hz;exact(toRow_rep (h1.2 i y v hy hv) (h3 y (List.mem_of_getElem? hy))).2
theorem cells_rowX {g:Gh} {w:World} {μ:List Nat} {d:D} {u:Value} (h:RepD g w μ d u) {cs:List D} (hc:d.cells?=some cs) (x:Opd) (n:Nat):
  All2 (RepE g w μ) (cs.map (D.toRowX x n)) u.cells.toList∧(∀v∈u.cells.toList,v.oneCell'=true)∧∀(i:Nat) z v,(cs.map (D.toRowX x n))[i]?=some z→u.cells.toList[i]?=some v→own1 z v=none:=by
 have hf:D.toRowX x n=D.toRow∨D.toRowX x n=id:=by
  unfold D.toRowX;split
  ·split
   ·exact .inl rfl
   ·exact .inr rfl
  ·exact .inl rfl
 rcases hf with hf|hf
 ·rw[hf];exact cells_row h hc
 ·rw[hf,List.map_id];obtain⟨h1,h2,h3⟩:=dcells h hc;exact⟨h1,h2,λi z v hz hv=>h3 z (List.mem_of_getElem? hz) v⟩
theorem box_ok {o:Oper} {d t:Nat} {x:Operand} {q:Opd} (ho:o.dst=some d) (hop:o.op= .box t x) (hd:d <N) (hk:oe GL x q=true):EffOK P GL N o (.box d q):=by
 intro g w μ s s' a O hg hs;simp only[AI.step]at hs;split at hs
 ·rename_i cs hcs;simp only[Option.some.injEq]at hs;subst hs;obtain⟨r1,r2,r3⟩:=cells_row ((hg.gd P).ev hk).copy hcs;refine⟨_,_,g,_,.inl ?_,by rw[ho];exact hg.newRow hd t r1 r2 r3,chg_alloc _ g w _,List.prefix_append _ _⟩;simp[execOp,hop,Instr.box,newVar,newRow]
 ·cases hs
theorem not_both (O:Nat→Prop) {g:Gh} {w:World} {μ:List Nat} {s:St} {a:Act} (hg:Gs GL N g w μ s a O) {b:Nat} (hb:b∈μ):∀x,x=b→¬O x:=λx hx=>hx▸hg.inv.mo b hb
theorem store_ok {o:Oper} {t n:Nat} {p x:Operand} {p' q:Opd} (ho:o.dst=none) (hop:o.op= .store t p x) (hp:oe GL p p'=true) (hk:oe GL x q=true) (hsz:sizeIs P t n=true):
  EffOK P GL N o (.store p' q n):=by
 intro g w μ s s' a O hg hs;simp only[AI.step]at hs;have hrp:=(hg.gd P).ev hp;have hrx:=(hg.gd P).ev hk;split at hs
 ·rename_i r off hc;rw[hc]at hrp;obtain⟨b,hb,hpv⟩:=hrp;have hbm:=List.mem_of_getElem? hb;split at hs
  ·rename_i ds hr;obtain⟨vs,T,hheap,hall,hone,hgn⟩:=hg.inv.row hb hr;have hrun:∀u:Value,a.eval x=u→u.cells.size=n→off+n≤vs.length→(∀v∈u.cells.toList,v.oneCell'=true)→
     (execOp a.eval o).run P w= .ok .skip (w.setRow b (putL vs off u.cells.toList).toArray):=by
    intro u hu hun hl h1;have hst:=run_storeCells_at P b off T u.cells.toList 0 vs.toArray w hheap (by simp;omega) h1;simp only[Nat.add_zero]at hst;simp[execOp,hop,hpv,hu,Instr.storeAt,Instr.sureAddr,storeVar,run_sizeOf hsz,hun,putL]at hst ⊢;simp[hst]
   split at hs
   ·rename_i e sz xs hown;split at hs
    ·rename_i m;split at hs
     ·rename_i hcond;obtain⟨hlt,rfl⟩:=hcond;simp only[Option.some.injEq]at hs;subst hs;cases x with
      |tmp m'=>
       have:m'=m:=by simpa[oe]using hk
       subst this;have hfind:find s.e m'= .own e sz xs:=by simpa[Opd.ev]using hown
       have hrep:RepOwn g w e sz xs (a.tmps.getD m' undef):=by have:=hg.inv.rep m';rw[hfind]at this;exact this.1
       have hone1:(a.tmps.getD m' undef).oneCell'=true:=by
        rcases hrep with ⟨a',h,_⟩|⟨_,_,_,_,h,_⟩<;>rw[h]<;>rfl
       have hcell:(a.tmps.getD m' undef).cells= #[a.tmps.getD m' undef]:=cells_of_one hone1;have hgive:=hg.inv.give hr hb hheap hlt hfind hone1;refine⟨undef,_,g,μ,.inr ⟨hrun (a.tmps.getD m' undef) rfl (by rw[hcell];rfl) (by have:=hall.1;omega) (by rw[hcell];simpa using hone1),rfl⟩,⟨?_,hg.glob,by rw[put_size,hg.sz]⟩,?_,List.prefix_refl _⟩
       ·rw[ho];refine Eq.mp ?_ hgive
        congr 1
        ·congr 1
         rw[hcell]
         congr 1
         have hlv:off <vs.length:=Nat.lt_of_lt_of_le hlt hall.1;simp only[putL,List.length_cons,List.length_nil];rw[List.set_eq_take_append_cons_drop,if_pos hlv];simp
       ·exact(chg_setRow g w b _).mono (not_both O hg hbm)
      |const v=>simp[oe]at hk
      |global g=>simp[oe]at hk
      |func f=>simp[oe]at hk
     ·cases hs
    ·cases hs
   ·rename_i bb e sz xs hown;split at hs
    ·rename_i m;split at hs
     ·rename_i hcond;obtain⟨hlt,rfl⟩:=hcond;simp only[Option.some.injEq]at hs;subst hs;cases x with
      |tmp m'=>
       have:m'=m:=by simpa[oe]using hk
       subst this;have hfind:find s.e m'= .pend bb e sz xs:=by simpa[Opd.ev]using hown
       have hrep:RepE g w μ (.pend bb e sz xs) (a.tmps.getD m' undef):=by have:=hg.inv.rep m';rw[hfind]at this;exact this
       have hone1:(a.tmps.getD m' undef).oneCell'=true:=by
        obtain⟨cap,h,_⟩:=hrep;rw[h];rfl
       have hcell:(a.tmps.getD m' undef).cells= #[a.tmps.getD m' undef]:=cells_of_one hone1;have hgive:=hg.inv.giveD hr hb hheap hlt hfind hrep rfl hone1 (d1:= .pptr bb 0 xs.length) (λw'=>by
        obtain⟨cap,h,_⟩:=hrep;exact .inl ⟨rfl,cap,h⟩) (λj=>by cases j<;>simp[ownAt,own1])
       refine⟨undef,_,g,μ,.inr ⟨hrun (a.tmps.getD m' undef) rfl (by rw[hcell];rfl) (by have:=hall.1;omega) (by rw[hcell];simpa using hone1),rfl⟩,⟨?_,hg.glob,by rw[put_size,hg.sz]⟩,?_,List.prefix_refl _⟩
       ·rw[ho];refine Eq.mp ?_ hgive
        congr 1
        ·congr 1
         rw[hcell]
         congr 1
         have hlv:off <vs.length:=Nat.lt_of_lt_of_le hlt hall.1;simp only[putL,List.length_cons,List.length_nil];rw[List.set_eq_take_append_cons_drop,if_pos hlv];simp
       ·exact(chg_setRow g w b _).mono (not_both O hg hbm)
      |const v=>simp[oe]at hk
      |global g=>simp[oe]at hk
      |func f=>simp[oe]at hk
     ·cases hs
    ·cases hs
   ·rename_i dd hne _;split at hs
    ·rename_i cs hcs;split at hs
     ·rename_i hcond;simp only[Option.some.injEq]at hs;subst hs;obtain⟨r1,r2,r3⟩:=cells_rowX hrx.copy hcs q n;have hlen:(a.eval x).cells.size=n:=by have:=r1.1;simp at this;omega
      have hvl:ds.length≤vs.length:=hall.1;have hcl:cs.length=n:=hcond.1;refine⟨undef,_,g,μ,.inr ⟨hrun (a.eval x) rfl hlen (by omega) r2,rfl⟩,⟨?_,hg.glob,by rw[put_size,hg.sz]⟩,(chg_setRow g w b _).mono (not_both O hg hbm),List.prefix_refl _⟩;rw[ho];refine hg.inv.storeRow hr hb hheap _ (putL vs off (a.eval x).cells.toList) (hall.putL r1 (by simp;omega)) (λv hv=>(putL_mem hv).elim (hone v) (r2 v)) ?_;intro i z v hz hv;rw[putL_get _ _ _ (by simp;omega)]at hz hv;have hl1:(cs.map (D.toRowX q n)).length=n:=by simp[hcl]
      have hl2:(a.eval x).cells.toList.length=n:=by simpa using hlen
      rw[hl1]at hz;rw[hl2]at hv;by_cases c1:i <off
      ·simp only[c1,if_true]at hz hv;exact .inr ⟨hz,hv⟩
      ·by_cases c2:i <off+n
       ·simp only[c1,c2,if_true,if_false]at hz hv;exact .inl (r3 _ z v hz hv)
       ·simp only[c1,c2,if_false]at hz hv;exact .inr ⟨hz,hv⟩
     ·cases hs
    ·cases hs
  ·cases hs
 ·cases hs
theorem take_ok {o:Oper} {d t el:Nat} {p:Operand} {p':Opd} (ho:o.dst=some d) (hop:o.op= .load t p) (hd:d <N) (hp:oe GL p p'=true) (hu:P.underlying t=some (.slice el)):
  EffOK P GL N o (.take d p'):=by
 intro g w μ s s' a O hg hs;simp only[AI.step]at hs;have hrp:=(hg.gd P).ev hp;split at hs
 ·rename_i r off hc;rw[hc]at hrp;obtain⟨b,hb,hpv⟩:=hrp;split at hs
  ·rename_i ds hr;obtain⟨vs,T,hheap,hall,hone,hgn⟩:=hg.inv.row hb hr;split at hs
   ·rename_i e sz xs hk;simp only[Option.some.injEq]at hs;subst hs;obtain⟨v,hv,_⟩:=hall.get hk;have hcell:w.cell? ⟨b,off,none⟩=some v:=by simp[World.cell?,hheap,hv]
    have hcu:cellU w μ r off=v:=cellU_of hb hheap hv;refine⟨v,w,g,μ,.inl ?_,⟨?_,hg.glob,by rw[put_size,hg.sz]⟩,Chg.refl _ _ _,List.prefix_refl _⟩
    ·have hag:(isAgg t).run P w= .ok false w:=by simp[isAgg,run_underlying hu]
     simp[execOp,hop,hpv,Instr.loadAt,Instr.sureAddr,loadVar,hag,hcell]
    ·rw[ho,put_get _ (hg.sz▸hd),←hcu];exact hg.inv.take hr hk
   ·cases hs
  ·cases hs
 ·cases hs
end
def flat (n:Nat) (vs:Nat→Value):List Value:=(List.range n).flatMap λi=>(vs i).cells.toList
theorem flat_succ (n:Nat) (vs:Nat→Value):flat (n+1) vs=flat n vs++(vs n).cells.toList:=by simp[flat,List.range_succ]
theorem flat_len {n s:Nat} {vs:Nat→Value} (h:∀i,i <n→(vs i).cells.size=s):(flat n vs).length=n*s:=by
 induction n with
 |zero=>simp[flat]
 |succ n ih=>rw[flat_succ,List.length_append,ih λi hi=>h i (by omega),Nat.add_mul];simp[h n (by omega)]
theorem flat_get {n s:Nat} {vs:Nat→Value} (h:∀i,i <n→(vs i).cells.size=s) {i j:Nat} (hi:i <n) (hj:j <s):(flat n vs)[i*s+j]?=(vs i).cells.toList[j]?:=by
 induction n with
 |zero=>omega
 |succ n ih=>
  have hl:=flat_len λi (hi:i <n)=>h i (by omega);rw[flat_succ];by_cases h1:i <n
  ·have:i*s+j <n*s:=by
    have:(i+1)*s≤n*s:=Nat.mul_le_mul_right s h1;rw[Nat.add_mul]at this;omega
   rw[List.getElem?_append_left (by rw[hl];exact this)];exact ih (λi hi=>h i (by omega)) h1
  ·have:i=n:=by omega
   subst this;rw[List.getElem?_append_right (by rw[hl];omega),hl]
   congr 1;omega
theorem flat_mem {n:Nat} {vs:Nat→Value} {v:Value} (h:v∈flat n vs):∃i,i <n∧v∈(vs i).cells.toList:=by
 simp only[flat,List.mem_flatMap,List.mem_range]at h;exact h
theorem flat_at {n s:Nat} {vs:Nat→Value} (hs:0 <s) (h:∀i,i <n→(vs i).cells.size=s) {f:Nat→Option Value} {o:Nat}
  (hf:∀i,i <n→∀(j:Nat) v,(vs i).cells.toList[j]?=some v→f (o+i*s+j)=some v):∀(k:Nat) v,(flat n vs)[k]?=some v→f (o+k)=some v:=by
 intro k v hv;have hl:=flat_len h;have hk:=(List.getElem?_eq_some_iff.1 hv).1;rw[hl]at hk;have hq:k/s <n:=Nat.div_lt_of_lt_mul (by rw[Nat.mul_comm];exact hk);have hm:=Nat.mod_lt k hs;have he:k/s*s+k%s=k:=by rw[Nat.mul_comm];exact Nat.div_add_mod k s
 rw[←he,flat_get h hq hm]at hv;have:=hf _ hq _ v hv
 rwa [Nat.add_assoc,he]at this
section
variable {P:Program} {GL:Globals} {N:Nat}
structure Src (P:Program) (w:World) (size:Nat) (src:Value) (n:Nat) (newc:List Value):Prop where
 len:∀w',(Builtin.lenOf src).run P w'= .ok n w'
 cells:(Builtin.firstCells size n src).run P w= .ok newc.toArray w
 drew:(Builtin.firstCells size n src).run P w.drew= .ok newc.toArray w.drew
theorem run_app_same {w:World} {t t2 ty e:Nat} {i:TypeInfo} {d2:TypeDesc} (ht:P.underlying t=some (.slice e)) (ht2:P.underlying t2=some d2) (hd2:∀k,d2≠ .int k) (hi:P.info? e=some i)
  {src:Value} {newc:List Value} (hsrc:Src P w i.size src 0 newc) (hn:newc=[]) (base:Option Addr) (len cap:Nat) (hc:len≤cap):
  (Builtin.append_ #[t,t2] ty #[.slice base len cap,src]).run P w= .ok (.slice base len cap) w:=by
 have hz:(match (generalizing:=false) d2 with| .int _=>true|_=>false)=false:=by cases d2<;>first|rfl|exact absurd rfl (hd2 _)
 cases base<;>simp[Builtin.append_,run_underlying ht,run_underlying ht2,sizeOf,typeInfo,hi,hz,hsrc.len,hsrc.cells,hc,hn,storeCells]
theorem run_app_room {w:World} {t t2 ty e:Nat} {i:TypeInfo} {d2:TypeDesc} (ht:P.underlying t=some (.slice e)) (ht2:P.underlying t2=some d2) (hd2:∀k,d2≠ .int k) (hi:P.info? e=some i)
  {src:Value} {n:Nat} {newc:List Value} (hsrc:Src P w i.size src n newc) {g len cap:Nat} {cur:Array Value} (hg:w.heap[g]?=some (.cells cur e (0,0))) (hroom:len+n≤cap)
  (hfit:len*i.size+newc.length≤cur.size) (h1:∀v∈newc,v.oneCell'=true):
  (Builtin.append_ #[t,t2] ty #[.slice (some ⟨g,0,none⟩) len cap,src]).run P w=
   .ok (.slice (some ⟨g,0,none⟩) (len+n) cap) (w.setRow g (putL cur.toList (len*i.size) newc).toArray):=by
 have hz:(match (generalizing:=false) d2 with| .int _=>true|_=>false)=false:=by cases d2<;>first|rfl|exact absurd rfl (hd2 _)
 have hst:=run_storeCells_at P g (len*i.size) e newc 0 cur w hg (by simpa using hfit) h1;simp only[Nat.add_zero]at hst;have hadd:(⟨g,0,none⟩:Addr).add (len*i.size)=⟨g,len*i.size,none⟩:=by rw[addr_add rfl];simp
 simp[Builtin.append_,run_underlying ht,run_underlying ht2,sizeOf,typeInfo,hi,hz,hsrc.len,hsrc.cells,hroom,hadd,hst,putL]
theorem run_app_grow {w:World} {t t2 ty e:Nat} {i:TypeInfo} {z:Value} {d2:TypeDesc} (ht:P.underlying t=some (.slice e)) (ht2:P.underlying t2=some d2) (hd2:∀k,d2≠ .int k) (hi:P.info? e=some i)
  (hz:i.zero=some z) {src:Value} {n:Nat} {newc:List Value} (hsrc:Src P w i.size src n newc) {base:Option Addr} {len cap:Nat} {olds:List Value}
  (hold:∀w',(∀b o,w'.cell? ⟨b,o,none⟩=w.cell? ⟨b,o,none⟩)→(Builtin.firstCells i.size len (.slice base len cap)).run P w'= .ok olds.toArray w')
  (hgr:cap <len+n) (h63:((len+n:Nat):Int)≤9223372036854775807) (hfit:Builtin.nextslicecap (len+n) cap*i.bytes≤281474976710656):
  (Builtin.append_ #[t,t2] ty #[.slice base len cap,src]).run P w=
   .ok (.slice (some ⟨w.heap.size,0,none⟩) (len+n) (grownCap w (len+n) cap e))
    (w.drew.alloc (.cells (olds.toArray++newc.toArray++Builtin.zeroCells z.cells (grownCap w (len+n) cap e-(len+n))) e)):=by
 have hzz:(match (generalizing:=false) d2 with| .int _=>true|_=>false)=false:=by cases d2<;>first|rfl|exact absurd rfl (hd2 _)
 have hn:¬(len+n≤cap):=by omega
 have h63':¬(9223372036854775807 <((len:Int)+(n:Int))):=by omega
 have h48':¬(281474976710656 <Builtin.nextslicecap (len+n) cap*i.bytes):=by omega
 have ho:=hold w.drew λ_ _=>rfl;simp[Builtin.append_,run_underlying ht,run_underlying ht2,sizeOf,typeInfo,zeroValue,hi,hz,hzz,hsrc.len,hn,h63',h48',Question.forced,ho,hsrc.drew,newRow,grownCap];rw[←Array.append_assoc];simp
theorem grown_fits {n by_ cap:Nat} (h:roomy n by_=true) (hc:cap <n):((n:Nat):Int)≤9223372036854775807∧Builtin.nextslicecap n cap*by_≤281474976710656:=by
 simp only[roomy,decide_eq_true_eq]at h;exact⟨by omega,growslice_fits hc h.1⟩
theorem app_core {g:Gh} {w:World} {μ:List Nat} {s:St} {a:Act} {O:Nat→Prop} (hg:Gs GL N g w μ s a O) {t t2 ty e:Nat} {i:TypeInfo} {z:Value} {d2:TypeDesc}
  (ht:P.underlying t=some (.slice e)) (ht2:P.underlying t2=some d2) (hd2:∀k,d2≠ .int k) (hi:P.info? e=some i) (hz:i.zero=some z) (hzs:z.cells.size=i.size) (hs0:0 <i.size)
  {x:Operand} {q:Opd} (hk:oe GL x q=true) {xs:List V} (hx:ownOf e i.size (q.ev s.e)=some xs) (hmv:∀e' s' ys,q.ev s.e= .own e' s' ys→(∃m,q= .t m true)∨a.eval x= .slice none 0 0)
  {src:Value} {ys:List V} {vy:Nat→Value} (hsrc:Src P w i.size src ys.length (flat ys.length vy)) (hyr:∀j y,ys[j]?=some y→RepV g y (vy j)) (hyz:∀j,j <ys.length→(vy j).cells.size=i.size)
  (hy1:∀j,j <ys.length→∀v∈(vy j).cells.toList,v.oneCell'=true) (hroom:roomy (xs.length+ys.length) i.bytes=true) {d:Nat} (hd:d <N):
  ∃v w' g',(Builtin.append_ #[t,t2] ty #[a.eval x,src]).run P w= .ok v w'∧Gs GL N g' w' μ ⟨(d,.own e i.size (xs++ys))::q.clear s.e,s.h⟩ (a.put (some d) v) O∧Chg (λb=>¬O b) g w g' w':=by
 have hfl:(flat ys.length vy).length=ys.length*i.size:=flat_len hyz;have hf1:∀v∈flat ys.length vy,v.oneCell'=true:=λv hv=>by obtain⟨j,hj,hm⟩:=flat_mem hv;exact hy1 j hj v hm
 have hclear:find (q.clear s.e)=find s.e∨∃m,q= .t m true∧find (q.clear s.e)=λn=>if m=n then (find s.e m).copy else find s.e n:=by
  cases q with
  |t m mv=>cases mv with
   |false=>exact .inl rfl
   |true=>exact .inr ⟨m,rfl,by simp only[Opd.clear,findF_eq];rfl⟩
  |c d=>exact .inl rfl
  |g n cs=>exact .inl rfl
 have hInvC:Inv g w μ (find (q.clear s.e)) (λn=>a.tmps.getD n undef) s.h O:=by
  rcases hclear with h|⟨m,_,h⟩
  ·rw[h];exact hg.inv
  ·rw[h];refine hg.inv.weaken _ λn=>?_;by_cases hn:m=n
   ·subst hn;exact .inr ⟨λv h=>by simpa using RepD.copy h,λv k=>by simpa using copy_tame _ v k⟩
   ·exact .inl (by simp[hn])
 have newA:∀(base:Option Addr) (cap:Nat) (olds:List Value) (vs:Nat→Value),a.eval x= .slice base xs.length cap→cap <xs.length+ys.length→
   (∀j y,xs[j]?=some y→RepV g y (vs j))→(∀j,j <xs.length→(vs j).cells.size=i.size)→olds=flat xs.length vs→
   (∀w',(∀b o,w'.cell? ⟨b,o,none⟩=w.cell? ⟨b,o,none⟩)→(Builtin.firstCells i.size xs.length (.slice base xs.length cap)).run P w'= .ok olds.toArray w')→
   ∃v w' g',(Builtin.append_ #[t,t2] ty #[a.eval x,src]).run P w= .ok v w'∧Gs GL N g' w' μ ⟨(d,.own e i.size (xs++ys))::q.clear s.e,s.h⟩ (a.put (some d) v) O∧Chg (λb=>¬O b) g w g' w':=by
  intro base cap olds vs hev hgr hvr hvz hol hold;obtain⟨hf63,hfit⟩:=grown_fits hroom hgr;have hrun:=run_app_grow (ty:=ty) ht ht2 hd2 hi hz hsrc hold hgr hf63 hfit;have hge:=grownCap_ge w (xs.length+ys.length) cap e;have hol2:olds.length=xs.length*i.size:=by rw[hol];exact flat_len hvz
  have hcl:(olds++flat ys.length vy).length=(xs.length+ys.length)*i.size:=by rw[List.length_append,hol2,hfl,Nat.add_mul]
  let w':=w.drew.alloc (.cells (olds.toArray++(flat ys.length vy).toArray++Builtin.zeroCells z.cells (grownCap w (xs.length+ys.length) cap e-(xs.length+ys.length))) e)
  let g':=g.put w.heap.size 0 (olds++flat ys.length vy)
  have hnone:∀o,g.m w.heap.size o=none:=λo=>Gh.lt_of hg.inv.agree (Nat.le_refl _) o;have hgle:g.le g':=Gh.le_put _ λo _ _=>hnone o;have hheap:w'.heap[w.heap.size]?=some (.cells (olds.toArray++(flat ys.length vy).toArray++Builtin.zeroCells z.cells (grownCap w (xs.length+ys.length) cap e-(xs.length+ys.length))) e (0,0)):=
   heap_alloc_new w.drew _
  have hchg:Chg (λ_=>False) g w g' w':=
   ⟨hgle,by simp[w'],λb hb _=>heap_alloc_old w.drew _ b hb,λb hb _ o=>Gh.put_other (by omega) o,rfl,rfl⟩
  have hag:∀b o v,g'.m b o=some v→w'.cell? ⟨b,o,none⟩=some v:=by
   intro b o v hv;simp only[g',Gh.put]at hv;split at hv
   ·rename_i hc;obtain⟨rfl,_,hc2⟩:=hc;simp only[Nat.sub_zero]at hv;rw[cell_of_row w' w.heap.size o _ e (0,0) hheap];simp only[←Array.getElem?_toList,Array.toList_append,List.append_assoc];rw[←List.append_assoc,List.getElem?_append_left (by simpa using hc2)];exact hv
   ·exact agree_alloc (w:=w.drew) hg.inv.agree _ b o v hv
  have hrep:RepOwn g' w' e i.size (xs++ys) (.slice (some ⟨w.heap.size,0,none⟩) (xs.length+ys.length) (grownCap w (xs.length+ys.length) cap e)):=by
   refine .inr ⟨w.heap.size,_,_,λj=>if j <xs.length then vs j else vy (j-xs.length),by rw[List.length_append],by omega,hheap,by rw[List.length_append];exact hge,?_,?_,?_,?_⟩
   ·simp only[Array.size_append,List.size_toArray,size_zeroCells,hzs,hol2,hfl,←Nat.add_mul]
    congr 1;omega
   ·intro j y hj;by_cases hlt:j <xs.length
    ·simp only[hlt,if_true];rw[List.getElem?_append_left hlt]at hj;exact(hvr j y hj).mono hgle
    ·simp only[hlt,if_false];rw[List.getElem?_append_right (by omega)]at hj;exact(hyr _ y hj).mono hgle
   ·intro j hj;rw[List.length_append]at hj;by_cases hlt:j <xs.length
    ·simp only[hlt,if_true];refine⟨hvz j hlt,λk v hv=>?_⟩;have hk:=(List.getElem?_eq_some_iff.1 hv).1;have hks:k <i.size:=by have:=hvz j hlt;simp at hk;omega
     have:=Gh.put_at g w.heap.size 0 (olds++flat ys.length vy) (j*i.size+k) v (by
      have hb:j*i.size+k <xs.length*i.size:=by
       have:(j+1)*i.size≤xs.length*i.size:=Nat.mul_le_mul_right _ hlt;rw[Nat.add_mul]at this;omega
      rw[List.getElem?_append_left (by rw[hol2];exact hb),hol,flat_get hvz hlt hks];exact hv)
     simpa using this
    ·simp only[hlt,if_false];have hjl:j-xs.length <ys.length:=by omega
     refine⟨hyz _ hjl,λk v hv=>?_⟩;have hk:=(List.getElem?_eq_some_iff.1 hv).1;have hks:k <i.size:=by have:=hyz _ hjl;simp at hk;omega
     have hje:j*i.size=xs.length*i.size+(j-xs.length)*i.size:=by rw[←Nat.add_mul];congr 1;omega
     have:=Gh.put_at g w.heap.size 0 (olds++flat ys.length vy) (j*i.size+k) v (by
      rw[List.getElem?_append_right (by rw[hol2];omega),hol2,show j*i.size+k-xs.length*i.size=(j-xs.length)*i.size+k by omega,flat_get hyz hjl hks];exact hv)
     simpa using this
   ·intro o ho;simp only[g',Gh.put];rw[if_neg,hnone o];rw[hcl];rw[List.length_append]at ho;omega
  refine⟨_,w',g',by rw[hev];exact hrun,⟨?_,hg.glob.mono hgle,by rw[put_size,hg.sz]⟩,hchg.mono λ_ h=>h.elim⟩;rw[put_get _ (hg.sz▸hd)];refine hInvC.newOwn hchg hag hrep (λh _=>by rw[←List.length_append,h]at hgr;simp at hgr) λb hb=>?_;simp only[own1]at hb;split at hb
  ·cases hb
  ·simp only[Option.some.injEq]at hb;omega
 have same:∀(base:Option Addr) (cap:Nat),a.eval x= .slice base xs.length cap→xs.length≤cap→ys=[]→
   (Gs GL N g w μ ⟨(d,.own e i.size (xs++ys))::q.clear s.e,s.h⟩ (a.put (some d) (a.eval x)) O)→
   ∃v w' g',(Builtin.append_ #[t,t2] ty #[a.eval x,src]).run P w= .ok v w'∧Gs GL N g' w' μ ⟨(d,.own e i.size (xs++ys))::q.clear s.e,s.h⟩ (a.put (some d) v) O∧Chg (λb=>¬O b) g w g' w':=by
  intro base cap hev hc hy0 hgs;subst hy0;exact⟨a.eval x,w,g,by rw[hev];exact run_app_same ht ht2 hd2 hi hsrc rfl base _ _ hc,hgs,Chg.refl _ _ _⟩
 have empty:∀base:Option Addr,a.eval x= .slice base 0 0→xs=[]→(∀y,base=some y→y.spot=none)→
   ∃v w' g',(Builtin.append_ #[t,t2] ty #[a.eval x,src]).run P w= .ok v w'∧Gs GL N g' w' μ ⟨(d,.own e i.size (xs++ys))::q.clear s.e,s.h⟩ (a.put (some d) v) O∧Chg (λb=>¬O b) g w g' w':=by
  intro base hev hx0 hsp;subst hx0;by_cases hy0:ys=[]
  ·refine same base 0 hev (Nat.le_refl _) hy0 ⟨?_,hg.glob,by rw[put_size,hg.sz]⟩;rw[put_get _ (hg.sz▸hd),hev];subst hy0;refine hInvC.set (x:= .own e i.size []) ⟨.inl ⟨base,rfl,rfl,hsp⟩,λ_ _=>⟨base,rfl⟩⟩ λk=>?_;cases k<;>cases base<;>simp[ownAt,own1]
  ·have hpos:0 <ys.length:=List.length_pos_iff.2 hy0;refine newA base 0 [] (λ_=> .bool true) hev (by simpa using hpos) (by simp) (by simp) (by simp[flat]) λw' _=>?_;cases base<;>simp[Builtin.firstCells,loadCells,loadCellsFrom]
 have hrq:=(hg.gd P).ev hk;unfold ownOf at hx;split at hx
 ·rename_i e' s' xs' hqe;split at hx
  ·rename_i hes;obtain⟨rfl,rfl⟩:=hes;simp only[Option.some.injEq]at hx;subst hx;rw[hqe]at hrq;have hne0:=hrq.2;rcases hrq.1 with ⟨base,hev,hx0,hsp⟩|⟨b,cap,cur,vs,hev,hcap,hheap,hlc,hcs,hvr,hvz,hvn⟩
   ·exact empty base hev hx0 hsp
   ·have hold:∀w',(∀b o,w'.cell? ⟨b,o,none⟩=w.cell? ⟨b,o,none⟩)→(Builtin.firstCells i.size xs'.length (.slice (some ⟨b,0,none⟩) xs'.length cap)).run P w'= .ok (flat xs'.length vs).toArray w':=by
     intro w' hw';refine run_firstCells_some (P:=P) w' i.size xs'.length ⟨b,0,none⟩ _ _ _ (flat_len λj hj=>(hvz j hj).1) λk v hv=>?_;rw[addr_add rfl,hw'];refine flat_at (f:=λo=>w.cell? ⟨b,o,none⟩) (o:=0) hs0 (λj hj=>(hvz j hj).1) (λj hj k v hv=>?_) k v hv;have:=hg.inv.agree b _ v ((hvz j hj).2 k v hv);simpa using this
    by_cases hrm:xs'.length+ys.length≤cap
    ·rcases hmv e' i.size xs' hqe with ⟨m,rfl⟩|hnil
     ·cases x with
      |tmp m'=>
       have hmm:m'=m:=by simpa[oe]using hk
       subst hmm;have hfind:find s.e m'= .own e' i.size xs':=by simpa[Opd.ev]using hqe
       have hevt:a.tmps.getD m' undef= .slice (some ⟨b,0,none⟩) xs'.length cap:=hev;have hbo:own1 (find s.e m') (a.tmps.getD m' undef)=some b:=by rw[hfind,hevt];simp[own1];omega
       have hne:xs'++ys=[]→NoGrow e'→∃a:Option Addr,Value.slice (some ⟨b,0,none⟩) (xs'.length+ys.length) cap= .slice a 0 0:=λh h84=>by
        obtain⟨a',ha'⟩:=hne0 (List.append_eq_nil_iff.1 h).1 h84;rw[hev]at ha';simp at ha';omega
       have hfit:xs'.length*i.size+(flat ys.length vy).length≤cur.size:=by rw[hfl,hcs,←Nat.add_mul];exact Nat.mul_le_mul_right _ hrm
       have hrun:=run_app_room (ty:=ty) ht ht2 hd2 hi hsrc hheap hrm hfit hf1
       let w':=w.setRow b (putL cur.toList (xs'.length*i.size) (flat ys.length vy)).toArray
       let g':=g.put b (xs'.length*i.size) (flat ys.length vy)
       have hgle:g.le g':=Gh.le_put _ λo h1 _=>hvn o h1;have hheap':w'.heap[b]?=some (.cells (putL cur.toList (xs'.length*i.size) (flat ys.length vy)).toArray e' (0,0)):=setRow_heap w b _ _ _ _ hheap;have hchg:Chg (λz=>z=b) g w g' w':=⟨hgle,by simp[w'],λb' _ hb'=>setRow_other w b b' _ hb',λb' _ hb' o=>Gh.put_other hb' o,rfl,rfl⟩;have hag:∀b' o v,g'.m b' o=some v→w'.cell? ⟨b',o,none⟩=some v:=by
        intro b' o v hv;by_cases hb':b'=b
        ·subst hb';rw[cell_of_row w' b' o _ _ _ hheap',←Array.getElem?_toList,List.toList_toArray,putL_get _ _ _ (by simpa using hfit)];simp only[g',Gh.put]at hv;split at hv
         ·rename_i hc;rw[if_neg (by omega),if_pos hc.2.2];exact hv
         ·rename_i hc;have hc1:o <xs'.length*i.size:=by
           rcases Nat.lt_or_ge o (xs'.length*i.size)with h|h
           ·exact h
           ·rw[hvn o h]at hv;cases hv
          rw[if_pos hc1];have:=hg.inv.agree b' o v hv;rw[cell_of_row w b' o _ _ _ hheap]at this;rw[Array.getElem?_toList];exact this
        ·simp only[g',Gh.put_other hb']at hv;rw[World.cell?_of_block (a:=⟨b',o,none⟩) (setRow_other w b b' _ hb')];exact hg.inv.agree b' o v hv
       have hrep:RepOwn g' w' e' i.size (xs'++ys) (.slice (some ⟨b,0,none⟩) (xs'.length+ys.length) cap):=by
        refine .inr ⟨b,_,_,λj=>if j <xs'.length then vs j else vy (j-xs'.length),by rw[List.length_append],hcap,hheap',by rw[List.length_append];exact hrm,?_,?_,?_,?_⟩
        ·simp only[List.size_toArray];rw[putL_length _ _ _ (by simpa using hfit)];simpa using hcs
        ·intro j y hj;by_cases hlt:j <xs'.length
         ·simp only[hlt,if_true];rw[List.getElem?_append_left hlt]at hj;exact(hvr j y hj).mono hgle
         ·simp only[hlt,if_false];rw[List.getElem?_append_right (by omega)]at hj;exact(hyr _ y hj).mono hgle
        ·intro j hj;rw[List.length_append]at hj;by_cases hlt:j <xs'.length
         ·simp only[hlt,if_true];exact⟨(hvz j hlt).1,(hvz j hlt).2.mono hgle⟩
         ·simp only[hlt,if_false];have hjl:j-xs'.length <ys.length:=by omega
          refine⟨hyz _ hjl,λk v hv=>?_⟩;have hk:=(List.getElem?_eq_some_iff.1 hv).1;have hks:k <i.size:=by have:=hyz _ hjl;simp at hk;omega
          have hje:j*i.size=xs'.length*i.size+(j-xs'.length)*i.size:=by rw[←Nat.add_mul];congr 1;omega
          have:=Gh.put_at g b (xs'.length*i.size) (flat ys.length vy) ((j-xs'.length)*i.size+k) v (by rw[flat_get hyz hjl hks];exact hv)
          rwa [←Nat.add_assoc,←hje]at this
        ·intro o ho;rw[List.length_append,Nat.add_mul]at ho;simp only[g',Gh.put];rw[if_neg (by rw[hfl];omega)];exact hvn o (by omega)
       refine⟨_,w',g',by rw[hev];exact hrun,⟨?_,hg.glob.mono hgle,by rw[put_size,hg.sz]⟩,hchg.mono λz hz ho=>?_⟩
       ·rw[put_get _ (hg.sz▸hd)];have e2:find ((d,D.own e' i.size (xs'++ys))::Opd.clear s.e (.t m' true))=λn=>if d=n then .own e' i.size (xs'++ys) else if m'=n then (find s.e m').copy else find s.e n:=by simp only[Opd.clear,findF_eq];rfl
        rw[e2];exact hg.inv.growOwn (n:=m') hbo hchg hag hrep hne (by simp[own1];omega)
       ·subst hz;exact(hg.inv.sep (.tmp m' 0) z (by
         simp only[blk,hfind,hevt,ownAt,own1];rw[if_neg (by omega)])).2 ho
      |const v=>simp[oe]at hk
      |global g=>simp[oe]at hk
      |func f=>simp[oe]at hk
     ·rw[hnil]at hev;cases hev
    ·exact newA _ cap _ vs hev (by omega) hvr (λj hj=>(hvz j hj).1) rfl hold
  ·cases hx
 ·rename_i e' s' hqe;simp only[Option.some.injEq]at hx;rw[hqe]at hrq;obtain⟨base,hev,hsp⟩:=hrq;exact empty base hev hx.symm hsp
 ·cases hx
theorem appP_core {g:Gh} {w:World} {μ:List Nat} {s:St} {a:Act} {O:Nat→Prop} (hg:Gs GL N g w μ s a O) {t t2 ty e:Nat} {i:TypeInfo} {z:Value} {d2:TypeDesc}
  (ht:P.underlying t=some (.slice e)) (ht2:P.underlying t2=some d2) (hd2:∀k,d2≠ .int k) (hi:P.info? e=some i) (hz:i.zero=some z) (hzs:z.cells.size=i.size) (hs0:0 <i.size)
  {x:Operand} {q:Opd} (hk:oe GL x q=true) {xs:List V} (hx:ownOf e i.size (q.ev s.e)=some xs) (hmv:∀e' s' ys,q.ev s.e= .own e' s' ys→(∃m,q= .t m true)∨a.eval x= .slice none 0 0)
  {src:Value} {vy:Nat→Value} (hsrc:Src P w i.size src 1 (flat 1 vy)) (hyz:∀j,j <1→(vy j).cells.size=i.size)
  (hy1:∀j,j <1→∀v∈(vy j).cells.toList,v.oneCell'=true) (hroom:roomy (xs.length+1) i.bytes=true) {d:Nat} (hd:d <N):
  ∃v w' g' b,(Builtin.append_ #[t,t2] ty #[a.eval x,src]).run P w= .ok v w'∧Gs GL N g' w' μ ⟨(d,.pend b e i.size xs)::q.clear s.e,s.h⟩ (a.put (some d) v) O∧Chg (λb=>¬O b) g w g' w':=by
 have hfl:(flat 1 vy).length=1*i.size:=flat_len hyz;have hf1:∀v∈flat 1 vy,v.oneCell'=true:=λv hv=>by obtain⟨j,hj,hm⟩:=flat_mem hv;exact hy1 j hj v hm
 have hclear:find (q.clear s.e)=find s.e∨∃m,q= .t m true∧find (q.clear s.e)=λn=>if m=n then (find s.e m).copy else find s.e n:=by
  cases q with
  |t m mv=>cases mv with
   |false=>exact .inl rfl
   |true=>exact .inr ⟨m,rfl,by simp only[Opd.clear,findF_eq];rfl⟩
  |c d=>exact .inl rfl
  |g n cs=>exact .inl rfl
 have hInvC:Inv g w μ (find (q.clear s.e)) (λn=>a.tmps.getD n undef) s.h O:=by
  rcases hclear with h|⟨m,_,h⟩
  ·rw[h];exact hg.inv
  ·rw[h];refine hg.inv.weaken _ λn=>?_;by_cases hn:m=n
   ·subst hn;exact .inr ⟨λv h=>by simpa using RepD.copy h,λv k=>by simpa using copy_tame _ v k⟩
   ·exact .inl (by simp[hn])
 have newA:∀(base:Option Addr) (cap:Nat) (olds:List Value) (vs:Nat→Value),a.eval x= .slice base xs.length cap→cap <xs.length+1→
   (∀j y,xs[j]?=some y→RepV g y (vs j))→(∀j,j <xs.length→(vs j).cells.size=i.size)→olds=flat xs.length vs→
   (∀w',(∀b o,w'.cell? ⟨b,o,none⟩=w.cell? ⟨b,o,none⟩)→(Builtin.firstCells i.size xs.length (.slice base xs.length cap)).run P w'= .ok olds.toArray w')→
   ∃v w' g' b,(Builtin.append_ #[t,t2] ty #[a.eval x,src]).run P w= .ok v w'∧Gs GL N g' w' μ ⟨(d,.pend b e i.size xs)::q.clear s.e,s.h⟩ (a.put (some d) v) O∧Chg (λb=>¬O b) g w g' w':=by
  intro base cap olds vs hev hgr hvr hvz hol hold;obtain⟨hf63,hfit⟩:=grown_fits hroom hgr;have hrun:=run_app_grow (ty:=ty) ht ht2 hd2 hi hz hsrc hold hgr hf63 hfit;have hge:=grownCap_ge w (xs.length+1) cap e;have hol2:olds.length=xs.length*i.size:=by rw[hol];exact flat_len hvz
  let w':=w.drew.alloc (.cells (olds.toArray++(flat 1 vy).toArray++Builtin.zeroCells z.cells (grownCap w (xs.length+1) cap e-(xs.length+1))) e)
  let g':=g.put w.heap.size 0 olds
  have hnone:∀o,g.m w.heap.size o=none:=λo=>Gh.lt_of hg.inv.agree (Nat.le_refl _) o;have hgle:g.le g':=Gh.le_put _ λo _ _=>hnone o;have hheap:w'.heap[w.heap.size]?=some (.cells (olds.toArray++(flat 1 vy).toArray++Builtin.zeroCells z.cells (grownCap w (xs.length+1) cap e-(xs.length+1))) e (0,0)):=
   heap_alloc_new w.drew _
  have hchg:Chg (λ_=>False) g w g' w':=
   ⟨hgle,by simp[w'],λb hb _=>heap_alloc_old w.drew _ b hb,λb hb _ o=>Gh.put_other (by omega) o,rfl,rfl⟩
  have hag:∀b o v,g'.m b o=some v→w'.cell? ⟨b,o,none⟩=some v:=by
   intro b o v hv;simp only[g',Gh.put]at hv;split at hv
   ·rename_i hc;obtain⟨rfl,_,hc2⟩:=hc;simp only[Nat.sub_zero]at hv;rw[cell_of_row w' w.heap.size o _ e (0,0) hheap];simp only[←Array.getElem?_toList,Array.toList_append,List.append_assoc];rw[List.getElem?_append_left (by simpa using hc2)];simpa using hv
   ·exact agree_alloc (w:=w.drew) hg.inv.agree _ b o v hv
  have hrep:RepOwn g' w' e i.size xs (.slice (some ⟨w.heap.size,0,none⟩) xs.length (grownCap w (xs.length+1) cap e)):=by
   refine .inr ⟨w.heap.size,_,_,vs,rfl,by omega,hheap,by omega,?_,?_,?_,?_⟩
   ·simp only[Array.size_append,List.size_toArray,size_zeroCells,hzs,hol2,hfl,←Nat.add_mul]
    congr 1;omega
   ·intro j y hj;exact(hvr j y hj).mono hgle
   ·intro j hlt;refine⟨hvz j hlt,λk v hv=>?_⟩;have hk:=(List.getElem?_eq_some_iff.1 hv).1;have hks:k <i.size:=by have:=hvz j hlt;simp at hk;omega
    have:=Gh.put_at g w.heap.size 0 olds (j*i.size+k) v (by rw[hol,flat_get hvz hlt hks];exact hv);simpa using this
   ·intro o ho;simp only[g',Gh.put];rw[if_neg,hnone o];rw[hol2];omega
  refine⟨_,w',g',w.heap.size,by rw[hev];exact hrun,⟨?_,hg.glob.mono hgle,by rw[put_size,hg.sz]⟩,hchg.mono λ_ h=>h.elim⟩;rw[put_get _ (hg.sz▸hd)];exact hInvC.newD (d0:= .pend w.heap.size e i.size xs) hchg hag ⟨_,rfl,hge,hrep⟩ (λk=>by cases k<;>rfl) λb hb=>by
   simp only[own1,Option.some.injEq]at hb;omega
 have hrq:=(hg.gd P).ev hk;have empty:∀base:Option Addr,a.eval x= .slice base 0 0→xs=[]→(∀y,base=some y→y.spot=none)→
   ∃v w' g' b,(Builtin.append_ #[t,t2] ty #[a.eval x,src]).run P w= .ok v w'∧Gs GL N g' w' μ ⟨(d,.pend b e i.size xs)::q.clear s.e,s.h⟩ (a.put (some d) v) O∧Chg (λb=>¬O b) g w g' w':=by
  intro base hev hx0 hsp;subst hx0;refine newA base 0 [] (λ_=> .bool true) hev (by simp) (by simp) (by simp) (by simp[flat]) λw' _=>?_;cases base<;>simp[Builtin.firstCells,loadCells,loadCellsFrom]
 unfold ownOf at hx;split at hx
 ·rename_i e' s' xs' hqe;split at hx
  ·rename_i hes;obtain⟨rfl,rfl⟩:=hes;simp only[Option.some.injEq]at hx;subst hx;rw[hqe]at hrq;have hne0:=hrq.2;rcases hrq.1 with ⟨base,hev,hx0,hsp⟩|⟨b,cap,cur,vs,hev,hcap,hheap,hlc,hcs,hvr,hvz,hvn⟩
   ·exact empty base hev hx0 hsp
   ·have hold:∀w',(∀b o,w'.cell? ⟨b,o,none⟩=w.cell? ⟨b,o,none⟩)→(Builtin.firstCells i.size xs'.length (.slice (some ⟨b,0,none⟩) xs'.length cap)).run P w'= .ok (flat xs'.length vs).toArray w':=by
     intro w' hw';refine run_firstCells_some (P:=P) w' i.size xs'.length ⟨b,0,none⟩ _ _ _ (flat_len λj hj=>(hvz j hj).1) λk v hv=>?_;rw[addr_add rfl,hw'];refine flat_at (f:=λo=>w.cell? ⟨b,o,none⟩) (o:=0) hs0 (λj hj=>(hvz j hj).1) (λj hj k v hv=>?_) k v hv;have:=hg.inv.agree b _ v ((hvz j hj).2 k v hv);simpa using this
    by_cases hrm:xs'.length+1≤cap
    ·rcases hmv e' i.size xs' hqe with ⟨m,rfl⟩|hnil
     ·cases x with
      |tmp m'=>
       have hmm:m'=m:=by simpa[oe]using hk
       subst hmm;have hfind:find s.e m'= .own e' i.size xs':=by simpa[Opd.ev]using hqe
       have hevt:a.tmps.getD m' undef= .slice (some ⟨b,0,none⟩) xs'.length cap:=hev;have hbo:own1 (find s.e m') (a.tmps.getD m' undef)=some b:=by rw[hfind,hevt];simp[own1];omega
       have hfit:xs'.length*i.size+(flat 1 vy).length≤cur.size:=by rw[hfl,hcs,←Nat.add_mul];exact Nat.mul_le_mul_right _ hrm
       have hrun:=run_app_room (ty:=ty) ht ht2 hd2 hi hsrc hheap hrm hfit hf1
       let w':=w.setRow b (putL cur.toList (xs'.length*i.size) (flat 1 vy)).toArray
       have hheap':w'.heap[b]?=some (.cells (putL cur.toList (xs'.length*i.size) (flat 1 vy)).toArray e' (0,0)):=setRow_heap w b _ _ _ _ hheap;have hchg:Chg (λz=>z=b) g w g w':=⟨Gh.le.refl g,by simp[w'],λb' _ hb'=>setRow_other w b b' _ hb',λb' _ hb' o=>rfl,rfl,rfl⟩;have hag:∀b' o v,g.m b' o=some v→w'.cell? ⟨b',o,none⟩=some v:=by
        intro b' o v hv;by_cases hb':b'=b
        ·subst hb';rw[cell_of_row w' b' o _ _ _ hheap',←Array.getElem?_toList,List.toList_toArray,putL_get _ _ _ (by simpa using hfit)];have hc1:o <xs'.length*i.size:=by
          rcases Nat.lt_or_ge o (xs'.length*i.size)with h|h
          ·exact h
          ·rw[hvn o h]at hv;cases hv
         rw[if_pos hc1];have:=hg.inv.agree b' o v hv;rw[cell_of_row w b' o _ _ _ hheap]at this;rw[Array.getElem?_toList];exact this
        ·rw[World.cell?_of_block (a:=⟨b',o,none⟩) (setRow_other w b b' _ hb')];exact hg.inv.agree b' o v hv
       have hrep:RepOwn g w' e' i.size xs' (.slice (some ⟨b,0,none⟩) xs'.length cap):=by
        refine .inr ⟨b,_,_,vs,rfl,hcap,hheap',by omega,?_,hvr,hvz,hvn⟩;simp only[List.size_toArray];rw[putL_length _ _ _ (by simpa using hfit)];simpa using hcs
       refine⟨_,w',g,b,by rw[hev];exact hrun,⟨?_,hg.glob,by rw[put_size,hg.sz]⟩,hchg.mono λz hz ho=>?_⟩
       ·rw[put_get _ (hg.sz▸hd)];have e2:find ((d,D.pend b e' i.size xs')::Opd.clear s.e (.t m' true))=λn=>if d=n then .pend b e' i.size xs' else if m'=n then (find s.e m').copy else find s.e n:=by simp only[Opd.clear,findF_eq];rfl
        rw[e2];exact hg.inv.growD (n:=m') (d0:= .pend b e' i.size xs') hbo hchg hag ⟨_,rfl,hrm,hrep⟩ (λk=>by cases k<;>rfl) rfl
       ·subst hz;exact(hg.inv.sep (.tmp m' 0) z (by
         simp only[blk,hfind,hevt,ownAt,own1];rw[if_neg (by omega)])).2 ho
      |const v=>simp[oe]at hk
      |global g=>simp[oe]at hk
      |func f=>simp[oe]at hk
     ·rw[hnil]at hev;cases hev
    ·exact newA _ cap _ vs hev (by omega) hvr (λj hj=>(hvz j hj).1) rfl hold
  ·cases hx
 ·rename_i e' s' hqe;simp only[Option.some.injEq]at hx;rw[hqe]at hrq;obtain⟨base,hev,hsp⟩:=hrq;exact empty base hev hx.symm hsp
 ·cases hx
end
end Go.Va
