/- Laws that ExtractBytes leans on, part 2. No condition of its own. -/
import Derived.Great.BuildSlice
import Derived.Lib.AppendStr
import Derived.Lib.ConvBytes
import Derived.Laws.MakeOwn
import Derived.Laws.OwnMore
import Derived.OrdersIn
import Derived.Laws.Cover3
import Derived.Test.YtopldfpkgbkomaaGreatDoorL01
set_option linter.all false
set_option maxRecDepth 100000
set_option maxHeartbeats 4000000
noncomputable section
namespace Go.Va
section
structure St where
 e:CH
 h:List Row
 deriving Inhabited
inductive AI where
 |p (d:Nat) (i:PI)
 |mv (d:Nat) (x:Opd)
 |alloc (d:Nat) (zs:List D)
 |box (d:Nat) (x:Opd)
 |store (a x:Opd) (n:Nat)
 |take (d:Nat) (a:Opd)
 |app (d:Nat) (x y:Opd) (e s by_:Nat)
 |appS (d:Nat) (x y:Opd) (e by_:Nat)
 |bsl (d e s:Nat) (ps:List Opd)
 |s2b (d:Nat) (x:Opd)
 |nilS (d:Nat) (ne:Bool) (x:Opd)
 |mkm (d:Nat)
 |mksl (d:Nat) (x:Opd) (z:D)
 |ment (d:Nat) (m k:Opd) (st:Bool) (ks:List Nat)
 |mest (m b v:Opd)
 |mput (m k v:Opd) (st:Bool) (ks:List Nat)
 |mdel (d:Option Nat) (m k:Opd) (st:Bool) (ks:List Nat)
 |call (d:Option Nat) (f:Opd) (args:List Opd)
 |callF (d:Option Nat) (f:Opd) (args:List Opd)
 |callC (d:Option Nat) (f:Opd) (args:List Opd)
 |callO (d:Option Nat) (f q:Opd) (args:List Opd)
 |appR (d:Nat) (x y:Opd) (e s by_:Nat)
 |frz (d:Nat) (x:Opd) (s:Nat)
 |mksz (d:Nat) (x:Opd) (zs:List D)
 |cpy (d:Option Nat) (x y:Opd) (s:Nat)
 |callN (d:Option Nat) (f:Opd) (args:List Opd)
 |appP (d:Nat) (x y:Opd) (e s by_:Nat)
 |fin (m:Nat) (a p x:Opd) (s:Nat)
 |bsr (d s:Nat) (ps:List Opd)
 deriving Inhabited
def D.toRow:D→D
 | .nil e s=> .own e s []
 |d=>d
def Opd.clear (e:CH):Opd→CH
 | .t n true=>(n,(AF e n).copy)::e
 |_=>e
def CQ (e:CH):Option Nat→D→CH
 |some d,x=>(d,x)::e
 |none,_=>e
def IV (e:CH):List Opd→Option (List V)
 |[]=>some []
 |x::xs=>match (x.ev e).toV,IV e xs with
  |some v,some vs=>some (v::vs)
  |_,_=>none
def IB (e:CH) (sz:Nat):List Opd→Option (List D)
 |[]=>some []
 |x::xs=>match (x.ev e).copy.cells?,IB e sz xs with
  |some c,some cs=>if c.length=sz then some (c.map D.toRow++cs) else none
  |_,_=>none
def EG (e s:Nat):D→Option (List V)
 | .own e' s' xs=>if e'=e∧s'=s then some xs else none
 | .nil _ _=>some []
 |_=>none
def AK (n by_:Nat):Bool:=decide (n*by_≤140737488355328∧n≤140737488355328)
def AI.step (s:St):AI→Option St
 | .p d i=>(i.val s.e s.h).map λx=>⟨(d,x)::s.e,s.h⟩
 | .mv d x=>some ⟨(d,x.ev s.e)::x.clear s.e,s.h⟩
 | .alloc d zs=>some ⟨(d,.ref s.h.length 0)::s.e,s.h++[.cells zs]⟩
 | .box d x=>match (x.ev s.e).copy.cells? with
  |some cs=>some ⟨(d,.ref s.h.length 0)::s.e,s.h++[.cells (cs.map D.toRow)]⟩
  |none=>none
 | .store a x n=>match a.ev s.e with
  | .ref r off=>match s.h[r]? with
   |some (.cells ds)=>match x.ev s.e with
    | .own e sz xs=>match x with
     | .t m true=>if off <ds.length∧n=1 then some ⟨(m,.any)::s.e,s.h.set r (.cells (ds.set off (.own e sz xs)))⟩ else none
     |_=>none
    | .pend bb e sz xs=>match x with
     | .t m true=>if off <ds.length∧n=1 then some ⟨(m,.pptr bb 0 xs.length)::s.e,s.h.set r (.cells (ds.set off (.pend bb e sz xs)))⟩ else none
     |_=>none
    |d=>match d.copy.cells? with
     |some cs=>if cs.length=n∧off+n≤ds.length then some ⟨s.e,s.h.set r (.cells (AS ds off (cs.map D.toRow)))⟩ else none
     |none=>none
   |_=>none
  |_=>none
 | .take d a=>match a.ev s.e with
  | .ref r off=>match s.h[r]? with
   |some (.cells ds)=>match ds[off]? with
    |some (.own e sz xs)=>some ⟨(d,.own e sz xs)::s.e,s.h.set r (.cells (ds.set off (.v (.list xs))))⟩
    |_=>none
   |_=>none
  |_=>none
 | .app d x y e sz by_=>match EG e sz (x.ev s.e),(y.ev s.e).toV with
  |some xs,some (.list ys)=>if BG sz ys=true∧AK (xs.length+ys.length) by_=true then some ⟨(d,.own e sz (xs++ys))::x.clear s.e,s.h⟩ else none
  |_,_=>none
 | .appS d x y e by_=>match EG e 1 (x.ev s.e),y.ev s.e with
  |some xs,.v (.str b)=>if AK (xs.length+b.size) by_=true then some ⟨(d,.own e 1 (xs++b.data.toList.map λc=> .int .u8 c.toNat))::x.clear s.e,s.h⟩ else none
  |_,_=>none
 | .bsl d e sz ps=>match IV s.e ps with
  |some vs=>if vs.all (λv=>v.cells.length==sz)=true then
    match vs with
    |[]=>some ⟨(d,.nil e sz)::s.e,s.h⟩
    |vs=>some ⟨(d,.own e sz vs)::s.e,s.h⟩
   else none
  |none=>none
 | .bsr d sz ps=>match IB s.e sz ps with
  |some cs=>some ⟨(d,.sref s.h.length ps.length)::s.e,s.h++[.cells cs]⟩
  |none=>none
 | .s2b d x=>match x.ev s.e with
  | .v (.str b)=>some ⟨(d,.v (.list (b.data.toList.map λc=> .int .u8 c.toNat)))::s.e,s.h⟩
  |_=>none
 | .nilS _ _ _=>none
 | .mkm d=>some ⟨(d,.mref s.h.length)::s.e,s.h++[.map [] [] 0]⟩
 | .mksl d x z=>match x.ev s.e with
  | .v (.int _ n)=>if 0≤n∧n≤16777216 then some ⟨(d,.sref s.h.length n.toNat)::s.e,s.h++[.cells (List.replicate n.toNat z)]⟩ else none
  |_=>none
 | .mput m k v st ks=>match m.ev s.e with
  | .mref r=>match s.h[r]? with
   |some (.map es bs ck)=>match (k.ev s.e).toV,(v.ev s.e).toV with
    |some kv,some vv=>if Eo st ks kv=true then
      match JO st ks kv es with
      |some none=>some ⟨s.e,s.h.set r (.map (es++[(kv,vv)]) (bs++[ck]) (ck+1))⟩
      |some (some i)=>some ⟨s.e,s.h.set r (.map (es.set i (kv,vv)) bs ck)⟩
      |none=>none
     else none
    |_,_=>none
   |_=>none
  |_=>none
 | .ment d m k st ks=>match m.ev s.e with
  | .mref r=>match s.h[r]? with
   |some (.map es bs _)=>match (k.ev s.e).toV with
    |some kv=>if Eo st ks kv=true then
      match JO st ks kv es with
      |some (some i)=>match es[i]?,bs[i]? with
       |some en,some n=>some ⟨(d,.tup [.v en.2,.v (.int .i64 n)])::s.e,s.h⟩
       |_,_=>none
      |_=>none
     else none
    |_=>none
   |_=>none
  |_=>none
 | .mest m b v=>match m.ev s.e with
  | .mref r=>match s.h[r]? with
   |some (.map es bs ck)=>match b.ev s.e,(v.ev s.e).toV with
    | .v (.int _ n),some vv=>match bs.findIdx? (λx:Nat=>(x:Int)==n)with
     |some i=>match es[i]? with
      |some en=>some ⟨s.e,s.h.set r (.map (es.set i (en.1,vv)) bs ck)⟩
      |none=>none
     |none=>none
    |_,_=>none
   |_=>none
  |_=>none
 | .mdel d m k st ks=>match m.ev s.e with
  | .mref r=>match s.h[r]? with
   |some (.map es bs ck)=>match (k.ev s.e).toV with
    |some kv=>if Eo st ks kv=true then
      match JO st ks kv es with
      |some none=>some ⟨CQ s.e d (.tup []),s.h⟩
      |some (some i)=>some ⟨CQ s.e d (.tup []),s.h.set r (.map (es.eraseIdx i) (bs.eraseIdx i) ck)⟩
      |none=>none
     else none
    |_=>none
   |_=>none
  |_=>none
 | .call _ _ _=>none
 | .callF _ _ _=>none
 | .callC _ _ _=>none
 | .callO _ _ _ _=>none
 | .appR _ _ _ _ _ _=>none
 | .frz _ _ _=>none
 | .callN _ _ _=>none
 | .appP _ _ _ _ _ _=>none
 | .fin m ad pp x sz=>match pp.ev s.e,(x.ev s.e).toV with
  | .pptr b s' n,some y=>match AF s.e m with
   | .pend b' e s2 xs=>if (b'=b∧s'=sz∧s2=sz)∧n=xs.length∧y.cells.length=sz∧0 <sz then some ⟨(m,.own e sz (xs++[y]))::s.e,s.h⟩ else none
   |_=>match ad.ev s.e with
    | .ref r off=>match s.h[r]? with
     |some (.cells ds)=>match ds[off]? with
      |some (.pend b' e s2 xs)=>if (b'=b∧s'=sz∧s2=sz)∧n=xs.length∧y.cells.length=sz∧0 <sz then some ⟨s.e,s.h.set r (.cells (ds.set off (.own e sz (xs++[y]))))⟩ else none
      |_=>none
     |_=>none
    |_=>none
  |_,_=>none
 | .mksz d x zs=>match x.ev s.e with
  | .v (.int _ n)=>if 0≤n∧n≤16777216 then some ⟨(d,.sref s.h.length n.toNat)::s.e,s.h++[.cells (List.replicate n.toNat zs).flatten]⟩ else none
  |_=>none
 | .cpy d x y sz=>match x.ev s.e with
  | .sref r n=>match (y.ev s.e).copy with
   | .v (.list ys)=>match s.h[r]? with
    |some (.cells ds)=>if (ys.length=n∧ds.length=n*sz)∧0 <sz∧BG sz ys=true then some ⟨CQ s.e d (.v (.int .i64 n)),s.h.set r (.cells ((ys.flatMap V.cells).map .v))⟩ else none
    |_=>none
   |_=>none
  |_=>none
structure Gs (GL:Ac) (N:Nat) (g:Gh) (w:World) (μ:List Nat) (s:St) (a:Act) (O:Nat→Prop):Prop where
 inv:Inv g w μ (AF s.e) (λn=>a.tmps.getD n undef) s.h O
 glob:GlobOK GL g
 sz:a.tmps.size=N
variable {O:Nat→Prop} {a:Act} {s:St} {μ:List Nat} {w:World} {g:Gh} {N:Nat}
theorem Gs.gd {GL:Ac} (h:Gs GL N g w μ s a O) (P:Program):Gd P GL g w μ s.e a s.h O:=⟨h.inv,h.glob⟩
theorem GlobOK.mono {GL:Ac} {g g':Gh} (h:GlobOK GL g) (hl:g.le g'):GlobOK GL g':=λp hp=>(h p hp).mono hl
def Dw (P:Program) (GL:Ac) (N:Nat) (o:Oper) (ai:AI):Prop:=
 ∀ {g:Gh} {w:World} {μ:List Nat} {s s':St} {a:Act} {O:Nat→Prop},Gs GL N g w μ s a O→ai.step s=some s'→
  ∃v w' g' μ',((execOp a.eval o).run P w= .ok (.value v) w'∨((execOp a.eval o).run P w= .ok .skip w'∧v=undef))∧
   Gs GL N g' w' μ' s' (a.put o.dst v) O∧Chg (λb=>¬O b) g w g' w'∧μ <+: μ'
variable {o:Oper} {q:Opd} {p x:Operand} {zs:List D} {vs:List Value} {b el n t:Nat} {u v:Value} {d:D}
section
variable {P:Program} {GL:Ac} {N:Nat}
theorem BI (a:Act) (d:Option Nat) (v:Value):(a.put d v).tmps.size=a.tmps.size:=by cases d<;>simp[Act.put]
theorem Dx {d:Nat} (v:Value) (hd:d <a.tmps.size):(λn=>(a.put (some d) v).tmps.getD n undef)=λn=>if d=n then v else a.tmps.getD n undef:=by
 funext n
 simp only[Act.put];by_cases h:d=n
 ·subst h;simp[hd]
 ·simp[h]
theorem Gs.set {g:Gh} {w:World} {μ:List Nat} {s:St} {a:Act} {O:Nat→Prop} (h:Gs GL N g w μ s a O) {d:Nat} (hd:d <N) {x:D} {v:Value} (hx:RepD g w μ x v)
  (h0:∀k,Ak x v k=none):Gs GL N g w μ ⟨(d,x)::s.e,s.h⟩ (a.put (some d) v) O where
 inv:=by
  rw[Dx v (h.sz▸hd)];exact h.inv.set hx h0
 glob:=h.glob
 sz:=by rw[BI,h.sz]
theorem jD {d:Nat} {i:PI} (ho:o.dst=some d) (hd:d <N) (hk:Vj P GL o.op i=true):Dw P GL N o (.p d i):=by
 intro g w μ s s' a O hg hs;simp only[AI.step,qQ]at hs;obtain⟨x,hx,rfl⟩:=hs;obtain⟨v,h1,h2,h3⟩:=ZN hk (hg.gd P) hx o rfl;exact⟨v,w,g,μ,.inl h1,by rw[ho];exact hg.set hd h2 h3,Chg.refl _ _ _,qP _⟩
def Rz (q:Opd):Bool:=match q with| .c (.own _ _ (_::_))=>false| .c (.tup _)=>false| .c (.pend _ _ _ _)=>false|_=>true
theorem YZ {d:Nat} (ho:o.dst=some d) (hop:o.op= .move x∨o.op= .assign x) (hd:d <N) (hk:oe GL x q=true) (hm:Rz q=true):Dw P GL N o (.mv d q):=by
 intro g w μ s s' a O hg hs;simp only[AI.step,qF]at hs;subst hs;have hrun:(execOp a.eval o).run P w= .ok (.value (a.eval x)) w:=by rcases hop with h|h<;>simp[execOp,h]
 have hr:=(hg.gd P).ev hk;refine⟨a.eval x,w,g,μ,.inl hrun,?_,Chg.refl _ _ _,qP _⟩;rw[ho];have O5:(∀k,Ak (q.ev s.e) (a.eval x) k=none)→Gs GL N g w μ ⟨(d,q.ev s.e)::s.e,s.h⟩ (a.put (some d) (a.eval x)) O:=λh0=>hg.set hd hr h0;cases q with
 |t n mv=>
  cases mv with
  |false=>exact O5 λk=>CR _ _ _
  |true=>
   cases x with
   |tmp n'=>
    have:n'=n:=by simpa[oe]using hk
    subst this;refine⟨?_,hg.glob,by rw[BI,hg.sz]⟩;rw[Dx _ (hg.sz▸hd)];have:=hg.inv.move (d:=d) (s:=n');have e1:(λm=>if d=m then a.eval (.tmp n') else a.tmps.getD m undef)=λn=>if d=n then a.tmps.getD n' undef else if n'=n then a.tmps.getD n' undef else a.tmps.getD n undef:=by
     funext m
     by_cases h1:d=m
     ·simp[h1,Act.eval]
     ·by_cases h2:n'=m
      ·subst h2;simp[h1]
      ·simp[h1,h2]
    rw[e1];have e2:AF ((d,Opd.ev s.e (.t n' true))::Opd.clear s.e (.t n' true))=λn=>if d=n then AF s.e n' else if n'=n then (AF s.e n').copy else AF s.e n:=rfl;rw[e2];exact this
   |const v=>simp[oe]at hk
   |global g=>simp[oe]at hk
   |func f=>simp[oe]at hk
 |c dd=>
  refine O5 λk=>?_;cases x with
  |tmp n=>simp[oe]at hk
  |global n=>simp[oe]at hk
  |const v=>
   rcases Lg hk with hk|⟨cs,xs,rfl,rfl⟩
   case inr=>exact CM _ _ _
   simp only[Opd.ev,Act.eval];unfold F3 at hk;split at hk
   ·cases k<;>simp[Ak,Ae]
   ·cases k<;>simp[Ak,Ae]
   ·exact CM _ _ _
   ·cases hk
  |func f=>
   cases dd<;>simp[oe]at hk
   exact CM _ _ _
 |g n cs=>exact O5 λk=>CM _ _ _
theorem HP (h:Ap F3 vs zs=true):
  All2 (RepE g w μ) zs vs∧(∀v∈vs,v.oneCell'=true)∧∀(i:Nat) z v,zs[i]?=some z→vs[i]?=some v→Ae z v=none:=by
 have key:∀v d,F3 v d=true→RepE g w μ d v∧v.oneCell'=true∧Ae d v=none:=by
  intro v d hvd;unfold F3 at hvd;split at hvd
  ·exact⟨⟨none,rfl,by simp⟩,rfl,rfl⟩
  ·exact⟨⟨.inl ⟨none,rfl,rfl,by simp⟩,λ_ _=>⟨none,rfl⟩⟩,rfl,rfl⟩
  ·exact⟨Fe hvd,Gv hvd,by simp[Ae]⟩
  ·cases hvd
 have ha:All2 (λd v=>RepE g w μ d v∧v.oneCell'=true∧Ae d v=none) zs vs:=Cm (λv d h=>key v d h) h;refine⟨ha.imp λ_ _ h=>h.1,λv hv=>?_,λi z v hz hv=>(ha.2 i z v hz hv).2.2⟩;obtain⟨i,hi,rfl⟩:=sO.1 hv;have hi':i <zs.length:=ha.1▸hi;exact(ha.2 i _ _ (qH hi') (qH hi)).2.1
theorem Gs.newRow {g:Gh} {w:World} {μ:List Nat} {s:St} {a:Act} {O:Nat→Prop} (hg:Gs GL N g w μ s a O) {d:Nat} (hd:d <N) {zs:List D} {vs:List Value} (T:TypeId)
  (ha:All2 (RepE g w μ) zs vs) (h1:∀v∈vs,v.oneCell'=true) (h0:∀(i:Nat) z v,zs[i]?=some z→vs[i]?=some v→Ae z v=none):
  Gs GL N g (w.alloc (.cells vs.toArray T)) (μ++[w.heap.size]) ⟨(d,.ref s.h.length 0)::s.e,s.h++[.cells zs]⟩ (a.put (some d) (.pointer (some ⟨w.heap.size,0,none⟩))) O where
 inv:=by
  rw[Dx _ (hg.sz▸hd)];refine(hg.inv.newRow T ha h1 h0).set ⟨w.heap.size,?_,rfl⟩ λk=>K4 _ _ _ _;rw[←hg.inv.len];simp
 glob:=hg.glob
 sz:=by rw[BI,hg.sz]
theorem WA {d:Nat} (ho:o.dst=some d) (hop:o.op= .alloc t) (hd:d <N) (hz:GW P t zs=true):Dw P GL N o (.alloc d zs):=by
 intro g w μ s s' a O hg hs;simp only[AI.step,qF]at hs;subst hs;unfold GW at hz;split at hz
 ·rename_i z hzz;cases hit:P.info? t with
  |none=>simp[hit]at hzz
  |some it=>
   have hz1:it.zero=some z:=by simpa[hit]using hzz
   obtain⟨r1,r2,r3⟩:=HP (g:=g) (w:=w) (μ:=μ) hz;refine⟨_,_,g,_,.inl ?_,by rw[ho];exact hg.newRow hd t r1 r2 r3,CG _ g w _,rx _ _⟩;simp[execOp,hop,Instr.alloc,zeroValue,typeInfo,hit,hz1,newVar,newRow]
 ·cases hz
theorem Mn (h:RepE g w μ d v) (h0:∀u,Ae d u=none):RepE g w μ d.toRow v∧Ae d.toRow v=none:=by
 cases d<;>first
  |exact⟨h,h0 v⟩
  |(obtain⟨a,rfl,hs⟩:=h
    exact⟨⟨.inl ⟨a,rfl,rfl,hs⟩,λ_ _=>⟨a,rfl⟩⟩,by cases a<;>simp[D.toRow,Ae]⟩)
theorem KJ (h:RepD g w μ d u) {cs:List D} (hc:d.cells?=some cs):
  All2 (RepE g w μ) (cs.map D.toRow) u.cells.toList∧(∀v∈u.cells.toList,v.oneCell'=true)∧∀(i:Nat) z v,(cs.map D.toRow)[i]?=some z→u.cells.toList[i]?=some v→Ae z v=none:=by
 obtain⟨h1,h2,h3⟩:=VO h hc;refine⟨⟨by simp[h1.1],λi x v hx hv=>?_⟩,h2,λi z v hz hv=>?_⟩
 ·simp only[qZ,qQ]at hx;obtain⟨y,hy,rfl⟩:=hx;exact(Mn (h1.2 i y v hy hv) (h3 y (qJ hy))).1
 ·simp only[qZ,qQ]at hz;obtain⟨y,hy,rfl⟩:=hz;exact(Mn (h1.2 i y v hy hv) (h3 y (qJ hy))).2
theorem bh {d:Nat} (ho:o.dst=some d) (hop:o.op= .box t x) (hd:d <N) (hk:oe GL x q=true):Dw P GL N o (.box d q):=by
 intro g w μ s s' a O hg hs;simp only[AI.step]at hs;split at hs
 ·rename_i cs hcs;simp only[qF]at hs;subst hs;obtain⟨r1,r2,r3⟩:=KJ ((hg.gd P).ev hk).copy hcs;refine⟨_,_,g,_,.inl ?_,by rw[ho];exact hg.newRow hd t r1 r2 r3,CG _ g w _,rx _ _⟩;simp[execOp,hop,Instr.box,newVar,newRow]
 ·cases hs
theorem Ds (O:Nat→Prop) (hg:Gs GL N g w μ s a O) (hb:b∈μ):∀x,x=b→¬O x:=λx hx=>hx▸hg.inv.mo b hb
theorem T7 {p':Opd} (ho:o.dst=none) (hop:o.op= .store t p x) (hp:oe GL p p'=true) (hk:oe GL x q=true) (hsz:Ba P t n=true):
  Dw P GL N o (.store p' q n):=by
 intro g w μ s s' a O hg hs;simp only[AI.step]at hs;have hrp:=(hg.gd P).ev hp;have hrx:=(hg.gd P).ev hk;split at hs
 ·rename_i r off hc;rw[hc]at hrp;obtain⟨b,hb,hpv⟩:=hrp;have hbm:=qJ hb;split at hs
  ·rename_i ds hr;obtain⟨vs,T,hheap,hall,hone,hgn⟩:=hg.inv.row hb hr;have hrun:∀u:Value,a.eval x=u→u.cells.size=n→off+n≤vs.length→(∀v∈u.cells.toList,v.oneCell'=true)→
     (execOp a.eval o).run P w= .ok .skip (w.setRow b (AS vs off u.cells.toList).toArray):=by
    intro u hu hun hl h1;have hst:=run_storeCells_at P b off T u.cells.toList 0 vs.toArray w hheap (by simp;omega) h1;simp only[sd]at hst;simp[execOp,hop,hpv,hu,Instr.storeAt,Instr.sureAddr,storeVar,Bb hsz,hun,AS]at hst ⊢;simp[hst]
   split at hs
   ·rename_i e sz xs hown;split at hs
    ·rename_i m;split at hs
     ·rename_i hcond;obtain⟨hlt,rfl⟩:=hcond;simp only[qF]at hs;subst hs;cases x with
      |tmp m'=>
       have:m'=m:=by simpa[oe]using hk
       subst this;have hfind:AF s.e m'= .own e sz xs:=by simpa[Opd.ev]using hown
       have hrep:RepOwn g w e sz xs (a.tmps.getD m' undef):=by have:=hg.inv.rep m';rw[hfind]at this;exact this.1
       have hone1:(a.tmps.getD m' undef).oneCell'=true:=by
        rcases hrep with ⟨a',h,_⟩|⟨_,_,_,_,h,_⟩<;>rw[h]<;>rfl
       have hcell:(a.tmps.getD m' undef).cells= #[a.tmps.getD m' undef]:=Gx hone1;have hgive:=hg.inv.give hr hb hheap hlt hfind hone1;refine⟨undef,_,g,μ,.inr ⟨hrun (a.tmps.getD m' undef) rfl (by rw[hcell];rfl) (by rw[hall.1];omega) (by rw[hcell];simpa using hone1),rfl⟩,⟨?_,hg.glob,by rw[BI,hg.sz]⟩,?_,qP _⟩
       ·rw[ho];refine Eq.mp ?_ hgive
        congr 1
        ·congr 1
         rw[hcell]
         congr 1
         have hlv:off <vs.length:=by rw[hall.1];exact hlt
         simp only[AS,qT,ra];rw[s9,if_pos hlv];simp
       ·exact(Eg g w b _).mono (Ds O hg hbm)
      |const v=>simp[oe]at hk
      |global g=>simp[oe]at hk
      |func f=>simp[oe]at hk
     ·cases hs
    ·cases hs
   ·rename_i bb e sz xs hown;split at hs
    ·rename_i m;split at hs
     ·rename_i hcond;obtain⟨hlt,rfl⟩:=hcond;simp only[qF]at hs;subst hs;cases x with
      |tmp m'=>
       have:m'=m:=by simpa[oe]using hk
       subst this;have hfind:AF s.e m'= .pend bb e sz xs:=by simpa[Opd.ev]using hown
       have hrep:RepE g w μ (.pend bb e sz xs) (a.tmps.getD m' undef):=by have:=hg.inv.rep m';rw[hfind]at this;exact this
       have hone1:(a.tmps.getD m' undef).oneCell'=true:=by
        obtain⟨cap,h,_⟩:=hrep;rw[h];rfl
       have hcell:(a.tmps.getD m' undef).cells= #[a.tmps.getD m' undef]:=Gx hone1;have hgive:=hg.inv.giveD hr hb hheap hlt hfind hrep rfl hone1 (d1:= .pptr bb 0 xs.length) (λw'=>by
        obtain⟨cap,h,_⟩:=hrep;exact .inl ⟨rfl,cap,h⟩) (λj=>by cases j<;>simp[Ak,Ae])
       refine⟨undef,_,g,μ,.inr ⟨hrun (a.tmps.getD m' undef) rfl (by rw[hcell];rfl) (by rw[hall.1];omega) (by rw[hcell];simpa using hone1),rfl⟩,⟨?_,hg.glob,by rw[BI,hg.sz]⟩,?_,qP _⟩
       ·rw[ho];refine Eq.mp ?_ hgive
        congr 1
        ·congr 1
         rw[hcell]
         congr 1
         have hlv:off <vs.length:=by rw[hall.1];exact hlt
         simp only[AS,qT,ra];rw[s9,if_pos hlv];simp
       ·exact(Eg g w b _).mono (Ds O hg hbm)
      |const v=>simp[oe]at hk
      |global g=>simp[oe]at hk
      |func f=>simp[oe]at hk
     ·cases hs
    ·cases hs
   ·rename_i dd hne _;split at hs
    ·rename_i cs hcs;split at hs
     ·rename_i hcond;simp only[qF]at hs;subst hs;obtain⟨r1,r2,r3⟩:=KJ hrx.copy hcs;have hlen:(a.eval x).cells.size=n:=by have:=r1.1;simp at this;omega
      have hvl:vs.length=ds.length:=hall.1;have hcl:cs.length=n:=hcond.1;refine⟨undef,_,g,μ,.inr ⟨hrun (a.eval x) rfl hlen (by omega) r2,rfl⟩,⟨?_,hg.glob,by rw[BI,hg.sz]⟩,(Eg g w b _).mono (Ds O hg hbm),qP _⟩;rw[ho];refine hg.inv.storeRow hr hb hheap _ (AS vs off (a.eval x).cells.toList) (hall.putL r1 off) (λv hv=>(LU hv).elim (hone v) (r2 v)) ?_;intro i z v hz hv;rw[GK _ _ _ (by simp;omega)]at hz hv;have hl1:(cs.map D.toRow).length=n:=by simp[hcl]
      have hl2:(a.eval x).cells.toList.length=n:=by simpa using hlen
      rw[hl1]at hz;rw[hl2]at hv;by_cases c1:i <off
      ·simp only[c1,if_true]at hz hv;exact .inr ⟨hz,hv⟩
      ·by_cases c2:i <off+n
       ·simp only[c1,c2,if_true,if_false]at hz hv;exact .inl (r3 _ z v hz hv)
       ·simp only[c1,c2,if_false]at hz hv;exact .inr ⟨hz,hv⟩
     ·cases hs
    ·cases hs
  ·cases hs
 ·cases hs
theorem WO {d:Nat} {p':Opd} (ho:o.dst=some d) (hop:o.op= .load t p) (hd:d <N) (hp:oe GL p p'=true) (hu:P.underlying t=some (.slice el)):
  Dw P GL N o (.take d p'):=by
 intro g w μ s s' a O hg hs;simp only[AI.step]at hs;have hrp:=(hg.gd P).ev hp;split at hs
 ·rename_i r off hc;rw[hc]at hrp;obtain⟨b,hb,hpv⟩:=hrp;split at hs
  ·rename_i ds hr;obtain⟨vs,T,hheap,hall,hone,hgn⟩:=hg.inv.row hb hr;split at hs
   ·rename_i e sz xs hk;simp only[qF]at hs;subst hs;obtain⟨v,hv,_⟩:=hall.get hk;have hcell:w.cell? ⟨b,off,none⟩=some v:=by simp[World.cell?,hheap,hv]
    have hcu:BK w μ r off=v:=Df hb hheap hv;refine⟨v,w,g,μ,.inl ?_,⟨?_,hg.glob,by rw[BI,hg.sz]⟩,Chg.refl _ _ _,qP _⟩
    ·have hag:(isAgg t).run P w= .ok false w:=by simp[isAgg,run_underlying hu]
     simp[execOp,hop,hpv,Instr.loadAt,Instr.sureAddr,loadVar,hag,hcell]
    ·rw[ho,Dx _ (hg.sz▸hd),←hcu];exact hg.inv.take hr hk
   ·cases hs
  ·cases hs
 ·cases hs
end
end
section
def BQ (n:Nat) (vs:Nat→Value):List Value:=(List.range n).flatMap λi=>(vs i).cells.toList
theorem NF (n:Nat) (vs:Nat→Value):BQ (n+1) vs=BQ n vs++(vs n).cells.toList:=by simp[BQ,sG]
variable {n:Nat}
theorem DL {s:Nat} {vs:Nat→Value} (h:∀i,i <n→(vs i).cells.size=s):(BQ n vs).length=n*s:=by
 induction n with
 |zero=>simp[BQ]
 |succ n ih=>rw[NF,qG,ih λi hi=>h i (by omega),rO];simp[h n (by omega)]
variable {i:Nat}
theorem EK {s:Nat} {vs:Nat→Value} (h:∀i,i <n→(vs i).cells.size=s) {j:Nat} (hi:i <n) (hj:j <s):(BQ n vs)[i*s+j]?=(vs i).cells.toList[j]?:=by
 induction n with
 |zero=>omega
 |succ n ih=>
  have hl:=DL λi (hi:i <n)=>h i (by omega);rw[NF];by_cases h1:i <n
  ·have:i*s+j <n*s:=by
    have:(i+1)*s≤n*s:=sf s h1;rw[rO]at this;omega
   rw[qe (by rw[hl];exact this)];exact ih (λi hi=>h i (by omega)) h1
  ·have:i=n:=by omega
   subst this;rw[ql (by rw[hl];omega),hl]
   congr 1;omega
variable {v:Value}
theorem Jd {vs:Nat→Value} (h:v∈BQ n vs):∃i,i <n∧v∈(vs i).cells.toList:=by
 simp only[BQ,rM,qj]at h;exact h
theorem OB {s:Nat} {vs:Nat→Value} (hs:0 <s) (h:∀i,i <n→(vs i).cells.size=s) {f:Nat→Option Value} {o:Nat}
  (hf:∀i,i <n→∀(j:Nat) v,(vs i).cells.toList[j]?=some v→f (o+i*s+j)=some v):∀(k:Nat) v,(BQ n vs)[k]?=some v→f (o+k)=some v:=by
 intro k v hv;have hl:=DL h;have hk:=(qK.1 hv).1;rw[hl]at hk;have hq:k/s <n:=Nat.div_lt_of_lt_mul (by rw[Nat.mul_comm];exact hk);have hm:=Nat.mod_lt k hs;have he:k/s*s+k%s=k:=by rw[Nat.mul_comm];exact Nat.div_add_mod k s
 rw[←he,EK h hq hm]at hv;have:=hf _ hq _ v hv
 rwa [Nat.add_assoc,he]at this
variable {src:Value} {by_ cap len t ty:Nat} {w:World} {xs:List V} {q:Opd} {x:Operand} {O:Nat→Prop} {a:Act} {s:St} {μ:List Nat} {g:Gh}
section
variable {P:Program} {GL:Ac} {N:Nat}
structure Src (P:Program) (w:World) (size:Nat) (src:Value) (n:Nat) (newc:List Value):Prop where
 len:∀w',(Builtin.lenOf src).run P w'= .ok n w'
 cells:(Builtin.firstCells size n src).run P w= .ok newc.toArray w
 drew:(Builtin.firstCells size n src).run P w.drew= .ok newc.toArray w.drew
theorem JC {t2 e:Nat} {i:TypeInfo} {d2:TypeDesc} (ht:P.underlying t=some (.slice e)) (ht2:P.underlying t2=some d2) (hd2:∀k,d2≠ .int k) (hi:P.info? e=some i)
 {newc:List Value} (hsrc:Src P w i.size src 0 newc) (hn:newc=[]) (base:Option Addr) (len cap:Nat) (hc:len≤cap):
  (Builtin.append_ #[t,t2] ty #[.slice base len cap,src]).run P w= .ok (.slice base len cap) w:=by
 have hz:(match (generalizing:=false) d2 with| .int _=>true|_=>false)=false:=by cases d2<;>first|rfl|exact absurd rfl (hd2 _)
 cases base<;>simp[Builtin.append_,run_underlying ht,run_underlying ht2,sizeOf,typeInfo,hi,hz,hsrc.len,hsrc.cells,hc,hn,storeCells]
theorem JD {t2 e:Nat} {i:TypeInfo} {d2:TypeDesc} (ht:P.underlying t=some (.slice e)) (ht2:P.underlying t2=some d2) (hd2:∀k,d2≠ .int k) (hi:P.info? e=some i)
 {newc:List Value} (hsrc:Src P w i.size src n newc) {g:Nat} {cur:Array Value} (hg:w.heap[g]?=some (.cells cur e (0,0))) (hroom:len+n≤cap)
  (hfit:len*i.size+newc.length≤cur.size) (h1:∀v∈newc,v.oneCell'=true):
  (Builtin.append_ #[t,t2] ty #[.slice (some ⟨g,0,none⟩) len cap,src]).run P w=
   .ok (.slice (some ⟨g,0,none⟩) (len+n) cap) (w.setRow g (AS cur.toList (len*i.size) newc).toArray):=by
 have hz:(match (generalizing:=false) d2 with| .int _=>true|_=>false)=false:=by cases d2<;>first|rfl|exact absurd rfl (hd2 _)
 have hst:=run_storeCells_at P g (len*i.size) e newc 0 cur w hg (by simpa using hfit) h1;simp only[sd]at hst;have hadd:(⟨g,0,none⟩:Addr).add (len*i.size)=⟨g,len*i.size,none⟩:=by rw[Cv rfl];simp
 simp[Builtin.append_,run_underlying ht,run_underlying ht2,sizeOf,typeInfo,hi,hz,hsrc.len,hsrc.cells,hroom,hadd,hst,AS]
theorem GZ {t2 e:Nat} {i:TypeInfo} {z:Value} {d2:TypeDesc} (ht:P.underlying t=some (.slice e)) (ht2:P.underlying t2=some d2) (hd2:∀k,d2≠ .int k) (hi:P.info? e=some i)
  (hz:i.zero=some z) {newc:List Value} (hsrc:Src P w i.size src n newc) {base:Option Addr} {olds:List Value}
  (hold:∀w',(∀b o,w'.cell? ⟨b,o,none⟩=w.cell? ⟨b,o,none⟩)→(Builtin.firstCells i.size len (.slice base len cap)).run P w'= .ok olds.toArray w')
  (hgr:cap <len+n) (h63:((len+n:Nat):Int)≤9223372036854775807) (hfit:Builtin.nextslicecap (len+n) cap*i.bytes≤281474976710656):
  (Builtin.append_ #[t,t2] ty #[.slice base len cap,src]).run P w=
   .ok (.slice (some ⟨w.heap.size,0,none⟩) (len+n) (grownCap w (len+n) cap e))
    (w.drew.alloc (.cells (olds.toArray++newc.toArray++Builtin.zeroCells z.cells (grownCap w (len+n) cap e-(len+n))) e)):=by
 have hzz:(match (generalizing:=false) d2 with| .int _=>true|_=>false)=false:=by cases d2<;>first|rfl|exact absurd rfl (hd2 _)
 have hn:¬(len+n≤cap):=by omega
 have h63':¬(9223372036854775807 <((len:Int)+(n:Int))):=by omega
 have h48':¬(281474976710656 <Builtin.nextslicecap (len+n) cap*i.bytes):=by omega
 have ho:=hold w.drew λ_ _=>rfl;simp[Builtin.append_,run_underlying ht,run_underlying ht2,sizeOf,typeInfo,zeroValue,hi,hz,hzz,hsrc.len,hn,h63',h48',Question.forced,ho,hsrc.drew,newRow,grownCap];rw[←Array.append_assoc];simp
theorem Io (h:AK n by_=true) (hc:cap <n):((n:Nat):Int)≤9223372036854775807∧Builtin.nextslicecap n cap*by_≤281474976710656:=by
 simp only[AK,decide_eq_true_eq]at h;exact⟨by omega,growslice_fits hc h.1⟩
theorem QF (hg:Gs GL N g w μ s a O) {t2 e:Nat} {i:TypeInfo} {z:Value} {d2:TypeDesc}
  (ht:P.underlying t=some (.slice e)) (ht2:P.underlying t2=some d2) (hd2:∀k,d2≠ .int k) (hi:P.info? e=some i) (hz:i.zero=some z) (hzs:z.cells.size=i.size) (hs0:0 <i.size)
 (hk:oe GL x q=true) (hx:EG e i.size (q.ev s.e)=some xs) (hmv:∀e' s' ys,q.ev s.e= .own e' s' ys→(∃m,q= .t m true)∨a.eval x= .slice none 0 0)
 {ys:List V} {vy:Nat→Value} (hsrc:Src P w i.size src ys.length (BQ ys.length vy)) (hyr:∀j y,ys[j]?=some y→RepV g y (vy j)) (hyz:∀j,j <ys.length→(vy j).cells.size=i.size)
  (hy1:∀j,j <ys.length→∀v∈(vy j).cells.toList,v.oneCell'=true) (hroom:AK (xs.length+ys.length) i.bytes=true) {d:Nat} (hd:d <N):
  ∃v w' g',(Builtin.append_ #[t,t2] ty #[a.eval x,src]).run P w= .ok v w'∧Gs GL N g' w' μ ⟨(d,.own e i.size (xs++ys))::q.clear s.e,s.h⟩ (a.put (some d) v) O∧Chg (λb=>¬O b) g w g' w':=by
 have hfl:(BQ ys.length vy).length=ys.length*i.size:=DL hyz;have hf1:∀v∈BQ ys.length vy,v.oneCell'=true:=λv hv=>by obtain⟨j,hj,hm⟩:=Jd hv;exact hy1 j hj v hm
 have hclear:AF (q.clear s.e)=AF s.e∨∃m,q= .t m true∧AF (q.clear s.e)=λn=>if m=n then (AF s.e m).copy else AF s.e n:=by
  cases q with
  |t m mv=>cases mv with
   |false=>exact .inl rfl
   |true=>exact .inr ⟨m,rfl,rfl⟩
  |c d=>exact .inl rfl
  |g n cs=>exact .inl rfl
 have hInvC:Inv g w μ (AF (q.clear s.e)) (λn=>a.tmps.getD n undef) s.h O:=by
  rcases hclear with h|⟨m,_,h⟩
  ·rw[h];exact hg.inv
  ·rw[h];refine hg.inv.weaken _ λn=>?_;by_cases hn:m=n
   ·subst hn;exact .inr ⟨λv h=>by simpa using RepD.copy h,λv k=>by simpa using CR _ v k⟩
   ·exact .inl (by simp[hn])
 have newA:∀(base:Option Addr) (cap:Nat) (olds:List Value) (vs:Nat→Value),a.eval x= .slice base xs.length cap→cap <xs.length+ys.length→
   (∀j y,xs[j]?=some y→RepV g y (vs j))→(∀j,j <xs.length→(vs j).cells.size=i.size)→olds=BQ xs.length vs→
   (∀w',(∀b o,w'.cell? ⟨b,o,none⟩=w.cell? ⟨b,o,none⟩)→(Builtin.firstCells i.size xs.length (.slice base xs.length cap)).run P w'= .ok olds.toArray w')→
   ∃v w' g',(Builtin.append_ #[t,t2] ty #[a.eval x,src]).run P w= .ok v w'∧Gs GL N g' w' μ ⟨(d,.own e i.size (xs++ys))::q.clear s.e,s.h⟩ (a.put (some d) v) O∧Chg (λb=>¬O b) g w g' w':=by
  intro base cap olds vs hev hgr hvr hvz hol hold;obtain⟨hf63,hfit⟩:=Io hroom hgr;have hrun:=GZ (ty:=ty) ht ht2 hd2 hi hz hsrc hold hgr hf63 hfit;have hge:=grownCap_ge w (xs.length+ys.length) cap e;have hol2:olds.length=xs.length*i.size:=by rw[hol];exact DL hvz
  have hcl:(olds++BQ ys.length vy).length=(xs.length+ys.length)*i.size:=by rw[qG,hol2,hfl,rO]
  let w':=w.drew.alloc (.cells (olds.toArray++(BQ ys.length vy).toArray++Builtin.zeroCells z.cells (grownCap w (xs.length+ys.length) cap e-(xs.length+ys.length))) e)
  let g':=g.put w.heap.size 0 (olds++BQ ys.length vy)
  have hnone:∀o,g.m w.heap.size o=none:=λo=>Gh.lt_of hg.inv.agree (qM _) o;have hgle:g.le g':=Gh.le_put _ λo _ _=>hnone o;have hheap:w'.heap[w.heap.size]?=some (.cells (olds.toArray++(BQ ys.length vy).toArray++Builtin.zeroCells z.cells (grownCap w (xs.length+ys.length) cap e-(xs.length+ys.length))) e (0,0)):=
   heap_alloc_new w.drew _
  have hchg:Chg (λ_=>False) g w g' w':=
   ⟨hgle,by simp[w'],λb hb _=>heap_alloc_old w.drew _ b hb,λb hb _ o=>Gh.put_other (by omega) o,rfl,rfl⟩
  have hag:∀b o v,g'.m b o=some v→w'.cell? ⟨b,o,none⟩=some v:=by
   intro b o v hv;simp only[g',Gh.put]at hv;split at hv
   ·rename_i hc;obtain⟨rfl,_,hc2⟩:=hc;simp only[sV]at hv;rw[cell_of_row w' w.heap.size o _ e (0,0) hheap];simp only[←rb,Array.toList_append,qg];rw[←qg,qe (by simpa using hc2)];exact hv
   ·exact Dh (w:=w.drew) hg.inv.agree _ b o v hv
  have hrep:RepOwn g' w' e i.size (xs++ys) (.slice (some ⟨w.heap.size,0,none⟩) (xs.length+ys.length) (grownCap w (xs.length+ys.length) cap e)):=by
   refine .inr ⟨w.heap.size,_,_,λj=>if j <xs.length then vs j else vy (j-xs.length),by rw[qG],by omega,hheap,by rw[qG];exact hge,?_,?_,?_,?_⟩
   ·simp only[Array.size_append,sg,size_zeroCells,hzs,hol2,hfl,←rO]
    congr 1;omega
   ·intro j y hj;by_cases hlt:j <xs.length
    ·simp only[hlt,if_true];rw[qe hlt]at hj;exact(hvr j y hj).mono hgle
    ·simp only[hlt,if_false];rw[ql (by omega)]at hj;exact(hyr _ y hj).mono hgle
   ·intro j hj;rw[qG]at hj;by_cases hlt:j <xs.length
    ·simp only[hlt,if_true];refine⟨hvz j hlt,λk v hv=>?_⟩;have hk:=(qK.1 hv).1;have hks:k <i.size:=by have:=hvz j hlt;simp at hk;omega
     have:=Gh.put_at g w.heap.size 0 (olds++BQ ys.length vy) (j*i.size+k) v (by
      have hb:j*i.size+k <xs.length*i.size:=by
       have:(j+1)*i.size≤xs.length*i.size:=sf _ hlt;rw[rO]at this;omega
      rw[qe (by rw[hol2];exact hb),hol,EK hvz hlt hks];exact hv)
     simpa using this
    ·simp only[hlt,if_false];have hjl:j-xs.length <ys.length:=by omega
     refine⟨hyz _ hjl,λk v hv=>?_⟩;have hk:=(qK.1 hv).1;have hks:k <i.size:=by have:=hyz _ hjl;simp at hk;omega
     have hje:j*i.size=xs.length*i.size+(j-xs.length)*i.size:=by rw[←rO];congr 1;omega
     have:=Gh.put_at g w.heap.size 0 (olds++BQ ys.length vy) (j*i.size+k) v (by
      rw[ql (by rw[hol2];omega),hol2,show j*i.size+k-xs.length*i.size=(j-xs.length)*i.size+k by omega,EK hyz hjl hks];exact hv)
     simpa using this
   ·intro o ho;simp only[g',Gh.put];rw[if_neg,hnone o];rw[hcl];rw[qG]at ho;omega
  refine⟨_,w',g',by rw[hev];exact hrun,⟨?_,hg.glob.mono hgle,by rw[BI,hg.sz]⟩,hchg.mono λ_ h=>h.elim⟩;rw[Dx _ (hg.sz▸hd)];refine hInvC.newOwn hchg hag hrep (λh _=>by rw[←qG,h]at hgr;simp at hgr) λb hb=>?_;simp only[Ae]at hb;split at hb
  ·cases hb
  ·simp only[qF]at hb;omega
 have same:∀(base:Option Addr) (cap:Nat),a.eval x= .slice base xs.length cap→xs.length≤cap→ys=[]→
   (Gs GL N g w μ ⟨(d,.own e i.size (xs++ys))::q.clear s.e,s.h⟩ (a.put (some d) (a.eval x)) O)→
   ∃v w' g',(Builtin.append_ #[t,t2] ty #[a.eval x,src]).run P w= .ok v w'∧Gs GL N g' w' μ ⟨(d,.own e i.size (xs++ys))::q.clear s.e,s.h⟩ (a.put (some d) v) O∧Chg (λb=>¬O b) g w g' w':=by
  intro base cap hev hc hy0 hgs;subst hy0;exact⟨a.eval x,w,g,by rw[hev];exact JC ht ht2 hd2 hi hsrc rfl base _ _ hc,hgs,Chg.refl _ _ _⟩
 have empty:∀base:Option Addr,a.eval x= .slice base 0 0→xs=[]→(∀y,base=some y→y.spot=none)→
   ∃v w' g',(Builtin.append_ #[t,t2] ty #[a.eval x,src]).run P w= .ok v w'∧Gs GL N g' w' μ ⟨(d,.own e i.size (xs++ys))::q.clear s.e,s.h⟩ (a.put (some d) v) O∧Chg (λb=>¬O b) g w g' w':=by
  intro base hev hx0 hsp;subst hx0;by_cases hy0:ys=[]
  ·refine same base 0 hev (qM _) hy0 ⟨?_,hg.glob,by rw[BI,hg.sz]⟩;rw[Dx _ (hg.sz▸hd),hev];subst hy0;refine hInvC.set (x:= .own e i.size []) ⟨.inl ⟨base,rfl,rfl,hsp⟩,λ_ _=>⟨base,rfl⟩⟩ λk=>?_;cases k<;>cases base<;>simp[Ak,Ae]
  ·have hpos:0 <ys.length:=List.length_pos_iff.2 hy0;refine newA base 0 [] (λ_=> .bool true) hev (by simpa using hpos) (by simp) (by simp) (by simp[BQ]) λw' _=>?_;cases base<;>simp[Builtin.firstCells,loadCells,loadCellsFrom]
 have hrq:=(hg.gd P).ev hk;unfold EG at hx;split at hx
 ·rename_i e' s' xs' hqe;split at hx
  ·rename_i hes;obtain⟨rfl,rfl⟩:=hes;simp only[qF]at hx;subst hx;rw[hqe]at hrq;have hne0:=hrq.2;rcases hrq.1 with ⟨base,hev,hx0,hsp⟩|⟨b,cap,cur,vs,hev,hcap,hheap,hlc,hcs,hvr,hvz,hvn⟩
   ·exact empty base hev hx0 hsp
   ·have hold:∀w',(∀b o,w'.cell? ⟨b,o,none⟩=w.cell? ⟨b,o,none⟩)→(Builtin.firstCells i.size xs'.length (.slice (some ⟨b,0,none⟩) xs'.length cap)).run P w'= .ok (BQ xs'.length vs).toArray w':=by
     intro w' hw';refine run_firstCells_some (P:=P) w' i.size xs'.length ⟨b,0,none⟩ _ _ _ (DL λj hj=>(hvz j hj).1) λk v hv=>?_;rw[Cv rfl,hw'];refine OB (f:=λo=>w.cell? ⟨b,o,none⟩) (o:=0) hs0 (λj hj=>(hvz j hj).1) (λj hj k v hv=>?_) k v hv;have:=hg.inv.agree b _ v ((hvz j hj).2 k v hv);simpa using this
    by_cases hrm:xs'.length+ys.length≤cap
    ·rcases hmv e' i.size xs' hqe with ⟨m,rfl⟩|hnil
     ·cases x with
      |tmp m'=>
       have hmm:m'=m:=by simpa[oe]using hk
       subst hmm;have hfind:AF s.e m'= .own e' i.size xs':=by simpa[Opd.ev]using hqe
       have hevt:a.tmps.getD m' undef= .slice (some ⟨b,0,none⟩) xs'.length cap:=hev;have hbo:Ae (AF s.e m') (a.tmps.getD m' undef)=some b:=by rw[hfind,hevt];simp[Ae];omega
       have hne:xs'++ys=[]→e'≠84→∃a:Option Addr,Value.slice (some ⟨b,0,none⟩) (xs'.length+ys.length) cap= .slice a 0 0:=λh h84=>by
        obtain⟨a',ha'⟩:=hne0 (List.append_eq_nil_iff.1 h).1 h84;rw[hev]at ha';simp at ha';omega
       have hfit:xs'.length*i.size+(BQ ys.length vy).length≤cur.size:=by rw[hfl,hcs,←rO];exact sf _ hrm
       have hrun:=JD (ty:=ty) ht ht2 hd2 hi hsrc hheap hrm hfit hf1
       let w':=w.setRow b (AS cur.toList (xs'.length*i.size) (BQ ys.length vy)).toArray
       let g':=g.put b (xs'.length*i.size) (BQ ys.length vy)
       have hgle:g.le g':=Gh.le_put _ λo h1 _=>hvn o h1;have hheap':w'.heap[b]?=some (.cells (AS cur.toList (xs'.length*i.size) (BQ ys.length vy)).toArray e' (0,0)):=setRow_heap w b _ _ _ _ hheap;have hchg:Chg (λz=>z=b) g w g' w':=⟨hgle,by simp[w'],λb' _ hb'=>setRow_other w b b' _ hb',λb' _ hb' o=>Gh.put_other hb' o,rfl,rfl⟩;have hag:∀b' o v,g'.m b' o=some v→w'.cell? ⟨b',o,none⟩=some v:=by
        intro b' o v hv;by_cases hb':b'=b
        ·subst hb';rw[cell_of_row w' b' o _ _ _ hheap',←rb,sw,GK _ _ _ (by simpa using hfit)];simp only[g',Gh.put]at hv;split at hv
         ·rename_i hc;rw[if_neg (by omega),if_pos hc.2.2];exact hv
         ·rename_i hc;have hc1:o <xs'.length*i.size:=by
           rcases qi o (xs'.length*i.size)with h|h
           ·exact h
           ·rw[hvn o h]at hv;cases hv
          rw[if_pos hc1];have:=hg.inv.agree b' o v hv;rw[cell_of_row w b' o _ _ _ hheap]at this;rw[rb];exact this
        ·simp only[g',Gh.put_other hb']at hv;rw[World.cell?_of_block (a:=⟨b',o,none⟩) (setRow_other w b b' _ hb')];exact hg.inv.agree b' o v hv
       have hrep:RepOwn g' w' e' i.size (xs'++ys) (.slice (some ⟨b,0,none⟩) (xs'.length+ys.length) cap):=by
        refine .inr ⟨b,_,_,λj=>if j <xs'.length then vs j else vy (j-xs'.length),by rw[qG],hcap,hheap',by rw[qG];exact hrm,?_,?_,?_,?_⟩
        ·simp only[sg];rw[Fr _ _ _ (by simpa using hfit)];simpa using hcs
        ·intro j y hj;by_cases hlt:j <xs'.length
         ·simp only[hlt,if_true];rw[qe hlt]at hj;exact(hvr j y hj).mono hgle
         ·simp only[hlt,if_false];rw[ql (by omega)]at hj;exact(hyr _ y hj).mono hgle
        ·intro j hj;rw[qG]at hj;by_cases hlt:j <xs'.length
         ·simp only[hlt,if_true];exact⟨(hvz j hlt).1,(hvz j hlt).2.mono hgle⟩
         ·simp only[hlt,if_false];have hjl:j-xs'.length <ys.length:=by omega
          refine⟨hyz _ hjl,λk v hv=>?_⟩;have hk:=(qK.1 hv).1;have hks:k <i.size:=by have:=hyz _ hjl;simp at hk;omega
          have hje:j*i.size=xs'.length*i.size+(j-xs'.length)*i.size:=by rw[←rO];congr 1;omega
          have:=Gh.put_at g b (xs'.length*i.size) (BQ ys.length vy) ((j-xs'.length)*i.size+k) v (by rw[EK hyz hjl hks];exact hv)
          rwa [←Nat.add_assoc,←hje]at this
        ·intro o ho;rw[qG,rO]at ho;simp only[g',Gh.put];rw[if_neg (by rw[hfl];omega)];exact hvn o (by omega)
       refine⟨_,w',g',by rw[hev];exact hrun,⟨?_,hg.glob.mono hgle,by rw[BI,hg.sz]⟩,hchg.mono λz hz ho=>?_⟩
       ·rw[Dx _ (hg.sz▸hd)];have e2:AF ((d,D.own e' i.size (xs'++ys))::Opd.clear s.e (.t m' true))=λn=>if d=n then .own e' i.size (xs'++ys) else if m'=n then (AF s.e m').copy else AF s.e n:=rfl;rw[e2];exact hg.inv.growOwn (n:=m') hbo hchg hag hrep hne (by simp[Ae];omega)
       ·subst hz;exact(hg.inv.sep (.tmp m' 0) z (by
         simp only[Cl,hfind,hevt,Ak,Ae];rw[if_neg (by omega)])).2 ho
      |const v=>simp[oe]at hk
      |global g=>simp[oe]at hk
      |func f=>simp[oe]at hk
     ·rw[hnil]at hev;cases hev
    ·exact newA _ cap _ vs hev (by omega) hvr (λj hj=>(hvz j hj).1) rfl hold
  ·cases hx
 ·rename_i e' s' hqe;simp only[qF]at hx;rw[hqe]at hrq;obtain⟨base,hev,hsp⟩:=hrq;exact empty base hev hx.symm hsp
 ·cases hx
theorem Ta (hg:Gs GL N g w μ s a O) {t2 e:Nat} {i:TypeInfo} {z:Value} {d2:TypeDesc}
  (ht:P.underlying t=some (.slice e)) (ht2:P.underlying t2=some d2) (hd2:∀k,d2≠ .int k) (hi:P.info? e=some i) (hz:i.zero=some z) (hzs:z.cells.size=i.size) (hs0:0 <i.size)
 (hk:oe GL x q=true) (hx:EG e i.size (q.ev s.e)=some xs) (hmv:∀e' s' ys,q.ev s.e= .own e' s' ys→(∃m,q= .t m true)∨a.eval x= .slice none 0 0)
 {vy:Nat→Value} (hsrc:Src P w i.size src 1 (BQ 1 vy)) (hyz:∀j,j <1→(vy j).cells.size=i.size)
  (hy1:∀j,j <1→∀v∈(vy j).cells.toList,v.oneCell'=true) (hroom:AK (xs.length+1) i.bytes=true) {d:Nat} (hd:d <N):
  ∃v w' g' b,(Builtin.append_ #[t,t2] ty #[a.eval x,src]).run P w= .ok v w'∧Gs GL N g' w' μ ⟨(d,.pend b e i.size xs)::q.clear s.e,s.h⟩ (a.put (some d) v) O∧Chg (λb=>¬O b) g w g' w':=by
 have hfl:(BQ 1 vy).length=1*i.size:=DL hyz;have hf1:∀v∈BQ 1 vy,v.oneCell'=true:=λv hv=>by obtain⟨j,hj,hm⟩:=Jd hv;exact hy1 j hj v hm
 have hclear:AF (q.clear s.e)=AF s.e∨∃m,q= .t m true∧AF (q.clear s.e)=λn=>if m=n then (AF s.e m).copy else AF s.e n:=by
  cases q with
  |t m mv=>cases mv with
   |false=>exact .inl rfl
   |true=>exact .inr ⟨m,rfl,rfl⟩
  |c d=>exact .inl rfl
  |g n cs=>exact .inl rfl
 have hInvC:Inv g w μ (AF (q.clear s.e)) (λn=>a.tmps.getD n undef) s.h O:=by
  rcases hclear with h|⟨m,_,h⟩
  ·rw[h];exact hg.inv
  ·rw[h];refine hg.inv.weaken _ λn=>?_;by_cases hn:m=n
   ·subst hn;exact .inr ⟨λv h=>by simpa using RepD.copy h,λv k=>by simpa using CR _ v k⟩
   ·exact .inl (by simp[hn])
 have newA:∀(base:Option Addr) (cap:Nat) (olds:List Value) (vs:Nat→Value),a.eval x= .slice base xs.length cap→cap <xs.length+1→
   (∀j y,xs[j]?=some y→RepV g y (vs j))→(∀j,j <xs.length→(vs j).cells.size=i.size)→olds=BQ xs.length vs→
   (∀w',(∀b o,w'.cell? ⟨b,o,none⟩=w.cell? ⟨b,o,none⟩)→(Builtin.firstCells i.size xs.length (.slice base xs.length cap)).run P w'= .ok olds.toArray w')→
   ∃v w' g' b,(Builtin.append_ #[t,t2] ty #[a.eval x,src]).run P w= .ok v w'∧Gs GL N g' w' μ ⟨(d,.pend b e i.size xs)::q.clear s.e,s.h⟩ (a.put (some d) v) O∧Chg (λb=>¬O b) g w g' w':=by
  intro base cap olds vs hev hgr hvr hvz hol hold;obtain⟨hf63,hfit⟩:=Io hroom hgr;have hrun:=GZ (ty:=ty) ht ht2 hd2 hi hz hsrc hold hgr hf63 hfit;have hge:=grownCap_ge w (xs.length+1) cap e;have hol2:olds.length=xs.length*i.size:=by rw[hol];exact DL hvz
  let w':=w.drew.alloc (.cells (olds.toArray++(BQ 1 vy).toArray++Builtin.zeroCells z.cells (grownCap w (xs.length+1) cap e-(xs.length+1))) e)
  let g':=g.put w.heap.size 0 olds
  have hnone:∀o,g.m w.heap.size o=none:=λo=>Gh.lt_of hg.inv.agree (qM _) o;have hgle:g.le g':=Gh.le_put _ λo _ _=>hnone o;have hheap:w'.heap[w.heap.size]?=some (.cells (olds.toArray++(BQ 1 vy).toArray++Builtin.zeroCells z.cells (grownCap w (xs.length+1) cap e-(xs.length+1))) e (0,0)):=
   heap_alloc_new w.drew _
  have hchg:Chg (λ_=>False) g w g' w':=
   ⟨hgle,by simp[w'],λb hb _=>heap_alloc_old w.drew _ b hb,λb hb _ o=>Gh.put_other (by omega) o,rfl,rfl⟩
  have hag:∀b o v,g'.m b o=some v→w'.cell? ⟨b,o,none⟩=some v:=by
   intro b o v hv;simp only[g',Gh.put]at hv;split at hv
   ·rename_i hc;obtain⟨rfl,_,hc2⟩:=hc;simp only[sV]at hv;rw[cell_of_row w' w.heap.size o _ e (0,0) hheap];simp only[←rb,Array.toList_append,qg];rw[qe (by simpa using hc2)];simpa using hv
   ·exact Dh (w:=w.drew) hg.inv.agree _ b o v hv
  have hrep:RepOwn g' w' e i.size xs (.slice (some ⟨w.heap.size,0,none⟩) xs.length (grownCap w (xs.length+1) cap e)):=by
   refine .inr ⟨w.heap.size,_,_,vs,rfl,by omega,hheap,by omega,?_,?_,?_,?_⟩
   ·simp only[Array.size_append,sg,size_zeroCells,hzs,hol2,hfl,←rO]
    congr 1;omega
   ·intro j y hj;exact(hvr j y hj).mono hgle
   ·intro j hlt;refine⟨hvz j hlt,λk v hv=>?_⟩;have hk:=(qK.1 hv).1;have hks:k <i.size:=by have:=hvz j hlt;simp at hk;omega
    have:=Gh.put_at g w.heap.size 0 olds (j*i.size+k) v (by rw[hol,EK hvz hlt hks];exact hv);simpa using this
   ·intro o ho;simp only[g',Gh.put];rw[if_neg,hnone o];rw[hol2];omega
  refine⟨_,w',g',w.heap.size,by rw[hev];exact hrun,⟨?_,hg.glob.mono hgle,by rw[BI,hg.sz]⟩,hchg.mono λ_ h=>h.elim⟩;rw[Dx _ (hg.sz▸hd)];exact hInvC.newD (d0:= .pend w.heap.size e i.size xs) hchg hag ⟨_,rfl,hge,hrep⟩ (λk=>by cases k<;>rfl) λb hb=>by
   simp only[Ae,qF]at hb;omega
 have hrq:=(hg.gd P).ev hk;have empty:∀base:Option Addr,a.eval x= .slice base 0 0→xs=[]→(∀y,base=some y→y.spot=none)→
   ∃v w' g' b,(Builtin.append_ #[t,t2] ty #[a.eval x,src]).run P w= .ok v w'∧Gs GL N g' w' μ ⟨(d,.pend b e i.size xs)::q.clear s.e,s.h⟩ (a.put (some d) v) O∧Chg (λb=>¬O b) g w g' w':=by
  intro base hev hx0 hsp;subst hx0;refine newA base 0 [] (λ_=> .bool true) hev (by simp) (by simp) (by simp) (by simp[BQ]) λw' _=>?_;cases base<;>simp[Builtin.firstCells,loadCells,loadCellsFrom]
 unfold EG at hx;split at hx
 ·rename_i e' s' xs' hqe;split at hx
  ·rename_i hes;obtain⟨rfl,rfl⟩:=hes;simp only[qF]at hx;subst hx;rw[hqe]at hrq;have hne0:=hrq.2;rcases hrq.1 with ⟨base,hev,hx0,hsp⟩|⟨b,cap,cur,vs,hev,hcap,hheap,hlc,hcs,hvr,hvz,hvn⟩
   ·exact empty base hev hx0 hsp
   ·have hold:∀w',(∀b o,w'.cell? ⟨b,o,none⟩=w.cell? ⟨b,o,none⟩)→(Builtin.firstCells i.size xs'.length (.slice (some ⟨b,0,none⟩) xs'.length cap)).run P w'= .ok (BQ xs'.length vs).toArray w':=by
     intro w' hw';refine run_firstCells_some (P:=P) w' i.size xs'.length ⟨b,0,none⟩ _ _ _ (DL λj hj=>(hvz j hj).1) λk v hv=>?_;rw[Cv rfl,hw'];refine OB (f:=λo=>w.cell? ⟨b,o,none⟩) (o:=0) hs0 (λj hj=>(hvz j hj).1) (λj hj k v hv=>?_) k v hv;have:=hg.inv.agree b _ v ((hvz j hj).2 k v hv);simpa using this
    by_cases hrm:xs'.length+1≤cap
    ·rcases hmv e' i.size xs' hqe with ⟨m,rfl⟩|hnil
     ·cases x with
      |tmp m'=>
       have hmm:m'=m:=by simpa[oe]using hk
       subst hmm;have hfind:AF s.e m'= .own e' i.size xs':=by simpa[Opd.ev]using hqe
       have hevt:a.tmps.getD m' undef= .slice (some ⟨b,0,none⟩) xs'.length cap:=hev;have hbo:Ae (AF s.e m') (a.tmps.getD m' undef)=some b:=by rw[hfind,hevt];simp[Ae];omega
       have hfit:xs'.length*i.size+(BQ 1 vy).length≤cur.size:=by rw[hfl,hcs,←rO];exact sf _ hrm
       have hrun:=JD (ty:=ty) ht ht2 hd2 hi hsrc hheap hrm hfit hf1
       let w':=w.setRow b (AS cur.toList (xs'.length*i.size) (BQ 1 vy)).toArray
       have hheap':w'.heap[b]?=some (.cells (AS cur.toList (xs'.length*i.size) (BQ 1 vy)).toArray e' (0,0)):=setRow_heap w b _ _ _ _ hheap;have hchg:Chg (λz=>z=b) g w g w':=⟨Gh.le.refl g,by simp[w'],λb' _ hb'=>setRow_other w b b' _ hb',λb' _ hb' o=>rfl,rfl,rfl⟩;have hag:∀b' o v,g.m b' o=some v→w'.cell? ⟨b',o,none⟩=some v:=by
        intro b' o v hv;by_cases hb':b'=b
        ·subst hb';rw[cell_of_row w' b' o _ _ _ hheap',←rb,sw,GK _ _ _ (by simpa using hfit)];have hc1:o <xs'.length*i.size:=by
          rcases qi o (xs'.length*i.size)with h|h
          ·exact h
          ·rw[hvn o h]at hv;cases hv
         rw[if_pos hc1];have:=hg.inv.agree b' o v hv;rw[cell_of_row w b' o _ _ _ hheap]at this;rw[rb];exact this
        ·rw[World.cell?_of_block (a:=⟨b',o,none⟩) (setRow_other w b b' _ hb')];exact hg.inv.agree b' o v hv
       have hrep:RepOwn g w' e' i.size xs' (.slice (some ⟨b,0,none⟩) xs'.length cap):=by
        refine .inr ⟨b,_,_,vs,rfl,hcap,hheap',by omega,?_,hvr,hvz,hvn⟩;simp only[sg];rw[Fr _ _ _ (by simpa using hfit)];simpa using hcs
       refine⟨_,w',g,b,by rw[hev];exact hrun,⟨?_,hg.glob,by rw[BI,hg.sz]⟩,hchg.mono λz hz ho=>?_⟩
       ·rw[Dx _ (hg.sz▸hd)];have e2:AF ((d,D.pend b e' i.size xs')::Opd.clear s.e (.t m' true))=λn=>if d=n then .pend b e' i.size xs' else if m'=n then (AF s.e m').copy else AF s.e n:=rfl;rw[e2];exact hg.inv.growD (n:=m') (d0:= .pend b e' i.size xs') hbo hchg hag ⟨_,rfl,hrm,hrep⟩ (λk=>by cases k<;>rfl) rfl
       ·subst hz;exact(hg.inv.sep (.tmp m' 0) z (by
         simp only[Cl,hfind,hevt,Ak,Ae];rw[if_neg (by omega)])).2 ho
      |const v=>simp[oe]at hk
      |global g=>simp[oe]at hk
      |func f=>simp[oe]at hk
     ·rw[hnil]at hev;cases hev
    ·exact newA _ cap _ vs hev (by omega) hvr (λj hj=>(hvz j hj).1) rfl hold
  ·cases hx
 ·rename_i e' s' hqe;simp only[qF]at hx;rw[hqe]at hrq;obtain⟨base,hev,hsp⟩:=hrq;exact empty base hev hx.symm hsp
 ·cases hx
end
end
section
variable {u:Value} {w:World} {g:Gh} {by_ n t:Nat} {q:Opd} {x y:Operand} {O:Nat→Prop} {a:Act} {s:St} {μ:List Nat} {o:Oper}
section
variable {P:Program} {GL:Ac} {N:Nat}
theorem I7 (hag:∀b o v,g.m b o=some v→w.cell? ⟨b,o,none⟩=some v) {ys:List V} (h:RepV g (.list ys) u) {s:Nat} (hs:0 <s) (hh:BG s ys=true):
  ∃vy,Src P w s u ys.length (BQ ys.length vy)∧(∀j y,ys[j]?=some y→RepV g y (vy j))∧(∀j,j <ys.length→(vy j).cells.size=s)∧∀j,j <ys.length→∀v∈(vy j).cells.toList,v.oneCell'=true:=by
 cases h with
 |lnil=>
  refine⟨λ_=> .bool true,⟨λw'=>by simp[Builtin.lenOf],by simp[Builtin.firstCells,BQ],by simp[Builtin.firstCells,BQ]⟩,by simp,by simp,by simp⟩
 |list _ a cap s' vs hsp hc hr hz=>
  have hss:0 <ys.length→s'=s:=by
   intro h0;have hx0:ys[0]?=some ys[0]:=qH _;have h1:ys.head?=some ys[0]:=by rw[List.head?_eq_getElem?];exact hx0
   simp[BG,h1]at hh;have h3:=(hr 0 _ hx0).cells.1.1;have h4:=(hz 0 h0).1;simp at h3;omega
  have hzz:∀j,j <ys.length→(vs j).cells.size=s:=λj hj=>by rw[←hss (by omega)];exact(hz j hj).1
  have hcells:∀w',(∀b o,w'.cell? ⟨b,o,none⟩=w.cell? ⟨b,o,none⟩)→(Builtin.firstCells s ys.length (.slice (some a) ys.length cap)).run P w'= .ok (BQ ys.length vs).toArray w':=by
   intro w' hw';refine run_firstCells_some (P:=P) w' s ys.length a _ _ _ (DL hzz) λk v hv=>?_;rw[Cv hsp,hw'];refine OB (f:=λo=>w.cell? ⟨a.block,o,none⟩) (o:=a.off) hs hzz (λj hj k v hv=>?_) k v hv;have h2:=(hz j hj).2;rw[hss (by omega)]at h2;exact hag _ _ v (h2 k v hv)
  refine⟨vs,⟨λw'=>by simp[Builtin.lenOf],hcells w λ_ _=>rfl,hcells w.drew λ_ _=>rfl⟩,hr,hzz,λj hj v hv=>?_⟩;have hj':ys[j]?=some ys[j]:=qH hj;exact(hr j _ hj').cells.2 v hv
def Ez (P:Program) (e s by_:Nat):Bool:=
 match P.info? e with
 |some i=>i.size==s&&i.bytes==by_&&decide (0 <s)&&(match i.zero with|some z=>z.cells.size==s|none=>false)
 |none=>false
theorem Ef {e s:Nat} (h:Ez P e s by_=true):∃i z,P.info? e=some i∧i.size=s∧i.bytes=by_∧0 <i.size∧i.zero=some z∧z.cells.size=i.size:=by
 unfold Ez at h;split at h
 ·rename_i i hi;simp only[qI,beq_iff_eq,decide_eq_true_eq]at h;obtain⟨⟨⟨rfl,rfl⟩,h0⟩,hz⟩:=h;split at hz
  ·rename_i z hzz;exact⟨i,z,hi,rfl,rfl,h0,hzz,by simpa using hz⟩
  ·cases hz
 ·cases h
def DR (P:Program) (t e:Nat):Bool:=match P.underlying t with|some (.slice e')=>e==e'|_=>false
theorem DD {e:Nat} (h:DR P t e=true):P.underlying t=some (.slice e):=by
 unfold DR at h;split at h
 ·rename_i e' he;have:e=e':=by simpa using h
  rw[this];exact he
 ·cases h
def Eh (q:Opd):Bool:=match q with| .t _ mv=>mv| .c (.own _ _ [])=>true| .c (.nil _ _)=>true|_=>false
theorem OL (hg:Gs GL N g w μ s a O) (hk:oe GL x q=true) (hb:Eh q=true):
  ∀e' s' ys,q.ev s.e= .own e' s' ys→(∃m,q= .t m true)∨a.eval x= .slice none 0 0:=by
 intro e' s' ys hq;cases q with
 |t m mv=>
  simp only[Eh]at hb;subst hb;exact .inl ⟨m,rfl⟩
 |c d=>
  simp only[Opd.ev]at hq;subst hq;cases x with
  |const v=>
   right
   rcases Lg hk with hk|⟨cs,xs,rfl,hq⟩
   case inr=>cases hq
   unfold F3 at hk;split at hk<;>first|rfl|(rename_i h _;cases h)|cases hk
   all_goals simp_all [Act.eval]
  |tmp n=>simp[oe]at hk
  |global n=>simp[oe]at hk
  |func f=>simp[oe]at hk
 |g n cs=>simp[Opd.ev]at hq
theorem cC {d:Nat} {r:Opd} {t2 e s e2:Nat} (ho:o.dst=some d) (hop:o.op= .call {callee:= .builtin .append,args:= #[x,y],argTypes:= #[t,t2]}) (hd:d <N)
  (hk:oe GL x q=true) (hk2:oe GL y r=true) (hb:Eh q=true) (ht:DR P t e=true) (ht2:DR P t2 e2=true) (he:Ez P e s by_=true):Dw P GL N o (.app d q r e s by_):=by
 intro g w μ st st' a O hg hs;obtain⟨i,z,hi,rfl,rfl,h0,hz,hzs⟩:=Ef he;simp only[AI.step]at hs;split at hs
 ·rename_i xs ys hx hy;split at hs
  ·rename_i hcond;simp only[qF]at hs;subst hs;have hry:=Cs ((hg.gd P).ev hk2) hy;obtain⟨vy,h1,h2,h3,h4⟩:=I7 (P:=P) hg.inv.agree hry h0 hcond.1;obtain⟨v,w',g',hrun,hgs,hch⟩:=QF hg (ty:=o.type) (DD ht) (DD ht2) (by simp) hi hz hzs h0 hk hx (OL hg hk hb) h1 h2 h3 h4 hcond.2 hd;exact⟨v,w',g',μ,.inl (by simp[execOp,hop,resolve,invoke,builtin,hrun]),by rw[ho];exact hgs,hch,qP _⟩
  ·cases hs
 ·cases hs
theorem WT (w:World) (b:ByteArray):Src P w 1 (.string b) (b.data.toList.map λc=>V.int .u8 c.toNat).length (BQ (b.data.toList.map λc=>V.int .u8 c.toNat).length λj=> .int .u8 ((b.data.toList[j]?.map (·.toNat)).getD 0:Nat)):=by
 have hfl:BQ (b.data.toList.map λc=>V.int .u8 c.toNat).length (λj=>Value.int .u8 ((b.data.toList[j]?.map (·.toNat)).getD 0:Nat))=b.data.toList.map λc=>Value.int .u8 c.toNat:=by
  apply rj;intro k;have hl:=DL (s:=1) (n:=(b.data.toList.map λc=>V.int .u8 c.toNat).length) (vs:=λj=>Value.int .u8 ((b.data.toList[j]?.map (·.toNat)).getD 0:Nat)) (λ_ _=>by simp[Value.cells]);by_cases hk:k <b.data.toList.length
  ·have:=EK (s:=1) (n:=(b.data.toList.map λc=>V.int .u8 c.toNat).length) (vs:=λj=>Value.int .u8 ((b.data.toList[j]?.map (·.toNat)).getD 0:Nat)) (λ_ _=>by simp[Value.cells]) (i:=k) (j:=0) (by simpa using hk) (by omega);simp only[Nat.mul_one,sd]at this;rw[this];simp[Value.cells,qH hk]
  ·rw[rG (by rw[hl];simp at hk ⊢;omega),rG (by simp at hk ⊢;omega)]
 rw[hfl];have hx:∀w',(Builtin.firstCells 1 (b.data.toList.map λc=>V.int .u8 c.toNat).length (.string b)).run P w'= .ok (b.data.toList.map λc=>Value.int .u8 c.toNat).toArray w':=by
  intro w';have hsz:(b.data.toList.map λc=>V.int .u8 c.toNat).length=b.size:=by simp
  rw[hsz];simp only[Builtin.firstCells,Sem.run_pure]
  congr 1
  have:b.extract 0 b.size=b:=by simp
  rw[this];rw[←ri];simp
 exact⟨λw'=>by simp[Builtin.lenOf],hx w,hx w.drew⟩
theorem Xs {d:Nat} {r:Opd} {t2 e:Nat} (ho:o.dst=some d) (hop:o.op= .call {callee:= .builtin .append,args:= #[x,y],argTypes:= #[t,t2]}) (hd:d <N)
  (hk:oe GL x q=true) (hk2:oe GL y r=true) (hb:Eh q=true) (ht:DR P t e=true) (ht2:Fm P t2 (λ| .string=>true|_=>false)=true) (he:Ez P e 1 by_=true):
  Dw P GL N o (.appS d q r e by_):=by
 intro g w μ st st' a O hg hs;obtain⟨i,z,hi,hi1,rfl,h0,hz,hzs⟩:=Ef he;simp only[AI.step]at hs;split at hs
 ·rename_i xs b hx hy;split at hs
  ·rename_i hcond;simp only[qF]at hs;subst hs;have hry:=(hg.gd P).ev hk2;rw[hy]at hry;have hyv:=Gb hry;have hsrc:=WT (P:=P) w b;rw[←hi1]at hsrc hx;obtain⟨v,w',g',hrun,hgs,hch⟩:=QF hg (ty:=o.type) (DD ht) (Eb ht2) (by simp) hi hz hzs h0 hk hx (OL hg hk hb) hsrc
    (λj y hj=>by
     simp only[qZ,qQ]at hj;obtain⟨c,hc,rfl⟩:=hj;simp only[hc,qq,qd];exact .int _ _)
    (λj _=>by rw[hi1];simp[Value.cells]) (λj _ v hv=>by simp[Value.cells]at hv;rw[hv];rfl) (by simpa using hcond) hd
   rw[hi1]at hgs;exact⟨v,w',g',μ,.inl (by simp[execOp,hop,resolve,invoke,builtin,hyv,hrun]),by rw[ho];exact hgs,hch,qP _⟩
  ·cases hs
 ·cases hs
theorem OZ {g:Gh} {w:World} {μ:List Nat} {st:St} {a:Act} {h:List Row} {O:Nat→Prop} (hg:Gd P GL g w μ st.e a h O):∀ {ps:List Operand} {qs:List Opd} {vs:List V},Ap (oe GL) ps qs=true→IV st.e qs=some vs→
  All2 (RepV g) vs (ps.map a.eval)
 |[],[],vs,_,hv=>by simp only[IV,qF]at hv;subst hv;exact .nil
 |p::ps,q::qs,vs,hk,hv=>by
  simp only[Ap,qI]at hk;simp only[IV]at hv;split at hv
  ·rename_i x xs hx hxs;simp only[qF]at hv;subst hv;exact .cons (Cs (hg.ev hk.1) hx) (OZ hg hk.2 hxs)
  ·cases hv
 |[],_::_,_,hk,_=>by simp[Ap]at hk
 |_::_,[],_,hk,_=>by simp[Ap]at hk
theorem KQ {g:Gh} {w:World} {μ:List Nat} {st:St} {a:Act} {h:List Row} {O:Nat→Prop} (hg:Gd P GL g w μ st.e a h O) {sz:Nat}:∀ {ps:List Operand} {qs:List Opd} {cs:List D},Ap (oe GL) ps qs=true→IB st.e sz qs=some cs→
  All2 (RepE g w μ) cs ((ps.map a.eval).flatMap λv=>v.cells.toList)∧(∀v∈(ps.map a.eval).flatMap λv=>v.cells.toList,v.oneCell'=true)∧
   (∀(i:Nat) z v,cs[i]?=some z→((ps.map a.eval).flatMap λv=>v.cells.toList)[i]?=some v→Ae z v=none)∧∀v∈ps.map a.eval,v.cells.size=sz
 |[],[],cs,_,hv=>by simp only[IB,qF]at hv;subst hv;exact⟨.nil,by simp,by simp,by simp⟩
 |p::ps,q::qs,cs,hk,hv=>by
  simp only[Ap,qI]at hk;simp only[IB]at hv;split at hv
  ·rename_i c cs' hc hcs;split at hv
   ·rename_i hl;simp only[qF]at hv;subst hv;obtain⟨r1,r2,r3⟩:=KJ (hg.ev hk.1).copy hc;obtain⟨k1,k2,k3,k4⟩:=KQ hg hk.2 hcs;have hl1:(c.map D.toRow).length=(a.eval p).cells.toList.length:=r1.1.symm;refine⟨?_,?_,?_,?_⟩
    ·simp only[qR,qN];exact r1.append k1
    ·intro v hv;simp only[qR,qN,qW]at hv;rcases hv with hv|hv
     ·exact r2 v hv
     ·exact k2 v hv
    ·intro i z v hz hv;simp only[qR,qN]at hv;by_cases hi:i <(c.map D.toRow).length
     ·rw[qe hi]at hz;rw[qe (hl1▸hi)]at hv;exact r3 i z v hz hv
     ·rw[ql (by omega)]at hz;rw[ql (by omega),←hl1]at hv;exact k3 _ z v hz hv
    ·intro v hv;simp only[qR,qL]at hv;rcases hv with rfl|hv
     ·have:=r1.1;simp at this;omega
     ·exact k4 v hv
   ·cases hv
  ·cases hv
 |[],_::_,_,hk,_=>by simp[Ap]at hk
 |_::_,[],_,hk,_=>by simp[Ap]at hk
theorem Ml {α β:Type} {f:α→β→Bool}:∀ {xs:List α} {ys:List β},Ap f xs ys=true→xs.length=ys.length
 |[],[],_=>rfl
 |x::xs,y::ys,h=>by simp only[Ap,qI]at h;simp[Ml h.2]
 |[],_::_,h=>by simp[Ap]at h
 |_::_,[],h=>by simp[Ap]at h
def FG (GL:Ac):Nat→List (Nat×Operand)→List Opd→Bool
 |_,[],[]=>true
 |k,p::ps,q::qs=>p.1==k&&oe GL p.2 q&&FG GL (k+1) ps qs
 |_,_,_=>false
theorem Hr:∀ {k:Nat} {ps:List (Nat×Operand)} {qs:List Opd},FG GL k ps qs=true→Ap (oe GL) (ps.map (·.2)) qs=true∧∀f:Operand→Value,ps.map (λp=>(p.1,f p.2))=((ps.map λp=>f p.2).zipIdx k).map λx=>(x.2,x.1)
 |_,[],[],_=>⟨rfl,λ_=>rfl⟩
 |k,p::ps,q::qs,h=>by
  simp only[FG,qI,beq_iff_eq]at h;obtain⟨⟨h1,h2⟩,h3⟩:=h;obtain⟨r1,r2⟩:=Hr h3;refine⟨by simp[Ap,h2,r1],λf=>?_⟩;simp only[qR,tj,h1,r2 f]
 |_,[],_::_,h=>by simp[FG]at h
 |_,_::_,[],h=>by simp[FG]at h
theorem bg {d e s:Nat} {ps:Array (Nat×Operand)} {qs:List Opd} (ho:o.dst=some d) (hop:o.op= .buildSlice t n ps) (hd:d <N) (ht:DR P t e=true) (he:Ez P e s by_=true)
  (hn:ps.toList.length=n) (hsm:n*s≤2^24) (hk:FG GL 0 ps.toList qs=true):Dw P GL N o (.bsl d e s qs):=by
 intro g w μ st st' a O hg hs;obtain⟨i,z,hi,rfl,rfl,h0,hz,hzs⟩:=Ef he;obtain⟨k1,k2⟩:=Hr hk;simp only[AI.step]at hs;split at hs
 ·rename_i vs hvs;split at hs
  ·rename_i hall;have hrep:=OZ (hg.gd P) k1 hvs;have hlen:vs.length=n:=by have:=hrep.1;simp at this;rw[←hn];simp;omega
   have hparts:(ps.map λp=>(p.1,a.eval p.2)).toList=(((ps.toList.map λp=>a.eval p.2)).zipIdx 0).map λx=>(x.2,x.1):=by
    rw[Array.toList_map];exact k2 a.eval
   have hmm:(ps.toList.map (·.2)).map a.eval=ps.toList.map λp=>a.eval p.2:=by simp
   rw[hmm]at hrep;have hpl:(ps.toList.map λp=>a.eval p.2).length=n:=by simpa using hn
   have hcell:∀(j:Nat) (v:Value) (x:V),(ps.toList.map λp=>a.eval p.2)[j]?=some v→vs[j]?=some x→v.cells.size=i.size:=by
    intro j v x hv hx;have h1:=(hrep.2 j x v hx hv).cells.1.1;have h2:=qV.1 hall x (qJ hx);simp at h1 h2;omega
   cases vs with
   |nil=>
    simp only[qF]at hs;subst hs;have hn0:n=0:=by simpa using hlen.symm
    subst hn0;have hp0:ps= #[]:=by rw[←ri];simpa using rU hn
    subst hp0;have hch:=CG (λ_=>False) g w (.cells #[] e);refine⟨.slice (some ⟨w.heap.size,0,none⟩) 0 0,w.alloc (.cells #[] e),g,μ,.inl ?_,?_,hch.mono λ_ h=>h.elim,qP _⟩
    ·simp[execOp,hop,Instr.buildSlice,run_underlying (DD ht),sizeOf,typeInfo,hi,Instr.fill,newRow,show Array.range 0= #[] from rfl]
    ·rw[ho];have h2:Gs GL N g (w.alloc (.cells #[] e)) μ st a O:=⟨hg.inv.chg hch (Dh hg.inv.agree _),hg.glob,hg.sz⟩;refine h2.set hd ⟨_,rfl,λx hx=>by cases hx;rfl⟩ λk=>by cases k<;>simp[Ak,Ae]
   |cons x0 xs0=>
    simp only[qF]at hs;subst hs;have hn0:0 <n:=by simp at hlen;omega
    let vv:Nat→Value:=λj=>((ps.toList.map λp=>a.eval p.2)[j]?).getD (.bool true)
    have hvz:∀j,j <n→(vv j).cells.size=i.size:=by
     intro j hj;have e1:(ps.toList.map λp=>a.eval p.2)[j]?=some (ps.toList.map λp=>a.eval p.2)[j]:=qH (by omega);have e2:(x0::xs0)[j]?=some (x0::xs0)[j]:=qH (by omega);simp only[vv,e1,qd];exact hcell j _ _ e1 e2
    have hfl:((ps.toList.map λp=>a.eval p.2).flatMap λv=>v.cells.toList)=BQ n vv:=by
     have:(ps.toList.map λp=>a.eval p.2)=(List.range n).map vv:=by
      apply rj;intro j;by_cases hj:j <n
      ·have e1:(ps.toList.map λp=>a.eval p.2)[j]?=some (ps.toList.map λp=>a.eval p.2)[j]:=qH (by omega);rw[e1,qZ (l:=List.range n),sH hj];simp only[qq,vv,e1,qd]
      ·rw[rG (by omega),rG (by simp;omega)]
     rw[this,BQ,tU]
    have hfill:=Great.fill_whole h0 (ps.toList.map λp=>a.eval p.2) ((Array.range (n*i.size)).map (z.cells[· %z.cells.size]!)) (λv hv=>by
     obtain⟨j,hj,rfl⟩:=sO.1 hv;have e1:(ps.toList.map λp=>a.eval p.2)[j]?=some (ps.toList.map λp=>a.eval p.2)[j]:=qH hj;have e2:(x0::xs0)[j]?=some (x0::xs0)[j]:=qH (by omega);exact hcell j _ _ e1 e2) (by rw[hpl];simp)
    rw[hfl,←hparts]at hfill;have hns:¬n*i.size>2^24:=by omega
    have hnp:¬n*i.size=0:=by
     intro h;rcases Nat.mul_eq_zero.1 h with h|h<;>omega
    have hrun:=run_buildSlice (P:=P) w t e n _ _ i z (DD ht) hi hz hns hnp hfill
    let w':=w.alloc (.cells (BQ n vv).toArray e)
    let g':=g.put w.heap.size 0 (BQ n vv)
    have hnone:∀o,g.m w.heap.size o=none:=λo=>Gh.lt_of hg.inv.agree (qM _) o;have hgle:g.le g':=Gh.le_put _ λo _ _=>hnone o;have hheap:w'.heap[w.heap.size]?=some (.cells (BQ n vv).toArray e (0,0)):=heap_alloc_new w _;have hchg:Chg (λ_=>False) g w g' w':=⟨hgle,by simp[w'],λb hb _=>heap_alloc_old w _ b hb,λb hb _ o=>Gh.put_other (by omega) o,rfl,rfl⟩;have hfll:(BQ n vv).length=n*i.size:=DL hvz;have hag:∀b o v,g'.m b o=some v→w'.cell? ⟨b,o,none⟩=some v:=by
     intro b o v hv;simp only[g',Gh.put]at hv;split at hv
     ·rename_i hc;obtain⟨rfl,_,hc2⟩:=hc;simp only[sV]at hv;rw[cell_of_row w' w.heap.size o _ e (0,0) hheap];simpa using hv
     ·exact Dh hg.inv.agree _ b o v hv
    have hown:RepOwn g' w' e i.size (x0::xs0) (.slice (some ⟨w.heap.size,0,none⟩) n n):=by
     refine .inr ⟨w.heap.size,n,_,vv,by rw[hlen],hn0,hheap,by omega,by simpa using hfll,?_,?_,?_⟩
     ·intro j x hx;have hj:=(qK.1 hx).1;have e1:(ps.toList.map λp=>a.eval p.2)[j]?=some (ps.toList.map λp=>a.eval p.2)[j]:=qH (by omega);have:=hrep.2 j x _ hx e1;simp only[vv,e1,qd];exact this.mono hgle
     ·intro j hj;have hjn:j <n:=by omega
      refine⟨hvz j hjn,λk v hv=>?_⟩;have hks:k <i.size:=by have:=hvz j hjn;have:=(qK.1 hv).1;simp at this;omega
      have:=Gh.put_at g w.heap.size 0 (BQ n vv) (j*i.size+k) v (by rw[EK hvz hjn hks];exact hv);simpa using this
     ·intro o ho;simp only[g',Gh.put];rw[if_neg (by rw[hfll];rw[hlen]at ho;omega),hnone o]
    refine⟨.slice (some ⟨w.heap.size,0,none⟩) n n,w',g',μ,.inl ?_,⟨?_,hg.glob.mono hgle,by rw[BI,hg.sz]⟩,hchg.mono λ_ h=>h.elim,qP _⟩
    ·simp[execOp,hop,hrun,w']
    ·rw[ho,Dx _ (hg.sz▸hd)];refine hg.inv.newOwn hchg hag hown (λh=>by simp at h) λb hb=>?_;simp only[Ae]at hb;split at hb
     ·cases hb
     ·simp only[qF]at hb;omega
  ·cases hs
 ·cases hs
theorem bf {d e s:Nat} {ps:Array (Nat×Operand)} {qs:List Opd} (ho:o.dst=some d) (hop:o.op= .buildSlice t n ps) (hd:d <N) (ht:DR P t e=true) (he:Ez P e s by_=true)
  (hn:ps.toList.length=n) (hn0:0 <n) (hsm:n*s≤2^24) (hk:FG GL 0 ps.toList qs=true):Dw P GL N o (.bsr d s qs):=by
 intro g w μ st st' a O hg hs;obtain⟨i,z,hi,rfl,rfl,h0,hz,hzs⟩:=Ef he;obtain⟨k1,k2⟩:=Hr hk;simp only[AI.step]at hs;split at hs
 ·rename_i cs hcs;simp only[qF]at hs;subst hs;obtain⟨r1,r2,r3,r4⟩:=KQ (hg.gd P) k1 hcs;have hmm:(ps.toList.map (·.2)).map a.eval=ps.toList.map λp=>a.eval p.2:=by simp
  rw[hmm]at r1 r2 r3 r4;have hparts:(ps.map λp=>(p.1,a.eval p.2)).toList=(((ps.toList.map λp=>a.eval p.2)).zipIdx 0).map λx=>(x.2,x.1):=by
   rw[Array.toList_map];exact k2 a.eval
  have hpl:(ps.toList.map λp=>a.eval p.2).length=n:=by simpa using hn
  have hql:qs.length=n:=by have:=Ml k1;simp at this;rw[←this];simpa using hn
  have hfill:=Great.fill_whole h0 (ps.toList.map λp=>a.eval p.2) ((Array.range (n*i.size)).map (z.cells[· %z.cells.size]!)) r4 (by rw[hpl];simp);rw[←hparts]at hfill;have hns:¬n*i.size>2^24:=by omega
  have hnp:¬n*i.size=0:=by
   intro h;rcases Nat.mul_eq_zero.1 h with h|h<;>omega
  have hrun:=run_buildSlice (P:=P) w t e n _ _ i z (DD ht) hi hz hns hnp hfill;have hnew:=hg.inv.newRow (zs:=cs) e r1 r2 r3;refine⟨.slice (some ⟨w.heap.size,0,none⟩) n n,w.alloc (.cells (((ps.toList.map λp=>a.eval p.2).flatMap λv=>v.cells.toList)).toArray e),g,μ++[w.heap.size],.inl (by simp[execOp,hop,hrun]),?_,CG _ g w _,rx _ _⟩;rw[ho,hql];have hgn:Gs GL N g (w.alloc (.cells (((ps.toList.map λp=>a.eval p.2).flatMap λv=>v.cells.toList)).toArray e)) (μ++[w.heap.size]) ⟨st.e,st.h++[.cells cs]⟩ a O:=⟨hnew,hg.glob,hg.sz⟩;have hrd:RepD g (w.alloc (.cells (((ps.toList.map λp=>a.eval p.2).flatMap λv=>v.cells.toList)).toArray e)) (μ++[w.heap.size]) (.sref st.h.length n) (.slice (some ⟨w.heap.size,0,none⟩) n n):=⟨w.heap.size,n,by rw[←hg.inv.len];simp,rfl,qM _⟩;exact hgn.set hd hrd λk=>by cases k<;>simp[Ak,Ae]
 ·cases hs
end
end
section
abbrev KL:Nat→D:=λ_=> .any
abbrev Mj:Nat→Value:=λ_=> .bool false
def D.norm (d:D):D:=match d.toV with|some x=> .v x|none=>d
def D.arg (d:D):D:=d.copy.norm
def Ar (e:CH) (qs:List Opd):List D:=qs.map λq=>(q.ev e).arg
def Dt (d:D):Option (Nat×List D):=
 match d.norm with
 | .v (.func f cs)=>some (f,cs.map .v)
 | .func f ds=>some (f,ds)
 |_=>none
variable {d:D}
theorem Ru {x:V} (h:d.toV=some x):d.norm= .v x:=by simp[D.norm,h]
theorem Tq {x:V} (h:d.toV=some x):d.copy.toV=some x:=by
 cases d<;>first
  |exact h
  |(simp[D.toV,D.v?]at h;done)
theorem cA {x:V} (h:d.toV=some x):d.arg= .v x:=Ru (Tq h)
variable {cs:List V} {f:Nat}
theorem XO (h:d.toV=some (.func f cs)):Dt d=some (f,cs.map .v):=by simp[Dt,Ru h]
theorem NV {e:CH}:∀ {qs:List Opd} {vs:List V},IV e qs=some vs→Ar e qs=vs.map .v
 |[],vs,h=>by simp only[IV,qF]at h;subst h;rfl
 |q::qs,vs,h=>by
  simp only[IV]at h;split at h
  ·rename_i x xs hx hxs;simp only[qF]at h;subst h;have:=NV hxs;simp only[Ar]at this;simp only[Ar,qR,cA hx,this]
  ·cases h
def Bj:List D→D
 |[x]=>x
 |xs=> .tup xs
variable {u:Value} {ds:List D}
section
variable {P:Program} {GL:Ac} {N:Nat} {g:Gh} {w:World} {μ:List Nat}
theorem RepD.norm {d:D} {u:Value} (h:RepD g w μ d u):RepD g w μ d.norm u:=by
 unfold D.norm;split
 ·rename_i x hx;exact Cs h hx
 ·exact h
theorem Yz (h:RepD g w μ d u):RepG g w μ d.copy u:=by
 cases d<;>first
  |exact h
  |exact RepOwn.list h.1
  |trivial
theorem RepD.arg {d:D} {u:Value} (h:RepD g w μ d u):RepG g w μ d.arg u:=by
 unfold D.arg D.norm;split
 ·rename_i x hx;exact Cs h.copy hx
 ·exact Yz h
theorem Lc (d:D) (u:Value):Ae d.arg u=none:=by
 unfold D.arg D.norm;split
 ·simp[Ae]
 ·exact Jv d u
def Tame (ds:List D) (us:List Value):Prop:=∀(i:Nat) d v,ds[i]?=some d→us[i]?=some v→Ae d v=none
theorem Tame.append {ds':List D} {us us':List Value} (hl:us.length=ds.length) (h:Tame ds us) (h':Tame ds' us'):Tame (ds++ds') (us++us'):=by
 intro i d v hd hv;by_cases hi:i <ds.length
 ·rw[qe hi]at hd;rw[qe (by omega)]at hv;exact h i d v hd hv
 ·rw[ql (by omega)]at hd;rw[ql (by omega),hl]at hv;exact h' _ d v hd hv
theorem Fh {st:St} {a:Act} {h:List Row} {O:Nat→Prop} (hg:Gd P GL g w μ st.e a h O):∀ {ps:List Operand} {qs:List Opd},Ap (oe GL) ps qs=true→
  All2 (RepG g w μ) (Ar st.e qs) (ps.map a.eval)∧Tame (Ar st.e qs) (ps.map a.eval)
 |[],[],_=>⟨.nil,λi d v h=>by simp[Ar]at h⟩
 |p::ps,q::qs,hk=>by
  simp only[Ap,qI]at hk;obtain⟨h1,h2⟩:=Fh hg hk.2;refine⟨.cons (hg.ev hk.1).arg h1,λi d v hd hv=>?_⟩;cases i with
  |zero=>simp[Ar]at hd;subst hd;exact Lc _ _
  |succ i=>exact h2 i d v (by simpa[Ar]using hd) (by simpa using hv)
 |[],_::_,hk=>by simp[Ap]at hk
 |_::_,[],hk=>by simp[Ap]at hk
theorem Jc (h:RepD g w μ d u) {caps:List D} (hf:Dt d=some (f,caps)):∃cvs:List Value,u= .func (.func f) #[] cvs.toArray∧All2 (RepG g w μ) caps cvs∧Tame caps cvs:=by
 have h:=h.norm;unfold Dt at hf;generalize d.norm=d at h hf;split at hf
 ·rename_i f' cs;simp only[qF,sW]at hf;obtain⟨rfl,rfl⟩:=hf;cases h with
  |func _ _ vs hl hr=>
   refine⟨vs,rfl,All2.map_left (f:=D.v) (R:=RepV g) (λx y h=>h) ⟨hl,hr⟩,λi d v hd hv=>?_⟩;simp only[qZ,qQ]at hd;obtain⟨y,_,rfl⟩:=hd;simp[Ae]
 ·rename_i f' ds;simp only[qF,sW]at hf;obtain⟨rfl,rfl⟩:=hf;obtain⟨vs,rfl,hall⟩:=h;refine⟨vs,rfl,hall.imp λd v h=>?_,λi d v hd hv=>?_⟩
  ·cases d<;>first|exact h|exact h.elim
  ·have:=hall.2 i d v hd hv;cases d<;>first|rfl|exact this.elim
 ·cases hf
end
variable {b k n:Nat} {μ μ':List Nat} {w w':World} {h h':List Row} {g':Gh} {v:Value}
section
variable {g:Gh} {w:World} {μ:List Nat} {t:Nat→D} {u:Nat→Value} {h:List Row} {O:Nat→Prop}
def NX (t:Nat→D) (u:Nat→Value) (O:Nat→Prop) (b:Nat):Prop:=O b∨∃n k,Ak (t n) (u n) k=some b
theorem IR:¬Cl KL Mj h w μ (.tmp n k)=some b:=by
 cases k<;>simp[Cl,Ak,Ae]
theorem Inv.call (hi:Inv g w μ t u h O):Inv g w μ KL Mj h (NX t u O) where
 agree:=hi.agree
 olt:=λb hb=>by
  rcases hb with hb|⟨n,k,hb⟩
  ·exact hi.olt b hb
  ·exact hi.blk_lt (p:= .tmp n k) hb
 rep:=λn=>trivial
 len:=hi.len
 rows:=hi.rows
 nod:=hi.nod
 mo:=λb hb ho=>by
  rcases ho with ho|⟨n,k,ho⟩
  ·exact hi.mo b hb ho
  ·exact(hi.sep (.tmp n k) b ho).1 hb
 uniq:=λp q b hp hq=>by
  cases p with
  |tmp n k=>exact absurd hp IR
  |cell r k=>cases q with
   |tmp n k=>exact absurd hq IR
   |cell r' k'=>exact hi.uniq _ _ b hp hq
 sep:=λp b hp=>by
  cases p with
  |tmp n k=>exact absurd hp IR
  |cell r k=>
   obtain⟨h1,h2⟩:=hi.sep (.cell r k) b hp;refine⟨h1,λho=>?_⟩;rcases ho with ho|⟨n,k',ho⟩
   ·exact h2 ho
   ·have:=hi.uniq (.cell r k) (.tmp n k') b hp ho;cases this
theorem Inv.ret (hi:Inv g w μ t u h O) (hi':Inv g' w' μ' KL Mj h' (NX t u O))
  (hc:Chg (λb=>¬NX t u O b) g w g' w') (hμ:μ <+: μ'):Inv g' w' μ' t u h' O where
 agree:=hi'.agree
 olt:=λb hb=>hi'.olt b (.inl hb)
 rep:=λn=>EP hi hc hμ n λk b hb hn=>hn (.inr ⟨n,k,hb⟩)
 len:=hi'.len
 rows:=hi'.rows
 nod:=hi'.nod
 mo:=λb hb ho=>hi'.mo b hb (.inl ho)
 uniq:=λp q b hp hq=>by
  cases p with
  |tmp n k=>cases q with
   |tmp n' k'=>exact hi.uniq (.tmp n k) (.tmp n' k') b hp hq
   |cell r' k'=>exact absurd (.inr ⟨n,k,hp⟩) (hi'.sep (.cell r' k') b hq).2
  |cell r k=>cases q with
   |tmp n' k'=>exact absurd (.inr ⟨n',k',hq⟩) (hi'.sep (.cell r k) b hp).2
   |cell r' k'=>exact hi'.uniq _ _ b hp hq
 sep:=λp b hp=>by
  cases p with
  |tmp n k=>exact⟨λhm=>hi'.mo b hm (.inr ⟨n,k,hp⟩),(hi.sep (.tmp n k) b hp).2⟩
  |cell r k=>
   obtain⟨h1,h2⟩:=hi'.sep (.cell r k) b hp;exact⟨h1,λho=>h2 (.inl ho)⟩
def IU {α:Type} (z x:α):Nat→α:=λn=>if 0=n then x else z
theorem Inv.retV (hi:Inv g w μ t u h O) {x:D} (hi':Inv g' w' μ' (IU .any x) (IU (.bool false) v) h' (NX t u O))
  (hb:Inv g' w' μ' t u h' O) (d:Nat):Inv g' w' μ' (λn=>if d=n then x else t n) (λn=>if d=n then v else u n) h' O:=by
 have htd:∀k b,Cl (λn=>if d=n then x else t n) (λn=>if d=n then v else u n) h' w' μ' (.tmp d k)=some b→Cl (IU .any x) (IU (.bool false) v) h' w' μ' (.tmp 0 k)=some b:=by
  intro k b hb;simpa[Cl,IU]using hb
 have htn:∀n k b,d≠n→Cl (λn=>if d=n then x else t n) (λn=>if d=n then v else u n) h' w' μ' (.tmp n k)=some b→Cl t u h' w' μ' (.tmp n k)=some b:=by
  intro n k b hn hb;simpa[Cl,hn]using hb
 have hO:∀n k b,Cl t u h' w' μ' (.tmp n k)=some b→NX t u O b:=λn k b hb=> .inr ⟨n,k,hb⟩;refine⟨hb.agree,hb.olt,λn=>?_,hb.len,hb.rows,hb.nod,hb.mo,?_,?_⟩
 ·by_cases hn:d=n
  ·simp only[hn,if_true];simpa[IU]using hi'.rep 0
  ·simp only[hn,if_false];exact hb.rep n
 ·intro p q b hp hq;cases p with
  |tmp n k=>
   cases q with
   |tmp n' k'=>
    by_cases hn:d=n
    ·subst hn;by_cases hn':d=n'
     ·subst hn';have:=hi'.uniq _ _ b (htd k b hp) (htd k' b hq);simp only[Pl.tmp.injEq,true_and]at this;rw[this]
     ·exact absurd (hO _ _ _ (htn n' k' b hn' hq)) (hi'.sep _ b (htd k b hp)).2
    ·by_cases hn':d=n'
     ·subst hn';exact absurd (hO _ _ _ (htn n k b hn hp)) (hi'.sep _ b (htd k' b hq)).2
     ·exact hb.uniq _ _ b (htn n k b hn hp) (htn n' k' b hn' hq)
   |cell r k'=>
    by_cases hn:d=n
    ·subst hn;have:=hi'.uniq (.tmp 0 k) (.cell r k') b (htd k b hp) hq;cases this
    ·exact hb.uniq _ _ b (htn n k b hn hp) hq
  |cell r k=>
   cases q with
   |tmp n' k'=>
    by_cases hn':d=n'
    ·subst hn';have:=hi'.uniq (.cell r k) (.tmp 0 k') b hp (htd k' b hq);cases this
    ·exact hb.uniq _ _ b hp (htn n' k' b hn' hq)
   |cell r' k'=>exact hb.uniq (.cell r k) (.cell r' k') b hp hq
 ·intro p b hp;cases p with
  |tmp n k=>
   by_cases hn:d=n
   ·subst hn;obtain⟨h1,h2⟩:=hi'.sep _ b (htd k b hp);exact⟨h1,λho=>h2 (.inl ho)⟩
   ·exact hb.sep _ b (htn n k b hn hp)
  |cell r k=>exact hb.sep (.cell r k) b hp
theorem Inv.enter (hi:Inv g w μ KL Mj h O) (hr:∀n,RepD g w μ (t n) (u n)) (h0:∀n k,Ak (t n) (u n) k=none):Inv g w μ t u h O where
 agree:=hi.agree
 olt:=hi.olt
 rep:=hr
 len:=hi.len
 rows:=hi.rows
 nod:=hi.nod
 mo:=hi.mo
 uniq:=λp q b hp hq=>by
  cases p with
  |tmp n k=>simp[Cl,h0]at hp
  |cell r k=>cases q with
   |tmp n k=>simp[Cl,h0]at hq
   |cell r' k'=>exact hi.uniq _ _ b hp hq
 sep:=λp b hp=>by
  cases p with
  |tmp n k=>simp[Cl,h0]at hp
  |cell r k=>exact hi.sep (.cell r k) b hp
theorem Inv.leave (hi:Inv g w μ t u h O):Inv g w μ KL Mj h O where
 agree:=hi.agree
 olt:=hi.olt
 rep:=λn=>trivial
 len:=hi.len
 rows:=hi.rows
 nod:=hi.nod
 mo:=hi.mo
 uniq:=λp q b hp hq=>by
  cases p with
  |tmp n k=>exact absurd hp IR
  |cell r k=>cases q with
   |tmp n k=>exact absurd hq IR
   |cell r' k'=>exact hi.uniq _ _ b hp hq
 sep:=λp b hp=>by
  cases p with
  |tmp n k=>exact absurd hp IR
  |cell r k=>exact hi.sep (.cell r k) b hp
end
end
section
variable {q:Opd} {p x:Operand} {o:Oper} {u:Value} {xs:List V} {b cap m sz t:Nat} {w:World} {g:Gh}
section
variable {P:Program} {GL:Ac} {N:Nat}
def Q9 (P:Program) (t:Nat):Bool:=match P.underlying t with|some (.slice e)=>Fm P e (λ| .int .u8=>true|_=>false)|_=>false
theorem Z9 {e:Nat} (hs:Fm P e (λ| .int .u8=>true|_=>false)=true):P.underlying e=some (.int .u8):=by
 unfold Fm at hs;split at hs
 ·rename_i d' hd2;cases d'<;>simp at hs
  rename_i k;cases k<;>simp at hs
  exact hd2
 ·cases hs
theorem Mg (w:World) (e:TypeId) (s:ByteArray):(Lib.bytesWorld w e s).os=w.os:=by
 unfold Lib.bytesWorld World.freeze;split<;>rfl
theorem L8 (w:World) (e:TypeId) (s:ByteArray):(Lib.bytesWorld w e s).output=w.output:=by
 unfold Lib.bytesWorld World.freeze;split<;>rfl
theorem ZV {d src dst:Nat} (ho:o.dst=some d) (hop:o.op= .convert src dst x) (hd:d <N) (hk:oe GL x q=true)
  (hs:Fm P src (λ| .string=>true|_=>false)=true) (ht:Q9 P dst=true):Dw P GL N o (.s2b d q):=by
 intro g w μ st st' a O hg hst;unfold Q9 at ht;split at ht
 ·rename_i e hu;have he:=Z9 ht;simp only[AI.step]at hst;split at hst
  ·rename_i b hb;simp only[qF]at hst;subst hst;have hr:=(hg.gd P).ev hk;rw[hb]at hr;have hxv:=Gb hr;have hrun:=Lib.run_convert_string_bytes (P:=P) w src dst e b (Eb hs) hu he
   let bs:List Value:=b.data.toList.map λc=> .int .u8 c.toNat
   let g':=g.put w.heap.size 0 bs
   have hnone:∀o,g.m w.heap.size o=none:=λo=>Gh.lt_of hg.inv.agree (qM _) o;have hgle:g.le g':=Gh.le_put _ λo _ _=>hnone o;have hch:Chg (λ_=>False) g w g' (Lib.bytesWorld w e b):=⟨hgle,by rw[Lib.bytesWorld_size];omega,λj hj _=>Lib.bytesWorld_at_old w e b j hj,λj hj _ o=>Gh.put_other (by omega) o,Mg w e b,L8 w e b⟩;have hag:∀j o v,g'.m j o=some v→(Lib.bytesWorld w e b).cell? ⟨j,o,none⟩=some v:=by
    intro j o v hv;simp only[g',Gh.put]at hv;split at hv
    ·rename_i hc;obtain⟨rfl,_,hc2⟩:=hc;simp only[sV]at hv;have hlt:o <b.size:=by have:=(qK.1 hv).1;simpa[bs]using this
     rw[Lib.bytesWorld_cell w e b o hlt];simp only[bs,qZ,qQ]at hv;obtain⟨c,hc',rfl⟩:=hv;simp[List.getD,hc']
    ·have hj:j <w.heap.size:=by
      have:=hg.inv.agree j o v hv;rcases qi j w.heap.size with h'|h'
      ·exact h'
      ·simp[World.cell?,tQ h']at this
     rw[Lib.bytesWorld_old w e b _ hj];exact hg.inv.agree j o v hv
   have hg2:Gs GL N g' (Lib.bytesWorld w e b) μ st a O:=⟨hg.inv.chg hch hag,hg.glob.mono hgle,hg.sz⟩;refine⟨.slice (some ⟨w.heap.size,0,none⟩) b.size (grownCap w b.size 0 e),_,g',μ,.inl (by simp[execOp,hop,hxv,hrun]),?_,hch.mono λ_ h=>h.elim,qP _⟩;rw[ho];refine hg2.set hd ?_ λk=>CM _ _ _;have hlen:(b.data.toList.map λc=>V.int .u8 c.toNat).length=b.size:=by simp
   have:=RepV.list (g:=g') (b.data.toList.map λc=>V.int .u8 c.toNat) ⟨w.heap.size,0,none⟩ (grownCap w b.size 0 e) 1 (λi=> .int .u8 ((b.data.toList.getD i 0).toNat:Int)) rfl
    (by rw[hlen];simp only[grownCap];exact Nat.le_add_right _ _) (λi x hx=>by
     simp only[qZ,qQ]at hx;obtain⟨c,hc,rfl⟩:=hx;simp only[List.getD,hc,qd];exact .int _ _) (λi hi=>by
     rw[hlen]at hi;refine⟨by simp[Value.cells],λk v hv=>?_⟩;have hv':k=0∧v= .int .u8 ((b.data.toList.getD i 0).toNat:Int):=by
      cases k with
      |zero=>exact⟨rfl,by simpa only[Value.cells,tT,qF,eq_comm]using hv⟩
      |succ k=>simp[Value.cells]at hv
     obtain⟨rfl,rfl⟩:=hv';have hbi:bs[i]?=some (.int .u8 ((b.data.toList.getD i 0).toNat:Int)):=by
      have hi':i <b.data.toList.length:=by simpa using hi
      simp only[bs,qZ,qH hi',qq,List.getD,qd]
     have:=Gh.put_at g w.heap.size 0 bs i _ hbi;simpa using this)
   rw[hlen]at this;exact this
  ·cases hst
 ·cases ht
theorem Rr (hag0:∀b o v,g.m b o=some v→w.cell? ⟨b,o,none⟩=some v) {e s:Nat} (h:RepOwn g w e s xs (.slice (some ⟨b,0,none⟩) xs.length cap)) (hrm:xs.length+1≤cap) {y:V}
  (hr:RepV g y u) (hu:u.cells.size=s):
  ∃cur:Array Value,w.heap[b]?=some (.cells cur e (0,0))∧xs.length*s+u.cells.toList.length≤cur.size∧
   RepOwn (g.put b (xs.length*s) u.cells.toList) (w.setRow b (AS cur.toList (xs.length*s) u.cells.toList).toArray) e s (xs++[y]) (.slice (some ⟨b,0,none⟩) (xs.length+1) cap)∧
   Chg (λz=>z=b) g w (g.put b (xs.length*s) u.cells.toList) (w.setRow b (AS cur.toList (xs.length*s) u.cells.toList).toArray)∧
   ∀b' o v,(g.put b (xs.length*s) u.cells.toList).m b' o=some v→(w.setRow b (AS cur.toList (xs.length*s) u.cells.toList).toArray).cell? ⟨b',o,none⟩=some v:=by
 rcases h with ⟨a,h1,h2,_⟩|⟨b',cap',cur,vs,h1,hcap,hheap,hlc,hcs,hvr,hvz,hvn⟩
 ·simp only[Value.slice.injEq]at h1;omega
 simp only[Value.slice.injEq,qF,Addr.mk.injEq,true_and,and_true]at h1;obtain⟨rfl,rfl⟩:=h1;have hul:u.cells.toList.length=s:=by simpa using hu
 have hfit:xs.length*s+u.cells.toList.length≤cur.size:=by
  rw[hul,hcs];have:=sf s hrm;rw[rO,Nat.one_mul]at this;exact this
 have hgle:g.le (g.put b (xs.length*s) u.cells.toList):=Gh.le_put _ λo h1 _=>hvn o h1;have hheap':(w.setRow b (AS cur.toList (xs.length*s) u.cells.toList).toArray).heap[b]?=some (.cells (AS cur.toList (xs.length*s) u.cells.toList).toArray e (0,0)):=setRow_heap w b _ _ _ _ hheap;have hchg:Chg (λz=>z=b) g w (g.put b (xs.length*s) u.cells.toList) (w.setRow b (AS cur.toList (xs.length*s) u.cells.toList).toArray):=
  ⟨hgle,by simp,λb' _ hb'=>setRow_other w b b' _ hb',λb' _ hb' o=>Gh.put_other hb' o,rfl,rfl⟩
 refine⟨cur,hheap,hfit,?_,hchg,?_⟩
 ·refine .inr ⟨b,cap,_,λj=>if j <xs.length then vs j else u,by rw[qG];rfl,by omega,hheap',by rw[qG];exact hrm,?_,?_,?_,?_⟩
  ·simp only[sg];rw[Fr _ _ _ (by simpa using hfit)];simpa using hcs
  ·intro j z hj;by_cases hlt:j <xs.length
   ·simp only[hlt,if_true];rw[qe hlt]at hj;exact(hvr j z hj).mono hgle
   ·simp only[hlt,if_false];rw[ql (by omega)]at hj;have hj0:j-xs.length=0:=by
     have:=(qK.1 hj).1;simp at this;omega
    rw[hj0]at hj;simp only[tT,qF]at hj;subst hj;exact hr.mono hgle
  ·intro j hj;rw[qG]at hj;by_cases hlt:j <xs.length
   ·simp only[hlt,if_true];exact⟨(hvz j hlt).1,(hvz j hlt).2.mono hgle⟩
   ·simp only[hlt,if_false];have hj0:j=xs.length:=by simp at hj;omega
    subst hj0;exact⟨hu,Gh.put_at g b (xs.length*s) u.cells.toList⟩
  ·intro o ho;rw[qG,uC,rO,Nat.one_mul]at ho;simp only[Gh.put];rw[if_neg (by rw[hul];omega)];exact hvn o (by omega)
 ·intro b' o v hv;by_cases hb':b'=b
  ·subst hb';rw[cell_of_row _ b' o _ _ _ hheap',←rb,sw,GK _ _ _ (by simpa using hfit)];simp only[Gh.put]at hv;split at hv
   ·rename_i hc;rw[if_neg (by omega),if_pos hc.2.2];exact hv
   ·have hc1:o <xs.length*s:=by
     rcases qi o (xs.length*s)with h|h
     ·exact h
     ·rw[hvn o h]at hv;cases hv
    rw[if_pos hc1];have:=hag0 b' o v hv;rw[cell_of_row w b' o _ _ _ hheap]at this;rw[rb];exact this
  ·simp only[Gh.put_other hb']at hv;rw[World.cell?_of_block (a:=⟨b',o,none⟩) (setRow_other w b b' _ hb')];exact hag0 b' o v hv
theorem aP {ad p':Opd} (ho:o.dst=none) (hop:o.op= .store t p x) (hm:m <N) (hp:oe GL p p'=true) (hk:oe GL x q=true) (hsz:Ba P t sz=true):
  Dw P GL N o (.fin m ad p' q sz):=by
 intro g w μ s s' a O hg hs;simp only[AI.step]at hs;have hrp:=(hg.gd P).ev hp;have hrx:=(hg.gd P).ev hk;split at hs
 ·rename_i b s0 n y hc hy;rw[hc]at hrp;have hpv:0 <s0→a.eval p= .pointer (some ⟨b,n*s0,none⟩):=λh0=>by
   obtain⟨h1,_⟩|⟨_,h2⟩:=hrp
   ·omega
   ·exact h2
  have hry:=Cs hrx hy;have hrun:∀(cur:Array Value) (e:Nat),w.heap[b]?=some (.cells cur e (0,0))→n*s0+(a.eval x).cells.toList.length≤cur.size→(a.eval x).cells.size=sz→0 <s0→
    (execOp a.eval o).run P w= .ok .skip (w.setRow b (AS cur.toList (n*s0) (a.eval x).cells.toList).toArray):=by
   intro cur e hheap hfit hun h0;have hpv:=hpv h0;have hst:=run_storeCells_at P b (n*s0) e (a.eval x).cells.toList 0 cur w hheap (by simpa using hfit) (RepV.cells hry).2;simp only[sd]at hst;simp[execOp,hop,hpv,Instr.storeAt,Instr.sureAddr,storeVar,Bb hsz,hun,AS]at hst ⊢;simp[hst]
  have hul:y.cells.length=sz→(a.eval x).cells.size=sz:=λh=>by have:=(RepV.cells hry).1.1;simp at this;omega
  split at hs
  ·rename_i b' e s2 xs hfind;split at hs
   ·rename_i hcond;obtain⟨⟨rfl,rfl,rfl⟩,rfl,hyl,hpos⟩:=hcond;simp only[qF]at hs;subst hs;have hrm:=hg.inv.rep m;rw[hfind]at hrm;obtain⟨cap,hmv,hcap,hown⟩:=hrm;obtain⟨cur,hheap,hfit,hrep,hchg,hag⟩:=Rr hg.inv.agree hown hcap hry (hul hyl);have hbo:Ae (AF s.e m) (a.tmps.getD m undef)=some b':=by rw[hfind];rfl
    have hinv:=hg.inv.growOwn (d:=m) (n:=m) hbo hchg hag hrep (λh=>by simp at h) (by simp[Ae];omega);refine⟨undef,_,_,μ,.inr ⟨hrun cur _ hheap hfit (hul hyl) hpos,rfl⟩,⟨?_,hg.glob.mono hchg.le,by rw[BI,hg.sz]⟩,hchg.mono λz hz hO=>?_,qP _⟩
    ·rw[ho];refine Eq.mp ?_ hinv
     congr 1
     ·funext k
      by_cases hkm:m=k
      ·subst hkm;simp[AF]
      ·simp[AF,hkm]
     ·funext k
      by_cases hkm:m=k
      ·subst hkm;simp only[if_true];exact hmv.symm
      ·simp[hkm,Act.put]
    ·subst hz;exact(hg.inv.sep (.tmp m 0) z (by simp only[Cl,hfind];rfl)).2 hO
   ·cases hs
  ·split at hs
   ·rename_i r off had;split at hs
    ·rename_i ds hr;split at hs
     ·rename_i b' e s2 xs hd;split at hs
      ·rename_i hcond;obtain⟨⟨rfl,rfl,rfl⟩,rfl,hyl,hpos⟩:=hcond;simp only[qF]at hs;subst hs;have hrl:r <μ.length:=by rw[hg.inv.len];exact(qK.1 hr).1
       obtain⟨br,hbr⟩:∃br,μ[r]?=some br:=⟨_,qH hrl⟩;have hcell:=hg.inv.cell hr hbr hd;obtain⟨cap,hmv,hcap,hown⟩:=hcell;obtain⟨cur,hheap,hfit,hrep,hchg,hag⟩:=Rr hg.inv.agree hown hcap hry (hul hyl);have hinv:=hg.inv.growCell (d0:= .own e s2 (xs++[y])) hr hbr hd rfl hchg hag (by rw[hmv];exact⟨hrep,λh=>by simp at h⟩) (λb2 hb2=>by
        rw[hmv]at hb2;simp only[Ae]at hb2;split at hb2
        ·cases hb2
        ·simp only[qF]at hb2;exact hb2.symm)
       refine⟨undef,_,_,μ,.inr ⟨hrun cur _ hheap hfit (hul hyl) hpos,rfl⟩,⟨?_,hg.glob.mono hchg.le,by rw[BI,hg.sz]⟩,hchg.mono λz hz hO=>?_,qP _⟩
       ·rw[ho];exact hinv
       ·subst hz;exact(hg.inv.sep (.cell r off) z (by simp only[Cl,A9,hr,hd,qd];rfl)).2 hO
      ·cases hs
     ·cases hs
    ·cases hs
   ·cases hs
 ·cases hs
end
end
section
variable {b r sz t:Nat} {o:Oper} {q:Opd} {x y:Operand} {zs:List D} {w:World} {ks:List Nat}
section
variable {P:Program} {GL:Ac} {N:Nat}
theorem Zx {d:Nat} {rs:Option Operand} (ho:o.dst=some d) (hop:o.op= .makeMap t rs) (hrs:rs=none) (hd:d <N):Dw P GL N o (.mkm d):=by
 intro g w μ s s' a O hg hs;simp only[AI.step,qF]at hs;subst hs;subst hrs;have hinv:=hg.inv.newAny (.map [] [] 0) (.map #[] 0) ⟨#[],heap_alloc_new w _,MapKept.stamped_empty 0,rfl,.nil,λo=>Gh.lt_of hg.inv.agree (qM _) o⟩ (λk ds d h=>by cases h);refine⟨.map (some w.heap.size),w.alloc (.map #[] 0),g,μ++[w.heap.size],.inl ?_,⟨?_,hg.glob,by rw[BI,hg.sz]⟩,CG _ g w _,rx _ _⟩
 ·simp[execOp,hop,Instr.makeMap]
 ·rw[ho,Dx _ (hg.sz▸hd)];refine hinv.set ⟨w.heap.size,?_,rfl⟩ λk=>by cases k<;>simp[Ak,Ae]
  rw[←hg.inv.len];simp
theorem W4 {d e:Nat} {c:Operand} {z:D} (ho:o.dst=some d) (hop:o.op= .makeSlice t x c) (hd:d <N) (hxc:c=x) (hk:oe GL x q=true)
  (hu:P.underlying t=some (.slice e)) (hz:GW P e [z]=true) (hsz:Ba P e 1=true) (hby:((P.info? e).map λi=>decide (i.bytes≤1048576))=some true):Dw P GL N o (.mksl d q z):=by
 intro g w μ s s' a O hg hs;subst hxc;simp only[AI.step]at hs;have hr:=(hg.gd P).ev hk;split at hs
 ·rename_i k n hn;rw[hn]at hr;have hxv:=FA hr;split at hs
  ·rename_i hlt;simp only[qF]at hs;subst hs;unfold GW at hz;split at hz
   ·rename_i zv hzz;cases hit:P.info? e with
    |none=>simp[hit]at hzz
    |some it=>
     have hz1:it.zero=some zv:=by simpa[hit]using hzz
     have hsz1:it.size=1:=by simpa[Ba,hit]using hsz
     have hby1:it.bytes≤1048576:=by simpa[hit]using hby
     obtain⟨r1,r2,r3⟩:=HP (g:=g) (w:=w) (μ:=μ) hz;obtain⟨v0,hv0⟩:∃v0,zv.cells.toList=[v0]:=by
      have:=r1.1
      match hq:zv.cells.toList,this with
      |[v0],_=>exact⟨v0,rfl⟩
     rw[hv0]at r1 r2 r3;have hcell:zv.cells= #[v0]:=by rw[←ri,hv0]
     have hrep:=(All2.cons_iff.1 r1).1;have hrun:=run_make (P:=P) w t e it zv hu hit hz1 k k n n hlt.1 (Int.le_refl _) (by
      have h1:(it.bytes:Int)≤1048576:=by omega
      have h2:(it.bytes:Int)*n≤1048576*n:=ry h1 hlt.1;omega) (by omega)
     have hmade:madeCells zv.cells (n.toNat*it.size)=(List.replicate n.toNat v0).toArray:=by
      rw[←ri,hcell,hsz1,Nat.mul_one,toList_madeCells_one]
     rw[hmade]at hrun;have hnew:=hg.inv.newRow (zs:=List.replicate n.toNat z) (vs:=List.replicate n.toNat v0) e
      ⟨by simp,λi x v hx hv=>by
       have h1:=(si.1 (qJ hx)).2;have h2:=(si.1 (qJ hv)).2;subst h1;subst h2;exact hrep⟩
      (λv hv=>by have:=(si.1 hv).2;subst this;exact r2 _ (by simp))
      (λi x v hx hv=>by
       have h1:=(si.1 (qJ hx)).2;have h2:=(si.1 (qJ hv)).2;subst h1;subst h2;exact r3 0 _ _ rfl rfl)
     refine⟨.slice (some ⟨w.heap.size,0,none⟩) n.toNat n.toNat,w.alloc (.cells (List.replicate n.toNat v0).toArray e),g,μ++[w.heap.size],.inl (by simp[execOp,hop,hxv,hrun]),?_,CG _ g w _,rx _ _⟩;rw[ho];have hgn:Gs GL N g (w.alloc (.cells (List.replicate n.toNat v0).toArray e)) (μ++[w.heap.size]) ⟨s.e,s.h++[.cells (List.replicate n.toNat z)]⟩ a O:=⟨hnew,hg.glob,hg.sz⟩;have hrd:RepD g (w.alloc (.cells (List.replicate n.toNat v0).toArray e)) (μ++[w.heap.size]) (.sref s.h.length n.toNat) (.slice (some ⟨w.heap.size,0,none⟩) n.toNat n.toNat):=⟨w.heap.size,n.toNat,by rw[←hg.inv.len];simp,rfl,qM _⟩;exact hgn.set hd hrd λk=>by cases k<;>simp[Ak,Ae]
   ·cases hz
  ·cases hs
 ·cases hs
theorem OA {α:Type} (zs:List α) (n:Nat):(List.replicate n zs).flatten.length=n*zs.length:=by
 induction n with
 |zero=>simp
 |succ n ih=>rw[uD,List.flatten_cons,qG,ih,tA];omega
theorem Gu {α:Type} (zs:List α):∀(n i:Nat),i <n*zs.length→(List.replicate n zs).flatten[i]?=zs[i%zs.length]?
 |0,i,h=>by omega
 |n+1,i,h=>by
  rw[uD,List.flatten_cons];by_cases hi:i <zs.length
  ·rw[qe hi,Nat.mod_eq_of_lt hi]
  ·rw[tA]at h;rw[ql (by omega),Gu zs n (i-zs.length) (by omega),←Nat.mod_eq_sub_mod (show zs.length≤i by omega)]
theorem W3 {d e:Nat} {c:Operand} (ho:o.dst=some d) (hop:o.op= .makeSlice t x c) (hd:d <N) (hxc:c=x) (hk:oe GL x q=true)
  (hu:P.underlying t=some (.slice e)) (hz:GW P e zs=true) (hsz:Ba P e zs.length=true) (hby:((P.info? e).map λi=>decide (i.bytes≤1048576))=some true):Dw P GL N o (.mksz d q zs):=by
 intro g w μ s s' a O hg hs;subst hxc;simp only[AI.step]at hs;have hr:=(hg.gd P).ev hk;split at hs
 ·rename_i k n hn;rw[hn]at hr;have hxv:=FA hr;split at hs
  ·rename_i hlt;simp only[qF]at hs;subst hs;unfold GW at hz;split at hz
   ·rename_i zv hzz;cases hit:P.info? e with
    |none=>simp[hit]at hzz
    |some it=>
     have hz1:it.zero=some zv:=by simpa[hit]using hzz
     have hsz1:it.size=zs.length:=by simpa[Ba,hit]using hsz
     have hby1:it.bytes≤1048576:=by simpa[hit]using hby
     obtain⟨r1,r2,r3⟩:=HP (g:=g) (w:=w) (μ:=μ) hz;have hzl:zv.cells.size=zs.length:=by have:=r1.1;simpa using this
     have hrun:=run_make (P:=P) w t e it zv hu hit hz1 k k n n hlt.1 (Int.le_refl _) (by
      have h1:(it.bytes:Int)≤1048576:=by omega
      have h2:(it.bytes:Int)*n≤1048576*n:=ry h1 hlt.1;omega) (by omega)
     obtain⟨vs,hvs⟩:∃vs,vs=(madeCells zv.cells (n.toNat*it.size)).toList:=⟨_,rfl⟩;have hmade:madeCells zv.cells (n.toNat*it.size)=vs.toArray:=by rw[hvs]
     have hvl:vs.length=n.toNat*zs.length:=by rw[hvs,uE,size_madeCells,hsz1]
     have hvg:∀i v,vs[i]?=some v→i <n.toNat*zs.length∧zv.cells.toList[i%zs.length]?=some v:=by
      intro i v hv;have hi:i <n.toNat*zs.length:=by rw[←hvl];exact(qK.1 hv).1
      refine⟨hi,?_⟩;have hpos:0 <zs.length:=by
       rcases tk zs.length with h0|h0
       ·rw[h0]at hi;omega
       ·exact h0
      have hm:i%zs.length <zv.cells.size:=by rw[hzl];exact Nat.mod_lt _ hpos
      rw[hvs,rb]at hv;unfold madeCells at hv;rw[Array.getElem?_map,Array.getElem?_range,if_pos (by rw[hsz1];exact hi)]at hv;simp only[qq,qF]at hv;rw[rb,Array.getElem?_eq_getElem hm,←hv]
      congr 1
      simp only[hzl];rw[getElem!_pos zv.cells (i%zs.length) hm]
     rw[hmade]at hrun;have hnew:=hg.inv.newRow (zs:=(List.replicate n.toNat zs).flatten) (vs:=vs) e
      ⟨by rw[hvl,OA],λi x v hx hv=>by
       obtain⟨h1,h2⟩:=hvg i v hv;rw[Gu zs _ _ h1]at hx;exact r1.2 _ x v hx h2⟩
      (λv hv=>by
       obtain⟨i,hi⟩:=sj.1 hv;exact r2 v (qJ (hvg i v hi).2))
      (λi x v hx hv=>by
       obtain⟨h1,h2⟩:=hvg i v hv;rw[Gu zs _ _ h1]at hx;exact r3 _ x v hx h2)
     refine⟨.slice (some ⟨w.heap.size,0,none⟩) n.toNat n.toNat,w.alloc (.cells vs.toArray e),g,μ++[w.heap.size],.inl (by simp[execOp,hop,hxv,hrun]),?_,CG _ g w _,rx _ _⟩;rw[ho];have hgn:Gs GL N g (w.alloc (.cells vs.toArray e)) (μ++[w.heap.size]) ⟨s.e,s.h++[.cells (List.replicate n.toNat zs).flatten]⟩ a O:=⟨hnew,hg.glob,hg.sz⟩;have hrd:RepD g (w.alloc (.cells vs.toArray e)) (μ++[w.heap.size]) (.sref s.h.length n.toNat) (.slice (some ⟨w.heap.size,0,none⟩) n.toNat n.toNat):=⟨w.heap.size,n.toNat,by rw[←hg.inv.len];simp,rfl,qM _⟩;exact hgn.set hd hrd λk=>by cases k<;>simp[Ak,Ae]
   ·cases hz
  ·cases hs
 ·cases hs
theorem NG {g:Gh}:∀(ys:List V) (vy:Nat→Value),(∀(j:Nat) y,ys[j]?=some y→RepV g y (vy j))→All2 (RepV g) (ys.flatMap V.cells) (BQ ys.length vy)
 |[],vy,_=> .nil
 |y::ys,vy,hvy=>by
  have e2:BQ (y::ys).length vy=(vy 0).cells.toList++BQ ys.length (λj=>vy (j+1)):=by simp[BQ,tm,tU]
  rw[e2,qN];exact(hvy 0 y rfl).cells.1.append (NG ys _ λj x hx=>hvy (j+1) x (by simpa using hx))
theorem bB {d:Option Nat} {r:Opd} {t2:Nat} (ho:o.dst=d) (hd:∀n,d=some n→n <N) (hop:o.op= .call {callee:= .builtin .copy,args:= #[x,y],argTypes:= #[t,t2]})
  (hk:oe GL x q=true) (hk2:oe GL y r=true) (ht:(match P.underlying t with|some (.slice e)=>Ba P e sz|_=>false)=true):Dw P GL N o (.cpy d q r sz):=by
 intro g w μ s s' a O hg hs;simp only[AI.step]at hs;have hrx:=(hg.gd P).ev hk;have hry:=((hg.gd P).ev hk2).copy;split at ht
 ·rename_i e hu;split at hs
  ·rename_i rr n hq;rw[hq]at hrx;obtain⟨b,cap,hb,hxv,hn⟩:=hrx;split at hs
   ·rename_i ys hy;rw[hy]at hry;split at hs
    ·rename_i ds hr;split at hs
     ·rename_i hc;obtain⟨⟨hc1,hc2⟩,h0,hh⟩:=hc;simp only[qF]at hs;subst hs;obtain⟨vs,T,hheap,hall,hone,hgn⟩:=hg.inv.row hb hr;obtain⟨vy,h1,h2,h3,h4⟩:=I7 (P:=P) hg.inv.agree hry h0 hh;have hfl:(BQ ys.length vy).length=n*sz:=by rw[DL h3,hc1]
      have h5:∀v∈BQ ys.length vy,v.oneCell'=true:=by
       intro v hv;obtain⟨j,hj,hm⟩:=Jd hv;exact h4 j hj v hm
      have hst:=run_storeCells_at P b 0 T (BQ ys.length vy) 0 vs.toArray w hheap (by simp[hfl,hall.1,hc2]) h5;have hdrop:vs.drop (BQ ys.length vy).length=[]:=tn.2 (by rw[hfl,hall.1,hc2];exact qM _);simp only[sd,rt,List.take_zero,sX,hdrop,sI]at hst;have hmin:min n n=n:=Nat.min_self n;have hrun:(execOp a.eval o).run P w= .ok (.value (goInt n)) (w.setRow b (BQ ys.length vy).toArray):=by
       have hl:=h1.len w;have hcl:=h1.cells;rw[hc1]at hl hcl;simp[execOp,hop,resolve,invoke,builtin,hxv,Builtin.copy_,run_underlying hu,hl,Bb ht,hcl,hmin];rw[hc1]at hst;simp[hst,hc1]
      have hst2:=hg.inv.storeRow hr hb hheap ((ys.flatMap V.cells).map .v) (BQ ys.length vy) (All2.map_left (f:=D.v) (R:=RepV g) (λx y h=>h) (NG ys vy h2)) h5 (λi z v hz hv=>by
       simp only[qZ,qQ]at hz;obtain⟨y,_,rfl⟩:=hz;exact .inl (by simp[Ae]))
      have hch:Chg (λb=>¬O b) g w g (w.setRow b (BQ ys.length vy).toArray):=(Eg g w b _).mono (Ds O hg (qJ hb));refine⟨goInt n,_,g,μ,.inl hrun,?_,hch,qP _⟩;have hgs:Gs GL N g (w.setRow b (BQ ys.length vy).toArray) μ ⟨s.e,s.h.set rr (.cells ((ys.flatMap V.cells).map .v))⟩ a O:=⟨hst2,hg.glob,hg.sz⟩;rw[ho];cases d with
      |none=>exact hgs
      |some d=>exact hgs.set (hd d rfl) (x:= .v (.int .i64 n)) (.int _ _) λk=>by cases k<;>simp[Ak,Ae]
     ·cases hs
    ·cases hs
   ·cases hs
  ·cases hs
 ·cases ht
theorem GP {o o':Obj} (hb:w.heap[b]?=some o) (g:Gh) (hg:∀o,g.m b o=none) (hag:∀b o v,g.m b o=some v→w.cell? ⟨b,o,none⟩=some v):
  ({w with heap:=w.heap.setIfInBounds b o'}:World).heap[b]?=some o'∧Chg (λx=>x=b) g w g {w with heap:=w.heap.setIfInBounds b o'}∧
  ∀b' o v,g.m b' o=some v→({w with heap:=w.heap.setIfInBounds b o'}:World).cell? ⟨b',o,none⟩=some v:=by
 have h:=MapKept.heap_set (o':=o') hb;refine⟨h.1,⟨Gh.le.refl g,by simp,λb' _ hne=>h.2 b' hne,λ_ _ _ _=>rfl,rfl,rfl⟩,λb' o v hv=>?_⟩;by_cases hbb:b'=b
 ·subst hbb;rw[hg o]at hv;cases hv
 ·rw[World.cell?_of_block (a:=⟨b',o,none⟩) (h.2 b' hbb)];exact hag b' o v hv
theorem Ib {α β:Type} (f:α→β):∀(l:List α) (i:Nat),(l.eraseIdx i).map f=(l.map f).eraseIdx i
 |[],_=>by simp
 |x::l,0=>by simp
 |x::l,i+1=>by simp[Ib f l i]
theorem Km (ents:Array MapEntry) (j:Nat) (f:MapEntry→MapEntry) (hf:∀e,(f e).born=e.born):(ents.modify j f).toList.map (·.born)=ents.toList.map (·.born):=by
 apply rj;intro i;simp only[qZ,rb,tq];by_cases hij:j=i
 ·subst hij;cases ents[j]?<;>simp[hf]
 ·simp[hij]
theorem W0 {k v:Operand} {m' k' v':Opd} {st:Bool} (ho:o.dst=none) (hop:o.op= .mapUpdate t x k v)
  (ht:(match P.underlying t with|some (.map kt _)=>E7 P kt st ks|_=>false)=true) (hm:oe GL x m'=true) (hk:oe GL k k'=true) (hv:oe GL v v'=true):Dw P GL N o (.mput m' k' v' st ks):=by
 intro g w μ s s' a O hg hs;simp only[AI.step]at hs;have hrm:=(hg.gd P).ev hm;have hrk:=(hg.gd P).ev hk;have hrv:=(hg.gd P).ev hv;split at ht
 ·rename_i kt el hu;split at hs
  ·rename_i r hmv;rw[hmv]at hrm;obtain⟨b,hb,hxv⟩:=hrm;have hbm:=qJ hb;split at hs
   ·rename_i es bs clock hr;obtain⟨ents,hheap,hst,hbs,hall,hgn⟩:=Jz hg.inv hr hb;have Dn:=MapKept.run_getObj_map (P:=P) hheap;split at hs
    ·rename_i kv vv hkv hvv;have hkr:=Cs hrk hkv;have hvr:=Cs hrv hvv;split at hs
     ·rename_i hko;have hck:=λe=>GY (P:=P) (w:=w) hkr ht hko e;split at hs
      ·rename_i hf;simp only[qF]at hs;subst hs;have hfk:=DF (P:=P) (w:=w) hkr ht hko hall hf;have hno:=(GS (P:=P) (w:=w) hkr ht hko hall hf).2.2 rfl;obtain⟨p1,p2,p3⟩:=GP (o':= .map (ents.push {key:=a.eval k,val:=a.eval v,born:=clock}) (clock+1)) hheap g hgn hg.inv.agree;refine⟨undef,_,g,μ,.inr ⟨?_,rfl⟩,⟨?_,hg.glob,by rw[BI,hg.sz]⟩,p2.mono (Ds O hg hbm),qP _⟩
       ·simp[execOp,hop,hxv,Instr.mapUpdate,run_underlying hu,Dn,hck,hfk,MapKept.run_setObj_map _ hheap,Result.andThen]
       ·rw[ho];refine hg.inv.setAny hr hb (.map (es++[(kv,vv)]) (bs++[clock]) (clock+1)) p2 p3 ⟨_,p1,MapKept.stamped_push hst hno,by simp[hbs],?_,hgn⟩ (λk ds d h=>by cases h);simp only[Array.toList_push];exact hall.append (.cons ⟨hkr,hvr⟩ .nil)
      ·rename_i j hf;simp only[qF]at hs;subst hs;have hfk:=DF (P:=P) (w:=w) hkr ht hko hall hf;obtain⟨e,he,hek⟩:=(GS (P:=P) (w:=w) hkr ht hko hall hf).2.1 j rfl;simp only[qp,he,qq]at hfk;have hej:ents[j]?=some e:=by simpa using he
       have hsb:(Instr.keyThatStays (a.eval k) (a.eval k)).run P w= .ok (a.eval k) w:=by
        have:=(JW hkr hkr hko hko (b:=true) (by
         simp only[Eo,qI]at hko;cases h2:V.eqL ks kv.cells kv.cells with
         |none=>simp[h2]at hko
         |some b=>cases b<;>simp[h2]at hko ⊢)).2 9999
        simp[Instr.keyThatStays,this]
       obtain⟨p1,p2,p3⟩:=GP (o':= .map (ents.modify j λe=>{e with key:=a.eval k,val:=a.eval v}) clock) hheap g hgn hg.inv.agree;refine⟨undef,_,g,μ,.inr ⟨?_,rfl⟩,⟨?_,hg.glob,by rw[BI,hg.sz]⟩,p2.mono (Ds O hg hbm),qP _⟩
       ·simp[execOp,hop,hxv,Instr.mapUpdate,run_underlying hu,Dn,hck,hfk,hej,hek,hsb,MapKept.run_setObj_map _ hheap,Result.andThen]
       ·rw[ho];refine hg.inv.setAny hr hb (.map (es.set j (kv,vv)) bs clock) p2 p3 ⟨_,p1,MapKept.stamped_modify hst _ _ (λ_ _=>rfl) (λe' _ he'=>?_),?_,?_,hgn⟩ (λk ds d h=>by cases h)
        ·rw[hej]at he';cases he';exact hek.symm
        ·rw[←hbs];exact Km _ _ _ λ_=>rfl
        ·have hset:(ents.modify j λe=>{e with key:=a.eval k,val:=a.eval v}).toList=ents.toList.set j {e with key:=a.eval k,val:=a.eval v}:=by
          apply rj;intro i;simp only[rb,tq,rY];by_cases hij:j=i
          ·subst hij;obtain⟨hlt,heq⟩:=sY.1 hej;simp[hlt,heq]
          ·simp[hij]
         rw[hset];exact hall.set ⟨hkr,hvr⟩
      ·cases hs
     ·cases hs
    ·cases hs
   ·cases hs
  ·cases hs
 ·cases ht
theorem HV {α:Type} {l:List α} {x:α} (h:l[r]?=some x):l.set r x=l:=by
 apply rj;intro i;rw[rY];by_cases hi:r=i
 ·subst hi;have:=(qK.1 h).1;simp[this,h];exact((qK.1 h).2).symm
 ·simp[hi]
theorem Md {α β:Type} {R:α→β→Prop} {xs:List α} {ys:List β} (h:All2 R xs ys) (i:Nat):All2 R (xs.eraseIdx i) (ys.eraseIdx i):=by
 induction xs generalizing ys i with
 |nil=>
  have:=rU h.1;subst this;simpa using (All2.nil:All2 R [] [])
 |cons x xs ih=>
  cases ys with
  |nil=>simp[All2]at h
  |cons y ys=>
   rw[All2.cons_iff]at h;cases i with
   |zero=>simpa using h.2
   |succ i=>simp only[List.eraseIdx_cons_succ];exact .cons h.1 (ih h.2 i)
theorem W8 {d:Option Nat} {t2:Nat} {k:Operand} {m' k':Opd} {st:Bool} (ho:o.dst=d) (hd:∀n,d=some n→n <N) (hop:o.op= .call {callee:= .builtin .delete,args:= #[x,k],argTypes:= #[t,t2]})
  (ht:(match P.underlying t with|some (.map kt _)=>E7 P kt st ks|_=>false)=true) (hm:oe GL x m'=true) (hk:oe GL k k'=true):Dw P GL N o (.mdel d m' k' st ks):=by
 intro g w μ s s' a O hg hs;simp only[AI.step]at hs;have hrm:=(hg.gd P).ev hm;have hrk:=(hg.gd P).ev hk;have fin:∀ {g':Gh} {w':World} {h':List Row},Gs GL N g' w' μ ⟨s.e,h'⟩ a O→Gs GL N g' w' μ ⟨CQ s.e d (.tup []),h'⟩ (a.put o.dst (.tuple #[])) O:=by
  intro g' w' h' hgs;rw[ho];cases d with
  |none=>exact⟨hgs.inv,hgs.glob,by rw[BI,hgs.sz]⟩
  |some n=>exact hgs.set (hd n rfl) ⟨[],rfl,.nil⟩ λk=>by simp[Ak,Ae]
 split at ht
 ·rename_i kt el hu;split at hs
  ·rename_i r hmv;rw[hmv]at hrm;obtain⟨b,hb,hxv⟩:=hrm;have hbm:=qJ hb;split at hs
   ·rename_i es bs clock hr;obtain⟨ents,hheap,hst,hbs,hall,hgn⟩:=Jz hg.inv hr hb;have Dn:=MapKept.run_getObj_map (P:=P) hheap;split at hs
    ·rename_i kv hkv;have hkr:=Cs hrk hkv;split at hs
     ·rename_i hko;have hck:=λe=>GY (P:=P) (w:=w) hkr ht hko e;split at hs
      ·rename_i hf;simp only[qF]at hs;subst hs;have hfk:=DF (P:=P) (w:=w) hkr ht hko hall hf;obtain⟨p1,p2,p3⟩:=GP (o':= .map ents clock) hheap g hgn hg.inv.agree;refine⟨.tuple #[],_,g,μ,.inl ?_,fin ⟨?_,hg.glob,hg.sz⟩,p2.mono (Ds O hg hbm),qP _⟩
       ·simp[execOp,hop,hxv,resolve,invoke,builtin,Builtin.delete_,run_underlying hu,Dn,hck,hfk,MapKept.run_setObj_map _ hheap,Result.andThen]
       ·have:=hg.inv.setAny hr hb (.map es bs clock) p2 p3 ⟨_,p1,hst,hbs,hall,hgn⟩ (λk ds d h=>by cases h)
        rwa [HV hr]at this
      ·rename_i j hf;simp only[qF]at hs;subst hs;have hfk:=DF (P:=P) (w:=w) hkr ht hko hall hf;obtain⟨e,he,hek⟩:=(GS (P:=P) (w:=w) hkr ht hko hall hf).2.1 j rfl;simp only[qp,he,qq]at hfk;obtain⟨p1,p2,p3⟩:=GP (o':= .map (ents.eraseIdxIfInBounds j) clock) hheap g hgn hg.inv.agree;refine⟨.tuple #[],_,g,μ,.inl ?_,fin ⟨?_,hg.glob,hg.sz⟩,p2.mono (Ds O hg hbm),qP _⟩
       ·simp[execOp,hop,hxv,resolve,invoke,builtin,Builtin.delete_,run_underlying hu,Dn,hck,hfk,MapKept.run_setObj_map _ hheap,Result.andThen]
       ·refine hg.inv.setAny hr hb (.map (es.eraseIdx j) (bs.eraseIdx j) clock) p2 p3 ⟨_,p1,MapKept.stamped_erase hst j,?_,?_,hgn⟩ (λk ds d h=>by cases h)
        all_goals
         have hj:j <ents.size:=by have:=(qK.1 he).1;simpa using this
         have:(ents.eraseIdxIfInBounds j).toList=ents.toList.eraseIdx j:=by simp[Array.eraseIdxIfInBounds,hj]
        ·rw[this,←hbs,Ib]
        ·rw[this];exact Md hall j
      ·cases hs
     ·cases hs
    ·cases hs
   ·cases hs
  ·cases hs
 ·cases ht
theorem W7 {d:Nat} {k:Operand} {m' k':Opd} {st:Bool} (ho:o.dst=some d) (hd:d <N) (hop:o.op= .mapEntry t x k)
  (ht:(match P.underlying t with|some (.map kt _)=>E7 P kt st ks|_=>false)=true) (hm:oe GL x m'=true) (hk:oe GL k k'=true):Dw P GL N o (.ment d m' k' st ks):=by
 intro g w μ s s' a O hg hs;simp only[AI.step]at hs;have hrm:=(hg.gd P).ev hm;have hrk:=(hg.gd P).ev hk;split at ht
 ·rename_i kt el hu;split at hs
  ·rename_i r hmv;rw[hmv]at hrm;obtain⟨b,hb,hxv⟩:=hrm;have hbm:=qJ hb;split at hs
   ·rename_i es bs clock hr;obtain⟨ents,hheap,hst,hbs,hall,hgn⟩:=Jz hg.inv hr hb;have Dn:=MapKept.run_getObj_map (P:=P) hheap;split at hs
    ·rename_i kv hkv;have hkr:=Cs hrk hkv;split at hs
     ·rename_i hko;have hck:=λe=>GY (P:=P) (w:=w) hkr ht hko e;split at hs
      ·rename_i j hf;split at hs
       ·rename_i p n hp hn;simp only[qF]at hs;subst hs;have hfk:=DF (P:=P) (w:=w) hkr ht hko hall hf;obtain⟨e,he,hek⟩:=(GS (P:=P) (w:=w) hkr ht hko hall hf).2.1 j rfl;simp only[qp,he,qq]at hfk;have hej:ents[j]?=some e:=by simpa using he
        have hsb:(Instr.keyThatStays (a.eval k) (a.eval k)).run P w= .ok (a.eval k) w:=by
         have:=(JW hkr hkr hko hko (b:=true) (by
          simp only[Eo,qI]at hko;cases h2:V.eqL ks kv.cells kv.cells with
          |none=>simp[h2]at hko
          |some b=>cases b<;>simp[h2]at hko ⊢)).2 9999
         simp[Instr.keyThatStays,this]
        have hborn:e.born=n:=by
         have:bs[j]?=some e.born:=by rw[←hbs];simp[hej]
         rw[hn]at this;simpa using this.symm
        have hval:RepV g p.2 e.val:=(hall.2 j p e hp he).2;have hsame:ents.modify j (λe=>{e with key:=a.eval k})=ents:=by
         apply Array.ext_getElem?;intro i;rw[tq];by_cases hij:j=i
         ·subst hij;simp[hej,←hek]
         ·simp[hij]
        obtain⟨p1,p2,p3⟩:=GP (o':= .map ents clock) hheap g hgn hg.inv.agree;refine⟨.tuple #[e.val,.int .i64 n],_,g,μ,.inl ?_,?_,p2.mono (Ds O hg hbm),qP _⟩
        ·simp[execOp,hop,hxv,Instr.mapEntry,run_underlying hu,Dn,hck,hfk,hej,hek,hsb,hsame,MapKept.run_setObj_map _ hheap,Result.andThen,goInt,hborn]
        ·have h1:=hg.inv.setAny hr hb (.map es bs clock) p2 p3 ⟨_,p1,hst,hbs,hall,hgn⟩ (λk ds d h=>by cases h);rw[HV hr]at h1;rw[ho];have hgs:Gs GL N g {w with heap:=w.heap.setIfInBounds b (.map ents clock)} μ s a O:=⟨h1,hg.glob,hg.sz⟩;refine hgs.set hd (x:= .tup [.v p.2,.v (.int .i64 n)]) ⟨[e.val,.int .i64 n],rfl,.cons hval (.cons (.int _ _) .nil)⟩ λk=>?_;simp only[Ak,sw];cases k with
         |zero=>rfl
         |succ k=>cases k with
          |zero=>rfl
          |succ k=>simp[Ae]
       ·cases hs
      ·cases hs
     ·cases hs
    ·cases hs
   ·cases hs
  ·cases hs
 ·cases ht
theorem W6 {b0 v:Operand} {m' b' v':Opd} (ho:o.dst=none) (hop:o.op= .entryStore t x b0 v) (hm:oe GL x m'=true) (hk:oe GL b0 b'=true) (hv:oe GL v v'=true):
  Dw P GL N o (.mest m' b' v'):=by
 intro g w μ s s' a O hg hs;simp only[AI.step]at hs;have hrm:=(hg.gd P).ev hm;have hrk:=(hg.gd P).ev hk;have hrv:=(hg.gd P).ev hv;split at hs
 ·rename_i r hmv;rw[hmv]at hrm;obtain⟨b,hb,hxv⟩:=hrm;have hbm:=qJ hb;split at hs
  ·rename_i es bs clock hr;obtain⟨ents,hheap,hst,hbs,hall,hgn⟩:=Jz hg.inv hr hb;have Dn:=MapKept.run_getObj_map (P:=P) hheap;split at hs
   ·rename_i kk n vv hbv hvv;rw[hbv]at hrk;have hbi:=FA hrk;have hvr:=Cs hrv hvv;split at hs
    ·rename_i j hj;split at hs
     ·rename_i p hp;simp only[qF]at hs;subst hs;have hidx:ents.findIdx? (λe=>(e.born:Int)==n)=some j:=by
       rw[←hbs,List.findIdx?_map]at hj;have:ents=ents.toList.toArray:=by simp
       rw[this,List.findIdx?_toArray];exact hj
      obtain⟨p1,p2,p3⟩:=GP (o':= .map (ents.modify j λe=>{e with val:=a.eval v}) clock) hheap g hgn hg.inv.agree;obtain⟨e,he,hep⟩:=hall.get hp;have hej:ents[j]?=some e:=by simpa using he
      refine⟨undef,_,g,μ,.inr ⟨?_,rfl⟩,⟨?_,hg.glob,by rw[BI,hg.sz]⟩,p2.mono (Ds O hg hbm),qP _⟩
      ·simp[execOp,hop,hxv,hbi,Instr.entryStore,Dn,asInt,asIntOf,hidx,MapKept.run_setObj_map _ hheap,Result.andThen]
      ·rw[ho];refine hg.inv.setAny hr hb (.map (es.set j (p.1,vv)) bs clock) p2 p3 ⟨_,p1,MapKept.stamped_modify hst _ _ (λ_ _=>rfl) (λe' _ he'=>rfl),?_,?_,hgn⟩ (λk ds d h=>by cases h)
       ·rw[←hbs];exact Km _ _ _ λ_=>rfl
       ·have hset:(ents.modify j λe=>{e with val:=a.eval v}).toList=ents.toList.set j {e with val:=a.eval v}:=by
         apply rj;intro i;simp only[rb,tq,rY];by_cases hij:j=i
         ·subst hij;obtain⟨hlt,heq⟩:=sY.1 hej;simp[hlt,heq]
         ·simp[hij]
        rw[hset];exact hall.set ⟨hep.1,hvr⟩
     ·cases hs
    ·cases hs
   ·cases hs
  ·cases hs
 ·cases hs
end
end
section
def Fj:List (Nat×Nat)→Nat→Nat
 |[],r=>r
 |p::π,r=>if p.1=r then p.2 else Fj π r
def EI (π:List (Nat×Nat)):List (Nat×Nat):=π.map λp=>(p.2,p.1)
mutual
def D.ren (π:List (Nat×Nat)):D→D
 | .ref r o=> .ref (Fj π r) o
 | .sref r n=> .sref (Fj π r) n
 | .mref r=> .mref (Fj π r)
 | .yld r=> .yld (Fj π r)
 | .agg ds=> .agg (D.rens π ds)
 | .tup ds=> .tup (D.rens π ds)
 | .func f ds=> .func f (D.rens π ds)
 | .meth f ds=> .meth f (D.rens π ds)
 | .v x=> .v x
 | .any=> .any
 | .nil e s=> .nil e s
 | .own e s xs=> .own e s xs
 | .pend b e s xs=> .pend b e s xs
 | .pptr b s n=> .pptr b s n
def D.rens (π:List (Nat×Nat)):List D→List D
 |[]=>[]
 |d::ds=>D.ren π d::D.rens π ds
end
theorem Dq (π:List (Nat×Nat)):∀ds:List D,D.rens π ds=ds.map (D.ren π)
 |[]=>rfl
 |d::ds=>by simp only[D.rens,qR,Dq π ds]
def Row.ren (π:List (Nat×Nat)):Row→Row
 | .cells ds=> .cells (D.rens π ds)
 |x=>x
def LY (n0 len:Nat) (π:List (Nat×Nat)):Bool:=
 (List.range len).all λr=>decide (Fj π r <len)&&decide (Fj (EI π) r <len)&&Fj (EI π) (Fj π r)==r&&Fj π (Fj (EI π) r)==r&&(decide (n0≤r)||Fj (EI π) r==r)
def Row.isObj:Row→Bool
 | .obj _ _ _=>true
 |_=>false
def M6 (h:List Row):Bool:=h.all λr=> !r.isObj
def C6 (π:List (Nat×Nat)) (h:List Row):List Row:=(List.range h.length).map λi=>((h[Fj (EI π) i]?).getD .dead).ren π
def LQ (π:List (Nat×Nat)) (μ:List Nat):List Nat:=(List.range μ.length).map λi=>(μ[Fj (EI π) i]?).getD 0
def RJ (n0:Nat) (s s2:St):Prop:=
 s2=s∨∃π,LY n0 s.h.length π=true∧M6 s.h=true∧(∀n,AF s2.e n=(AF s.e n).ren π)∧s2.h=C6 π s.h
section
variable {g:Gh} {w:World} {μ:List Nat} {π:List (Nat×Nat)}
theorem RepC.ren {μ':List Nat} (hπ:∀r b,μ[r]?=some b→μ'[Fj π r]?=some b) {d:D} {u:Value} (h:RepC g μ d u):RepC g μ' (d.ren π) u:=by
 cases d<;>simp only[RepC,D.ren]at h ⊢
 ·exact h
 ·obtain⟨b,hb,rfl⟩:=h;exact⟨b,hπ _ _ hb,rfl⟩
theorem RepE.ren {μ':List Nat} (hπ:∀r b,μ[r]?=some b→μ'[Fj π r]?=some b) {d:D} {u:Value} (h:RepE g w μ d u):RepE g w μ' (d.ren π) u:=by
 cases d<;>simp only[RepE,D.ren]at h ⊢
 ·exact h
 ·exact h
 ·exact h
 ·obtain⟨b,hb,rfl⟩:=h;exact⟨b,hπ _ _ hb,rfl⟩
 ·obtain⟨b,cap,hb,rfl,hn⟩:=h;exact⟨b,cap,hπ _ _ hb,rfl,hn⟩
 ·obtain⟨b,hb,rfl⟩:=h;exact⟨b,hπ _ _ hb,rfl⟩
 ·obtain⟨vs,rfl,h⟩:=h;refine⟨vs,rfl,?_⟩;rw[Dq];exact All2.map_left (λx y hx=>RepC.ren hπ hx) h
 ·obtain⟨vs,rfl,h⟩:=h;refine⟨vs,rfl,?_⟩;rw[Dq];exact All2.map_left (λx y hx=>RepC.ren hπ hx) h
 ·obtain⟨b,hb,rfl⟩:=h;exact⟨b,hπ _ _ hb,rfl⟩
 ·exact h
 ·exact h
theorem Lb (d:D) (v:Value):Ae (d.ren π) v=Ae d v:=by cases d<;>simp only[D.ren]<;>simp only[Ae]
theorem RepG.ren {μ':List Nat} (hπ:∀r b,μ[r]?=some b→μ'[Fj π r]?=some b) {d:D} {u:Value} (h:RepG g w μ d u):RepG g w μ' (d.ren π) u:=by
 have key:RepE g w μ d u→RepE g w μ' (d.ren π) u:=λh=>RepE.ren hπ h;cases d with
 |agg ds=>
  obtain⟨vs,rfl,ha,h1,h2⟩:=h;simp only[D.ren];refine⟨vs,rfl,?_,h1,λd hd v=>?_⟩
  ·rw[Dq];exact All2.map_left (λx y hx=>RepE.ren hπ hx) ha
  ·rw[Dq,qX]at hd;obtain⟨d',hd',rfl⟩:=hd;rw[Lb];exact h2 d' hd' v
 |_=>simp only[D.ren]at key ⊢;exact key h
theorem RepD.ren {μ':List Nat} (hπ:∀r b,μ[r]?=some b→μ'[Fj π r]?=some b) {d:D} {u:Value} (h:RepD g w μ d u):RepD g w μ' (d.ren π) u:=by
 have key:RepG g w μ d u→RepG g w μ' (d.ren π) u:=λh=>RepG.ren hπ h;cases d with
 |tup ds=>
  obtain⟨vs,rfl,ha⟩:=h;simp only[D.ren];refine⟨vs,rfl,?_⟩;rw[Dq];exact All2.map_left (λx y hx=>RepG.ren hπ hx) ha
 |_=>simp only[D.ren]at key ⊢;exact key h
theorem Sq (d:D) (v:Value) (k:Nat):Ak (d.ren π) v k=Ak d v k:=by
 cases d with
 |tup ds=>
  have e:∀v:Value,Ae ((ds.map (D.ren π))[k]?.getD .any) v=Ae (ds[k]?.getD .any) v:=by
   intro v;simp only[qZ];cases ds[k]? with
   |none=>rfl
   |some d=>simp[Lb]
  have e2:∀(ds:List D) (v:Value),Ae (.tup ds) v=none:=λ_ _=>rfl;simp only[D.ren,Dq];cases v<;>cases k<;>simp only[Ak,e,e2]
 |_=>cases k<;>simp only[D.ren,Ak,Ae]
theorem Inv.ren {t t':Nat→D} {u:Nat→Value} {h:List Row} {O:Nat→Prop} {n0:Nat} (hi:Inv g w μ t u h O) (hp:LY n0 h.length π=true) (ho:M6 h=true) (ht:∀n,t' n=(t n).ren π):
  Inv g w (LQ π μ) t' u (C6 π h) O:=by
 have hlen:μ.length=h.length:=hi.len;have hp':∀r,r <h.length→Fj π r <h.length∧Fj (EI π) r <h.length∧Fj (EI π) (Fj π r)=r∧Fj π (Fj (EI π) r)=r:=by
  intro r hr;have:=qV.1 hp r (qj.2 hr);simp only[qI,decide_eq_true_eq,beq_iff_eq]at this;exact⟨this.1.1.1.1,this.1.1.1.2,this.1.1.2,this.1.2⟩
 have hμ:∀r b,(LQ π μ)[r]?=some b↔r <h.length∧μ[Fj (EI π) r]?=some b:=by
  intro r b;simp only[LQ,qZ];by_cases hr:r <h.length
  ·have:(List.range μ.length)[r]?=some r:=sH (by omega);have hlt:=(hp' r hr).2.1;have e1:μ[Fj (EI π) r]?=some μ[Fj (EI π) r]:=qH (by omega);simp only[this,qq,e1,qd,hr,true_and]
  ·have:(List.range μ.length)[r]?=none:=by simp;omega
   simp[this,hr]
 have hh:∀r row,(C6 π h)[r]?=some row↔r <h.length∧∃HZ,h[Fj (EI π) r]?=some HZ∧row=HZ.ren π:=by
  intro r row;simp only[C6,qZ];by_cases hr:r <h.length
  ·have:(List.range h.length)[r]?=some r:=sH hr;have hlt:=(hp' r hr).2.1;have e1:h[Fj (EI π) r]?=some h[Fj (EI π) r]:=qH hlt;simp only[this,qq,e1,qd,hr,true_and,qF];exact⟨λh=>⟨_,rfl,h.symm⟩,λ⟨x,hx,hr⟩=>by rw[hr,hx]⟩
  ·have:(List.range h.length)[r]?=none:=by simp;omega
   simp[this,hr]
 have hπ:∀r b,μ[r]?=some b→(LQ π μ)[Fj π r]?=some b:=by
  intro r b hb;have hr:r <h.length:=by have:=(qK.1 hb).1;omega
  rw[hμ];exact⟨(hp' r hr).1,by rw[(hp' r hr).2.2.1];exact hb⟩
 have hcellU:∀r k,r <h.length→BK w (LQ π μ) r k=BK w μ (Fj (EI π) r) k:=by
  intro r k hr;simp only[BK];have hlt:=(hp' r hr).2.1;have e1:μ[Fj (EI π) r]?=some μ[Fj (EI π) r]:=qH (by omega);rw[(hμ r _).2 ⟨hr,e1⟩,e1]
 have hcellD:∀r k v,r <h.length→Ae (A9 (C6 π h) r k) v=Ae (A9 h (Fj (EI π) r) k) v:=by
  intro r k v hr;have hlt:=(hp' r hr).2.1;have e1:h[Fj (EI π) r]?=some h[Fj (EI π) r]:=qH hlt;simp only[A9,(hh r _).2 ⟨hr,_,e1,rfl⟩,e1];cases h[Fj (EI π) r]with
  |cells ds=>
   simp only[Row.ren,Dq,qZ];cases ds[k]? with
   |none=>rfl
   |some d=>simp[Lb]
  |_=>rfl
 have hout:∀r k v,¬r <h.length→Ae (A9 (C6 π h) r k) v=none:=by
  intro r k v hr;have:(C6 π h)[r]?=none:=by simp[C6];omega
  simp[A9,this,Ae]
 have hblk:∀p b,Cl t' u (C6 π h) w (LQ π μ) p=some b→Cl t u h w μ (match p with| .tmp n k=> .tmp n k| .cell r k=> .cell (Fj (EI π) r) k)=some b:=by
  intro p b hb;cases p with
  |tmp n k=>simp only[Cl,ht,Sq]at hb ⊢;exact hb
  |cell r k=>
   simp only[Cl]at hb ⊢;by_cases hr:r <h.length
   ·rw[hcellD r k _ hr,hcellU r k hr]at hb;exact hb
   ·rw[hout r k _ hr]at hb;cases hb
 have hblt:∀r k b,Cl t' u (C6 π h) w (LQ π μ) (.cell r k)=some b→r <h.length:=by
  intro r k b hb;by_cases hr:r <h.length
  ·exact hr
  ·simp only[Cl,hout r k _ hr]at hb;cases hb
 have hmem:∀b,b∈LQ π μ→b∈μ:=by
  intro b hb;obtain⟨r,hr⟩:=sj.1 hb;exact qJ ((hμ r b).1 hr).2
 refine⟨hi.agree,hi.olt,λn=>by rw[ht];exact(hi.rep n).ren hπ,by simp[LQ,C6,hlen],?_,?_,λb hb=>hi.mo b (hmem b hb),?_,λp b hb=>⟨λhm=>(hi.sep _ b (hblk p b hb)).1 (hmem b hm),(hi.sep _ b (hblk p b hb)).2⟩⟩
 ·intro r row b hr hb;obtain⟨_,HZ,hr0,rfl⟩:=(hh r row).1 hr;have hb0:=((hμ r b).1 hb).2;have:=hi.rows _ HZ b hr0 hb0;cases HZ with
  |cells ds=>
   obtain⟨vs,T,h1,h2,h3,h4⟩:=this;exact⟨vs,T,h1,by rw[Dq];exact All2.map_left (λx y hx=>RepE.ren hπ hx) h2,h3,h4⟩
  |map es st ck=>exact this
  |obj tag p m=>
   have:=qV.1 ho _ (qJ hr0);simp[Row.isObj]at this
  |dead=>exact this
 ·intro r r' b hb hb';obtain⟨hr,h1⟩:=(hμ r b).1 hb;obtain⟨hr',h2⟩:=(hμ r' b).1 hb';have:=hi.nod _ _ b h1 h2;rw[←(hp' r hr).2.2.2,←(hp' r' hr').2.2.2,this]
 ·intro p q b hp hq;have h1:=hblk p b hp;have h2:=hblk q b hq;have:=hi.uniq _ _ b h1 h2;cases p with
  |tmp n k=>cases q with
   |tmp n' k'=>exact this
   |cell r' k'=>cases this
  |cell r k=>cases q with
   |tmp n' k'=>cases this
   |cell r' k'=>
    simp only[Pl.cell.injEq]at this;have hr:=hblt r k b hp;have hr':=hblt r' k' b hq;rw[←(hp' r hr).2.2.2,←(hp' r' hr').2.2.2,this.1,this.2]
end
section
variable {GL:Ac} {N:Nat}
theorem Gs.ren {g:Gh} {w:World} {μ:List Nat} {s s2:St} {a:Act} {O:Nat→Prop} {n0:Nat} (hg:Gs GL N g w μ s a O) (hr:RJ n0 s s2):∃μ2,Gs GL N g w μ2 s2 a O∧∀μ0:List Nat,μ0.length≤n0→μ0 <+: μ→μ0 <+: μ2:=by
 rcases hr with rfl|⟨π,hp,ho,he,hh⟩
 ·exact⟨μ,hg,λ_ _ h=>h⟩
 ·refine⟨LQ π μ,⟨?_,hg.glob,hg.sz⟩,λμ0 hl hpre=>?_⟩
  ·rw[hh];exact hg.inv.ren hp ho he
  ·have hlen:μ.length=s.h.length:=hg.inv.len;rw[List.prefix_iff_eq_take];apply rj;intro i;rw[qu];by_cases hi:i <μ0.length
   ·rw[if_pos hi];have h1:μ0[i]?=some μ0[i]:=qH hi;have h2:μ[i]?=some μ0[i]:=FC hpre h1;have hi2:i <s.h.length:=by have:=(qK.1 h2).1;omega
    have:=qV.1 hp i (qj.2 hi2);simp only[qI,sZ,decide_eq_true_eq,beq_iff_eq]at this;have h3:Fj (EI π) i=i:=by
     rcases this.2 with h|h
     ·omega
     ·exact h
    simp only[LQ,qZ,sH (show i <μ.length by omega),qq,h3,h2,qd,h1]
   ·rw[if_neg hi,rG (by omega)]
end
end
section
inductive AExit where
 |normal
 |exit (id:Nat)
 |ret
structure GI where
 g:Option (Nat×Bool)
 i:AI
 deriving Inhabited
def Tg (P:Program) (f:Nat):Bool:=
 match P.funcs[f]? with
 |some fn=>fn.body.isSome&& !(fn.name== "runtime.NumGoroutine")
 |none=>false
def JG:List V→D
 |[x]=> .v x
 |xs=> .tup (xs.map .v)
def SW (g:Gh) (w:World):Prop:=∀b o v,g.m b o=some v→w.cell? ⟨b,o,none⟩=some v
def PSp (P:Program) (GL:Ac) (f:Nat) (args rets:List V):Prop:=
 Tg P f=true∧∀(g:Gh) (w:World) (us:List Value),SW g w→GlobOK GL g→All2 (RepV g) args us→
  Calls P f us.toArray w λe w'=>∃v g',e= .returned v∧RepD g' w' [] (JG rets) v∧Chg (λ_=>False) g w g' w'∧SW g' w'
def WF (r:Option Nat):Fence:={Fence.wide with round:=r}
def ZD (P:Program) (GL:Ac) (r:Nat) (args:List D) (h:List Row) (b:Bool) (h':List Row):Prop:=
 ∀(g:Gh) (w:World) (μ:List Nat) (us:List Value) (O:Nat→Prop),Inv g w μ KL Mj h O→GlobOK GL g→All2 (RepG g w μ) args us→Tame args us→∀bl,μ[r]?=some bl→
  ∃fn tmps asg body,(Instr.yield bl us.toArray).run P w= .ok (.round bl fn tmps asg body) w∧
   RoundIn (WF none) 0 P bl fn tmps asg body w λe w'=>∃g' μ',e= .returned (.bool b)∧Inv g' w' μ' KL Mj h' O∧Chg (λb=>¬O b) g w g' w'∧μ <+: μ'
def FSp (P:Program) (GL:Ac) (f:Nat) (args:List D) (h:List Row) (rets:List D) (h':List Row):Prop:=
 Tg P f=true∧∀(g:Gh) (w:World) (μ:List Nat) (us:List Value) (O:Nat→Prop),Inv g w μ KL Mj h O→GlobOK GL g→All2 (RepG g w μ) args us→Tame args us→
  Calls P f us.toArray w λe w'=>∃v g' μ',e= .returned v∧Inv g' w' μ' (IU .any (Bj rets)) (IU (.bool false) v) h' O∧Chg (λb=>¬O b) g w g' w'∧μ <+: μ'
def Mi {α:Type} (z:α) (l:List α):Nat→α:=λn=>(l[n]?).getD z
def cg (P:Program) (GL:Ac) (f:Nat) (args rets:List D):Prop:=
 Tg P f=true∧∀(g:Gh) (w:World) (μ:List Nat) (us:List Value) (O:Nat→Prop) (h:List Row),us.length=args.length→Inv g w μ (Mi .any args) (Mi undef us) h O→GlobOK GL g→
  Calls P f us.toArray w λe w'=>∃v g' μ',e= .returned v∧Inv g' w' μ' (IU .any (Bj rets)) (IU (.bool false) v) h O∧Chg (λb=>¬O b) g w g' w'∧μ <+: μ'
def AI.dst:AI→Option Nat
 | .p d _| .mv d _| .alloc d _| .box d _| .take d _| .app d _ _ _ _ _| .appS d _ _ _ _| .bsl d _ _ _| .s2b d _| .nilS d _ _| .mkm d| .mksl d _ _| .ment d _ _ _ _=>some d
 | .mdel d _ _ _ _=>d
 | .mput _ _ _ _ _=>none
 | .mest _ _ _=>none
 | .store _ _ _=>none
 | .call d _ _=>d
 | .callF d _ _=>d
 | .callC d _ _=>d
 | .callO d _ _ _=>d
 | .appR d _ _ _ _ _| .frz d _ _=>some d
 | .mksz d _ _=>some d
 | .cpy d _ _ _=>d
 | .callN d _ _=>d
 | .appP d _ _ _ _ _=>some d
 | .fin _ _ _ _ _=>none
 | .bsr d _ _=>some d
def Opd.moved:Opd→Bool
 | .t _ b=>b
 |_=>false
section
variable (P:Program) (GL:Ac)
def BZ (d:Option Nat) (f:Opd) (args:List Opd) (K:St→Prop) (s:St):Prop:=
 match f.ev s.e with
 | .yld r=>∃b h',ZD P GL r (Ar s.e args) s.h b h'∧K ⟨CQ s.e d (.v (.bool b)),h'⟩
 | .meth fid fs=>∃rets h',FSp P GL fid (fs++Ar s.e args) s.h rets h'∧K ⟨CQ s.e d (Bj rets),h'⟩
 |fd=>match Dt fd with
  |some (fid,caps)=>∃rets h',FSp P GL fid (Ar s.e args++caps) s.h rets h'∧K ⟨CQ s.e d (Bj rets),h'⟩
  |none=>False
def Dg (i:AI) (K:St→Prop) (s:St):Prop:=
 match i with
 | .call d f args=>BZ P GL d f args K s
 | .callF d f args=>BZ P GL d f args K s
 | .callC d f args=>BZ P GL d f args K s
 | .callO d f q args=>∃fid rets,Dt (f.ev s.e)=some (fid,[])∧cg P GL fid (q.ev s.e::Ar s.e args) rets∧K ⟨CQ (q.clear s.e) d (Bj rets),s.h⟩
 | .appP d x y e sz by_=>match EG e sz (x.ev s.e),(y.ev s.e).toV with
  |some xs,some (.list [z])=>z.cells.length=sz∧AK (xs.length+1) by_=true∧∀b,K ⟨(d,.pend b e sz xs)::x.clear s.e,s.h⟩
  |_,_=>False
 | .callN d f args=>∃fid rets h',Dt (f.ev s.e)=some (fid,[])∧FSp P GL fid (args.map λq=>(q.ev s.e).copy) s.h rets h'∧K ⟨CQ s.e d (Bj rets),h'⟩
 | .appR d x y e sz by_=>match x.ev s.e,(y.ev s.e).toV with
  | .nil _ _,some (.list ys)=>BG sz ys=true∧AK ys.length by_=true∧(x.moved=true∧K ⟨(d,.own e sz ys)::x.clear s.e,s.h⟩∨if ys.isEmpty=true then K ⟨(d,.nil e sz)::s.e,s.h⟩ else
    ∀k,K ⟨(d,.sref s.h.length ys.length)::s.e,s.h++[.cells ((ys.flatMap V.cells).map .v++List.replicate k .any)]⟩)
  | .own e' s' [],some (.list ys)=>BG sz ys=true∧AK ys.length by_=true∧((e'=e∧s'=sz∧K ⟨(d,.own e sz ys)::x.clear s.e,s.h⟩)∨e'≠84∧if ys.isEmpty=true then K ⟨(d,.nil e sz)::s.e,s.h⟩ else
    ∀k,K ⟨(d,.sref s.h.length ys.length)::s.e,s.h++[.cells ((ys.flatMap V.cells).map .v++List.replicate k .any)]⟩)
  |_,_=>False
 | .frz d x sz=>match x.ev s.e with
  | .nil _ _=>K ⟨(d,.v (.list []))::s.e,s.h⟩
  | .sref r n=>match s.h[r]? with
   |some (.cells ds)=>0 <sz∧∃xs:List V,xs.length=n∧(∀x∈xs,x.cells.length=sz)∧D.vs? (ds.take (n*sz))=some (xs.flatMap V.cells)∧K ⟨(d,.v (.list xs))::s.e,s.h.set r .dead⟩
   |_=>False
  |_=>False
 | .nilS d ne x=>match (x.ev s.e).copy with
  | .v (.list [])| .nil _ _=>K ⟨(d,.v (.bool (true != ne)))::s.e,s.h⟩∧K ⟨(d,.v (.bool (false != ne)))::s.e,s.h⟩
  | .v (.list (_::_))=>K ⟨(d,.v (.bool (false != ne)))::s.e,s.h⟩
  |_=>False
 |i=>match i.step s with
  |some s'=>K s'
  |none=>False
def Iz (x:GI) (K:St→Prop) (s:St):Prop:=
 match x.g with
 |none=>Dg P GL x.i K s
 |some (t,want)=>match AF s.e t with
  | .v (.bool b)=>if b=want then Dg P GL x.i K s else K ⟨CQ s.e x.i.dst (.tup []),s.h⟩
  | .tup []=>K ⟨CQ s.e x.i.dst (.tup []),s.h⟩
  |_=>False
def Bd:List GI→(St→Prop)→St→Prop
 |[],K,s=>K s
 |x::rest,K,s=>Iz P GL x (Bd rest K) s
def Bm (e:CH):List Nat→CH
 |[]=>[]
 |n::ns=>(n,AF e n)::Bm e ns
end
def C5 (P:Program) (GL:Ac) (N:Nat) (o:Oper) (ai:AI):Bool:=
 match ai with
 | .p d i=>o.dst==some d&&decide (d <N)&&Vj P GL o.op i
 | .mv d q=>o.dst==some d&&decide (d <N)&&Rz q&&(match o.op with| .move x=>oe GL x q| .assign x=>oe GL x q|_=>false)
 | .alloc d zs=>o.dst==some d&&decide (d <N)&&(match o.op with| .alloc t=>GW P t zs|_=>false)
 | .box d q=>o.dst==some d&&decide (d <N)&&(match o.op with| .box _ x=>oe GL x q|_=>false)
 | .store p q n=>o.dst==none&&(match o.op with| .store t p' x=>oe GL p' p&&oe GL x q&&Ba P t n|_=>false)
 | .take d p=>o.dst==some d&&decide (d <N)&&(match o.op with| .load t p'=>oe GL p' p&&Fm P t (λ| .slice _=>true|_=>false)|_=>false)
 | .app d q r e s by_=>o.dst==some d&&decide (d <N)&&(match o.op with
  | .call {callee:= .builtin .append,args,argTypes}=>HF args.toList (λx y=>oe GL x q&&oe GL y r)&&Eh q&&
    HF argTypes.toList (λt t2=>DR P t e&&Fm P t2 (λ| .slice _=>true|_=>false))&&Ez P e s by_
  |_=>false)
 | .appS d q r e by_=>o.dst==some d&&decide (d <N)&&(match o.op with
  | .call {callee:= .builtin .append,args,argTypes}=>HF args.toList (λx y=>oe GL x q&&oe GL y r)&&Eh q&&
    HF argTypes.toList (λt t2=>DR P t e&&Fm P t2 (λ| .string=>true|_=>false))&&Ez P e 1 by_
  |_=>false)
 | .bsl d e s qs=>o.dst==some d&&decide (d <N)&&(match o.op with
  | .buildSlice t n ps=>DR P t e&&(match P.info? e with|some i=>Ez P e s i.bytes|none=>false)&&ps.toList.length==n&&decide (n*s≤2^24)&&FG GL 0 ps.toList qs
  |_=>false)
 | .bsr d s qs=>o.dst==some d&&decide (d <N)&&(match o.op with
  | .buildSlice t n ps=>(match P.underlying t with|some (.slice e)=>(match P.info? e with|some i=>DR P t e&&Ez P e s i.bytes|none=>false)|_=>false)&&ps.toList.length==n&&decide (0 <n)&&decide (n*s≤2^24)&&FG GL 0 ps.toList qs
  |_=>false)
 | .s2b d q=>o.dst==some d&&decide (d <N)&&(match o.op with| .convert s t x=>Fm P s (λ| .string=>true|_=>false)&&Q9 P t&&oe GL x q|_=>false)
 | .mkm d=>o.dst==some d&&decide (d <N)&&(match o.op with| .makeMap _ none=>true|_=>false)
 | .mksl d q z=>o.dst==some d&&decide (d <N)&&(match o.op with
  | .makeSlice t x c=>(match x,c with| .tmp a,.tmp b=>a==b|_,_=>false)&&oe GL x q&&(match P.underlying t with|some (.slice e)=>GW P e [z]&&Ba P e 1&&((P.info? e).map λi=>decide (i.bytes≤1048576))==some true|_=>false)
  |_=>false)
 | .mput m k v st ks=>o.dst==none&&(match o.op with| .mapUpdate t x i y=>(match P.underlying t with|some (.map kt _)=>E7 P kt st ks|_=>false)&&oe GL x m&&oe GL i k&&oe GL y v|_=>false)
 | .ment d m k st ks=>o.dst==some d&&decide (d <N)&&(match o.op with| .mapEntry t x i=>(match P.underlying t with|some (.map kt _)=>E7 P kt st ks|_=>false)&&oe GL x m&&oe GL i k|_=>false)
 | .mest m b v=>o.dst==none&&(match o.op with| .entryStore _ x i y=>oe GL x m&&oe GL i b&&oe GL y v|_=>false)
 | .mdel d m k st ks=>o.dst==d&&(match d with|some d=>decide (d <N)|none=>true)&&(match o.op with
  | .call {callee:= .builtin .delete,args,argTypes}=>HF args.toList (λx y=>oe GL x m&&oe GL y k)&&HF argTypes.toList (λt _=>match P.underlying t with|some (.map kt _)=>E7 P kt st ks|_=>false)
  |_=>false)
 | .nilS d ne q=>o.dst==some d&&decide (d <N)&&(match o.op with| .binOp op t x y _=>(op==if ne then .neq else .eql)&&(match y with| .const (.slice none 0 0)=>true|_=>false)&&Fm P t (λ| .slice _=>true|_=>false)&&oe GL x q|_=>false)
 | .call d f args=>(match o.op with
  | .call {callee:= .value f',args:=asx,..}=>o.dst==d&&(match d with|some d=>decide (d <N)|none=>true)&&oe GL f' f&&Ap (oe GL) asx.toList args
  |_=>false)
 | .callF d f args=>(match o.op with
  | .call {callee:= .value f',args:=asx,..}=>o.dst==d&&(match d with|some d=>decide (d <N)|none=>true)&&oe GL f' f&&Ap (oe GL) asx.toList args
  |_=>false)
 | .callC d f args=>(match o.op with
  | .call {callee:= .value f',args:=asx,..}=>o.dst==d&&(match d with|some d=>decide (d <N)|none=>true)&&oe GL f' f&&Ap (oe GL) asx.toList args
  |_=>false)
 | .callO d f q args=>(match o.op with
  | .call {callee:= .value f',args:=asx,..}=>o.dst==d&&(match d with|some d=>decide (d <N)|none=>true)&&oe GL f' f&&Ap (oe GL) asx.toList (q::args)&&Eh q
  |_=>false)
 | .appR d q r e s by_=>o.dst==some d&&decide (d <N)&&(match o.op with
  | .call {callee:= .builtin .append,args,argTypes}=>HF args.toList (λx y=>oe GL x q&&oe GL y r)&&
    HF argTypes.toList (λt t2=>DR P t e&&Fm P t2 (λ| .slice _=>true|_=>false))&&Ez P e s by_&&((P.info? e).bind (·.zero)).any (λz=>z.cells.toList.all Value.oneCell')
  |_=>false)
 | .frz d q _=>o.dst==some d&&decide (d <N)&&(match o.op with| .move x=>oe GL x q| .assign x=>oe GL x q|_=>false)
 | .appP d q r e s by_=>o.dst==some d&&decide (d <N)&&(match o.op with
  | .call {callee:= .builtin .append,args,argTypes}=>HF args.toList (λx y=>oe GL x q&&oe GL y r)&&Eh q&&
    HF argTypes.toList (λt t2=>DR P t e&&Fm P t2 (λ| .slice _=>true|_=>false))&&Ez P e s by_
  |_=>false)
 | .fin m _ p q sz=>o.dst==none&&decide (m <N)&&(match o.op with| .store t p' x=>oe GL p' p&&oe GL x q&&Ba P t sz|_=>false)
 | .callN d f args=>(match o.op with
  | .call {callee:= .value f',args:=asx,..}=>o.dst==d&&(match d with|some d=>decide (d <N)|none=>true)&&oe GL f' f&&Ap (oe GL) asx.toList args
  |_=>false)
 | .mksz d q zs=>o.dst==some d&&decide (d <N)&&(match o.op with
  | .makeSlice t x c=>(match x,c with| .tmp a,.tmp b=>a==b|_,_=>false)&&oe GL x q&&(match P.underlying t with|some (.slice e)=>GW P e zs&&Ba P e zs.length&&((P.info? e).map λi=>decide (i.bytes≤1048576))==some true|_=>false)
  |_=>false)
 | .cpy d q r sz=>o.dst==d&&(match d with|some d=>decide (d <N)|none=>true)&&(match o.op with
  | .call {callee:= .builtin .copy,args,argTypes}=>HF args.toList (λx y=>oe GL x q&&oe GL y r)&&HF argTypes.toList (λt _=>match P.underlying t with|some (.slice e)=>Ba P e sz|_=>false)
  |_=>false)
def IZ (P:Program) (GL:Ac) (N:Nat) (ops:Array Oper) (i:Nat) (x:GI):Bool:=
 match ops[i]? with
 |none=>false
 |some o=>(match o.guard,x.g with
  |none,none=>true
  |some (j,want),some (t,want')=>(ops[j]?).bind (·.dst)==some t&&want==want'&&x.i.dst==o.dst
  |_,_=>false)&&C5 P GL N o x.i
variable {w:World} {n:Nat}
theorem Ff {r:Option Nat} {P:Program} {f:FuncId} {args:Array Value} {R:Ending→World→Prop} (h:Calls P f args w R):CallsIn (WF r) n P f args w R:=
 (callsIn_wide (n:=n)).2 h
theorem NH (e:CH):∀(ns:List Nat) (n:Nat),AF (Bm e ns) n=if n∈ns then AF e n else .any
 |[],n=>by simp[Bm,AF]
 |m::ns,n=>by
  simp only[Bm,AF];by_cases h:m=n
  ·simp[h]
  ·rw[if_neg h,NH e ns n];simp[Ne.symm h]
variable {O:Nat→Prop} {a:Act} {s:St} {μ:List Nat} {g:Gh} {o:Oper} {u v:Value} {vs:List Value} {K:St→Prop} {ds:List D} {h:List Row} {q y':Opd} {by_ f i sz:Nat} {ops:Array Oper}
section
variable {P:Program} {GL:Ac} {N:Nat} {r:Option Nat}
theorem Gs.norm (hg:Gs GL N g w μ s a O) (ns:List Nat):Gs GL N g w μ ⟨Bm s.e ns,s.h⟩ a O where
 inv:=hg.inv.weaken _ λn=>by
  rw[NH];by_cases h:n∈ns
  ·exact .inl (by simp[h])
  ·exact .inr ⟨λv _=>by simp[h,RepD,RepG,RepE],λv k=>by simp only[h,if_false];cases k<;>simp[Ak,Ae]⟩
 glob:=hg.glob
 sz:=hg.sz
theorem aX {ai:AI} (h:C5 P GL N o ai=true) (hc:∀d f args,ai≠ .call d f args) (hc2:∀d ne x,ai≠ .nilS d ne x) (hc3:∀d f args,ai≠ .callF d f args∧ai≠ .callC d f args) (hc4:∀d f q args,ai≠ .callO d f q args) (hc5:∀d x y e s b,ai≠ .appR d x y e s b∧ai≠ .frz d x s) (hc7:∀d f args,ai≠ .callN d f args) (hc8:∀d x y e s b,ai≠ .appP d x y e s b):Dw P GL N o ai∧∀c,o.op≠ .defer c:=by
 cases ai with
 |p d i=>
  simp only[C5,qI,beq_iff_eq,decide_eq_true_eq]at h;refine⟨jD h.1.1 h.1.2 h.2,λc hc=>?_⟩;rw[hc]at h;simp[Vj]at h
 |mv d q=>
  simp only[C5,qI,beq_iff_eq,decide_eq_true_eq]at h;obtain⟨⟨⟨h1,h2⟩,h3⟩,h4⟩:=h;split at h4
  ·rename_i x hx;exact⟨YZ h1 (.inl hx) h2 h4 h3,λc hc=>by rw[hx]at hc;cases hc⟩
  ·rename_i x hx;exact⟨YZ h1 (.inr hx) h2 h4 h3,λc hc=>by rw[hx]at hc;cases hc⟩
  ·cases h4
 |alloc d zs=>
  simp only[C5,qI,beq_iff_eq,decide_eq_true_eq]at h;obtain⟨⟨h1,h2⟩,h4⟩:=h;split at h4
  ·rename_i t hx;exact⟨WA h1 hx h2 h4,λc hc=>by rw[hx]at hc;cases hc⟩
  ·cases h4
 |box d q=>
  simp only[C5,qI,beq_iff_eq,decide_eq_true_eq]at h;obtain⟨⟨h1,h2⟩,h4⟩:=h;split at h4
  ·rename_i t x hx;exact⟨bh h1 hx h2 h4,λc hc=>by rw[hx]at hc;cases hc⟩
  ·cases h4
 |store p q n=>
  simp only[C5,qI,beq_iff_eq]at h;obtain⟨h1,h4⟩:=h;split at h4
  ·rename_i t p' x hx;simp only[qI]at h4;exact⟨T7 h1 hx h4.1.1 h4.1.2 h4.2,λc hc=>by rw[hx]at hc;cases hc⟩
  ·cases h4
 |take d p=>
  simp only[C5,qI,beq_iff_eq,decide_eq_true_eq]at h;obtain⟨⟨h1,h2⟩,h4⟩:=h;split at h4
  ·rename_i t p' hx;simp only[qI]at h4;obtain⟨el,hel⟩:=FN h4.2;exact⟨WO h1 hx h2 h4.1 hel,λc hc=>by rw[hx]at hc;cases hc⟩
  ·cases h4
 |app d q r e s by_=>
  simp only[C5,qI,beq_iff_eq,decide_eq_true_eq]at h;obtain⟨⟨h1,h2⟩,h4⟩:=h;split at h4
  ·rename_i asx ts hx;simp only[qI]at h4;obtain⟨⟨⟨k1,k2⟩,k3⟩,k4⟩:=h4;obtain⟨x,y,rfl,j1⟩:=DQ k1;obtain⟨t,t2,rfl,j3⟩:=DQ k3;simp only[qI]at j1 j3;obtain⟨e2,he2⟩:=FN j3.2;exact⟨cC h1 hx h2 j1.1 j1.2 k2 j3.1 (e2:=e2) (by simp[DR,he2]) k4,λc hc=>by rw[hx]at hc;cases hc⟩
  ·cases h4
 |appS d q r e by_=>
  simp only[C5,qI,beq_iff_eq,decide_eq_true_eq]at h;obtain⟨⟨h1,h2⟩,h4⟩:=h;split at h4
  ·rename_i asx ts hx;simp only[qI]at h4;obtain⟨⟨⟨k1,k2⟩,k3⟩,k4⟩:=h4;obtain⟨x,y,rfl,j1⟩:=DQ k1;obtain⟨t,t2,rfl,j3⟩:=DQ k3;simp only[qI]at j1 j3;exact⟨Xs h1 hx h2 j1.1 j1.2 k2 j3.1 j3.2 k4,λc hc=>by rw[hx]at hc;cases hc⟩
  ·cases h4
 |bsl d e s qs=>
  simp only[C5,qI,beq_iff_eq,decide_eq_true_eq]at h;obtain⟨⟨h1,h2⟩,h4⟩:=h;split at h4
  ·rename_i t n ps hx;simp only[qI,beq_iff_eq,decide_eq_true_eq]at h4;obtain⟨⟨⟨⟨k1,k2⟩,k3⟩,k4⟩,k5⟩:=h4;split at k2
   ·exact⟨bg h1 hx h2 k1 k2 k3 k4 k5,λc hc=>by rw[hx]at hc;cases hc⟩
   ·cases k2
  ·cases h4
 |bsr d s qs=>
  simp only[C5,qI,beq_iff_eq,decide_eq_true_eq]at h;obtain⟨⟨h1,h2⟩,h4⟩:=h;split at h4
  ·rename_i t n ps hx;simp only[qI,beq_iff_eq,decide_eq_true_eq]at h4;obtain⟨⟨⟨⟨k1,k2⟩,k3⟩,k4⟩,k5⟩:=h4;split at k1
   ·split at k1
    ·simp only[qI]at k1;exact⟨bf h1 hx h2 k1.1 k1.2 k2 k3 k4 k5,λc hc=>by rw[hx]at hc;cases hc⟩
    ·cases k1
   ·cases k1
  ·cases h4
 |s2b d x=>
  simp only[C5,qI,beq_iff_eq,decide_eq_true_eq]at h;obtain⟨⟨h1,h2⟩,h4⟩:=h;split at h4
  ·rename_i s t x hx;simp only[qI]at h4;exact⟨ZV h1 hx h2 h4.2 h4.1.1 h4.1.2,λc hc=>by rw[hx]at hc;cases hc⟩
  ·cases h4
 |mkm d=>
  simp only[C5,qI,beq_iff_eq,decide_eq_true_eq]at h;obtain⟨⟨h1,h2⟩,h4⟩:=h;split at h4
  ·rename_i t hx;exact⟨Zx h1 hx rfl h2,λc hc=>by rw[hx]at hc;cases hc⟩
  ·cases h4
 |mksl d q z=>
  simp only[C5,qI,beq_iff_eq,decide_eq_true_eq]at h;obtain⟨⟨h1,h2⟩,h4⟩:=h;split at h4
  ·rename_i t x c hx;simp only[qI]at h4;obtain⟨⟨k1,k2⟩,k3⟩:=h4;split at k1
   ·rename_i a b;have hab:b=a:=(beq_iff_eq.1 k1).symm;split at k3
    ·rename_i e hu;simp only[qI,beq_iff_eq]at k3;exact⟨W4 h1 hx h2 (by rw[hab]) k2 hu k3.1.1 k3.1.2 k3.2,λc hc=>by rw[hx]at hc;cases hc⟩
    ·cases k3
   ·cases k1
  ·cases h4
 |mput m k v st ks=>
  simp only[C5,qI,beq_iff_eq]at h;obtain⟨h1,h4⟩:=h;split at h4
  ·rename_i t x i y hx;simp only[qI]at h4;exact⟨W0 h1 hx h4.1.1.1 h4.1.1.2 h4.1.2 h4.2,λc hc=>by rw[hx]at hc;cases hc⟩
  ·cases h4
 |ment d m k st ks=>
  simp only[C5,qI,beq_iff_eq,decide_eq_true_eq]at h;obtain⟨⟨h1,h2⟩,h4⟩:=h;split at h4
  ·rename_i t x i hx;simp only[qI]at h4;exact⟨W7 h1 h2 hx h4.1.1 h4.1.2 h4.2,λc hc=>by rw[hx]at hc;cases hc⟩
  ·cases h4
 |mest m b v=>
  simp only[C5,qI,beq_iff_eq]at h;obtain⟨h1,h4⟩:=h;split at h4
  ·rename_i t x i y hx;simp only[qI]at h4;exact⟨W6 h1 hx h4.1.1 h4.1.2 h4.2,λc hc=>by rw[hx]at hc;cases hc⟩
  ·cases h4
 |mdel d m k st ks=>
  simp only[C5,qI,beq_iff_eq]at h;obtain⟨⟨h1,h2⟩,h4⟩:=h;split at h4
  ·rename_i asx ts hx;simp only[qI]at h4;obtain⟨x,y,rfl,j1⟩:=DQ h4.1;obtain⟨t,t2,rfl,j3⟩:=DQ h4.2;simp only[qI]at j1;exact⟨W8 h1 (λn hn=>by subst hn;simpa using h2) hx j3 j1.1 j1.2,λc hc=>by rw[hx]at hc;cases hc⟩
  ·cases h4
 |nilS d ne x=>exact absurd rfl (hc2 d ne x)
 |call d f args=>exact absurd rfl (hc d f args)
 |callF d f args=>exact absurd rfl (hc3 d f args).1
 |callC d f args=>exact absurd rfl (hc3 d f args).2
 |callO d f q args=>exact absurd rfl (hc4 d f q args)
 |appR d x y e s b=>exact absurd rfl (hc5 d x y e s b).1
 |frz d x s=>exact absurd rfl (hc5 d x x 0 s 0).2
 |callN d f args=>exact absurd rfl (hc7 d f args)
 |appP d x y e s b=>exact absurd rfl (hc8 d x y e s b)
 |fin m ad p q sz=>
  simp only[C5,qI,beq_iff_eq,decide_eq_true_eq]at h;obtain⟨⟨h1,h2⟩,h4⟩:=h;split at h4
  ·rename_i t p' x hx;simp only[qI]at h4;exact⟨aP h1 hx h2 h4.1.1 h4.1.2 h4.2,λc hc=>by rw[hx]at hc;cases hc⟩
  ·cases h4
 |mksz d q zs=>
  simp only[C5,qI,beq_iff_eq,decide_eq_true_eq]at h;obtain⟨⟨h1,h2⟩,h4⟩:=h;split at h4
  ·rename_i t x c hx;simp only[qI]at h4;obtain⟨⟨k1,k2⟩,k3⟩:=h4;split at k1
   ·rename_i a b;have hab:b=a:=(beq_iff_eq.1 k1).symm;split at k3
    ·rename_i e hu;simp only[qI,beq_iff_eq]at k3;exact⟨W3 h1 hx h2 (by rw[hab]) k2 hu k3.1.1 k3.1.2 k3.2,λc hc=>by rw[hx]at hc;cases hc⟩
    ·cases k3
   ·cases k1
  ·cases h4
 |cpy d q r sz=>
  simp only[C5,qI,beq_iff_eq]at h;obtain⟨⟨h1,h2⟩,h4⟩:=h;split at h4
  ·rename_i asx ts hx;simp only[qI]at h4;obtain⟨x,y,rfl,j1⟩:=DQ h4.1;obtain⟨t,t2,rfl,j3⟩:=DQ h4.2;simp only[qI]at j1;exact⟨bB h1 (λn hn=>by subst hn;simpa using h2) hx j1.1 j1.2 j3,λc hc=>by rw[hx]at hc;cases hc⟩
  ·cases h4
def HN:AExit→Exit→Prop
 | .normal,.normal=>True
 | .exit i,.exit j=>i=j
 | .ret,.ret=>True
 |_,_=>False
def After (GL:Ac) (N:Nat) (Q:St→Prop) (g:Gh) (w:World) (μ:List Nat) (a:Act) (O:Nat→Prop) (a':Act) (w':World):Prop:=
 ∃s' g' μ',Q s'∧Gs GL N g' w' μ' s' a' O∧Chg (λb=>¬O b) g w g' w'∧μ <+: μ'∧a'.defers=a.defers
theorem After.trans {Q:St→Prop} {g:Gh} {w:World} {μ:List Nat} {a:Act} {O:Nat→Prop} {g1:Gh} {w1:World} {μ1:List Nat} {a1:Act} {a2:Act} {w2:World}
  (hc:Chg (λb=>¬O b) g w g1 w1) (hμ:μ <+: μ1) (hd:a1.defers=a.defers) (h:After GL N Q g1 w1 μ1 a1 O a2 w2):After GL N Q g w μ a O a2 w2:=by
 obtain⟨s',g',μ',hq,hg,hc',hμ',hd'⟩:=h;exact⟨s',g',μ',hq,hg,hc.trans hc',hμ.trans hμ',hd'.trans hd⟩
theorem B9 (a:Act) (d:Option Nat) (v:Value):(a.put d v).defers=a.defers:=by cases d<;>rfl
theorem UH {rets:List V} (h:RepD g w [] (JG rets) v):RepD g w μ (JG rets) v∧∀k,Ak (JG rets) v k=none:=by
 unfold JG at h ⊢;split
 ·rename_i x;exact⟨h,λk=>CM _ _ _⟩
 ·rename_i hne;split at h
  ·rename_i x;exact absurd rfl (hne x)
  ·obtain⟨vs,rfl,ha⟩:=h;refine⟨⟨vs,rfl,ha.1,λi x v hx hv=>?_⟩,λk=>?_⟩
   ·have:=ha.2 i x v hx hv;simp only[qZ,qQ]at hx;obtain⟨y,_,rfl⟩:=hx;exact this
   ·simp only[Ak];cases hk:(rets.map D.v)[k]? with
    |none=>simp[Ae]
    |some d=>
     simp only[qZ,qQ]at hk;obtain⟨y,_,rfl⟩:=hk;simp[Ae]
theorem Si {caps:List D} (h:All2 (RepC g μ) caps vs):All2 (RepG g w μ) caps vs∧Tame caps vs:=by
 refine⟨h.imp λd v h=>?_,λi d v hd hv=>?_⟩
 ·cases d<;>first|exact h|exact h.elim
 ·have:=h.2 i d v hd hv;cases d<;>first|rfl|exact this.elim
theorem Gs.setR (h:Gs GL N g w μ s a O) {d:Nat} (hd:d <N) {x:D}
  (hi:Inv g w μ (λn=>if d=n then x else AF s.e n) (λn=>if d=n then v else a.tmps.getD n undef) s.h O):Gs GL N g w μ ⟨(d,x)::s.e,s.h⟩ (a.put (some d) v) O where
 inv:=by rw[Dx v (h.sz▸hd)];exact hi
 glob:=h.glob
 sz:=by rw[BI,h.sz]
theorem Fw {ai:AI} (hc3:∀d f args,ai≠ .callF d f args∧ai≠ .callC d f args) (hc4:∀d f q args,ai≠ .callO d f q args) (hc5:∀d x y e s b,ai≠ .appR d x y e s b∧ai≠ .frz d x s) (hc7:∀d f args,ai≠ .callN d f args) (hc8:∀d x y e s b,ai≠ .appP d x y e s b) (hk:C5 P GL N o ai=true) (hg:Gs GL N g w μ s a O)
  (h:Dg P GL ai K s) {next:Act→World→Prop} {Q:Exit→Act→World→Prop}
  (hn:∀s' g' w' μ' a',K s'→Gs GL N g' w' μ' s' a' O→Chg (λb=>¬O b) g w g' w'→μ <+: μ'→a'.defers=a.defers→next a' w'):o.wpIn (WF r) 0 P a w next Q:=by
 refine⟨λ_ _=>trivial,?_⟩;by_cases hc2:∃d ne x,ai= .nilS d ne x
 ·obtain⟨d,ne,q,rfl⟩:=hc2;simp only[C5,qI,beq_iff_eq,decide_eq_true_eq]at hk;obtain⟨⟨hdst,hdN⟩,h4⟩:=hk;split at h4
  ·rename_i op t x y s' hop;simp only[qI]at h4;obtain⟨⟨⟨hb,hy⟩,ht⟩,hx⟩:=h4;rw[Oper.semAt_eq _ _ _ (λc hc=>by rw[hop]at hc;cases hc)];obtain⟨el,hu⟩:=FN ht;split at hy
   ·have hr:=((hg.gd P).ev hx).copy;have fin:∀(b:Bool),(execOp a.eval o).run P w= .ok (.value (.bool b)) w→K ⟨(d,.v (.bool b))::s.e,s.h⟩→Oper.uponIn (WF r) 0 P o a next Q ((execOp a.eval o).run P w):=by
     intro b hrun hK;rw[hrun];refine hn _ g w μ _ hK ?_ (Chg.refl _ _ _) (qP _) (B9 _ _ _);rw[hdst];exact hg.set hdN (.bool b) λk=>CM _ _ _
    have hrun:∀(ad:Option Addr) (n c:Nat),a.eval x= .slice ad n c→(execOp a.eval o).run P w= .ok (.value (.bool (ad.isNone != ne))) w:=by
     intro ad n c hv;have hg:(eqGuard op t x (.const (.slice none 0 0)) (.slice ad n c) (.slice none 0 0)).run P w= .ok () w:=EM ⟨by simp,by simp⟩;have heq:=run_equal_slice_nil (P:=P) w t el ad n c hu;have hev:a.eval (.const (.slice none 0 0))= .slice none 0 0:=rfl;have:=IT hb;subst this;cases ne<;>simp[execOp,hop,hv,hev,binOp,heq]at hg ⊢ <;>simp[hg,heq]
    simp only[Dg]at h;split at h
    ·rename_i hc;rw[hc]at hr;have hr':RepV g (.list []) (a.eval x):=hr;generalize hv:a.eval x=u at hr';cases hr' with
     |lnil=>exact fin _ (hrun none 0 0 hv) h.1
     |list _ ad cap _ _ hs=>exact fin _ (hrun (some ad) _ cap hv) h.2
    ·rename_i hc;rw[hc]at hr;obtain⟨ad,hv,_⟩:=hr;cases ad with
     |none=>exact fin _ (hrun none 0 0 hv) h.1
     |some ad=>exact fin _ (hrun (some ad) 0 0 hv) h.2
    ·rename_i y ys hc;rw[hc]at hr;have hr':RepV g (.list (y::ys)) (a.eval x):=hr;generalize hv:a.eval x=u at hr';cases hr' with
     |list _ ad cap _ _ hs=>exact fin _ (hrun (some ad) _ cap hv) h
    ·exact h.elim
   ·cases hy
  ·cases h4
 by_cases hc:∀d f args,ai≠ .call d f args
 ·obtain⟨heff,hnd⟩:=aX hk hc (λd ne x h=>hc2 ⟨d,ne,x,h⟩) hc3 hc4 hc5 hc7 hc8;rw[Oper.semAt_eq _ _ _ hnd];have h':∃s',ai.step s=some s'∧K s':=by
   unfold Dg at h;split at h
   ·exact absurd rfl (hc _ _ _)
   ·exact absurd rfl (hc3 _ _ _).1
   ·exact absurd rfl (hc3 _ _ _).2
   ·exact absurd rfl (hc4 _ _ _ _)
   ·exact absurd rfl (hc8 _ _ _ _ _ _)
   ·exact absurd rfl (hc7 _ _ _)
   ·exact absurd rfl (hc5 _ _ _ _ _ _).1
   ·exact absurd rfl (hc5 _ _ default 0 _ 0).2
   ·exact absurd ⟨_,_,_,rfl⟩ hc2
   ·split at h
    ·rename_i s' hs;exact⟨s',hs,h⟩
    ·exact h.elim
  obtain⟨s',hs,hK⟩:=h';obtain⟨v,w',g',μ',hrun,hgs,hch,hμ⟩:=heff hg hs;rcases hrun with hrun|⟨hrun,rfl⟩
  ·rw[hrun];exact hn s' g' w' μ' _ hK hgs hch hμ (B9 _ _ _)
  ·rw[hrun];exact hn s' g' w' μ' _ hK hgs hch hμ (B9 _ _ _)
 ·have:∃d f args,ai= .call d f args:=by
   cases ai<;>first|exact⟨_,_,_,rfl⟩|exact absurd (λ_ _ _ h=>by cases h) hc
  obtain⟨d,f,args,rfl⟩:=this;have h:(∃r b h',f.ev s.e= .yld r∧ZD P GL r (Ar s.e args) s.h b h'∧K ⟨CQ s.e d (.v (.bool b)),h'⟩)∨
    (∃fid fs rets h',f.ev s.e= .meth fid fs∧FSp P GL fid (fs++Ar s.e args) s.h rets h'∧K ⟨CQ s.e d (Bj rets),h'⟩)∨
    ∃fid caps rets h',Dt (f.ev s.e)=some (fid,caps)∧FSp P GL fid (Ar s.e args++caps) s.h rets h'∧K ⟨CQ s.e d (Bj rets),h'⟩:=by
   simp only[Dg,BZ]at h;split at h
   ·rename_i r hf;obtain⟨b,h',h1,h2⟩:=h;exact .inl ⟨r,b,h',hf,h1,h2⟩
   ·rename_i fid fs hf;obtain⟨rets,h',h1,h2⟩:=h;exact .inr (.inl ⟨fid,fs,rets,h',hf,h1,h2⟩)
   ·split at h
    ·rename_i fid caps hf;obtain⟨rets,h',h1,h2⟩:=h;exact .inr (.inr ⟨fid,caps,rets,h',hf,h1,h2⟩)
    ·exact h.elim
  rcases h with ⟨rr,yb,h',hf,hsp,hK⟩|⟨fid,fs,rets,h',hf,⟨hok,hsp⟩,hK⟩|h
  ·simp only[C5]at hk;split at hk
   ·rename_i f' asx ts hop;simp only[qI,beq_iff_eq]at hk;obtain⟨⟨⟨hdst,hdN⟩,hkf⟩,hka⟩:=hk;rw[Oper.semAt_eq _ _ _ (λc hc=>by rw[hop]at hc;cases hc)];have hrf:=(hg.gd P).ev hkf;rw[hf]at hrf;obtain⟨bl,hbl,hcv⟩:=hrf;obtain⟨har,hat⟩:=Fh (hg.gd P) hka;obtain⟨fn,tmps,asg,body,hy,hround⟩:=hsp g w μ _ _ hg.inv.call hg.glob har hat bl hbl;have hrun:(execOp a.eval o).run P w= .ok (.round bl fn tmps asg body) w:=by
     have h2:asx.map a.eval=(asx.toList.map a.eval).toArray:=by rw[←ri];simp
     simp[execOp,hop,resolve,hcv,Deferred.ofValue,invoke,h2,hy]
    rw[hrun,Oper.uponIn_round];refine⟨(λh=>by simp[WF,Fence.wide]at h),?_⟩;refine RoundIn.mono (F:=WF r) (show RoundIn (WF r) 0 P bl fn tmps asg body w _ from hround) ?_;rintro e w' ⟨g',μ',rfl,hinv,hch,hμ⟩;have hgs:Gs GL N g' w' μ' ⟨s.e,h'⟩ a O:=⟨hg.inv.ret hinv hch hμ,hg.glob.mono hch.le,hg.sz⟩;refine hn ⟨CQ s.e d (.v (.bool yb)),h'⟩ g' w' μ' _ hK ?_ (hch.mono λ_ h ho=>h (.inl ho)) hμ (B9 _ _ _);rw[hdst];cases d with
    |none=>exact⟨hgs.inv,hgs.glob,by rw[BI,hgs.sz]⟩
    |some d=>exact hgs.set (by simpa using hdN) (.bool yb) λk=>CM _ _ _
   ·cases hk
  ·simp only[C5]at hk;split at hk
   ·rename_i f' asx ts hop;simp only[qI,beq_iff_eq]at hk;obtain⟨⟨⟨hdst,hdN⟩,hkf⟩,hka⟩:=hk;rw[Oper.semAt_eq _ _ _ (λc hc=>by rw[hop]at hc;cases hc)];have hrf:=(hg.gd P).ev hkf;rw[hf]at hrf;obtain⟨cvs,hcv,hcr0⟩:=hrf;obtain⟨hcr,hct⟩:=Si (w:=w) hcr0;obtain⟨har,hat⟩:=Fh (hg.gd P) hka;have hall:=hcr.append har;have htm:=hct.append hcr.1 hat;have hcall:=hsp g w μ _ _ hg.inv.call hg.glob hall htm;have hrun:(execOp a.eval o).run P w= .ok (.enter fid (cvs++asx.toList.map a.eval).toArray) w:=by
     unfold Tg at hok;split at hok
     ·rename_i fn hfn;simp only[qI,rV]at hok;have h1:¬fn.body=none:=by cases hb:fn.body<;>simp_all
      have h3:¬fn.name= "runtime.NumGoroutine" :=by simpa using hok.2
      have h2:(cvs.toArray++asx.map a.eval)=(cvs++asx.toList.map a.eval).toArray:=by
       rw[←ri];simp
      simp[execOp,hop,resolve,hcv,Deferred.ofValue,invoke,callFunc,hfn,h3,h1,h2]
     ·cases hok
    rw[hrun,Oper.uponIn_enter];refine⟨(λh=>by simp[WF,Fence.wide]at h),Ff ?_⟩;refine hcall.mono ?_;rintro e w' ⟨v,g',μ',rfl,hinv,hch,hμ⟩;have hgs:Gs GL N g' w' μ' ⟨s.e,h'⟩ a O:=⟨hg.inv.ret hinv.leave hch hμ,hg.glob.mono hch.le,hg.sz⟩;refine hn ⟨CQ s.e d (Bj rets),h'⟩ g' w' μ' _ hK ?_ (hch.mono λ_ h ho=>h (.inl ho)) hμ (B9 _ _ _);rw[hdst];cases d with
    |none=>exact⟨hgs.inv,hgs.glob,by rw[BI,hgs.sz]⟩
    |some d=>exact hgs.setR (by simpa using hdN) (hg.inv.retV hinv hgs.inv d)
   ·cases hk
  obtain⟨fid,caps,rets,h',hf,⟨hok,hsp⟩,hK⟩:=h;simp only[C5]at hk;split at hk
  ·rename_i f' asx ts hop;simp only[qI,beq_iff_eq]at hk;obtain⟨⟨⟨hdst,hdN⟩,hkf⟩,hka⟩:=hk;rw[Oper.semAt_eq _ _ _ (λc hc=>by rw[hop]at hc;cases hc)];obtain⟨cvs,hcv,hcr,hct⟩:=Jc ((hg.gd P).ev hkf) hf;obtain⟨har,hat⟩:=Fh (hg.gd P) hka;have hall:=har.append hcr;have htm:=hat.append har.1 hct;have hcall:=hsp g w μ _ _ hg.inv.call hg.glob hall htm;have hrun:(execOp a.eval o).run P w= .ok (.enter fid (asx.toList.map a.eval++cvs).toArray) w:=by
    unfold Tg at hok;split at hok
    ·rename_i fn hfn;simp only[qI,rV]at hok;have h1:¬fn.body=none:=by cases hb:fn.body<;>simp_all
     have h3:¬fn.name= "runtime.NumGoroutine" :=by simpa using hok.2
     have h2:(asx.map a.eval++cvs.toArray)=(asx.toList.map a.eval++cvs).toArray:=by
      rw[←ri];simp
     simp[execOp,hop,resolve,hcv,Deferred.ofValue,invoke,callFunc,hfn,h3,h1,h2]
    ·cases hok
   rw[hrun,Oper.uponIn_enter];refine⟨(λh=>by simp[WF,Fence.wide]at h),Ff ?_⟩;refine hcall.mono ?_;rintro e w' ⟨v,g',μ',rfl,hinv,hch,hμ⟩;have hgs:Gs GL N g' w' μ' ⟨s.e,h'⟩ a O:=⟨hg.inv.ret hinv.leave hch hμ,hg.glob.mono hch.le,hg.sz⟩;refine hn ⟨CQ s.e d (Bj rets),h'⟩ g' w' μ' _ hK ?_ (hch.mono λ_ h ho=>h (.inl ho)) hμ (B9 _ _ _);rw[hdst];cases d with
   |none=>exact⟨hgs.inv,hgs.glob,by rw[BI,hgs.sz]⟩
   |some d=>exact hgs.setR (by simpa using hdN) (hg.inv.retV hinv hgs.inv d)
  ·cases hk
theorem Inv.callO {t t':Nat→D} {u:Nat→Value} (hi:Inv g w μ t u h O) (ht:∀n k b,Ak (t' n) (u n) k=some b→Ak (t n) (u n) k=some b)
  {x:D} {us:List Value} (hx:RepD g w μ x v) (hall:All2 (RepG g w μ) ds us) (htm:Tame ds us)
  (hown:∀k b,Ak x v k=some b→∃m,Ak (t m) (u m) k=some b∧∀v k,Ak (t' m) v k=none):
  Inv g w μ (Mi .any (x::ds)) (Mi undef (v::us)) h (NX t' u O):=by
 have tail:∀n k,Ak (Mi .any (x::ds) (n+1)) (Mi undef (v::us) (n+1)) k=none:=by
  intro n k;simp only[Mi,sU];cases hd:ds[n]? with
  |none=>cases k<;>simp[Ak,Ae]
  |some d=>
   obtain⟨y,hy,hr⟩:=hall.get hd;rw[hy];exact IK hr (htm n d y hd hy) k
 have head:∀k b,Cl (Mi .any (x::ds)) (Mi undef (v::us)) h w μ (.tmp 0 k)=some b→∃m,Cl t u h w μ (.tmp m k)=some b∧∀v k,Ak (t' m) v k=none:=λk b hb=>hown k b hb;refine⟨hi.agree,λb hb=>?_,λn=>?_,hi.len,hi.rows,hi.nod,λb hb ho=>?_,λp q b hp hq=>?_,λp b hp=>?_⟩
 ·rcases hb with hb|⟨n,k,hb⟩
  ·exact hi.olt b hb
  ·exact hi.blk_lt (p:= .tmp n k) (ht n k b hb)
 ·cases n with
  |zero=>exact hx
  |succ n=>
   simp only[Mi,sU];cases hd:ds[n]? with
   |none=>simp[RepD,RepG,RepE]
   |some d=>
    obtain⟨y,hy,hr⟩:=hall.get hd;rw[hy];exact hr.toD
 ·rcases ho with ho|⟨n,k,ho⟩
  ·exact hi.mo b hb ho
  ·exact(hi.sep (.tmp n k) b (ht n k b ho)).1 hb
 ·cases p with
  |tmp n k=>
   cases n with
   |succ n=>have hp':Ak _ _ k=some b:=hp;rw[tail n k]at hp';cases hp'
   |zero=>
    obtain⟨m,hm,_⟩:=head k b hp;cases q with
    |tmp n' k'=>
     cases n' with
     |succ n'=>have hq':Ak _ _ k'=some b:=hq;rw[tail n' k']at hq';cases hq'
     |zero=>
      obtain⟨m',hm',_⟩:=head k' b hq;have:=hi.uniq _ _ b hm hm';cases this;rfl
    |cell r' k'=>have:=hi.uniq _ (.cell r' k') b hm hq;cases this
  |cell r k=>
   cases q with
   |tmp n' k'=>
    cases n' with
    |succ n'=>have hq':Ak _ _ k'=some b:=hq;rw[tail n' k']at hq';cases hq'
    |zero=>
     obtain⟨m',hm',_⟩:=head k' b hq;have:=hi.uniq (.cell r k) _ b hp hm';cases this
   |cell r' k'=>exact hi.uniq (.cell r k) (.cell r' k') b hp hq
 ·cases p with
  |tmp n k=>
   cases n with
   |succ n=>have hp':Ak _ _ k=some b:=hp;rw[tail n k]at hp';cases hp'
   |zero=>
    obtain⟨m,hm,hma⟩:=head k b hp;refine⟨(hi.sep _ b hm).1,λho=>?_⟩;rcases ho with ho|⟨n',k',ho⟩
    ·exact(hi.sep _ b hm).2 ho
    ·have:=hi.uniq _ (.tmp n' k') b hm (ht n' k' b ho);cases this;rw[hma]at ho;cases ho
  |cell r k=>
   obtain⟨h1,h2⟩:=hi.sep (.cell r k) b hp;refine⟨h1,λho=>?_⟩;rcases ho with ho|⟨n',k',ho⟩
   ·exact h2 ho
   ·have:=hi.uniq (.cell r k) (.tmp n' k') b hp (ht n' k' b ho);cases this
theorem P5 {d:Option Nat} {f:Opd} {args:List Opd} (hk:C5 P GL N o (.callO d f q args)=true) (hg:Gs GL N g w μ s a O)
  (h:Dg P GL (.callO d f q args) K s) {next:Act→World→Prop} {Q:Exit→Act→World→Prop}
  (hn:∀s' g' w' μ' a',K s'→Gs GL N g' w' μ' s' a' O→Chg (λb=>¬O b) g w g' w'→μ <+: μ'→a'.defers=a.defers→next a' w'):o.wpIn (WF r) 0 P a w next Q:=by
 refine⟨λ_ _=>trivial,?_⟩;simp only[C5]at hk;split at hk
 ·rename_i f' asx ts hop;simp only[qI,beq_iff_eq]at hk;obtain⟨⟨⟨⟨hdst,hdN⟩,hkf⟩,hka⟩,hb⟩:=hk;obtain⟨fid,rets,hf,⟨hok,hsp⟩,hK⟩:=h;rw[Oper.semAt_eq _ _ _ (λc hc=>by rw[hop]at hc;cases hc)];obtain⟨cvs,hcv,hcr,_⟩:=Jc ((hg.gd P).ev hkf) hf;have hcv0:cvs=[]:=rU (by have:=hcr.1;simpa using this);subst hcv0;obtain⟨x,as',has⟩:∃x as',asx.toList=x::as':=by
   cases h:asx.toList with
   |nil=>rw[h]at hka;simp[Ap]at hka
   |cons x as'=>exact⟨x,as',rfl⟩
  rw[has]at hka;simp only[Ap,qI]at hka;obtain⟨hkx,hka⟩:=hka;have hrx:=(hg.gd P).ev hkx;obtain⟨har,hat⟩:=Fh (hg.gd P) hka;have hclear:(AF (q.clear s.e)=AF s.e∧∀k b,Ak (q.ev s.e) (a.eval x) k=some b→False)∨∃m,q= .t m true∧AF (q.clear s.e)=λn=>if m=n then (AF s.e m).copy else AF s.e n:=by
   cases q with
   |t m mv=>cases mv with
    |false=>simp[Eh]at hb
    |true=>exact .inr ⟨m,rfl,rfl⟩
   |c d=>
    refine .inl ⟨rfl,λk b hkb=>?_⟩;cases x with
    |const v=>
     rcases Lg hkx with hkx|⟨cs,xs,rfl,rfl⟩
     case inr=>cases k<;>simp[Opd.ev,Act.eval,Ak,Ae]at hkb
     unfold F3 at hkx;split at hkx<;>first|(cases k<;>simp[Opd.ev,Act.eval,Ak,Ae]at hkb;done)|(rename_i h _;cases h)|cases hkx
     all_goals (cases k<;>simp_all [Opd.ev,Act.eval,Ak,Ae])
    |tmp n=>simp[oe]at hkx
    |global n=>simp[oe]at hkx
    |func f=>cases k<;>cases d<;>first|(simp[Opd.ev,Act.eval,Ak,Ae]at hkb;done)|(simp[Eh]at hb;done)
   |g n cs=>simp[Eh]at hb
  have hInvC:Inv g w μ (AF (q.clear s.e)) (λn=>a.tmps.getD n undef) s.h O:=by
   rcases hclear with ⟨h,_⟩|⟨m,_,h⟩
   ·rw[h];exact hg.inv
   ·rw[h];refine hg.inv.weaken _ λn=>?_;by_cases hn:m=n
    ·subst hn;exact .inr ⟨λv h=>by simpa using RepD.copy h,λv k=>by simpa using CR _ v k⟩
    ·exact .inl (by simp[hn])
  have hin:=hg.inv.callO (t':=AF (q.clear s.e)) (ds:=Ar s.e args) (us:=as'.map a.eval) (x:=q.ev s.e) (v:=a.eval x) (λn k b hb=>by
    rcases hclear with ⟨h,_⟩|⟨m,_,h⟩
    ·rw[h]at hb;exact hb
    ·rw[h]at hb;by_cases hn:m=n
     ·subst hn;simp only[if_true,CR]at hb;cases hb
     ·simpa[hn]using hb) hrx har hat (λk b hkb=>by
    rcases hclear with ⟨_,h⟩|⟨m,rfl,h⟩
    ·exact(h k b hkb).elim
    ·refine⟨m,?_,λv k=>by rw[h];simp[CR]⟩;cases x with
     |tmp n=>
      simp only[oe,beq_iff_eq]at hkx;subst hkx;simpa[Opd.ev,Act.eval]using hkb
     |const v=>simp[oe]at hkx
     |global n=>simp[oe]at hkx
     |func f=>simp[oe]at hkx)
  have hcall:=hsp g w μ (a.eval x::as'.map a.eval) _ s.h (by simp[har.1.symm,Ar]at *;have:=har.1;simpa[Ar]using this) hin hg.glob;have hrun:(execOp a.eval o).run P w= .ok (.enter fid (a.eval x::as'.map a.eval).toArray) w:=by
   unfold Tg at hok;split at hok
   ·rename_i fn hfn;simp only[qI,rV]at hok;have h1:¬fn.body=none:=by cases hb:fn.body<;>simp_all
    have h3:¬fn.name= "runtime.NumGoroutine" :=by simpa using hok.2
    have h2:asx.map a.eval=(a.eval x::as'.map a.eval).toArray:=by
     rw[←ri];simp[has]
    simp[execOp,hop,resolve,hcv,Deferred.ofValue,invoke,callFunc,hfn,h3,h1,h2]
   ·cases hok
  rw[hrun,Oper.uponIn_enter];refine⟨(λh=>by simp[WF,Fence.wide]at h),Ff ?_⟩;refine hcall.mono ?_;rintro e w' ⟨v,g',μ',rfl,hinv,hch,hμ⟩;have hgs:Gs GL N g' w' μ' ⟨q.clear s.e,s.h⟩ a O:=⟨hInvC.ret hinv.leave hch hμ,hg.glob.mono hch.le,hg.sz⟩;refine hn ⟨CQ (q.clear s.e) d (Bj rets),s.h⟩ g' w' μ' _ hK ?_ (hch.mono λ_ h ho=>h (.inl ho)) hμ (B9 _ _ _);rw[hdst];cases d with
  |none=>exact⟨hgs.inv,hgs.glob,by rw[BI,hgs.sz]⟩
  |some d=>exact hgs.setR (by simpa using hdN) (hInvC.retV hinv hgs.inv d)
 ·cases hk
theorem Jg {st:St} {a:Act} {h:List Row} {O:Nat→Prop} {g:Gh} {w:World} {μ:List Nat} (hg:Gd P GL g w μ st.e a h O):∀ {ps:List Operand} {qs:List Opd},Ap (oe GL) ps qs=true→
  All2 (RepG g w μ) (qs.map λq=>(q.ev st.e).copy) (ps.map a.eval)∧Tame (qs.map λq=>(q.ev st.e).copy) (ps.map a.eval)
 |[],[],_=>⟨.nil,λi d v h=>by simp at h⟩
 |[],_::_,h=>by simp[Ap]at h
 |_::_,[],h=>by simp[Ap]at h
 |p::ps,q::qs,h=>by
  simp only[Ap,qI]at h;obtain⟨h1,h2⟩:=Jg hg h.2;refine⟨.cons (Yz (hg.ev h.1)) h1,λi d v hd hv=>?_⟩
  match i with
  |0=>
   simp only[qR,tT,qF]at hd hv;subst hd;subst hv;exact Jv _ _
  |i+1=>exact h2 i d v (by simpa using hd) (by simpa using hv)
theorem RE {d:Nat} {e:Nat} (hk:C5 P GL N o (.appP d q y' e sz by_)=true) (hg:Gs GL N g w μ s a O)
  (h:Dg P GL (.appP d q y' e sz by_) K s) {next:Act→World→Prop} {Q:Exit→Act→World→Prop}
  (hn:∀s' g' w' μ' a',K s'→Gs GL N g' w' μ' s' a' O→Chg (λb=>¬O b) g w g' w'→μ <+: μ'→a'.defers=a.defers→next a' w'):o.wpIn (WF r) 0 P a w next Q:=by
 refine⟨λ_ _=>trivial,?_⟩;simp only[C5,qI,beq_iff_eq,decide_eq_true_eq]at hk;obtain⟨⟨hdst,hdN⟩,h4⟩:=hk;split at h4
 ·rename_i asx ts hop;simp only[qI]at h4;obtain⟨⟨⟨k1,k2⟩,k3⟩,k4⟩:=h4;obtain⟨x,y,rfl,j1⟩:=DQ k1;obtain⟨t,t2,rfl,j3⟩:=DQ k3;simp only[qI]at j1 j3;obtain⟨e2,he2⟩:=FN j3.2;obtain⟨i,z,hi,rfl,rfl,h0,hz,hzs⟩:=Ef k4;rw[Oper.semAt_eq _ _ _ (λc hc=>by rw[hop]at hc;cases hc)];simp only[Dg]at h;split at h
  ·rename_i xs zv hx hy;obtain⟨hzl,hroom,hK⟩:=h;have hry:=Cs ((hg.gd P).ev j1.2) hy;obtain⟨vy,h1,h2,h3,h3'⟩:=I7 (P:=P) hg.inv.agree hry h0 (by simp[BG,hzl]);obtain⟨v,w',g',b,hrun,hgs,hch⟩:=Ta hg (ty:=o.type) (DD j3.1) he2 (by simp) hi hz hzs h0 j1.1 hx (OL hg j1.1 k2) h1 h3 h3' hroom hdN;have hrun2:(execOp a.eval o).run P w= .ok (.value v) w':=by simp[execOp,hop,resolve,invoke,builtin,hrun]
   rw[hrun2];refine hn _ g' w' μ _ (hK b) ?_ hch (qP _) (B9 _ _ _);rw[hdst];exact hgs
  ·exact h.elim
 ·cases h4
theorem P6 {d:Option Nat} {f:Opd} {args:List Opd} (hk:C5 P GL N o (.callN d f args)=true) (hg:Gs GL N g w μ s a O)
  (h:Dg P GL (.callN d f args) K s) {next:Act→World→Prop} {Q:Exit→Act→World→Prop}
  (hn:∀s' g' w' μ' a',K s'→Gs GL N g' w' μ' s' a' O→Chg (λb=>¬O b) g w g' w'→μ <+: μ'→a'.defers=a.defers→next a' w'):o.wpIn (WF r) 0 P a w next Q:=by
 refine⟨λ_ _=>trivial,?_⟩;obtain⟨fid,rets,h',hf,⟨hok,hsp⟩,hK⟩:=h;simp only[C5]at hk;split at hk
 ·rename_i f' asx ts hop;simp only[qI,beq_iff_eq]at hk;obtain⟨⟨⟨hdst,hdN⟩,hkf⟩,hka⟩:=hk;rw[Oper.semAt_eq _ _ _ (λc hc=>by rw[hop]at hc;cases hc)];obtain⟨cvs,hcv,hcr,hct⟩:=Jc ((hg.gd P).ev hkf) hf;obtain rfl:cvs=[]:=by have:=hcr.1;simpa using this
  obtain⟨har,hat⟩:=Jg (hg.gd P) hka;have hcall:=hsp g w μ _ _ hg.inv.call hg.glob har hat;have hrun:(execOp a.eval o).run P w= .ok (.enter fid (asx.toList.map a.eval).toArray) w:=by
   unfold Tg at hok;split at hok
   ·rename_i fn hfn;simp only[qI,rV]at hok;have h1:¬fn.body=none:=by cases hb:fn.body<;>simp_all
    have h3:¬fn.name= "runtime.NumGoroutine" :=by simpa using hok.2
    have h2:asx.map a.eval=(asx.toList.map a.eval).toArray:=by
     rw[←ri];simp
    simp[execOp,hop,resolve,hcv,Deferred.ofValue,invoke,callFunc,hfn,h3,h1,h2]
   ·cases hok
  rw[hrun,Oper.uponIn_enter];refine⟨(λh=>by simp[WF,Fence.wide]at h),Ff ?_⟩;refine hcall.mono ?_;rintro e w' ⟨v,g',μ',rfl,hinv,hch,hμ⟩;have hgs:Gs GL N g' w' μ' ⟨s.e,h'⟩ a O:=⟨hg.inv.ret hinv.leave hch hμ,hg.glob.mono hch.le,hg.sz⟩;refine hn ⟨CQ s.e d (Bj rets),h'⟩ g' w' μ' _ hK ?_ (hch.mono λ_ h ho=>h (.inl ho)) hμ (B9 _ _ _);rw[hdst];cases d with
  |none=>exact⟨hgs.inv,hgs.glob,by rw[BI,hgs.sz]⟩
  |some d=>exact hgs.setR (by simpa using hdN) (hg.inv.retV hinv hgs.inv d)
 ·cases hk
theorem QT {g:Gh} {sz:Nat}:∀ {xs:List V} {us:List Value},(∀x∈xs,x.cells.length=sz)→All2 (RepV g) (xs.flatMap V.cells) us→(∀u∈us,u.oneCell'=true)→
  ∃vs:List Value,All2 (RepV g) xs vs∧us=vs.flatMap (λv=>v.cells.toList)∧∀v∈vs,v.cells.size=sz
 |[],us,_,h,_=>by
  have:=h.1;simp at this;subst this;exact⟨[],.nil,rfl,by simp⟩
 |x::xs,us,hx,h,h1=>by
  rw[qN]at h;have hxl:=hx x (by simp);have ha:All2 (RepV g) x.cells (us.take sz):=by
   have:=h.take sz
   rwa [sk (by omega),qw (by omega)]at this
  have hb:All2 (RepV g) (xs.flatMap V.cells) (us.drop sz):=by
   have:=h.drop sz
   rwa [←hxl,List.drop_left,hxl]at this
  obtain⟨vs,h2,h3,h4⟩:=QT (λy hy=>hx y (by simp[hy])) hb (λu hu=>h1 u (rh hu));have ho:∀u∈us.take sz,u.oneCell'=true:=λu hu=>h1 u (rK hu);have hlt:(us.take sz).length=sz:=by rw[ha.1,hxl]
  obtain⟨v,hv1,hv2⟩:∃v,RepV g x v∧v.cells.toList=us.take sz:=by
   generalize us.take sz=ut at ha ho;have one:x.cells=[x]→∃v,RepV g x v∧v.cells.toList=ut:=by
    intro hc;rw[hc]at ha;obtain⟨u,rfl⟩:∃u,ut=[u]:=by
     match ut,ha.1 with
     |[u],_=>exact⟨u,rfl⟩
    exact⟨u,(All2.cons_iff.1 ha).1,by rw[Gx (ho u (by simp))]⟩
   cases x with
   |agg cs=>exact⟨.agg ut.toArray,.agg' ha ho,by simp[Value.cells]⟩
   |_=>exact one rfl
  refine⟨v::vs,.cons hv1 h2,by rw[qN,hv2,←h3,rJ],λy hy=>?_⟩;rcases qL.1 hy with rfl|hy
  ·rw[←hlt,←hv2];simp
  ·exact h4 y hy
theorem PL (h:∃a:Option Addr,u= .slice a 0 0∧∀x,a=some x→x.spot=none):RepV g (.list []) u:=by
 obtain⟨a,rfl,hs⟩:=h;cases a with
 |none=>exact .lnil
 |some a=>exact .list [] a 0 0 (λ_=> .bool false) (hs a rfl) (qM _) (by simp) (by simp)
theorem QR {g:Gh} {w:World} {μ:List Nat}:∀ {ds:List D} {xs:List V} {us:List Value},D.vs? ds=some xs→All2 (RepE g w μ) ds us→All2 (RepV g) xs us
 |[],xs,us,h,ha=>by simp only[D.vs?,qF]at h;subst h;exact⟨by simpa using ha.1,λi x v h=>by simp at h⟩
 |d::ds,xs,us,h,ha=>by
  obtain⟨u,us',rfl⟩:∃u us',us=u::us':=by
   match us,ha.1 with
   |u::us',_=>exact⟨u,us',rfl⟩
  obtain⟨h1,h2⟩:=All2.cons_iff.1 ha;simp only[D.vs?]at h;split at h
  ·rename_i x xs' hx hxs;simp only[qF]at h;subst h;refine .cons ?_ (QR hxs h2);cases d<;>simp only[D.v?,qF,reduceCtorEq]at hx<;>subst hx
   ·exact h1
   ·exact PL h1
   ·exact RepOwn.list h1.1
  ·cases h
theorem N9:∀(vs:List Value),vs.flatMap (λv=>v.cells.toList)=BQ vs.length λi=>vs.getD i (.bool false)
 |[]=>rfl
 |v::vs=>by
  have e2:BQ (v::vs).length (λi=>(v::vs).getD i (.bool false))=v.cells.toList++BQ vs.length (λi=>vs.getD i (.bool false)):=by simp[BQ,tm,tU]
  rw[e2,qN,N9 vs]
theorem Ma {z:Array Value} (h:v∈(Builtin.zeroCells z n).toList):v∈z.toList:=by
 simp[Builtin.zeroCells]at h;obtain⟨i,hi,rfl⟩:=h;have h0:0 <z.size:=by
  rcases tk z.size with h|h
  ·rw[h]at hi;omega
  ·exact h
 have hm:=Nat.mod_lt i h0;simp[hm]
theorem S3 {d:Nat} (hk:C5 P GL N o (.frz d q sz)=true) (hg:Gs GL N g w μ s a O)
  (h:Dg P GL (.frz d q sz) K s) {next:Act→World→Prop} {Q:Exit→Act→World→Prop}
  (hn:∀s' g' w' μ' a',K s'→Gs GL N g' w' μ' s' a' O→Chg (λb=>¬O b) g w g' w'→μ <+: μ'→a'.defers=a.defers→next a' w'):o.wpIn (WF r) 0 P a w next Q:=by
 refine⟨λ_ _=>trivial,?_⟩;simp only[C5,qI,beq_iff_eq,decide_eq_true_eq]at hk;obtain⟨⟨hdst,hdN⟩,h4⟩:=hk;obtain⟨x,hop,hx⟩:∃x,(o.op= .move x∨o.op= .assign x)∧oe GL x q=true:=by
  split at h4
  ·rename_i x hop;exact⟨x,.inl hop,h4⟩
  ·rename_i x hop;exact⟨x,.inr hop,h4⟩
  ·cases h4
 have hrun:(execOp a.eval o).run P w= .ok (.value (a.eval x)) w:=by rcases hop with hop|hop<;>simp[execOp,hop]
 rw[Oper.semAt_eq _ _ _ (λc hc=>by rcases hop with hop|hop<;>rw[hop]at hc<;>cases hc),hrun]
 have hr:=(hg.gd P).ev hx;simp only[Dg]at h;split at h
 ·rename_i e' s' hq;rw[hq]at hr;obtain⟨ad,hv,hsp⟩:=hr;refine hn _ g w μ _ h ?_ (Chg.refl _ _ _) (qP _) (B9 _ _ _);rw[hdst,hv];exact hg.set hdN (PL ⟨ad,rfl,hsp⟩) λk=>CM _ _ _
 ·rename_i r n hq;rw[hq]at hr;obtain⟨b,cap,hb,hv,hnc⟩:=hr;split at h
  ·rename_i ds hrow;obtain⟨h0,xs,hxl,hxc,hvs,hK⟩:=h;obtain⟨vs,T,hheap,hall,hone,hgn⟩:=hg.inv.rows r _ b hrow hb;have hcl:=QR hvs (hall.take (n*sz));obtain⟨ws,w1,w2,w3⟩:=QT hxc hcl (λu hu=>hone u (rK hu));have hwl:ws.length=n:=by rw[w1.1,hxl]
   let g':=g.put b 0 (vs.take (n*sz))
   have hgle:g.le g':=Gh.le_put _ λo _ _=>hgn o;have hchg:Chg (λz=>z=b) g w g' w:=⟨hgle,qM _,λ_ _ _=>rfl,λb' _ hb' o=>Gh.put_other hb' o,rfl,rfl⟩;have hag:∀b' o v,g'.m b' o=some v→w.cell? ⟨b',o,none⟩=some v:=by
    intro b' o v hv;by_cases hb':b'=b
    ·subst hb';rw[cell_of_row w b' o _ _ _ hheap];simp only[g',Gh.put]at hv;split at hv
     ·rename_i hc;simp only[sV]at hv;have h2:=hc.2.2;rw[qu]at hv;split at hv
      ·simpa using hv
      ·cases hv
     ·rw[hgn]at hv;cases hv
    ·simp only[g',Gh.put_other hb']at hv;exact hg.inv.agree b' o v hv
   have hinv:=hg.inv.setAny hrow hb .dead hchg hag (Bc hheap) (λk ds d h=>by cases h);have hgs:Gs GL N g' w μ ⟨s.e,s.h.set r .dead⟩ a O:=⟨hinv,hg.glob.mono hgle,hg.sz⟩;have hsz:∀i,i <n→((λi=>ws.getD i (.bool false)) i).cells.size=sz:=λi hi=>by
    have:i <ws.length:=by omega
    simp only[List.getD,qH this,qd];exact w3 _ (rl this)
   refine hn _ g' w μ _ hK ?_ (hchg.mono λz (hz:z=b) ho=>hg.inv.mo b (qJ hb) (hz▸ho)) (qP _) (B9 _ _ _);rw[hdst,hv];refine hgs.set hdN (x:= .v (.list xs)) ?_ λk=>CM _ _ _;rw[←hxl];refine RepV.list xs ⟨b,0,none⟩ cap sz (λi=>ws.getD i (.bool false)) rfl (by omega) (λi x hi=>?_) (λi hi=>⟨hsz i (by omega),λj v hj=>?_⟩)
   ·obtain⟨u,hu,hru⟩:=w1.get hi;simp only[List.getD,hu,qd];exact hru.mono hgle
   ·have hjs:j <sz:=by have:=(qK.1 hj).1;have:=hsz i (by omega);simp at *;omega
    have:=Gh.put_at g b 0 (vs.take (n*sz)) (i*sz+j) v (by
     rw[w2,N9,hwl,EK hsz (by omega) hjs];exact hj)
    simpa using this
  ·exact h.elim
 ·exact h.elim
theorem QG {d:Nat} {e:Nat} (hk:C5 P GL N o (.appR d q y' e sz by_)=true) (hg:Gs GL N g w μ s a O)
  (h:Dg P GL (.appR d q y' e sz by_) K s) (hno:∀e' s',q.ev s.e= .own e' s' []∨(q.moved=true∧q.ev s.e= .nil e' s')→¬Dg P GL (.app d q y' e sz by_) K s) {next:Act→World→Prop} {Q:Exit→Act→World→Prop}
  (hn:∀s' g' w' μ' a',K s'→Gs GL N g' w' μ' s' a' O→Chg (λb=>¬O b) g w g' w'→μ <+: μ'→a'.defers=a.defers→next a' w'):o.wpIn (WF r) 0 P a w next Q:=by
 refine⟨λ_ _=>trivial,?_⟩;simp only[C5,qI,beq_iff_eq,decide_eq_true_eq]at hk;obtain⟨⟨hdst,hdN⟩,h4⟩:=hk;split at h4
 ·rename_i asx ts hop;simp only[qI]at h4;obtain⟨⟨⟨k1,k3⟩,k4⟩,k5⟩:=h4;obtain⟨x,y,rfl,j1⟩:=DQ k1;obtain⟨t,t2,rfl,j3⟩:=DQ k3;simp only[qI]at j1 j3;obtain⟨e2,he2⟩:=FN j3.2;obtain⟨i,z,hi,rfl,rfl,h0,hz,hzs⟩:=Ef k4;have hz1:∀v∈z.cells.toList,v.oneCell'=true:=by
   rw[hi]at k5;simp only[qp,hz,Option.any_some]at k5;exact qV.1 k5
  have ht:=DD j3.1;rw[Oper.semAt_eq _ _ _ (λc hc=>by rw[hop]at hc;cases hc)];simp only[Dg]at h;obtain⟨base,ys,hev,hsp,hy,hh,hroom,h⟩:∃(base:Option Addr) (ys:List V),a.eval x= .slice base 0 0∧(∀x,base=some x→x.spot=none)∧(y'.ev s.e).toV=some (.list ys)∧BG i.size ys=true∧AK ys.length i.bytes=true∧
    if ys.isEmpty=true then K ⟨(d,.nil e i.size)::s.e,s.h⟩ else ∀k,K ⟨(d,.sref s.h.length ys.length)::s.e,s.h++[.cells ((ys.flatMap V.cells).map .v++List.replicate k .any)]⟩:=by
   have hrq:=(hg.gd P).ev j1.1;split at h
   ·rename_i e' s' ys hq hy;rw[hq]at hrq;obtain⟨base,hev,hsp⟩:=hrq;obtain⟨hh,hroom,h⟩:=h;refine⟨base,ys,hev,hsp,hy,hh,hroom,h.resolve_left λ⟨hm,hK⟩=>hno e' s' (.inr ⟨hm,hq⟩) ?_⟩;simp[Dg,AI.step,hq,EG,hy,hh,hroom];exact hK
   ·rename_i e' s' ys hq hy;rw[hq]at hrq;obtain⟨hh,hroom,h⟩:=h;obtain⟨⟨base,hev,_,hsp⟩|⟨b,cap,cur,vs,hev,hcap,_⟩,hne⟩:=hrq
    ·refine⟨base,ys,hev,hsp,hy,hh,hroom,(h.resolve_left λ⟨he,hs,hK⟩=>hno e' s' (.inl hq) ?_).2⟩;subst he hs;simp[Dg,AI.step,hq,EG,hy,hh,hroom];exact hK
    ·have h:=h.resolve_left λ⟨he,hs,hK⟩=>hno e' s' (.inl hq) (by
      subst he hs;simp[Dg,AI.step,hq,EG,hy,hh,hroom];exact hK)
     obtain⟨a',ha'⟩:=hne rfl h.1;rw[hev]at ha';simp at ha';omega
   ·exact h.elim
  have hry:=Cs ((hg.gd P).ev j1.2) hy;obtain⟨vy,h1,h2,h3,h3'⟩:=I7 (P:=P) hg.inv.agree hry h0 hh;by_cases hy0:ys=[]
  ·subst hy0;simp only[List.isEmpty_nil,if_true]at h;have hrun:=JC (ty:=o.type) ht he2 (by simp) hi h1 rfl base 0 0 (qM _);have:(execOp a.eval o).run P w= .ok (.value (.slice base 0 0)) w:=by simp[execOp,hop,resolve,invoke,builtin,hev,hrun]
   rw[this];refine hn _ g w μ _ h ?_ (Chg.refl _ _ _) (qP _) (B9 _ _ _);rw[hdst];exact hg.set hdN (x:= .nil e i.size) ⟨base,rfl,hsp⟩ λk=>by cases k<;>cases base<;>simp[Ak,Ae]
  ·have hpos:0 <ys.length:=List.length_pos_iff.2 hy0;rw[if_neg (by simpa using hy0)]at h;obtain⟨hf63,hfit⟩:=Io hroom hpos;have hrun:=GZ (ty:=o.type) (base:=base) (len:=0) (cap:=0) (olds:=[]) ht he2 (by simp) hi hz h1 (λw' _=>by cases base<;>simp[Builtin.firstCells,loadCells,loadCellsFrom]) (by omega) (by simpa using hf63) (by simpa using hfit)
   simp only[rt]at hrun;have hge:=grownCap_ge w ys.length 0 e
   let zs:=Builtin.zeroCells z.cells (grownCap w ys.length 0 e-ys.length)
   let ob:Obj:= .cells ((#[]:Array Value)++(BQ ys.length vy).toArray++zs) e
   have hzsm:∀v∈zs.toList,v.oneCell'=true:=by
    intro v hv;exact hz1 v (Ma hv)
   have hdr:Inv g w.drew μ (AF s.e) (λn=>a.tmps.getD n undef) s.h O:=hg.inv.chg ⟨Gh.le.refl g,qM _,λ_ _ _=>rfl,λ_ _ _ _=>rfl,rfl,rfl⟩ hg.inv.agree;have hnone:∀o,g.m w.heap.size o=none:=λo=>Gh.lt_of hg.inv.agree (qM _) o;have hob:(w.drew.alloc ob).heap[w.heap.size]?=some (.cells ((BQ ys.length vy++zs.toList).toArray) e (0,0)):=by
    have:=heap_alloc_new w.drew ob;have e1:(#[]:Array Value)++(BQ ys.length vy).toArray++zs=(BQ ys.length vy++zs.toList).toArray:=by rw[←ri];simp
    rw[←e1];exact this
   have hfl:All2 (RepV g) (ys.flatMap V.cells) (BQ ys.length vy):=by
    have:∀(ys:List V) (vy:Nat→Value),(∀(j:Nat) y,ys[j]?=some y→RepV g y (vy j))→All2 (RepV g) (ys.flatMap V.cells) (BQ ys.length vy):=by
     intro ys;induction ys with
     |nil=>intro vy _;exact .nil
     |cons y ys ih=>
      intro vy hvy;have e2:BQ (y::ys).length vy=(vy 0).cells.toList++BQ ys.length (λj=>vy (j+1)):=by simp[BQ,tm,tU]
      rw[e2,qN];exact(hvy 0 y rfl).cells.1.append (ih _ λj x hx=>hvy (j+1) x (by simpa using hx))
    exact this ys vy h2
   have hcl:All2 (RepE g (w.drew.alloc ob) (μ++[w.heap.size])) ((ys.flatMap V.cells).map .v++List.replicate zs.size .any) (BQ ys.length vy++zs.toList):=by
    refine .append (All2.map_left (f:=D.v) (R:=RepV g) (λx y h=>h) hfl) ⟨by simp,λj x v hx hv=>?_⟩;have:=(si.1 (qJ hx)).2;subst this;trivial
   have hone:∀v∈BQ ys.length vy++zs.toList,v.oneCell'=true:=by
    intro v hv;rcases qW.1 hv with hv|hv
    ·obtain⟨j,hj,hm⟩:=Jd hv;exact h3' j hj v hm
    ·exact hzsm v hv
   have hrow:RowOK g (w.drew.alloc ob) (μ++[w.drew.heap.size]) w.drew.heap.size (.cells ((ys.flatMap V.cells).map .v++List.replicate zs.size .any)):=⟨_,e,hob,hcl,hone,hnone⟩;have hinv:=hdr.newAny (.cells ((ys.flatMap V.cells).map .v++List.replicate zs.size .any)) ob hrow (λk ds d hd hk=>by
    simp only[Row.cells.injEq]at hd;subst hd;have hm:=qJ hk;rcases qW.1 hm with hm|hm
    ·obtain⟨y,_,rfl⟩:=qX.1 hm;simp[Ae]
    ·have:=(si.1 hm).2;subst this;simp[Ae])
   have hrun2:(execOp a.eval o).run P w= .ok (.value (.slice (some ⟨w.heap.size,0,none⟩) ys.length (grownCap w ys.length 0 e))) (w.drew.alloc ob):=by
    simp[execOp,hop,resolve,invoke,builtin,hev,hrun,ob,zs]
   rw[hrun2];have hdw:Chg (λb=>¬O b) g w g w.drew:=⟨Gh.le.refl g,qM _,λ_ _ _=>rfl,λ_ _ _ _=>rfl,rfl,rfl⟩;have hch:Chg (λb=>¬O b) g w g (w.drew.alloc ob):=hdw.trans (CG (λb=>¬O b) g w.drew ob);refine hn _ g (w.drew.alloc ob) (μ++[w.heap.size]) _ (h zs.size) ?_ hch (rx _ _) (B9 _ _ _);rw[hdst];have hgn:Gs GL N g (w.drew.alloc ob) (μ++[w.heap.size]) ⟨s.e,s.h++[.cells ((ys.flatMap V.cells).map .v++List.replicate zs.size .any)]⟩ a O:=⟨hinv,hg.glob,hg.sz⟩;exact hgn.set hdN (x:= .sref s.h.length ys.length) ⟨w.heap.size,_,by rw[←hg.inv.len];simp,rfl,hge⟩ λk=>by cases k<;>simp[Ak,Ae]
 ·cases h4
theorem V2 {en:CH} {e s:Nat} (h:q.ev en= .own e s []):Eh q=true:=by
 cases q with
 |t n mv=>
  cases mv with
  |true=>rfl
  |false=>simp only[Opd.ev]at h;cases hf:AF en n<;>rw[hf]at h<;>cases h
 |c d=>simp only[Opd.ev]at h;subst h;rfl
 |g n cs=>cases h
theorem RC {d:Nat} {e:Nat} (hk:C5 P GL N o (.appR d q y' e sz by_)=true) (hg:Gs GL N g w μ s a O)
  (h:Dg P GL (.appR d q y' e sz by_) K s) {next:Act→World→Prop} {Q:Exit→Act→World→Prop}
  (hn:∀s' g' w' μ' a',K s'→Gs GL N g' w' μ' s' a' O→Chg (λb=>¬O b) g w g' w'→μ <+: μ'→a'.defers=a.defers→next a' w'):o.wpIn (WF r) 0 P a w next Q:=by
 by_cases hyes:∃e' s',(q.ev s.e= .own e' s' []∨(q.moved=true∧q.ev s.e= .nil e' s'))∧Dg P GL (.app d q y' e sz by_) K s
 ·obtain⟨e',s',hq,hy⟩:=hyes;refine Fw (ai:= .app d q y' e sz by_) (λ_ _ _=>⟨(λh=>by cases h),(λh=>by cases h)⟩) (λ_ _ _ _ h=>by cases h) (λ_ _ _ _ _ _=>⟨(λh=>by cases h),(λh=>by cases h)⟩) (λ_ _ _ h=>by cases h) (λ_ _ _ _ _ _ h=>by cases h) ?_ hg hy hn;have hb:Eh q=true:=by
   rcases hq with hq|⟨hm,_⟩
   ·exact V2 hq
   ·cases q with
    |t n mv=>cases mv with
     |true=>rfl
     |false=>cases hm
    |c d=>cases hm
    |g n cs=>cases hm
  simp only[C5]at hk ⊢;split at hk
  ·simp only[qI]at hk ⊢;exact⟨hk.1,⟨⟨⟨hk.2.1.1.1,hb⟩,hk.2.1.1.2⟩,hk.2.1.2⟩⟩
  ·simp at hk
 ·exact QG hk hg h (λe' s' hq hy=>hyes ⟨e',s',hq,hy⟩) hn
theorem RB {ai:AI} (hk:C5 P GL N o ai=true) (hg:Gs GL N g w μ s a O)
  (h:Dg P GL ai K s) {next:Act→World→Prop} {Q:Exit→Act→World→Prop}
  (hn:∀s' g' w' μ' a',K s'→Gs GL N g' w' μ' s' a' O→Chg (λb=>¬O b) g w g' w'→μ <+: μ'→a'.defers=a.defers→next a' w'):o.wpIn (WF r) 0 P a w next Q:=by
 by_cases hc4:∃d f q args,ai= .callO d f q args
 ·obtain⟨d,f,q,args,rfl⟩:=hc4;exact P5 hk hg h hn
 have hc4:∀d f q args,ai≠ .callO d f q args:=λd f q args h=>hc4 ⟨d,f,q,args,h⟩;by_cases hc5:∃d x y e s b,ai= .appR d x y e s b
 ·obtain⟨d,x,y,e,s,b,rfl⟩:=hc5;exact RC hk hg h hn
 by_cases hc6:∃d x s,ai= .frz d x s
 ·obtain⟨d,x,s,rfl⟩:=hc6;exact S3 hk hg h hn
 have hc5:∀d x y e s b,ai≠ .appR d x y e s b∧ai≠ .frz d x s:=λd x y e s b=>⟨λh=>hc5 ⟨d,x,y,e,s,b,h⟩,λh=>hc6 ⟨d,x,s,h⟩⟩;by_cases hc7:∃d f args,ai= .callN d f args
 ·obtain⟨d,f,args,rfl⟩:=hc7;exact P6 hk hg h hn
 have hc7:∀d f args,ai≠ .callN d f args:=λd f args h=>hc7 ⟨d,f,args,h⟩;by_cases hc8:∃d x y e s b,ai= .appP d x y e s b
 ·obtain⟨d,x,y,e,s,b,rfl⟩:=hc8;exact RE hk hg h hn
 have hc8:∀d x y e s b,ai≠ .appP d x y e s b:=λd x y e s b h=>hc8 ⟨d,x,y,e,s,b,h⟩;by_cases hc:∃d f args,ai= .callF d f args
 ·obtain⟨d,f,args,rfl⟩:=hc;exact Fw (ai:= .call d f args) (λ_ _ _=>⟨(λh=>by cases h),(λh=>by cases h)⟩) (λ_ _ _ _ h=>by cases h) (λ_ _ _ _ _ _=>⟨(λh=>by cases h),(λh=>by cases h)⟩) (λ_ _ _ h=>by cases h) (λ_ _ _ _ _ _ h=>by cases h) hk hg h hn
 ·by_cases hc2:∃d f args,ai= .callC d f args
  ·obtain⟨d,f,args,rfl⟩:=hc2;exact Fw (ai:= .call d f args) (λ_ _ _=>⟨(λh=>by cases h),(λh=>by cases h)⟩) (λ_ _ _ _ h=>by cases h) (λ_ _ _ _ _ _=>⟨(λh=>by cases h),(λh=>by cases h)⟩) (λ_ _ _ h=>by cases h) (λ_ _ _ _ _ _ h=>by cases h) hk hg h hn
  ·exact Fw (λd f args=>⟨λh=>hc ⟨d,f,args,h⟩,λh=>hc2 ⟨d,f,args,h⟩⟩) hc4 hc5 hc7 hc8 hk hg h hn
theorem G3 {x:GI} (hk1:IZ P GL N ops i x=true) (hg:Gs GL N g w μ s a O)
  (h:Iz P GL x K s) {next:Act→World→Prop} {Q:Exit→Act→World→Prop}
  (hn:∀s' g' w' μ' a',K s'→Gs GL N g' w' μ' s' a' O→Chg (λb=>¬O b) g w g' w'→μ <+: μ'→a'.defers=a.defers→next a' w'):wpOpIn (WF r) 0 P ops Q i next a w:=by
 unfold IZ at hk1;split at hk1
 ·cases hk1
 ·rename_i o ho;simp only[qI]at hk1;obtain⟨hgd,hki⟩:=hk1;simp only[wpOpIn,ho];have go:Dg P GL x.i K s→o.wpIn (WF r) 0 P a w next Q:=λh=>RB hki hg h hn;cases hog:o.guard with
  |none=>
   cases hxg:x.g with
   |none=>
    simp only[Iz,hxg]at h;rw[if_pos (by simp[Region.wanted,hog])];exact go h
   |some p=>simp[hog,hxg]at hgd
  |some p=>
   obtain⟨j,want⟩:=p;cases hxg:x.g with
   |none=>simp[hog,hxg]at hgd
   |some p'=>
    obtain⟨t,want'⟩:=p';simp only[hog,hxg,qI,beq_iff_eq]at hgd;obtain⟨⟨hj,rfl⟩,hdst⟩:=hgd;simp only[Iz,hxg]at h;have hrt:=hg.inv.rep t;have skip:K ⟨CQ s.e x.i.dst (.tup []),s.h⟩→next (a.put o.dst undef) w:=λh2=>by
     refine hn _ g w μ _ h2 ?_ (Chg.refl _ _ _) (qP _) (B9 _ _ _);rw[←hdst];cases hd:x.i.dst with
     |none=>exact⟨hg.inv,hg.glob,by rw[BI,hg.sz]⟩
     |some d=>
      have hdN:d <N:=by
       have:∀(ai:AI),C5 P GL N o ai=true→ai.dst=some d→d <N:=by
        intro ai hk hd;cases ai<;>simp only[AI.dst,qF,reduceCtorEq]at hd<;>(try subst hd)<;>simp only[C5,qI,decide_eq_true_eq]at hk
        all_goals first
         |exact hk.1.2
         |exact hk.1.1.2
         |(cases hk;done)
         |(split at hk
           ·simp only[qI,beq_iff_eq,decide_eq_true_eq]at hk;first|exact hk.1.1.2|exact hk.1.1.1.2
           ·cases hk)
       exact this x.i hki hd
      exact hg.set hdN (x:= .tup []) (v:=undef) ⟨[],rfl,.nil⟩ λk=>by simp[Ak,undef,Ae]
    split at h
    ·rename_i b hb;rw[hb]at hrt;have hv:=GE hrt;have hy:yielded ops a.tmps j=some b:=by
      have h2:a.tmps[t]?=some (.bool b):=by
       cases hq:a.tmps[t]? with
       |none=>simp[hq,undef]at hv
       |some u=>simpa[hq]using hv
      simp[yielded,hj,h2]
     by_cases hbw:b=want
     ·subst hbw;simp only[if_true]at h;rw[if_pos (by simp[Region.wanted,hog,hy])];exact go h
     ·simp only[hbw,if_false]at h;rw[if_neg (by simp[Region.wanted,hog,hy,hbw])];exact⟨λ_ _=>trivial,skip h⟩
    ·rename_i hb;rw[hb]at hrt;obtain⟨us,hv,hall⟩:=hrt;have hu:us=[]:=rU hall.1;subst hu;have hy:yielded ops a.tmps j=none:=by
      have h2:∀b,a.tmps[t]?≠some (.bool b):=by
       intro b hb';simp[hb']at hv
      unfold yielded;rw[hj];show (match a.tmps[t]? with|some (.bool b)=>some b|_=>none)=none
      split
      ·rename_i b hb';exact absurd hb' (h2 b)
      ·rfl
     rw[if_neg (by simp[Region.wanted,hog,hy])];exact⟨λ_ _=>trivial,skip h⟩
    ·exact h.elim
theorem Jk {ops:Array Oper} {Q:Exit→Act→World→Prop}:∀(l:List Nat) (is:List GI) {K:St→Prop} {g:Gh} {w:World} {μ:List Nat} {s:St} {a:Act} {O:Nat→Prop},
  Ap (IZ P GL N ops) l is=true→Gs GL N g w μ s a O→Bd P GL is K s→(∀a' w',After GL N K g w μ a O a' w'→Q .normal a' w')→wpOpsIn (WF r) 0 P ops Q l a w
 |[],[],K,g,w,μ,s,a,O,_,hg,h,hq=>by
  simp only[wpOpsIn];exact hq a w ⟨s,g,μ,h,hg,Chg.refl _ _ _,qP _,rfl⟩
 |[],_::_,_,_,_,_,_,_,_,hk,_,_,_=>by simp[Ap]at hk
 |_::_,[],_,_,_,_,_,_,_,hk,_,_,_=>by simp[Ap]at hk
 |i::l,x::is,K,g,w,μ,s,a,O,hk,hg,h,hq=>by
  simp only[Ap,qI]at hk;rw[wpOpsIn_cons];exact G3 hk.1 hg h λs' g' w' μ' a' hK hgs hch hμ hd=>Jk l is hk.2 hgs hK λa2 w2 h2=>hq a2 w2 (h2.trans hch hμ hd)
theorem Jt (rets:List V):Bj (rets.map .v)=JG rets:=by
 match rets with
 |[]=>rfl
 |[x]=>rfl
 |x::y::r=>rfl
theorem PSp.fsp {args rets:List V} (hp:PSp P GL f args rets) (h:List Row):FSp P GL f (args.map .v) h (rets.map .v) h:=by
 refine⟨hp.1,λg w μ us O hinv hgl hall _=>(hp.2 g w us hinv.agree hgl ⟨by simpa using hall.1,λi x v hx hv=>hall.2 i (.v x) v (by simp[hx]) hv⟩).mono ?_⟩;rintro e w' ⟨v,g',rfl,hrep,hch,hag⟩;obtain⟨h1,h2⟩:=UH (μ:=μ) hrep;rw[Jt];exact⟨v,g',μ,rfl,(hinv.chg hch hag).set (d:=0) h1 h2,hch.mono λ_ h=>h.elim,qP _⟩
end
end
section
def Opd.rd:Opd→List Nat
 | .t n _=>[n]
 |_=>[]
def Opd.wr:Opd→List Nat
 | .t n true=>[n]
 |_=>[]
def Opd.rds:List Opd→List Nat
 |[]=>[]
 |x::xs=>x.rd++Opd.rds xs
def Opd.rdo:Option Opd→List Nat
 |some x=>x.rd
 |none=>[]
def PI.rd:PI→List Nat
 | .pick c a b=>c.rd++(a.rd++b.rd)
 | .build _ ps=>Opd.rds (ps.map (·.2.2))
 | .load a _ _=>a.rd
 | .nilc x=>x.rd
 | .bin _ x y=>x.rd++y.rd
 | .eqB _ x y=>x.rd++y.rd
 | .eqA _ _ x y=>x.rd++y.rd
 | .eqP _ x y=>x.rd++y.rd
 | .not x=>x.rd
 | .neg x=>x.rd
 | .inv x=>x.rd
 | .cint _ x=>x.rd
 | .faddr x _ _=>x.rd
 | .fld x _ _ _=>x.rd
 | .iaddr x i _=>x.rd++i.rd
 | .iaddrA x i _ _=>x.rd++i.rd
 | .iaddrP x i _=>x.rd++i.rd
 | .idxS x i=>x.rd++i.rd
 | .slc x lo hi _=>x.rd++(Opd.rdo lo++Opd.rdo hi)
 | .slcS x lo hi=>x.rd++(Opd.rdo lo++Opd.rdo hi)
 | .slc0 x _ _=>x.rd
 | .ext x _=>x.rd
 | .mkf _ caps=>Opd.rds caps
 | .mkme _ caps=>Opd.rds caps
 | .idxA x i _ _ _=>x.rd++i.rd
 | .alen x=>x.rd
 | .lenS x=>x.rd
 | .b2s x=>x.rd
 | .look m k _ _ _ _ _=>m.rd++k.rd
 | .mlen m=>m.rd
 | .minmax _ x y=>x.rd++y.rd
inductive Kd where
 |n|r|a|w|t
 deriving DecidableEq
def AI.kd:AI→Kd
 | .p _ (.load _ _ _)=> .r
 | .p _ (.look _ _ _ _ _ _ _)=> .r
 | .p _ (.mlen _)=> .r
 | .alloc _ _| .box _ _| .mkm _| .mksl _ _ _| .mksz _ _ _| .bsr _ _ _| .callC _ _ _=> .a
 | .take _ _=> .t
 | .store _ _ _| .mput _ _ _ _ _| .mdel _ _ _ _ _| .callF _ _ _| .mest _ _ _| .ment _ _ _ _ _| .cpy _ _ _ _| .fin _ _ _ _ _=> .w
 |_=> .n
def AI.rd:AI→List Nat
 | .p _ i=>i.rd
 | .mv _ x=>x.rd
 | .alloc _ _=>[]
 | .box _ x=>x.rd
 | .store a x _=>a.rd++x.rd
 | .take _ a=>a.rd
 | .app _ x y _ _ _=>x.rd++y.rd
 | .appS _ x y _ _=>x.rd++y.rd
 | .bsl _ _ _ ps| .bsr _ _ ps=>Opd.rds ps
 | .s2b _ x=>x.rd
 | .nilS _ _ x=>x.rd
 | .mkm _=>[]
 | .mksl _ x _=>x.rd
 | .mput m k v _ _=>m.rd++(k.rd++v.rd)
 | .ment _ m k _ _=>m.rd++k.rd
 | .mest m b v=>m.rd++(b.rd++v.rd)
 | .mdel _ m k _ _=>m.rd++k.rd
 | .call _ f args=>f.rd++Opd.rds args
 | .callF _ f args=>f.rd++Opd.rds args
 | .callC _ f args=>f.rd++Opd.rds args
 | .callO _ f q args=>f.rd++(q.rd++Opd.rds args)
 | .appR _ x y _ _ _=>x.rd++y.rd
 | .frz _ x _=>x.rd
 | .mksz _ x _=>x.rd
 | .callN _ f args=>f.rd++Opd.rds args
 | .appP _ x y _ _ _=>x.rd++y.rd
 | .fin m ad pp x _=>[m]++(ad.rd++(pp.rd++x.rd))
 | .cpy _ x y _=>x.rd++y.rd
def AI.wr:AI→List Nat
 | .p d _| .alloc d _| .box d _| .take d _| .bsl d _ _ _| .s2b d _| .nilS d _ _| .mkm d| .mksl d _ _| .bsr d _ _| .ment d _ _ _ _=>[d]
 | .mput _ _ _ _ _=>[]
 | .mest _ _ _=>[]
 | .mdel d _ _ _ _=>d.toList
 | .mv d x| .app d x _ _ _ _| .appS d x _ _ _=>d::x.wr
 | .store _ x _=>x.wr
 | .call d _ _=>d.toList
 | .callF d _ _=>d.toList
 | .callC d _ _=>d.toList
 | .callO d _ q _=>d.toList++q.wr
 | .appR d _ _ _ _ _| .frz d _ _=>[d]
 | .mksz d _ _=>[d]
 | .callN d _ _=>d.toList
 | .appP d x _ _ _ _=>d::x.wr
 | .fin m _ _ _ _=>[m]
 | .cpy d _ _ _=>d.toList
def GI.rd (x:GI):List Nat:=(match x.g with|some (t,_)=>[t]|none=>[])++x.i.rd
def GI.wr (x:GI):List Nat:=x.i.dst.toList++x.i.wr
def Same (e e2:CH) (l:List Nat):Prop:=∀n∈l,AF e2 n=AF e n
variable {e:CH}
theorem Same.left {e2:CH} {a b:List Nat} (h:Same e e2 (a++b)):Same e e2 a:=λn hn=>h n (tV _ hn)
theorem Same.right {e2:CH} {a b:List Nat} (h:Same e e2 (a++b)):Same e e2 b:=λn hn=>h n (tB _ hn)
theorem Same.ev {e e2:CH} {x:Opd} (h:Same e e2 x.rd):x.ev e2=x.ev e:=by
 cases x with
 |t n mv=>simp[Opd.ev,h n (by simp[Opd.rd])]
 |c d=>rfl
 |g n cs=>rfl
theorem Same.toCells {e e2:CH} {sz:Nat}:∀ {xs:List Opd},Same e e2 (Opd.rds xs)→Go.Va.IB e2 sz xs=Go.Va.IB e sz xs
 |[],_=>rfl
 |x::xs,h=>by simp only[Go.Va.IB,Same.ev (Same.left h),Same.toCells (Same.right h)]
theorem Same.toVs {e e2:CH}:∀ {xs:List Opd},Same e e2 (Opd.rds xs)→Go.Va.IV e2 xs=Go.Va.IV e xs
 |[],_=>rfl
 |x::xs,h=>by simp only[Go.Va.IV,Same.ev (Same.left h),Same.toVs (Same.right h)]
theorem Same.argsOf {e e2:CH}:∀ {xs:List Opd},Same e e2 (Opd.rds xs)→Go.Va.Ar e2 xs=Go.Va.Ar e xs
 |[],_=>rfl
 |x::xs,h=>by
  have:=Same.argsOf (Same.right h);simp only[Go.Va.Ar]at this ⊢;simp only[qR,Same.ev (Same.left h),this]
theorem Same.caps {e e2:CH}:∀ {xs:List Opd},Same e e2 (Opd.rds xs)→E0 e2 xs=E0 e xs
 |[],_=>rfl
 |x::xs,h=>by simp only[E0,Same.ev (Same.left h),Same.caps (Same.right h)]
theorem Same.fill {e e2:CH}:∀ {ps:List (Nat×Nat×Opd)} {cs:List D},Same e e2 (Opd.rds (ps.map (·.2.2)))→Et e2 cs ps=Et e cs ps
 |[],_,_=>rfl
 |(o,n,x)::ps,cs,h=>by
  have h1:Same e e2 x.rd:=Same.left h;have h2:Same e e2 (Opd.rds (ps.map (·.2.2))):=Same.right h;simp only[Et,h1.ev];split
  ·split
   ·exact Same.fill h2
   ·rfl
  ·rfl
theorem Same.opt {e2:CH} {x:Option Opd} (h:Same e e2 (Opd.rdo x)):x.map (·.ev e2)=x.map (·.ev e):=by
 cases x with
 |none=>rfl
 |some x=>simp[Same.ev (x:=x) h]
def PI.kd:PI→Kd
 | .load _ _ _=> .r
 | .look _ _ _ _ _ _ _=> .r
 | .mlen _=> .r
 |_=> .n
def LoadEq (h h2:List Row):Prop:=h2.length=h.length∧∀r:Nat,h2[r]?=h[r]?∨∃ds es:List D,h[r]?=some (.cells ds)∧h2[r]?=some (.cells es)∧es.map D.copy=ds.map D.copy
theorem LoadEq.symm {h h2:List Row} (hq:LoadEq h h2):LoadEq h2 h:=⟨hq.1.symm,λr=>(hq.2 r).elim (λh=> .inl h.symm) λ⟨ds,es,h1,h2,h3⟩=> .inr ⟨es,ds,h2,h1,h3.symm⟩⟩
variable {xs:List V} {ds:List D} {off r sz:Nat} {h:List Row}
theorem LoadEq.take {e:Nat} (hr:h[r]?=some (.cells ds)) (hd:ds[off]?=some (.own e sz xs)):LoadEq h (h.set r (.cells (ds.set off (.v (.list xs))))):=by
 refine⟨by simp,λi=>?_⟩;by_cases hi:r=i
 ·subst hi;refine .inr ⟨ds,_,hr,rA (qK.1 hr).1,?_⟩;apply rj;intro j;rw[qZ,qZ,rY];by_cases hj:off=j
  ·subst hj;have:=(qK.1 hd).1;rw[if_pos rfl,if_pos this,hd];rfl
  ·rw[if_neg hj]
 ·exact .inl (qz hi)
theorem Q1 {es:List D} (h:es.map D.copy=ds.map D.copy) (off n:Nat) (ag:Bool):D.part es off n ag=D.part ds off n ag:=by
 have hl:es.length=ds.length:=by have:=congrArg List.length h;simpa using this
 unfold D.part;rw[hl];split
 ·cases ag with
  |true=>
   simp only[if_true,qF,D.agg.injEq];rw[rE,ro,h,←ro,←rE]
  |false=>
   simp only[qY,if_false];rw[←qZ,h,qZ]
 ·rfl
theorem PI.val_same {h2:List Row} (hq:LoadEq h h2) {i:PI} {x:D} (hv:i.val e h=some x):i.val e h2=some x:=by
 have hmap:∀(r:Nat) es bs ck,h[r]?=some (.map es bs ck)→h2[r]?=some (.map es bs ck):=λr es bs ck hr=>by
  rcases hq.2 r with h|⟨ds,_,h1,_⟩
  ·rw[h];exact hr
  ·rw[h1]at hr;cases hr
 cases i<;>try exact hv
 ·rename_i a n ag;simp only[PI.val]at hv ⊢;split at hv
  ·exact hv
  ·rename_i r off ha;split at hv
   ·rename_i ds hr;rcases hq.2 r with h|⟨ds',es,h1,h2,h3⟩
    ·rw[h,hr];exact hv
    ·rw[hr]at h1;simp only[qF,Row.cells.injEq]at h1;subst h1;simp only[h2,Q1 h3];exact hv
   ·cases hv
  ·cases hv
 ·rename_i m k st ks zs ag ok;simp only[PI.val]at hv ⊢;split at hv
  ·split at hv
   ·rename_i hok;rw[if_pos hok];split at hv
    ·rename_i z hz;split at hv
     ·exact hv
     ·rename_i r ha;split at hv
      ·rename_i es bs ck hr;simp only[hmap r es bs ck hr];exact hv
      ·cases hv
     ·cases hv
    ·cases hv
   ·cases hv
  ·cases hv
 ·rename_i m;simp only[PI.val]at hv ⊢;split at hv
  ·exact hv
  ·rename_i r ha;split at hv
   ·rename_i es bs ck hr;simp only[hmap r es bs ck hr];exact hv
   ·cases hv
  ·cases hv
theorem PI.val_congr {e2:CH} {i:PI} (hs:Same e e2 i.rd):i.val e2 h=i.val e h:=by
 cases i with
 |pick c a b=>simp only[PI.val,(Same.left hs).ev,(Same.left (Same.right hs)).ev,(Same.right (Same.right hs)).ev]
 |build zs ps=>simp only[PI.val,Same.fill hs]
 |load a n ag=>simp only[PI.val,Same.ev (x:=a) hs]
 |nilc x=>simp only[PI.val,Same.ev (x:=x) hs]
 |bin op x y=>simp only[PI.val,(Same.left hs).ev,(Same.right hs).ev]
 |eqB ne x y=>simp only[PI.val,(Same.left hs).ev,(Same.right hs).ev]
 |eqA ne ks x y=>simp only[PI.val,(Same.left hs).ev,(Same.right hs).ev]
 |eqP ne x y=>simp only[PI.val,(Same.left hs).ev,(Same.right hs).ev]
 |not x=>simp only[PI.val,Same.ev (x:=x) hs]
 |neg x=>simp only[PI.val,Same.ev (x:=x) hs]
 |inv x=>simp only[PI.val,Same.ev (x:=x) hs]
 |cint k x=>simp only[PI.val,Same.ev (x:=x) hs]
 |faddr x o n=>simp only[PI.val,Same.ev (x:=x) hs]
 |fld x o n ag=>simp only[PI.val,Same.ev (x:=x) hs]
 |iaddr x i s=>simp only[PI.val,(Same.left hs).ev,(Same.right hs).ev]
 |iaddrP x i s=>simp only[PI.val,(Same.left hs).ev,(Same.right hs).ev]
 |iaddrA x i l s=>simp only[PI.val,(Same.left hs).ev,(Same.right hs).ev]
 |idxS x i=>simp only[PI.val,(Same.left hs).ev,(Same.right hs).ev]
 |slc x lo hi s=>simp only[PI.val,(Same.left hs).ev,Same.opt (Same.left (Same.right hs)),Same.opt (Same.right (Same.right hs))]
 |slcS x lo hi=>simp only[PI.val,(Same.left hs).ev,Same.opt (Same.left (Same.right hs)),Same.opt (Same.right (Same.right hs))]
 |slc0 x el s=>simp only[PI.val,Same.ev (x:=x) hs]
 |ext x i=>
  cases x with
  |t n mv=>simp only[PI.val,hs n (by simp[PI.rd,Opd.rd])]
  |c d=>rfl
  |g n cs=>rfl
 |mkf f caps=>simp only[PI.val,Same.caps hs]
 |mkme f caps=>simp only[PI.val,Same.caps hs]
 |idxA x i n s ag=>simp only[PI.val,(Same.left hs).ev,(Same.right hs).ev]
 |alen x=>simp only[PI.val,Same.ev (x:=x) hs]
 |lenS x=>simp only[PI.val,Same.ev (x:=x) hs]
 |look m k st ks zs ag ok=>simp only[PI.val,(Same.left hs).ev,(Same.right hs).ev]
 |mlen m=>simp only[PI.val,Same.ev (x:=m) hs]
 |b2s x=>simp only[PI.val,Same.ev (x:=x) hs]
 |minmax mx x y=>simp only[PI.val,(Same.left hs).ev,(Same.right hs).ev]
theorem PI.val_heap {h2:List Row} {i:PI} (hk:i.kd= .n):i.val e h2=i.val e h:=by
 cases i<;>first|rfl|cases hk
theorem PI.val_grow {t:List Row} {i:PI} {x:D} (hv:i.val e h=some x):i.val e (h++t)=some x:=by
 cases hk:i.kd with
 |n=>rw[PI.val_heap (h2:=h++t) hk];exact hv
 |r=>
  cases i with
  |load a n ag=>
   simp only[PI.val]at hv ⊢;split at hv
   ·exact hv
   ·rename_i r off ha;split at hv
    ·rename_i ds hr;have:(h++t)[r]?=some (.cells ds):=by rw[qe (qK.1 hr).1];exact hr
     simp only[this];exact hv
    ·cases hv
   ·cases hv
  |look m k st ks zs ag ok=>
   simp only[PI.val]at hv ⊢;split at hv
   ·split at hv
    ·rename_i hok;rw[if_pos hok];split at hv
     ·rename_i z hz;split at hv
      ·exact hv
      ·rename_i r ha;split at hv
       ·rename_i es bs ck hr;have:(h++t)[r]?=some (.map es bs ck):=by rw[qe (qK.1 hr).1];exact hr
        simp only[this];exact hv
       ·cases hv
      ·cases hv
     ·cases hv
    ·cases hv
   ·cases hv
  |mlen m=>
   simp only[PI.val]at hv ⊢;split at hv
   ·exact hv
   ·rename_i r ha;split at hv
    ·rename_i es bs ck hr;have:(h++t)[r]?=some (.map es bs ck):=by rw[qe (qK.1 hr).1];exact hr
     simp only[this];exact hv
    ·cases hv
   ·cases hv
  |_=>cases hk
 |a=>cases i<;>cases hk
 |w=>cases i<;>cases hk
 |t=>cases i<;>cases hk
end
section
def Opd.clr (e:CH):Opd→CH
 | .t n true=>[(n,(AF e n).copy)]
 |_=>[]
theorem Eu (x:Opd) (e:CH):x.clear e=x.clr e++e:=by
 cases x with
 |t n mv=>cases mv<;>rfl
 |_=>rfl
theorem Same.clr {e e2:CH} {x:Opd} (h:Same e e2 x.rd):x.clr e2=x.clr e:=by
 cases x with
 |t n mv=>cases mv<;>simp[Opd.clr,h n (by simp[Opd.rd])]
 |_=>rfl
variable {e:CH}
theorem OI {x:Opd} {p:Nat×D} (h:p∈x.clr e):p.1∈x.wr:=by
 cases x with
 |t n mv=>cases mv<;>simp_all [Opd.clr,Opd.wr]
 |_=>simp[Opd.clr]at h
structure Local (R:St→St→Prop) (rd wr:List Nat) (kd:Kd) (s:St) (δ:CH) (h':List Row):Prop where
 wr:∀p∈δ,p.1∈wr
 here:∀e2,Same s.e e2 rd→R ⟨e2,s.h⟩ ⟨δ++e2,h'⟩
 n:kd= .n→h'=s.h∧∀e2 h2,Same s.e e2 rd→R ⟨e2,h2⟩ ⟨δ++e2,h2⟩
 r:kd= .r→h'=s.h∧(∀e2 t,Same s.e e2 rd→R ⟨e2,s.h++t⟩ ⟨δ++e2,s.h++t⟩)∧∀e2 h2,LoadEq s.h h2→Same s.e e2 rd→R ⟨e2,h2⟩ ⟨δ++e2,h2⟩
 a:kd= .a→∃t,h'=s.h++t
 t:kd= .t→LoadEq s.h h'
variable {s:St}
theorem Local.ofN {R:St→St→Prop} {rd wr:List Nat} {δ:CH} {kd:Kd} (hwr:∀p∈δ,p.1∈wr) (h:∀e2 h2,Same s.e e2 rd→R ⟨e2,h2⟩ ⟨δ++e2,h2⟩):Local R rd wr kd s δ s.h where
 wr:=hwr
 here:=λe2 hs=>h e2 s.h hs
 n:=λ_=>⟨rfl,h⟩
 r:=λ_=>⟨rfl,λe2 t hs=>h e2 _ hs,λe2 h2 _ hs=>h e2 h2 hs⟩
 a:=λ_=>⟨[],by simp⟩
 t:=λ_=>⟨rfl,λr=> .inl rfl⟩
variable {s':St}
theorem QX {i:AI} (h:i.step s=some s'):∃δ h',s'=⟨δ++s.e,h'⟩∧Local (λs s'=>i.step s=some s') i.rd i.wr i.kd s δ h':=by
 cases i with
 |p d i=>
  simp only[AI.step,qQ]at h;obtain⟨x,hx,rfl⟩:=h;cases hk:i.kd with
  |n=>
   refine⟨[(d,x)],s.h,rfl,.ofN (by simp[AI.wr]) λe2 h2 hs=>?_⟩;simp only[AI.step,PI.val_congr (i:=i) hs,PI.val_heap (h:=s.h) (h2:=h2) hk,hx,qq];rfl
  |r=>
   have hkd:(AI.p d i).kd= .r:=by cases i<;>first|rfl|cases hk
   refine⟨[(d,x)],s.h,rfl,by simp[AI.wr],λe2 hs=>?_,λh=>(by rw[hkd]at h;cases h),λ_=>⟨rfl,λe2 t hs=>?_,λe2 h2 hq hs=>?_⟩,λh=>(by rw[hkd]at h;cases h),λh=>(by rw[hkd]at h;cases h)⟩
   ·simp only[AI.step,PI.val_congr (i:=i) hs,hx,qq];rfl
   ·simp only[AI.step,PI.val_congr (i:=i) hs,PI.val_grow hx,qq];rfl
   ·simp only[AI.step,PI.val_congr (i:=i) hs,PI.val_same hq hx,qq];rfl
  |a=>cases i<;>cases hk
  |w=>cases i<;>cases hk
  |t=>cases i<;>cases hk
 |mv d x=>
  simp only[AI.step,qF]at h;subst h;refine⟨(d,x.ev s.e)::x.clr s.e,s.h,by rw[Eu];rfl,.ofN ?_ λe2 h2 hs=>?_⟩
  ·intro p hp;rcases qL.1 hp with rfl|hp
   ·simp[AI.wr]
   ·exact sa _ (OI hp)
  ·simp only[AI.step,Same.ev (x:=x) hs,Eu,Same.clr (x:=x) hs];rfl
 |alloc d zs=>
  simp only[AI.step,qF]at h;subst h;refine⟨[(d,.ref s.h.length 0)],_,rfl,by simp[AI.wr],λe2 hs=>rfl,(λh=>by cases h),(λh=>by cases h),(λ_=>⟨_,rfl⟩),(λh=>by cases h)⟩
 |box d x=>
  simp only[AI.step]at h;split at h
  ·rename_i cs hcs;simp only[qF]at h;subst h;refine⟨[(d,.ref s.h.length 0)],_,rfl,by simp[AI.wr],λe2 hs=>?_,(λh=>by cases h),(λh=>by cases h),(λ_=>⟨_,rfl⟩),(λh=>by cases h)⟩;simp only[AI.step,Same.ev (x:=x) hs,hcs];rfl
  ·cases h
 |store a x n=>
  have e0:∀e2,Same s.e e2 (AI.store a x n).rd→a.ev e2=a.ev s.e∧x.ev e2=x.ev s.e:=λe2 hs=>⟨(Same.left hs).ev,(Same.right hs).ev⟩;simp only[AI.step]at h;split at h
  ·rename_i r off ha;split at h
   ·rename_i ds hr;split at h
    ·rename_i e sz xs hx;split at h
     ·rename_i m;split at h
      ·rename_i hc;simp only[qF]at h;subst h;refine⟨[(m,.any)],_,rfl,by simp[AI.wr,Opd.wr],λe2 hs=>?_,(λh=>by cases h),(λh=>by cases h),(λh=>by cases h),(λh=>by cases h)⟩;simp only[AI.step,(e0 e2 hs).1,ha,hr,(e0 e2 hs).2,hx,hc,and_self,if_true];rfl
      ·cases h
     ·cases h
    ·rename_i bb e sz xs hx;split at h
     ·rename_i m;split at h
      ·rename_i hc;simp only[qF]at h;subst h;refine⟨[(m,.pptr bb 0 xs.length)],_,rfl,by simp[AI.wr,Opd.wr],λe2 hs=>?_,(λh=>by cases h),(λh=>by cases h),(λh=>by cases h),(λh=>by cases h)⟩;simp only[AI.step,(e0 e2 hs).1,ha,hr,(e0 e2 hs).2,hx,hc,and_self,if_true];rfl
      ·cases h
     ·cases h
    ·rename_i hne hne2;split at h
     ·rename_i cs hcs;split at h
      ·rename_i hc;simp only[qF]at h;subst h;refine⟨[],_,rfl,by simp,λe2 hs=>?_,(λh=>by cases h),(λh=>by cases h),(λh=>by cases h),(λh=>by cases h)⟩;simp only[AI.step,(e0 e2 hs).1,ha,hr,(e0 e2 hs).2,hcs];generalize hxe:x.ev s.e=X at hne hne2 hcs;cases X<;>simp_all
      ·cases h
     ·cases h
   ·cases h
  ·cases h
 |take d a=>
  simp only[AI.step]at h;split at h
  ·rename_i r off ha;split at h
   ·rename_i ds hr;split at h
    ·rename_i e sz xs hx;simp only[qF]at h;subst h;refine⟨[(d,.own e sz xs)],_,rfl,by simp[AI.wr],λe2 hs=>?_,(λh=>by cases h),(λh=>by cases h),(λh=>by cases h),λ_=>LoadEq.take hr hx⟩;simp only[AI.step,Same.ev (x:=a) hs,ha,hr,hx];rfl
    ·cases h
   ·cases h
  ·cases h
 |app d x y e sz b=>
  have e0:∀e2,Same s.e e2 (AI.app d x y e sz b).rd→x.ev e2=x.ev s.e∧y.ev e2=y.ev s.e:=λe2 hs=>⟨(Same.left hs).ev,(Same.right hs).ev⟩;simp only[AI.step]at h;split at h
  ·rename_i xs ys hx hy;split at h
   ·rename_i hc;simp only[qF]at h;subst h;refine⟨(d,.own e sz (xs++ys))::x.clr s.e,s.h,by rw[Eu];rfl,.ofN ?_ λe2 h2 hs=>?_⟩
    ·intro p hp;rcases qL.1 hp with rfl|hp
     ·simp[AI.wr]
     ·exact sa _ (OI hp)
    ·simp only[AI.step,(e0 e2 hs).1,(e0 e2 hs).2,hx,hy,hc,and_self,if_true,Eu,Same.clr (x:=x) (Same.left hs)];rfl
   ·cases h
  ·cases h
 |appS d x y e b=>
  have e0:∀e2,Same s.e e2 (AI.appS d x y e b).rd→x.ev e2=x.ev s.e∧y.ev e2=y.ev s.e:=λe2 hs=>⟨(Same.left hs).ev,(Same.right hs).ev⟩;simp only[AI.step]at h;split at h
  ·rename_i xs ys hx hy;split at h
   ·rename_i hc;simp only[qF]at h;subst h;refine⟨(d,.own e 1 (xs++ys.data.toList.map λc=> .int .u8 c.toNat))::x.clr s.e,s.h,by rw[Eu];rfl,.ofN ?_ λe2 h2 hs=>?_⟩
    ·intro p hp;rcases qL.1 hp with rfl|hp
     ·simp[AI.wr]
     ·exact sa _ (OI hp)
    ·simp only[AI.step,(e0 e2 hs).1,(e0 e2 hs).2,hx,hy,hc,if_true,Eu,Same.clr (x:=x) (Same.left hs)];rfl
   ·cases h
  ·cases h
 |bsl d e sz ps=>
  simp only[AI.step]at h;split at h
  ·rename_i vs hvs;split at h
   ·rename_i hall;cases vs with
    |nil=>
     simp only[qF]at h;subst h;refine⟨[(d,.nil e sz)],s.h,rfl,.ofN (by simp[AI.wr]) λe2 h2 hs=>?_⟩;simp only[AI.step,Same.toVs (xs:=ps) hs,hvs];rfl
    |cons v vs=>
     simp only[qF]at h;subst h;refine⟨[(d,.own e sz (v::vs))],s.h,rfl,.ofN (by simp[AI.wr]) λe2 h2 hs=>?_⟩;simp only[AI.step,Same.toVs (xs:=ps) hs,hvs,hall,if_true];rfl
   ·cases h
  ·cases h
 |bsr d sz ps=>
  simp only[AI.step]at h;split at h
  ·rename_i cs hcs;simp only[qF]at h;subst h;refine⟨[(d,.sref s.h.length ps.length)],_,rfl,by simp[AI.wr],λe2 hs=>?_,(λh=>by cases h),(λh=>by cases h),(λ_=>⟨_,rfl⟩),(λh=>by cases h)⟩;simp only[AI.step,Same.toCells (xs:=ps) hs,hcs];rfl
  ·cases h
 |s2b d x=>
  simp only[AI.step]at h;split at h
  ·rename_i b hb;simp only[qF]at h;subst h;refine⟨[(d,.v (.list (b.data.toList.map λc=> .int .u8 c.toNat)))],s.h,rfl,.ofN (by simp[AI.wr]) λe2 h2 hs=>?_⟩;simp only[AI.step,Same.ev (x:=x) hs,hb];rfl
  ·cases h
 |nilS d ne x=>cases h
 |mksl d x z=>
  simp only[AI.step]at h;split at h
  ·rename_i k n hn;split at h
   ·rename_i hc;simp only[qF]at h;subst h;refine⟨[(d,.sref s.h.length n.toNat)],_,rfl,by simp[AI.wr],λe2 hs=>?_,(λh=>by cases h),(λh=>by cases h),(λ_=>⟨_,rfl⟩),(λh=>by cases h)⟩;simp only[AI.step,Same.ev (x:=x) hs,hn,if_pos hc];rfl
   ·cases h
  ·cases h
 |mkm d=>
  simp only[AI.step,qF]at h;subst h;exact⟨[(d,.mref s.h.length)],_,rfl,by simp[AI.wr],λe2 hs=>rfl,(λh=>by cases h),(λh=>by cases h),(λ_=>⟨_,rfl⟩),(λh=>by cases h)⟩
 |ment d m k st ks=>
  have e0:∀e2,Same s.e e2 (AI.ment d m k st ks).rd→m.ev e2=m.ev s.e∧k.ev e2=k.ev s.e:=λe2 hs=>⟨(Same.left hs).ev,(Same.right hs).ev⟩;have hh:∃x,s'=⟨(d,x)::s.e,s.h⟩∧∀e2,Same s.e e2 (AI.ment d m k st ks).rd→(AI.ment d m k st ks).step ⟨e2,s.h⟩=some ⟨(d,x)::e2,s.h⟩:=by
   simp only[AI.step]at h;split at h
   ·rename_i r hm;split at h
    ·rename_i es bs ck hr;split at h
     ·rename_i kv hkv;split at h
      ·rename_i hko;split at h
       ·rename_i i hi;split at h
        ·rename_i p n hp hn;simp only[qF]at h;subst h;exact⟨_,rfl,λe2 hs=>by simp only[AI.step,(e0 e2 hs).1,(e0 e2 hs).2,hm,hr,hkv,hko,if_true,hi,hp,hn]⟩
        ·cases h
       ·cases h
      ·cases h
     ·cases h
    ·cases h
   ·cases h
  obtain⟨x,rfl,hh⟩:=hh;exact⟨[(d,x)],s.h,rfl,by simp[AI.wr],hh,(λh=>by cases h),(λh=>by cases h),(λh=>by cases h),(λh=>by cases h)⟩
 |mest m b v=>
  have e0:∀e2,Same s.e e2 (AI.mest m b v).rd→m.ev e2=m.ev s.e∧b.ev e2=b.ev s.e∧v.ev e2=v.ev s.e:=λe2 hs=>⟨(Same.left hs).ev,(Same.left (Same.right hs)).ev,(Same.right (Same.right hs)).ev⟩;have hh:∃h',s'=⟨s.e,h'⟩∧∀e2,Same s.e e2 (AI.mest m b v).rd→(AI.mest m b v).step ⟨e2,s.h⟩=some ⟨e2,h'⟩:=by
   simp only[AI.step]at h;split at h
   ·rename_i r hm;split at h
    ·rename_i es bs ck hr;split at h
     ·rename_i kk n vv hb hv;split at h
      ·rename_i i hi;split at h
       ·rename_i p hp;simp only[qF]at h;subst h;exact⟨_,rfl,λe2 hs=>by simp only[AI.step,(e0 e2 hs).1,(e0 e2 hs).2.1,(e0 e2 hs).2.2,hm,hr,hb,hv,hi,hp]⟩
       ·cases h
      ·cases h
     ·cases h
    ·cases h
   ·cases h
  obtain⟨h',rfl,hh⟩:=hh;exact⟨[],h',rfl,by simp,hh,(λh=>by cases h),(λh=>by cases h),(λh=>by cases h),(λh=>by cases h)⟩
 |mput m k v st ks=>
  have e0:∀e2,Same s.e e2 (AI.mput m k v st ks).rd→m.ev e2=m.ev s.e∧k.ev e2=k.ev s.e∧v.ev e2=v.ev s.e:=λe2 hs=>⟨(Same.left hs).ev,(Same.left (Same.right hs)).ev,(Same.right (Same.right hs)).ev⟩;have hh:∃h',s'=⟨s.e,h'⟩∧∀e2,Same s.e e2 (AI.mput m k v st ks).rd→(AI.mput m k v st ks).step ⟨e2,s.h⟩=some ⟨e2,h'⟩:=by
   simp only[AI.step]at h;split at h
   ·rename_i r hm;split at h
    ·rename_i es hr;split at h
     ·rename_i kv vv hkv hvv;split at h
      ·rename_i hko;split at h
       ·rename_i hf;simp only[qF]at h;subst h;exact⟨_,rfl,λe2 hs=>by simp only[AI.step,(e0 e2 hs).1,(e0 e2 hs).2.1,(e0 e2 hs).2.2,hm,hr,hkv,hvv,hko,hf,if_true]⟩
       ·rename_i j hf;simp only[qF]at h;subst h;exact⟨_,rfl,λe2 hs=>by simp only[AI.step,(e0 e2 hs).1,(e0 e2 hs).2.1,(e0 e2 hs).2.2,hm,hr,hkv,hvv,hko,hf,if_true]⟩
       ·cases h
      ·cases h
     ·cases h
    ·cases h
   ·cases h
  obtain⟨h',rfl,hh⟩:=hh;exact⟨[],h',rfl,by simp,hh,(λh=>by cases h),(λh=>by cases h),(λh=>by cases h),(λh=>by cases h)⟩
 |mdel d m k st ks=>
  have e0:∀e2,Same s.e e2 (AI.mdel d m k st ks).rd→m.ev e2=m.ev s.e∧k.ev e2=k.ev s.e:=λe2 hs=>⟨(Same.left hs).ev,(Same.right hs).ev⟩;have hh:∃h',s'=⟨CQ s.e d (.tup []),h'⟩∧∀e2,Same s.e e2 (AI.mdel d m k st ks).rd→(AI.mdel d m k st ks).step ⟨e2,s.h⟩=some ⟨CQ e2 d (.tup []),h'⟩:=by
   simp only[AI.step]at h;split at h
   ·rename_i r hm;split at h
    ·rename_i es hr;split at h
     ·rename_i kv hkv;split at h
      ·rename_i hko;split at h
       ·rename_i hf;simp only[qF]at h;subst h;exact⟨_,rfl,λe2 hs=>by simp only[AI.step,(e0 e2 hs).1,(e0 e2 hs).2,hm,hr,hkv,hko,hf,if_true]⟩
       ·rename_i j hf;simp only[qF]at h;subst h;exact⟨_,rfl,λe2 hs=>by simp only[AI.step,(e0 e2 hs).1,(e0 e2 hs).2,hm,hr,hkv,hko,hf,if_true]⟩
       ·cases h
      ·cases h
     ·cases h
    ·cases h
   ·cases h
  obtain⟨h',rfl,hh⟩:=hh;cases d with
  |none=>exact⟨[],h',rfl,by simp,hh,(λh=>by cases h),(λh=>by cases h),(λh=>by cases h),(λh=>by cases h)⟩
  |some d=>exact⟨[(d,.tup [])],h',rfl,by simp[AI.wr],hh,(λh=>by cases h),(λh=>by cases h),(λh=>by cases h),(λh=>by cases h)⟩
 |call d f args=>cases h
 |callF d f args=>cases h
 |callC d f args=>cases h
 |callO d f q args=>cases h
 |appR d x y e s b=>cases h
 |frz d x s=>cases h
 |callN d f args=>cases h
 |appP d x y e s b=>cases h
 |fin m ad p x sz=>
  have e0:∀e2,Same s.e e2 (AI.fin m ad p x sz).rd→AF e2 m=AF s.e m∧ad.ev e2=ad.ev s.e∧p.ev e2=p.ev s.e∧x.ev e2=x.ev s.e:=λe2 hs=>
   ⟨hs m (by simp[AI.rd]),(Same.left (Same.right hs)).ev,(Same.left (Same.right (Same.right hs))).ev,(Same.right (Same.right (Same.right hs))).ev⟩
  have hh:∃δ h',s'=⟨δ++s.e,h'⟩∧(∀q∈δ,q.1=m)∧∀e2,Same s.e e2 (AI.fin m ad p x sz).rd→(AI.fin m ad p x sz).step ⟨e2,s.h⟩=some ⟨δ++e2,h'⟩:=by
   simp only[AI.step]at h;split at h
   ·rename_i b s0 n y hp hx;split at h
    ·rename_i b' e s2 xs hf;split at h
     ·rename_i hc;simp only[qF]at h;subst h;refine⟨[(m,.own e sz (xs++[y]))],s.h,rfl,by simp,λe2 hs=>?_⟩;obtain⟨q1,q2,q3,q4⟩:=e0 e2 hs;simp only[AI.step,q3,q4,hp,hx,q1,hf,if_pos hc];rfl
     ·cases h
    ·rename_i hnp;split at h
     ·rename_i r off ha;split at h
      ·rename_i ds hr;split at h
       ·rename_i b' e s2 xs hd;split at h
        ·rename_i hc;simp only[qF]at h;subst h;refine⟨[],_,rfl,by simp,λe2 hs=>?_⟩;obtain⟨q1,q2,q3,q4⟩:=e0 e2 hs;simp only[AI.step,q3,q4,hp,hx,q1,q2,ha];cases hfm:AF s.e m with
         |pend b3 e3 s3 xs3=>exact absurd hfm (hnp _ _ _ _)
         |_=>simp only[hr,hd,if_pos hc];rfl
        ·cases h
       ·cases h
      ·cases h
     ·cases h
   ·cases h
  obtain⟨δ,h',rfl,hw,hh⟩:=hh;exact⟨δ,h',rfl,λq hq=>by simp[AI.wr,hw q hq],hh,(λh=>by cases h),(λh=>by cases h),(λh=>by cases h),(λh=>by cases h)⟩
 |mksz d x zs=>
  simp only[AI.step]at h;split at h
  ·rename_i k n hn;split at h
   ·rename_i hc;simp only[qF]at h;subst h;refine⟨[(d,.sref s.h.length n.toNat)],_,rfl,by simp[AI.wr],λe2 hs=>?_,(λh=>by cases h),(λh=>by cases h),(λ_=>⟨_,rfl⟩),(λh=>by cases h)⟩;simp only[AI.step,Same.ev (x:=x) hs,hn,if_pos hc];rfl
   ·cases h
  ·cases h
 |cpy d x y sz=>
  have e0:∀e2,Same s.e e2 (AI.cpy d x y sz).rd→x.ev e2=x.ev s.e∧y.ev e2=y.ev s.e:=λe2 hs=>⟨(Same.left hs).ev,(Same.right hs).ev⟩;have hh:∃v h',s'=⟨CQ s.e d v,h'⟩∧∀e2,Same s.e e2 (AI.cpy d x y sz).rd→(AI.cpy d x y sz).step ⟨e2,s.h⟩=some ⟨CQ e2 d v,h'⟩:=by
   simp only[AI.step]at h;split at h
   ·rename_i r n hx;split at h
    ·rename_i ys hy;split at h
     ·rename_i ds hr;split at h
      ·rename_i hc;simp only[qF]at h;subst h;exact⟨_,_,rfl,λe2 hs=>by simp only[AI.step,(e0 e2 hs).1,(e0 e2 hs).2,hx,hy,hr,if_pos hc]⟩
      ·cases h
     ·cases h
    ·cases h
   ·cases h
  obtain⟨v,h',rfl,hh⟩:=hh;cases d with
  |none=>exact⟨[],h',rfl,by simp,hh,(λh=>by cases h),(λh=>by cases h),(λh=>by cases h),(λh=>by cases h)⟩
  |some d=>exact⟨[(d,v)],h',rfl,by simp[AI.wr],hh,(λh=>by cases h),(λh=>by cases h),(λh=>by cases h),(λh=>by cases h)⟩
section
variable (P:Program) (GL:Ac)
def GV (fd:D) (args:List D) (h:List Row) (rets:List D) (h':List Row):Prop:=
 match fd with
 | .yld r=>∃b,ZD P GL r args h b h'∧rets=[.v (.bool b)]
 | .meth fid fs=>FSp P GL fid (fs++args) h rets h'
 |fd=>∃fid caps,Dt fd=some (fid,caps)∧FSp P GL fid (args++caps) h rets h'
def KS (i:AI) (s s':St):Prop:=
 i.step s=some s'∨(∃d f args fid caps vs rets,i= .call d f args∧(f.ev s.e).toV=some (.func fid caps)∧IV s.e args=some vs∧PSp P GL fid (vs++caps) rets∧s'=⟨CQ s.e d (JG rets),s.h⟩)∨
 (∃d f args rets h',(i= .callF d f args∨i= .callC d f args∧∃t,h'=s.h++t)∧GV P GL (f.ev s.e) (Ar s.e args) s.h rets h'∧s'=⟨CQ s.e d (Bj rets),h'⟩)∨
 ∃d f q args fid rets,i= .callO d f q args∧Dt (f.ev s.e)=some (fid,[])∧cg P GL fid (q.ev s.e::Ar s.e args) rets∧s'=⟨CQ (q.clear s.e) d (Bj rets),s.h⟩
def BW (x:GI) (s s':St):Prop:=
 match x.g with
 |none=>KS P GL x.i s s'
 |some (t,want)=>match AF s.e t with
  | .v (.bool b)=>if b=want then KS P GL x.i s s' else s'=⟨CQ s.e x.i.dst (.tup []),s.h⟩
  | .tup []=>s'=⟨CQ s.e x.i.dst (.tup []),s.h⟩
  |_=>False
def MR:List GI→St→St→Prop
 |[],s,s'=>s'=s
 |x::rest,s,s'=>∃s1,BW P GL x s s1∧MR rest s1 s'
end
variable {n:Nat}
section
variable {P:Program} {GL:Ac}
def dO (d:Option Nat) (x:D):CH:=match d with|some d=>[(d,x)]|none=>[]
theorem Ej (e:CH) (d:Option Nat) (x:D):CQ e d x=dO d x++e:=by cases d<;>rfl
theorem Pw {d:Option Nat} {x:D} {p:Nat×D} (h:p∈dO d x):p.1∈d.toList:=by cases d<;>simp_all [dO]
theorem KR {i:AI} (h:KS P GL i s s'):∃δ h',s'=⟨δ++s.e,h'⟩∧Local (KS P GL i) i.rd i.wr i.kd s δ h':=by
 rcases h with h|⟨d,f,args,fid,caps,vs,rets,rfl,hf,hv,hp,rfl⟩|⟨d,f,args,rets,h',hi,hc,rfl⟩|⟨d,f,q,args,fid,rets,rfl,hf,hp,rfl⟩
 ·obtain⟨δ,h',hs,l⟩:=QX h;exact⟨δ,h',hs,l.wr,λe2 x=> .inl (l.here e2 x),λk=>⟨(l.n k).1,λe2 h2 x=> .inl ((l.n k).2 e2 h2 x)⟩,λk=>⟨(l.r k).1,λe2 h2 x=> .inl ((l.r k).2.1 e2 h2 x),λe2 h2 hq x=> .inl ((l.r k).2.2 e2 h2 hq x)⟩,l.a,l.t⟩
 ·refine⟨dO d (JG rets),s.h,by rw[Ej],.ofN (λp hp=>Pw hp) λe2 h2 hs=> .inr (.inl ⟨d,f,args,fid,caps,vs,rets,rfl,?_,?_,hp,by rw[Ej]⟩)⟩
  ·rw[Same.ev (x:=f) (Same.left hs)];exact hf
  ·rw[Same.toVs (xs:=args) (Same.right hs)];exact hv
 ·rcases hi with rfl|⟨rfl,ht⟩
  ·refine⟨dO d (Bj rets),h',by rw[Ej],λp hp=>Pw hp,λe2 hs=> .inr (.inr (.inl ⟨d,f,args,rets,h',.inl rfl,?_,by rw[Ej]⟩)),(λh=>by cases h),(λh=>by cases h),(λh=>by cases h),(λh=>by cases h)⟩;rw[Same.ev (x:=f) (Same.left hs),Same.argsOf (xs:=args) (Same.right hs)];exact hc
  ·refine⟨dO d (Bj rets),h',by rw[Ej],λp hp=>Pw hp,λe2 hs=> .inr (.inr (.inl ⟨d,f,args,rets,h',.inr ⟨rfl,ht⟩,?_,by rw[Ej]⟩)),(λh=>by cases h),(λh=>by cases h),(λ_=>ht),(λh=>by cases h)⟩;rw[Same.ev (x:=f) (Same.left hs),Same.argsOf (xs:=args) (Same.right hs)];exact hc
 ·refine⟨dO d (Bj rets)++q.clr s.e,s.h,by rw[Ej,Eu,qg],.ofN (λp hp=>?_) λe2 h2 hs=> .inr (.inr (.inr ⟨d,f,q,args,fid,rets,rfl,?_,?_,by rw[Ej,Eu,Same.clr (x:=q) (Same.left (Same.right hs)),qg]⟩))⟩
  ·rcases qW.1 hp with h|h
   ·exact tV _ (Pw h)
   ·exact tB _ (OI h)
  ·rw[Same.ev (x:=f) (Same.left hs)];exact hf
  ·rw[Same.ev (x:=q) (Same.left (Same.right hs)),Same.argsOf (xs:=args) (Same.right (Same.right hs))];exact hp
theorem Gr {x:GI} (h:BW P GL x s s'):∃δ h',s'=⟨δ++s.e,h'⟩∧Local (BW P GL x) x.rd x.wr x.i.kd s δ h':=by
 obtain⟨g,i⟩:=x;cases g with
 |none=>
  obtain⟨δ,h',hs,l⟩:=KR (i:=i) h;have hr:∀e2,Same s.e e2 (GI.rd ⟨none,i⟩)→Same s.e e2 i.rd:=λe2 hs=>by simpa[GI.rd]using hs
  exact⟨δ,h',hs,λp hp=>tB _ (l.wr p hp),λe2 x=>l.here e2 (hr e2 x),λk=>⟨(l.n k).1,λe2 h2 x=>(l.n k).2 e2 h2 (hr e2 x)⟩,λk=>⟨(l.r k).1,λe2 h2 x=>(l.r k).2.1 e2 h2 (hr e2 x),λe2 h2 hq x=>(l.r k).2.2 e2 h2 hq (hr e2 x)⟩,l.a,l.t⟩
 |some tw=>
  obtain⟨t,want⟩:=tw;have hr:∀ {e2},Same s.e e2 (GI.rd ⟨some (t,want),i⟩)→Same s.e e2 i.rd:=λhs=>Same.right hs;have ht:∀ {e2},Same s.e e2 (GI.rd ⟨some (t,want),i⟩)→AF e2 t=AF s.e t:=λhs=>hs t (by simp[GI.rd]);have skip:∀ {s':St},s'=⟨CQ s.e i.dst (.tup []),s.h⟩→(∀e2 h2,AF e2 t=AF s.e t→BW P GL ⟨some (t,want),i⟩ ⟨e2,h2⟩ ⟨CQ e2 i.dst (.tup []),h2⟩)→
    ∃δ h',s'=⟨δ++s.e,h'⟩∧Local (BW P GL ⟨some (t,want),i⟩) (GI.rd ⟨some (t,want),i⟩) (GI.wr ⟨some (t,want),i⟩) i.kd s δ h':=by
   rintro s' rfl hall;refine⟨dO i.dst (.tup []),s.h,by rw[Ej],.ofN (λp hp=>tV _ (Pw hp)) λe2 h2 hs=>?_⟩;have:=hall e2 h2 (ht hs);rw[Ej]at this;exact this
  simp only[BW]at h;split at h
  ·rename_i b hb;split at h
   ·rename_i hbw;obtain⟨δ,h',hs,l⟩:=KR (i:=i) h;have go:∀ {e2:CH} {h2:List Row} {s2:St},Same s.e e2 (GI.rd ⟨some (t,want),i⟩)→KS P GL i ⟨e2,h2⟩ s2→BW P GL ⟨some (t,want),i⟩ ⟨e2,h2⟩ s2:=by
     intro e2 h2 s2 hs hj;simp only[BW,ht hs,hb,hbw,if_true];exact hj
    exact⟨δ,h',hs,λp hp=>tB _ (l.wr p hp),λe2 x=>go x (l.here e2 (hr x)),λk=>⟨(l.n k).1,λe2 h2 x=>go x ((l.n k).2 e2 h2 (hr x))⟩,λk=>⟨(l.r k).1,λe2 h2 x=>go x ((l.r k).2.1 e2 h2 (hr x)),λe2 h2 hq x=>go x ((l.r k).2.2 e2 h2 hq (hr x))⟩,l.a,l.t⟩
   ·rename_i hbw;refine skip h λe2 h2 hf=>?_;simp only[BW,hf,hb,hbw,if_false]
  ·rename_i hb;refine skip h λe2 h2 hf=>?_;simp only[BW,hf,hb]
  ·exact h.elim
def EqS (s s':St):Prop:=(∀n,AF s.e n=AF s'.e n)∧s.h=s'.h
theorem EqS.refl (s:St):EqS s s:=⟨λ_=>rfl,rfl⟩
theorem EqS.trans {a b c:St} (h:EqS a b) (h':EqS b c):EqS a c:=⟨λn=>(h.1 n).trans (h'.1 n),h.2.trans h'.2⟩
theorem Jf {δ:CH} {e':CH} (h:∀n,AF e n=AF e' n) (n:Nat):AF (δ++e) n=AF (δ++e') n:=by
 induction δ with
 |nil=>exact h n
 |cons p δ ih=>simp only[rz,AF];split<;>first|rfl|exact ih
theorem Ey {δ:CH} (h:∀p∈δ,p.1≠n):AF (δ++e) n=AF e n:=by
 induction δ with
 |nil=>rfl
 |cons p δ ih=>
  simp only[rz,AF];rw[if_neg (h p (by simp)),ih λq hq=>h q (by simp[hq])]
theorem S6 {δ':CH} {p:Nat×D} (h:p.1≠n):AF (δ'++p::e) n=AF (δ'++e) n:=by
 induction δ' with
 |nil=>simp[AF,h]
 |cons q δ' ih=>simp only[rz,AF];split<;>first|rfl|exact ih
theorem S5 {δ δ':CH} (h:∀p∈δ,∀q∈δ',p.1≠q.1) (n:Nat):AF (δ++(δ'++e)) n=AF (δ'++(δ++e)) n:=by
 induction δ with
 |nil=>rfl
 |cons p δ ih=>
  have ih:=ih λq hq=>h q (by simp[hq]);simp only[rz,AF];by_cases hn:p.1=n
  ·rw[if_pos hn,Ey (δ:=δ') λq hq=>by rw[←hn];exact(h p (by simp) q hq).symm];simp[AF,hn]
  ·rw[if_neg hn,ih,S6 hn]
theorem Jr:∀ {l:List GI} {s s2 t:St},MR P GL l s t→EqS s s2→∃t2,MR P GL l s2 t2∧EqS t t2
 |[],s,s2,t,h,he=>by cases h;exact⟨s2,rfl,he⟩
 |x::l,s,s2,t,⟨s1,h1,h⟩,he=>by
  obtain⟨δ,h',rfl,loc⟩:=Gr h1;have h2:BW P GL x s2 ⟨δ++s2.e,h'⟩:=by
   have:=loc.here s2.e (λn _=>(he.1 n).symm);rw[he.2]at this;exact this
  obtain⟨t2,h3,h4⟩:=Jr (s2:=⟨δ++s2.e,h'⟩) h ⟨λn=>Jf he.1 n,rfl⟩;exact⟨t2,⟨_,h2,h3⟩,h4⟩
def Xa (a b:List Nat):Bool:=a.all λn=> !b.contains n
theorem KG {a b:List Nat} (h:Xa a b=true) (ha:n∈a) (hb:n∈b):False:=by
 have:=qV.1 h n ha;simp[hb]at this
def mN:Kd→Kd→Bool
 | .n,_=>true
 |_,.n=>true
 | .r,.r=>true
 | .r,.a=>true
 | .r,.t=>true
 | .t,.r=>true
 |_,_=>false
def Hq (y x:GI):Bool:=Xa y.wr x.rd&&Xa x.wr y.rd&&Xa y.wr x.wr&&mN y.i.kd x.i.kd
theorem YD {y x:GI} (hi:Hq y x=true) {s1 s2:St} (hy:BW P GL y s s1) (hx:BW P GL x s1 s2):∃s1' s2',BW P GL x s s1'∧BW P GL y s1' s2'∧EqS s2 s2':=by
 simp only[Hq,qI]at hi;obtain⟨⟨⟨d1,d2⟩,d3⟩,hk⟩:=hi;obtain⟨δy,hy',rfl,ly⟩:=Gr hy;obtain⟨δx,hx',rfl,lx⟩:=Gr hx;have sx:Same (δy++s.e) s.e x.rd:=λn hn=>(Ey λp hp hpn=>KG d1 (ly.wr p hp) (hpn▸hn)).symm;have sy:Same s.e (δx++s.e) y.rd:=λn hn=>Ey λp hp hpn=>KG d2 (lx.wr p hp) (hpn▸hn);have hend:∀n,AF (δx++(δy++s.e)) n=AF (δy++(δx++s.e)) n:=λn=>S5 (λp hp q hq h=>KG d3 (ly.wr q hq) (h▸lx.wr p hp)) n;cases hky:y.i.kd with
 |n=>
  obtain⟨rfl,hn⟩:=ly.n hky;exact⟨_,_,lx.here s.e sx,hn _ _ sy,hend,rfl⟩
 |r=>
  obtain⟨rfl,hr⟩:=ly.r hky;cases hkx:x.i.kd with
  |n=>
   obtain⟨rfl,hn⟩:=lx.n hkx;exact⟨_,_,hn _ _ sx,ly.here _ sy,hend,rfl⟩
  |r=>
   obtain⟨rfl,hn⟩:=lx.r hkx;have:=hn.1 s.e [] sx;simp only[sI]at this;exact⟨_,_,this,ly.here _ sy,hend,rfl⟩
  |a=>
   obtain⟨t,rfl⟩:=lx.a hkx;exact⟨_,_,lx.here s.e sx,hr.1 _ t sy,hend,rfl⟩
  |t=>exact⟨_,_,lx.here s.e sx,hr.2 _ _ (lx.t hkx) sy,hend,rfl⟩
  |w=>rw[hky,hkx]at hk;cases hk
 |a=>
  cases hkx:x.i.kd with
  |n=>
   obtain⟨rfl,hn⟩:=lx.n hkx;exact⟨_,_,hn _ s.h sx,ly.here _ sy,hend,rfl⟩
  |_=>rw[hky,hkx]at hk;cases hk
 |t=>
  cases hkx:x.i.kd with
  |n=>
   obtain⟨rfl,hn⟩:=lx.n hkx;exact⟨_,_,hn _ s.h sx,ly.here _ sy,hend,rfl⟩
  |r=>
   obtain⟨rfl,hn⟩:=lx.r hkx;exact⟨_,_,hn.2 _ s.h (ly.t hky).symm sx,ly.here _ sy,hend,rfl⟩
  |_=>rw[hky,hkx]at hk;cases hk
 |w=>
  cases hkx:x.i.kd with
  |n=>
   obtain⟨rfl,hn⟩:=lx.n hkx;exact⟨_,_,hn _ s.h sx,ly.here _ sy,hend,rfl⟩
  |_=>rw[hky,hkx]at hk;cases hk
theorem U9 {x:GI} {post:List GI}:∀ {pre:List GI} {s t:St},(∀y∈pre,Hq y x=true)→MR P GL (pre++x::post) s t→∃t',MR P GL (x::(pre++post)) s t'∧EqS t t'
 |[],s,t,_,h=>⟨t,h,EqS.refl t⟩
 |y::pre,s,t,hp,⟨s1,h1,h⟩=>by
  obtain⟨t',⟨s2,h2,h3⟩,he⟩:=U9 (λz hz=>hp z (by simp[hz])) h;obtain⟨s1',s2',h4,h5,he2⟩:=YD (hp y (by simp)) h1 h2;obtain⟨t'',h6,he3⟩:=Jr h3 he2;exact⟨t'',⟨s1',h4,s2',h5,h6⟩,he.trans he3⟩
end
end
section
inductive AT where
 |done
 |take (i:Nat) (t:AT)
 |pick (c:AT)
 |alt (i:Nat) (t rest:AT)
 |none
 deriving Inhabited
inductive AC where
 |skip
 |reg (ops:List GI) (keep:List Nat)
 |regD (ops:List GI) (keep:List Nat) (Ax:List (List Nat))
 |regA (ops:List GI) (keep:List Nat) (Ax:List (List Nat)) (t:AT)
 |regV (ops:List GI) (keep:List Nat) (Ax:List (List Nat))
 |seq (a b:AC)
 |cond (x:Opd) (a b:AC)
 |block (id:Nat) (c:AC)
 |loop (c:AC)
 |exit (id:Nat)
 |ret
 |rangeF (g:Opd) (ps:List Nat) (asg body:AC)
 |never
 deriving Inhabited
def AC.flat:AC→Bool
 | .rangeF _ _ _ _=>false
 | .seq a b=>a.flat&&b.flat
 | .cond _ a b=>a.flat&&b.flat
 | .block _ c=>c.flat
 | .loop c=>c.flat
 |_=>true
section
variable (P:Program) (GL:Ac)
def AT.ok (is:List GI):AT→(St→Prop)→St→Prop
 | .done,K,s=>K s
 | .take i t,K,s=>∃s1,BW P GL (is.getD i default) s s1∧t.ok is K s1
 | .pick c,K,s=>c.ok is K s
 | .alt i t r,K,s=>(∃s1,BW P GL (is.getD i default) s s1∧t.ok is K s1)∧r.ok is K s
 | .none,_,_=>True
def AnyJ (is:List GI) (Ax:List (List Nat)) (K:St→Prop):Nat→List Nat→St→Prop
 |0,_,s=>K s
 |n+1,rem,s=>∀i∈rem,(∀j∈(Ax[i]?).getD [],j∉rem)→∃s1,BW P GL (is.getD i default) s s1∧AnyJ is Ax K n (rem.erase i) s1
def Tf (is:List GI) (Ax:List (List Nat)) (K:St→Prop):Nat→List Nat→St→Prop
 |0,_,s=>K s
 |n+1,rem,s=>∀i∈rem,(∀j∈(Ax[i]?).getD [],j∉rem)→Iz P GL (is.getD i default) (λs1=>Tf is Ax K n (rem.erase i) s1) s
end
def bD (ops:Array Oper) (is:List GI) (Ax:List (List Nat)):Bool:=
 (List.range ops.size).all λi=>match ops[i]?,Ax[i]?,is[i]? with
  |some o,some cl,some x=>o.after.all (λe=> !Region.binds .any e||decide (e.on <i))&&
    cl.all (λj=>o.after.any λe=>Region.binds .any e&&(e.on==j||((Ax[e.on]?).getD []).contains j))&&
    (List.range i).all (λj=>cl.contains j||(match is[j]? with|some y=>Hq y x|none=>false))
  |_,_,_=>false
def TP (ops:Array Oper) (is:List GI) (Ax:List (List Nat)):Bool:=
 (List.range ops.size).all λi=>match ops[i]?,Ax[i]?,is[i]? with
  |some o,some cl,some _=>o.after.all (λe=> !Region.binds .any e||decide (e.on <i))&&
    cl.all (λj=>o.after.any λe=>Region.binds .any e&&(e.on==j||((Ax[e.on]?).getD []).contains j))
  |_,_,_=>false
def Wc (Ax:List (List Nat)) (rem:List Nat) (i:Nat):Bool:=rem.contains i&&((Ax[i]?).getD []).all λj=> !rem.contains j
def AT.heads:AT→List Nat
 | .alt i _ r=>i::r.heads
 |_=>[]
def AT.good:AT→Bool
 | .alt _ _ _=>false
 | .none=>false
 |_=>true
def AT.chk (is:List GI) (Ax:List (List Nat)):AT→List Nat→Bool
 | .done,rem=>rem.isEmpty
 | .take i t,rem=>Wc Ax rem i&&t.good&&rem.all (λj=>j==i||((Ax[j]?).getD []).contains i||Hq (is.getD i default) (is.getD j default))&&t.chk is Ax (rem.erase i)
 | .pick c,rem=> !rem.isEmpty&&rem.all (λj=> !Wc Ax rem j||c.heads.contains j)&&c.chk is Ax rem
 | .alt i t r,rem=>Wc Ax rem i&&t.good&&t.chk is Ax (rem.erase i)&&r.chk is Ax rem
 | .none,_=>true
def Dj (P:Program) (GL:Ac) (N:Nat):Code→AC→Bool
 |_,.never=>true
 | .skip,.skip=>true
 | .region _ ops false,.reg is _=>Ap (IZ P GL N ops) (List.range ops.size) is
 | .region _ ops true,.regD is _ Ax=>Ap (IZ P GL N ops) (List.range ops.size) is&&bD ops is Ax&&P.follows .mixedOrders
 | .region _ ops true,.regA is _ Ax t=>Ap (IZ P GL N ops) (List.range ops.size) is&&TP ops is Ax&&t.chk is Ax (List.range ops.size)&&t.good&&P.follows .mixedOrders
 | .region _ ops true,.regV is _ Ax=>Ap (IZ P GL N ops) (List.range ops.size) is&&TP ops is Ax&&P.follows .mixedOrders
 | .seq a b,.seq a' b'=>Dj P GL N a a'&&Dj P GL N b b'
 | .cond x a b,.cond x' a' b'=>oe GL x x'&&Dj P GL N a a'&&Dj P GL N b b'
 | .block id c,.block id' c'=>id==id'&&Dj P GL N c c'
 | .loop c,.loop c'=>Dj P GL N c c'
 | .exit id,.exit id'=>id==id'
 | .ret,.ret=>true
 | .rangeFunc g ps asg body,.rangeF g' ps' asg' body'=>oe GL g g'&&ps.toList==ps'&&ps'.all (λp=>decide (p <N))&&asg'.flat&&body'.flat&&Dj P GL N asg asg'&&Dj P GL N body body'
 |_,_=>false
def L3 (e:CH):CH:=e.map λp=>(p.1,p.2.copy)
def ZE:Tag→Loop→Prop
 | .ready,l=>l.state= .ready∧l.pending=none
 | .busy,l=>l.state= .busy
 | .done none,l=>l.state≠ .busy∧l.pending=some .ret
 | .done (some i),l=>l.state≠ .busy∧l.pending=some (.exit i)
def LoopP (P:Program) (GL:Ac) (tag:Tag) (e:CH) (ps:List Nat) (asg body:AC) (g:Gh) (μ:List Nat) (o:Obj):Prop:=
 ∃(l:Loop) (N:Nat),o= .loop l∧l.params=ps.toArray∧l.tmps.size=N∧(∀n w,RepD g w μ (AF e n) (l.tmps.getD n undef)∧∀k,Ak (AF e n) (l.tmps.getD n undef) k=none)∧
  Dj P GL N l.assign asg=true∧Dj P GL N l.body body=true∧asg.flat=true∧body.flat=true∧(∀p∈ps,p <N)∧ZE tag l
variable {e:CH}
theorem LoopP.mono {P:Program} {GL:Ac} {tag:Tag} {ps:List Nat} {asg body:AC} (g g':Gh) (μ μ':List Nat) (o:Obj) (hl:g.le g') (hμ:μ <+: μ')
  (h:LoopP P GL tag e ps asg body g μ o):LoopP P GL tag e ps asg body g' μ' o:=by
 obtain⟨l,N,h1,h2,h3,h4,h5⟩:=h;refine⟨l,N,h1,h2,h3,λn w=>⟨?_,(h4 n w).2⟩,h5⟩;exact(h4 n w).1.chg (M:=λ_=>True) ⟨hl,qM _,λ_ _ h=>absurd trivial h,λ_ _ h=>absurd trivial h,rfl,rfl⟩ hμ λk b hb=>by rw[(h4 n w).2 k]at hb;cases hb
def BF (P:Program) (GL:Ac) (tag:Tag) (e:CH) (ps:List Nat) (asg body:AC):Row:= .obj tag (LoopP P GL tag e ps asg body) LoopP.mono
def EE (Q:AExit→St→Prop) (s:St):Tag→Prop
 | .ready=>Q .normal s
 | .busy=>False
 | .done none=>Q .ret s
 | .done (some i)=>Q (.exit i) s
section
variable (P:Program) (GL:Ac)
def awp:AC→(AExit→St→Prop)→St→Prop
 | .skip,Q,s=>Q .normal s
 | .reg ops keep,Q,s=>Bd P GL ops (λs'=>Q .normal ⟨Bm s'.e keep,s'.h⟩) s
 | .regD ops keep _,Q,s=>∃s',MR P GL ops s s'∧Q .normal ⟨Bm s'.e keep,s'.h⟩
 | .regA ops keep _ t,Q,s=>t.ok P GL ops (λs'=>∃s2,RJ s.h.length s' s2∧Q .normal ⟨Bm s2.e keep,s2.h⟩) s
 | .regV ops keep cl,Q,s=>Tf P GL ops cl (λs'=>Q .normal ⟨Bm s'.e keep,s'.h⟩) ops.length (List.range ops.length) s
 | .seq a b,Q,s=>awp a (λe s'=>match e with| .normal=>awp b Q s'|e=>Q e s') s
 | .cond x a b,Q,s=>match x.ev s.e with
  | .v (.bool t)=>if t then awp a Q s else awp b Q s
  |_=>False
 | .block id c,Q,s=>awp c (λe s'=>match e with| .exit id'=>if id'=id then Q .normal s' else Q (.exit id') s'|e=>Q e s') s
 | .loop c,Q,s=>∃I:Nat→St→Prop,(∃m,I m s)∧∀m s,I m s→awp c (λe s'=>match e with| .normal=>∃m',m' <m∧I m' s'|e=>Q e s') s
 | .never,_,_=>False
 | .exit id,Q,s=>Q (.exit id) s
 | .ret,Q,s=>Q .ret s
 | .rangeF q ps asg body,Q,s=>∃fid caps rets h' tag,Dt (q.ev s.e)=some (fid,caps)∧
   FSp P GL fid (.yld s.h.length::caps) (s.h++[BF P GL .ready (L3 s.e) ps asg body]) rets h'∧h'[s.h.length]?=some (BF P GL tag (L3 s.e) ps asg body)∧
   EE Q ⟨s.e,h'.set s.h.length .dead⟩ tag
end
variable {s:St} {K:St→Prop} {ops:Array Oper} {i n:Nat} {O:Nat→Prop} {a:Act} {μ:List Nat} {w:World} {g:Gh}
section
variable {P:Program} {GL:Ac} {N:Nat} {r:Option Nat}
theorem Hj {e e':CH} (h:∀n,AF e n=AF e' n):∀ns,Bm e ns=Bm e' ns
 |[]=>rfl
 |n::ns=>by simp only[Bm,h n,Hj h ns]
theorem LJ {i:AI} {s1:St} (h:KS P GL i s s1):Dg P GL i (λx=>x=s1) s:=by
 rcases h with h|⟨d,f,args,fid,caps,vs,rets,rfl,hf,hv,hp,rfl⟩|⟨d,f,args,rets,h',hi,hc,rfl⟩|⟨d,f,q,args,fid,rets,rfl,hf,hp,rfl⟩
 ·unfold Dg;split
  ·cases h
  ·cases h
  ·cases h
  ·cases h
  ·cases h
  ·cases h
  ·cases h
  ·cases h
  ·cases h
  ·rw[h]
 ·have hny:∀r,f.ev s.e≠ .yld r:=λr hr=>by rw[hr]at hf;simp[D.toV,D.v?]at hf
  have hnm:∀g fs,f.ev s.e≠ .meth g fs:=λg fs hr=>by rw[hr]at hf;simp[D.toV,D.v?]at hf
  simp only[Dg,BZ,XO hf];refine⟨rets.map .v,s.h,?_,by rw[Jt]⟩;rw[NV hv,←qh];exact hp.fsp s.h
 ·have e0:Dg P GL i=BZ P GL d f args:=by rcases hi with rfl|⟨rfl,_⟩<;>rfl
  rw[e0];simp only[BZ];unfold GV at hc;split at hc
  ·rename_i r hf;obtain⟨b,hy,rfl⟩:=hc
   first|(rw[hf];exact⟨b,h',hy,rfl⟩)|exact⟨b,h',hy,rfl⟩
  ·rename_i fid fs hf
   first|(rw[hf];exact⟨rets,h',hc,rfl⟩)|exact⟨rets,h',hc,rfl⟩
  ·rename_i h1 h2;obtain⟨fid,caps,hf,hs⟩:=hc
   first
    |(simp only[hf];exact⟨rets,h',hs,rfl⟩)
    |(split
      ·rename_i r hr;exact absurd hr (h1 r)
      ·rename_i a b hr;exact absurd hr (h2 a b)
      ·simp only[hf];exact⟨rets,h',hs,rfl⟩)
 ·exact⟨fid,rets,hf,hp,rfl⟩
theorem KZ {x:GI} {s1:St} (h:BW P GL x s s1):Iz P GL x (λx=>x=s1) s:=by
 unfold BW at h;unfold Iz;split
 ·rename_i hx;rw[hx]at h;exact LJ h
 ·rename_i t want hx;rw[hx]at h;simp only at h;split
  ·rename_i b hb;rw[hb]at h;simp only at h;split
   ·rename_i hw;rw[if_pos hw]at h;exact LJ h
   ·rename_i hw;rw[if_neg hw]at h;exact h.symm
  ·rename_i hb;rw[hb]at h;exact h.symm
  ·rename_i h1 h2;split at h
   ·rename_i b hb;exact h1 b hb
   ·rename_i hb;exact h2 hb
   ·exact h
theorem Tc {is:List GI} {Ax:List (List Nat)} (hk:∀(i:Nat) x,is[i]?=some x→IZ P GL N ops i x=true) (hlen:is.length=ops.size) (hd:bD ops is Ax=true)
 (hK:∀s1 s2,EqS s1 s2→K s1→K s2) {Q:Exit→Act→World→Prop}:∀(fuel:Nat) (rem:List Nat) (listed:Array Bool) {g:Gh} {w:World} {μ:List Nat} {s:St} {a:Act} {O:Nat→Prop},
  rem.length=fuel→rem.Pairwise (· <·)→(∀i,i∈rem↔i <ops.size∧listed.getD i true=false)→listed.size=ops.size→
  (∀i cl,listed.getD i false=true→Ax[i]?=some cl→∀j∈cl,listed.getD j false=true)→
  Gs GL N g w μ s a O→(∃t,MR P GL (rem.map λi=>is.getD i default) s t∧K t)→(∀a' w',After GL N K g w μ a O a' w'→Q .normal a' w')→
  wpAnyIn (WF r) 0 P .any ops Q fuel listed a w:=by
 have hspec:∀i,i <ops.size→∃o cl x,ops[i]?=some o∧Ax[i]?=some cl∧is[i]?=some x∧(∀e∈o.after,Region.binds .any e=true→e.on <i)∧
   (∀j∈cl,∃e∈o.after,Region.binds .any e=true∧(e.on=j∨∃cl',Ax[e.on]?=some cl'∧j∈cl'))∧(∀j,j <i→j∈cl∨∃y,is[j]?=some y∧Hq y x=true):=by
  intro i hi;have h:=qV.1 hd i (qj.2 hi);split at h
  ·rename_i o cl x ho hcl hx;simp only[qI]at h;obtain⟨⟨h1,h2⟩,h3⟩:=h;refine⟨o,cl,x,ho,hcl,hx,λe he hb=>?_,λj hj=>?_,λj hj=>?_⟩
   ·rw[Array.all_eq_true']at h1;have:=h1 e he;simpa[hb]using this
   ·have h4:=qV.1 h2 j hj;rw[Array.any_eq_true']at h4;obtain⟨e,he,h5⟩:=h4;simp only[qI,sZ,beq_iff_eq]at h5;refine⟨e,he,h5.1,?_⟩;rcases h5.2 with h6|h6
    ·exact .inl h6
    ·cases hc:Ax[e.on]? with
     |none=>simp[hc]at h6
     |some cl'=>exact .inr ⟨cl',rfl,by simpa[hc]using h6⟩
   ·have h4:=qV.1 h3 j (qj.2 hj);simp only[sZ]at h4;rcases h4 with h5|h5
    ·exact .inl (by simpa using h5)
    ·split at h5
     ·rename_i y hy;exact .inr ⟨y,hy,h5⟩
     ·cases h5
  ·cases h
 intro fuel;induction fuel with
 |zero=>
  intro rem listed g w μ s a O hl _ hmem _ _ hg h hq;have:rem=[]:=rU hl;subst this;obtain⟨t,rfl,hKt⟩:=h;refine⟨?_,hq a w ⟨_,g,μ,hKt,hg,Chg.refl _ _ _,qP _,rfl⟩⟩;rw[uF];intro i hi;rw[mem_ready]at hi;obtain⟨h1,o,ho,_⟩:=hi;have:=(hmem i).2 ⟨(sY.1 ho).1,h1⟩;simp at this
 |succ fuel ih=>
  intro rem listed g w μ s a O hl hsort hmem hsz hcl hg h hq;refine⟨λhnil=>?_,λi hi=>?_⟩
  ·exfalso;cases rem with
   |nil=>simp at hl
   |cons i0 rem'=>
    obtain⟨hi0,hun⟩:=(hmem i0).1 (by simp);obtain⟨o,cl,x,ho,_,_,he,_⟩:=hspec i0 hi0;have:i0∈Region.ready .any ops listed:=by
     rw[mem_ready];refine⟨hun,o,ho,λe hee hb=>?_⟩;have hlt:=he e hee hb;have hns:e.on <listed.size:=by omega
     cases hv:listed.getD e.on true with
     |true=>simp[hns]at hv ⊢;exact hv
     |false=>
      have h1:=(hmem e.on).2 ⟨by omega,hv⟩;rcases qL.1 h1 with h2|h2
      ·omega
      ·have:=tC hsort h2;omega
    rw[hnil]at this;simp at this
  ·have hi':=mem_ready.1 hi;obtain⟨hun,o',ho',hedge⟩:=hi';have hin:i <ops.size:=(sY.1 ho').1;have him:=(hmem i).2 ⟨hin,hun⟩;obtain⟨pre,post,rfl⟩:=List.append_of_mem him;obtain⟨o,cl,x,ho,hcli,hx,_,hcl2,hind⟩:=hspec i hin;rw[ho']at ho;cases ho;have hclist:∀j∈cl,listed.getD j false=true:=by
    intro j hj;obtain⟨e,he,hb,h6⟩:=hcl2 j hj;have h7:=hedge e he hb;rcases h6 with rfl|⟨cl',hc',hj'⟩
    ·exact h7
    ·exact hcl e.on cl' h7 hc' j hj'
   have hxd:is.getD i default=x:=by simp[List.getD,hx]
   obtain⟨t,hrun,hKt⟩:=h;rw[qh,qR,hxd]at hrun;have hpre:∀y∈pre.map (λi=>is.getD i default),Hq y x=true:=by
    intro y hy;obtain⟨j,hj,rfl⟩:=qX.1 hy;have hji:j <i:=(sJ.1 hsort).2.2 j hj i (by simp);obtain⟨hjn,hjun⟩:=(hmem j).1 (by simp[hj]);rcases hind j hji with h1|⟨y',hy',h2⟩
    ·have:=hclist j h1;have hns:j <listed.size:=by omega
     simp[hns]at this hjun;rw[hjun]at this;cases this
    ·simpa[List.getD,hy']using h2
   obtain⟨t',⟨s1,hs1,hrun'⟩,he⟩:=U9 hpre hrun;refine G3 (hk i x hx) hg (KZ hs1) ?_;rintro s' g' w' μ' a' rfl hgs hch hμ hdf;refine ih (pre++post) _ ?_ ?_ ?_ (by simp[hsz]) ?_ hgs ⟨t',by rw[qh];exact hrun',hK _ _ he hKt⟩ λa2 w2 h2=>hq a2 w2 (h2.trans hch hμ hdf)
   ·simp at hl ⊢;omega
   ·exact hsort.sublist (uG (uH i post) pre)
   ·intro j;have hnd:i∉pre++post:=by
     intro hm;rcases qW.1 hm with hm|hm
     ·have:=(sJ.1 hsort).2.2 i hm i (by simp);omega
     ·have:=tC (sJ.1 hsort).2.1 hm;omega
    by_cases hji:j=i
    ·subst hji;refine⟨λhm=>absurd hm hnd,λhm=>?_⟩;have h2:=hm.2;have hns:j <listed.size:=by omega
     simp[hns]at h2
    ·have hsame:(listed.setIfInBounds i true).getD j true=listed.getD j true:=by
      simp[qf,rH,Ne.symm hji]
     rw[hsame];have:=hmem j;simp only[qW,qL,hji,false_or]at this ⊢;exact this
   ·intro k cl' hk' hc' j hj;by_cases hki:k=i
    ·subst hki;rw[hcli]at hc';cases hc';have:=hclist j hj;by_cases hjk:j=k
     ·subst hjk;have hns:j <listed.size:=by omega
      simp[qf,rH,hns]
     ·rw[qf,rH,if_neg (Ne.symm hjk),←qf];exact this
    ·rw[qf,rH,if_neg (Ne.symm hki),←qf]at hk';have:=hcl k cl' hk' hc' j hj;by_cases hji:j=i
     ·subst hji;have hns:j <listed.size:=by omega
      simp[qf,rH,hns]
     ·rw[qf,rH,if_neg (Ne.symm hji),←qf];exact this
theorem RG {is:List GI} {Ax:List (List Nat)} (hk:∀(i:Nat) x,is[i]?=some x→IZ P GL N ops i x=true) (hlen:is.length=ops.size) (hd:TP ops is Ax=true)
 {Q:Exit→Act→World→Prop}:∀(fuel:Nat) (rem:List Nat) (listed:Array Bool) {g:Gh} {w:World} {μ:List Nat} {s:St} {a:Act} {O:Nat→Prop},
  rem.length=fuel→rem.Pairwise (· <·)→(∀i,i∈rem↔i <ops.size∧listed.getD i true=false)→listed.size=ops.size→
  (∀i cl,listed.getD i false=true→Ax[i]?=some cl→∀j∈cl,listed.getD j false=true)→
  Gs GL N g w μ s a O→AnyJ P GL is Ax K fuel rem s→(∀a' w',After GL N K g w μ a O a' w'→Q .normal a' w')→
  wpAnyIn (WF r) 0 P .any ops Q fuel listed a w:=by
 have hspec:∀i,i <ops.size→∃o cl x,ops[i]?=some o∧Ax[i]?=some cl∧is[i]?=some x∧(∀e∈o.after,Region.binds .any e=true→e.on <i)∧
   (∀j∈cl,∃e∈o.after,Region.binds .any e=true∧(e.on=j∨∃cl',Ax[e.on]?=some cl'∧j∈cl')):=by
  intro i hi;have h:=qV.1 hd i (qj.2 hi);split at h
  ·rename_i o cl x ho hcl hx;simp only[qI]at h;obtain⟨h1,h2⟩:=h;refine⟨o,cl,x,ho,hcl,hx,λe he hb=>?_,λj hj=>?_⟩
   ·rw[Array.all_eq_true']at h1;have:=h1 e he;simpa[hb]using this
   ·have h4:=qV.1 h2 j hj;rw[Array.any_eq_true']at h4;obtain⟨e,he,h5⟩:=h4;simp only[qI,sZ,beq_iff_eq]at h5;refine⟨e,he,h5.1,?_⟩;rcases h5.2 with h6|h6
    ·exact .inl h6
    ·cases hc:Ax[e.on]? with
     |none=>simp[hc]at h6
     |some cl'=>exact .inr ⟨cl',rfl,by simpa[hc]using h6⟩
  ·cases h
 intro fuel;induction fuel with
 |zero=>
  intro rem listed g w μ s a O hl _ hmem _ _ hg h hq;have:rem=[]:=rU hl;subst this;refine⟨?_,hq a w ⟨_,g,μ,h,hg,Chg.refl _ _ _,qP _,rfl⟩⟩;rw[uF];intro i hi;rw[mem_ready]at hi;obtain⟨h1,o,ho,_⟩:=hi;have:=(hmem i).2 ⟨(sY.1 ho).1,h1⟩;simp at this
 |succ fuel ih=>
  intro rem listed g w μ s a O hl hsort hmem hsz hcl hg h hq;refine⟨λhnil=>?_,λi hi=>?_⟩
  ·exfalso;cases rem with
   |nil=>simp at hl
   |cons i0 rem'=>
    obtain⟨hi0,hun⟩:=(hmem i0).1 (by simp);obtain⟨o,cl,x,ho,_,_,he,_⟩:=hspec i0 hi0;have:i0∈Region.ready .any ops listed:=by
     rw[mem_ready];refine⟨hun,o,ho,λe hee hb=>?_⟩;have hlt:=he e hee hb;have hns:e.on <listed.size:=by omega
     cases hv:listed.getD e.on true with
     |true=>simp[hns]at hv ⊢;exact hv
     |false=>
      have h1:=(hmem e.on).2 ⟨by omega,hv⟩;rcases qL.1 h1 with h2|h2
      ·omega
      ·have:=tC hsort h2;omega
    rw[hnil]at this;simp at this
  ·have hi':=mem_ready.1 hi;obtain⟨hun,o',ho',hedge⟩:=hi';have hin:i <ops.size:=(sY.1 ho').1;have him:=(hmem i).2 ⟨hin,hun⟩;obtain⟨pre,post,rfl⟩:=List.append_of_mem him;obtain⟨o,cl,x,ho,hcli,hx,_,hcl2⟩:=hspec i hin;rw[ho']at ho;cases ho;have hclist:∀j∈cl,listed.getD j false=true:=by
    intro j hj;obtain⟨e,he,hb,h6⟩:=hcl2 j hj;have h7:=hedge e he hb;rcases h6 with rfl|⟨cl',hc',hj'⟩
    ·exact h7
    ·exact hcl e.on cl' h7 hc' j hj'
   have hxd:is.getD i default=x:=by simp[List.getD,hx]
   have hcg:(Ax[i]?).getD []=cl:=by rw[hcli];rfl
   obtain⟨s1,hs1,hrun'⟩:=h i him (λj hj hjm=>by
    rw[hcg]at hj;have h1:=hclist j hj;obtain⟨hjn,hjun⟩:=(hmem j).1 hjm;have hns:j <listed.size:=by omega
    simp[hns]at h1 hjun;rw[hjun]at h1;cases h1)
   rw[hxd]at hs1;have herase:(pre++i::post).erase i=pre++post:=by
    have hnp:i∉pre:=λhm=>by have:=(sJ.1 hsort).2.2 i hm i (by simp);omega
    rw[List.erase_append_right _ hnp];simp
   rw[herase]at hrun';refine G3 (hk i x hx) hg (KZ hs1) ?_;rintro s' g' w' μ' a' rfl hgs hch hμ hdf;refine ih (pre++post) _ ?_ ?_ ?_ (by simp[hsz]) ?_ hgs hrun' λa2 w2 h2=>hq a2 w2 (h2.trans hch hμ hdf)
   ·simp at hl ⊢;omega
   ·exact hsort.sublist (uG (uH i post) pre)
   ·intro j;have hnd:i∉pre++post:=by
     intro hm;rcases qW.1 hm with hm|hm
     ·have:=(sJ.1 hsort).2.2 i hm i (by simp);omega
     ·have:=tC (sJ.1 hsort).2.1 hm;omega
    by_cases hji:j=i
    ·subst hji;refine⟨λhm=>absurd hm hnd,λhm=>?_⟩;have h2:=hm.2;have hns:j <listed.size:=by omega
     simp[hns]at h2
    ·have hsame:(listed.setIfInBounds i true).getD j true=listed.getD j true:=by
      simp[qf,rH,Ne.symm hji]
     rw[hsame];have:=hmem j;simp only[qW,qL,hji,false_or]at this ⊢;exact this
   ·intro k cl' hk' hc' j hj;by_cases hki:k=i
    ·subst hki;rw[hcli]at hc';cases hc';have:=hclist j hj;by_cases hjk:j=k
     ·subst hjk;have hns:j <listed.size:=by omega
      simp[qf,rH,hns]
     ·rw[qf,rH,if_neg (Ne.symm hjk),←qf];exact this
    ·rw[qf,rH,if_neg (Ne.symm hki),←qf]at hk';have:=hcl k cl' hk' hc' j hj;by_cases hji:j=i
     ·subst hji;have hns:j <listed.size:=by omega
      simp[qf,rH,hns]
     ·rw[qf,rH,if_neg (Ne.symm hji),←qf];exact this
theorem RH {is:List GI} {Ax:List (List Nat)} (hk:∀(i:Nat) x,is[i]?=some x→IZ P GL N ops i x=true) (hlen:is.length=ops.size) (hd:TP ops is Ax=true)
 {Q:Exit→Act→World→Prop}:∀(fuel:Nat) (rem:List Nat) (listed:Array Bool) {g:Gh} {w:World} {μ:List Nat} {s:St} {a:Act} {O:Nat→Prop},
  rem.length=fuel→rem.Pairwise (· <·)→(∀i,i∈rem↔i <ops.size∧listed.getD i true=false)→listed.size=ops.size→
  (∀i cl,listed.getD i false=true→Ax[i]?=some cl→∀j∈cl,listed.getD j false=true)→
  Gs GL N g w μ s a O→Tf P GL is Ax K fuel rem s→(∀a' w',After GL N K g w μ a O a' w'→Q .normal a' w')→
  wpAnyIn (WF r) 0 P .any ops Q fuel listed a w:=by
 have hspec:∀i,i <ops.size→∃o cl x,ops[i]?=some o∧Ax[i]?=some cl∧is[i]?=some x∧(∀e∈o.after,Region.binds .any e=true→e.on <i)∧
   (∀j∈cl,∃e∈o.after,Region.binds .any e=true∧(e.on=j∨∃cl',Ax[e.on]?=some cl'∧j∈cl')):=by
  intro i hi;have h:=qV.1 hd i (qj.2 hi);split at h
  ·rename_i o cl x ho hcl hx;simp only[qI]at h;obtain⟨h1,h2⟩:=h;refine⟨o,cl,x,ho,hcl,hx,λe he hb=>?_,λj hj=>?_⟩
   ·rw[Array.all_eq_true']at h1;have:=h1 e he;simpa[hb]using this
   ·have h4:=qV.1 h2 j hj;rw[Array.any_eq_true']at h4;obtain⟨e,he,h5⟩:=h4;simp only[qI,sZ,beq_iff_eq]at h5;refine⟨e,he,h5.1,?_⟩;rcases h5.2 with h6|h6
    ·exact .inl h6
    ·cases hc:Ax[e.on]? with
     |none=>simp[hc]at h6
     |some cl'=>exact .inr ⟨cl',rfl,by simpa[hc]using h6⟩
  ·cases h
 intro fuel;induction fuel with
 |zero=>
  intro rem listed g w μ s a O hl _ hmem _ _ hg h hq;have:rem=[]:=rU hl;subst this;refine⟨?_,hq a w ⟨_,g,μ,h,hg,Chg.refl _ _ _,qP _,rfl⟩⟩;rw[uF];intro i hi;rw[mem_ready]at hi;obtain⟨h1,o,ho,_⟩:=hi;have:=(hmem i).2 ⟨(sY.1 ho).1,h1⟩;simp at this
 |succ fuel ih=>
  intro rem listed g w μ s a O hl hsort hmem hsz hcl hg h hq;refine⟨λhnil=>?_,λi hi=>?_⟩
  ·exfalso;cases rem with
   |nil=>simp at hl
   |cons i0 rem'=>
    obtain⟨hi0,hun⟩:=(hmem i0).1 (by simp);obtain⟨o,cl,x,ho,_,_,he,_⟩:=hspec i0 hi0;have:i0∈Region.ready .any ops listed:=by
     rw[mem_ready];refine⟨hun,o,ho,λe hee hb=>?_⟩;have hlt:=he e hee hb;have hns:e.on <listed.size:=by omega
     cases hv:listed.getD e.on true with
     |true=>simp[hns]at hv ⊢;exact hv
     |false=>
      have h1:=(hmem e.on).2 ⟨by omega,hv⟩;rcases qL.1 h1 with h2|h2
      ·omega
      ·have:=tC hsort h2;omega
    rw[hnil]at this;simp at this
  ·have hi':=mem_ready.1 hi;obtain⟨hun,o',ho',hedge⟩:=hi';have hin:i <ops.size:=(sY.1 ho').1;have him:=(hmem i).2 ⟨hin,hun⟩;obtain⟨pre,post,rfl⟩:=List.append_of_mem him;obtain⟨o,cl,x,ho,hcli,hx,_,hcl2⟩:=hspec i hin;rw[ho']at ho;cases ho;have hclist:∀j∈cl,listed.getD j false=true:=by
    intro j hj;obtain⟨e,he,hb,h6⟩:=hcl2 j hj;have h7:=hedge e he hb;rcases h6 with rfl|⟨cl',hc',hj'⟩
    ·exact h7
    ·exact hcl e.on cl' h7 hc' j hj'
   have hxd:is.getD i default=x:=by simp[List.getD,hx]
   have hcg:(Ax[i]?).getD []=cl:=by rw[hcli];rfl
   have hs1:=h i him (λj hj hjm=>by
    rw[hcg]at hj;have h1:=hclist j hj;obtain⟨hjn,hjun⟩:=(hmem j).1 hjm;have hns:j <listed.size:=by omega
    simp[hns]at h1 hjun;rw[hjun]at h1;cases h1)
   rw[hxd]at hs1;have herase:(pre++i::post).erase i=pre++post:=by
    have hnp:i∉pre:=λhm=>by have:=(sJ.1 hsort).2.2 i hm i (by simp);omega
    rw[List.erase_append_right _ hnp];simp
   rw[herase]at hs1;refine G3 (hk i x hx) hg hs1 ?_;rintro s' g' w' μ' a' hrun' hgs hch hμ hdf;refine ih (pre++post) _ ?_ ?_ ?_ (by simp[hsz]) ?_ hgs hrun' λa2 w2 h2=>hq a2 w2 (h2.trans hch hμ hdf)
   ·simp at hl ⊢;omega
   ·exact hsort.sublist (uG (uH i post) pre)
   ·intro j;have hnd:i∉pre++post:=by
     intro hm;rcases qW.1 hm with hm|hm
     ·have:=(sJ.1 hsort).2.2 i hm i (by simp);omega
     ·have:=tC (sJ.1 hsort).2.1 hm;omega
    by_cases hji:j=i
    ·subst hji;refine⟨λhm=>absurd hm hnd,λhm=>?_⟩;have h2:=hm.2;have hns:j <listed.size:=by omega
     simp[hns]at h2
    ·have hsame:(listed.setIfInBounds i true).getD j true=listed.getD j true:=by
      simp[qf,rH,Ne.symm hji]
     rw[hsame];have:=hmem j;simp only[qW,qL,hji,false_or]at this ⊢;exact this
   ·intro k cl' hk' hc' j hj;by_cases hki:k=i
    ·subst hki;rw[hcli]at hc';cases hc';have:=hclist j hj;by_cases hjk:j=k
     ·subst hjk;have hns:j <listed.size:=by omega
      simp[qf,rH,hns]
     ·rw[qf,rH,if_neg (Ne.symm hjk),←qf];exact this
    ·rw[qf,rH,if_neg (Ne.symm hki),←qf]at hk';have:=hcl k cl' hk' hc' j hj;by_cases hji:j=i
     ·subst hji;have hns:j <listed.size:=by omega
      simp[qf,rH,hns]
     ·rw[qf,rH,if_neg (Ne.symm hji),←qf];exact this
theorem AnyJ.congr {is:List GI} {Ax:List (List Nat)} {K:St→Prop} (hK:∀s1 s2,EqS s1 s2→K s1→K s2):∀(n:Nat) (rem:List Nat) {s s2:St},EqS s s2→AnyJ P GL is Ax K n rem s→AnyJ P GL is Ax K n rem s2
 |0,_,_,_,he,h=>hK _ _ he h
 |n+1,rem,s,s2,he,h=>by
  intro i hi hr;obtain⟨s1,h1,h2⟩:=h i hi hr;obtain⟨t2,⟨x,h3,h4⟩,h5⟩:=Jr (l:=[is.getD i default]) (t:=s1) ⟨s1,h1,rfl⟩ he;cases h4;exact⟨t2,h3,AnyJ.congr hK n _ h5 h2⟩
theorem AnyJ.take {is:List GI} {Ax:List (List Nat)} (hK:∀s1 s2,EqS s1 s2→K s1→K s2):∀(n:Nat) (rem:List Nat) {s s1:St},rem.length=n+1→rem.Nodup→i∈rem→
  (∀j∈rem,j=i∨i∈(Ax[j]?).getD []∨Hq (is.getD i default) (is.getD j default)=true)→BW P GL (is.getD i default) s s1→AnyJ P GL is Ax K n (rem.erase i) s1→(∀j∈(Ax[i]?).getD [],j∉rem)→AnyJ P GL is Ax K (n+1) rem s:=by
 intro n;induction n with
 |zero=>
  intro rem s s1 hl hnd hi _ h1 h2 _ j hj hr;have:rem=[i]:=by
   match rem,hl with
   |[x],_=>simp at hi;rw[hi]
  subst this;simp at hj;subst hj;exact⟨s1,h1,h2⟩
 |succ n ih=>
  intro rem s s1 hl hnd hi hind h1 h2 hri j hj hr;by_cases hji:j=i
  ·subst hji;exact⟨s1,h1,h2⟩
  ·have hje:j∈rem.erase i:=(uI hji).2 hj;obtain⟨s2,h3,h4⟩:=h2 j hje λk hk hkm=>hr k hk (tW hkm);have hin:Hq (is.getD i default) (is.getD j default)=true:=by
    rcases hind j hj with h|h|h
    ·exact absurd h hji
    ·exact absurd hi (hr i h)
    ·exact h
   obtain⟨s1',s2',h5,h6,he⟩:=YD hin h1 h3;refine⟨s1',h5,ih (rem.erase j) (by rw[uJ hj];omega) (hnd.erase _) ((uI (Ne.symm hji)).2 hi) (λk hk=>hind k (tW hk)) h6 ?_ λk hk hkm=>hri k hk (tW hkm)⟩;rw[List.erase_comm];exact AnyJ.congr hK n _ he h4
theorem Ow {Ax:List (List Nat)} {rem:List Nat}:Wc Ax rem i=true↔i∈rem∧∀j∈(Ax[i]?).getD [],j∉rem:=by
 simp[Wc]
theorem AT.any {is:List GI} {Ax:List (List Nat)} (hK:∀s1 s2,EqS s1 s2→K s1→K s2):∀(t:AT) (rem:List Nat) {s:St},rem.Nodup→t.chk is Ax rem=true→t.ok P GL is K s→
  (t.good=true→AnyJ P GL is Ax K rem.length rem s)∧
  (∀i∈t.heads,i∈rem→∃s1,BW P GL (is.getD i default) s s1∧AnyJ P GL is Ax K (rem.length-1) (rem.erase i) s1):=by
 intro t;induction t with
 |done=>
  intro rem s _ hc h;have:rem=[]:=by simpa[AT.chk]using hc
  subst this;exact⟨λ_=>h,λi hi=>by simp[AT.heads]at hi⟩
 |take i t ih=>
  intro rem s hnd hc h;simp only[AT.chk,qI]at hc;obtain⟨⟨⟨h1,h0⟩,h2⟩,h3⟩:=hc;obtain⟨s1,h4,h5⟩:=h;obtain⟨hi,hr⟩:=Ow.1 h1;have hlen:(rem.erase i).length=rem.length-1:=uJ hi;have hpos:0 <rem.length:=List.length_pos_of_mem hi;refine⟨λ_=>?_,λj hj=>by simp[AT.heads]at hj⟩;have:=(ih (rem.erase i) (hnd.erase _) h3 h5).1 h0;rw[hlen]at this;have h6:=AnyJ.take hK (rem.length-1) rem (by omega) hnd hi (λj hj=>by
    have:=qV.1 h2 j hj;simp only[sZ,beq_iff_eq]at this;rcases this with (h|h)|h
    ·exact .inl h
    ·exact .inr (.inl (by simpa using h))
    ·exact .inr (.inr h)) h4 this hr
  rwa [show rem.length-1+1=rem.length by omega]at h6
 |pick c ih=>
  intro rem s hnd hc h;simp only[AT.chk,qI]at hc;obtain⟨⟨h0,h1⟩,h2⟩:=hc;have hpos:0 <rem.length:=by cases rem<;>simp at h0 ⊢
  refine⟨λ_=>?_,λj hj=>by simp[AT.heads]at hj⟩;have h3:=(ih rem hnd h2 h).2;obtain⟨n,hn⟩:∃n,rem.length=n+1:=⟨rem.length-1,by omega⟩;rw[hn];intro i hi hr;have h4:=qV.1 h1 i hi;simp only[Ow.2 ⟨hi,hr⟩,Bool.not_true,Bool.false_or]at h4;have:=h3 i (by simpa using h4) hi
  rwa [hn]at this
 |alt i t r iht ihr=>
  intro rem s hnd hc h;simp only[AT.chk,qI]at hc;obtain⟨⟨⟨h1,h2⟩,h3⟩,h4⟩:=hc;refine⟨λh=>by simp[AT.good]at h,λj hj hjm=>?_⟩;simp only[AT.heads,qL]at hj;rcases hj with rfl|hj
  ·obtain⟨⟨s1,h5,h6⟩,_⟩:=h;have hlen:(rem.erase j).length=rem.length-1:=uJ hjm;have:=(iht (rem.erase j) (hnd.erase _) h3 h6).1 h2;rw[hlen]at this;exact⟨s1,h5,this⟩
  ·exact(ihr rem hnd h4 h.2).2 j hj hjm
 |none=>intro rem s _ _ _;exact⟨λh=>by simp[AT.good]at h,λi hi=>by simp[AT.heads]at hi⟩
theorem Qb {is:List GI} {Ax:List (List Nat)} (hk:Ap (IZ P GL N ops) (List.range ops.size) is=true) (hd:bD ops is Ax=true)
 (hK:∀s1 s2,EqS s1 s2→K s1→K s2) {Q:Exit→Act→World→Prop}
  (hg:Gs GL N g w μ s a O) (h:∃t,MR P GL is s t∧K t) (hq:∀a' w',After GL N K g w μ a O a' w'→Q .normal a' w'):
  wpAnyIn (WF r) 0 P .any ops Q ops.size (Array.replicate ops.size false) a w:=by
 have hall:All2 (λy x=>IZ P GL N ops x y=true) is (List.range ops.size):=Cm (λx y h=>h) hk;have hlen:is.length=ops.size:=by have:=hall.1;simp at this;omega
 refine Tc (λi x hx=>?_) hlen hd hK ops.size (List.range ops.size) _ (by simp) tD (λi=>?_) (by simp) (λi cl hi=>?_) hg ?_ hq
 ·have hlt:=(qK.1 hx).1;have hri:(List.range ops.size)[i]?=some i:=sH (by omega);exact hall.2 i x i hx hri
 ·rw[qj]
  constructor
  ·intro h;exact⟨h,by simp[qf,h]⟩
  ·exact λh=>h.1
 ·exfalso;by_cases hin:i <ops.size<;>simp[qf,hin]at hi
 ·have:(List.range ops.size).map (λi=>is.getD i default)=is:=by
   apply rj;intro i;by_cases hin:i <ops.size
   ·have:i <is.length:=by omega
    simp[hin,List.getD,this]
   ·have:is[i]?=none:=by rw[rG];omega
    rw[this];simp;omega
  rw[this];exact h
theorem Qc {is:List GI} {Ax:List (List Nat)} {t:AT} (hk:Ap (IZ P GL N ops) (List.range ops.size) is=true) (hd:TP ops is Ax=true) (ht:t.chk is Ax (List.range ops.size)=true)
  (ht2:t.good=true)
 (hK:∀s1 s2,EqS s1 s2→K s1→K s2) {Q:Exit→Act→World→Prop}
  (hg:Gs GL N g w μ s a O) (h:t.ok P GL is K s) (hq:∀a' w',After GL N K g w μ a O a' w'→Q .normal a' w'):
  wpAnyIn (WF r) 0 P .any ops Q ops.size (Array.replicate ops.size false) a w:=by
 have hall:All2 (λy x=>IZ P GL N ops x y=true) is (List.range ops.size):=Cm (λx y h=>h) hk;have hlen:is.length=ops.size:=by have:=hall.1;simp at this;omega
 refine RG (λi x hx=>?_) hlen hd ops.size (List.range ops.size) _ (by simp) tD (λi=>?_) (by simp) (λi cl hi=>?_) hg ?_ hq
 ·have hlt:=(qK.1 hx).1;have hri:(List.range ops.size)[i]?=some i:=sH (by omega);exact hall.2 i x i hx hri
 ·rw[qj]
  constructor
  ·intro h;exact⟨h,by simp[qf,h]⟩
  ·exact λh=>h.1
 ·exfalso;by_cases hin:i <ops.size<;>simp[qf,hin]at hi
 ·have:=(AT.any hK t (List.range ops.size) uK ht h).1 ht2;simpa using this
theorem Qa {is:List GI} {Ax:List (List Nat)} (hk:Ap (IZ P GL N ops) (List.range ops.size) is=true) (hd:TP ops is Ax=true)
 {Q:Exit→Act→World→Prop}
  (hg:Gs GL N g w μ s a O) (h:Tf P GL is Ax K is.length (List.range is.length) s) (hq:∀a' w',After GL N K g w μ a O a' w'→Q .normal a' w'):
  wpAnyIn (WF r) 0 P .any ops Q ops.size (Array.replicate ops.size false) a w:=by
 have hall:All2 (λy x=>IZ P GL N ops x y=true) is (List.range ops.size):=Cm (λx y h=>h) hk;have hlen:is.length=ops.size:=by have:=hall.1;simp at this;omega
 refine RH (λi x hx=>?_) hlen hd ops.size (List.range ops.size) _ (by simp) tD (λi=>?_) (by simp) (λi cl hi=>?_) hg ?_ hq
 ·have hlt:=(qK.1 hx).1;have hri:(List.range ops.size)[i]?=some i:=sH (by omega);exact hall.2 i x i hx hri
 ·rw[qj]
  constructor
  ·intro h;exact⟨h,by simp[qf,h]⟩
  ·exact λh=>h.1
 ·exfalso;by_cases hin:i <ops.size<;>simp[qf,hin]at hi
 ·rw[hlen]at h;exact h
theorem IQ (g:Gh) (w:World) (n:Nat) (M:Nat→Prop):Chg M g w g {w with drawn:=n}:=⟨Gh.le.refl g,qM _,λ_ _ _=>rfl,λ_ _ _ _=>rfl,rfl,rfl⟩
theorem Gs.drawn {g:Gh} {w:World} {μ:List Nat} {s:St} {a:Act} {O:Nat→Prop} (hg:Gs GL N g w μ s a O):Gs GL N g {w with drawn:=w.drawn+1} μ s a O:=
 ⟨hg.inv.chg (IQ g w _ _) hg.inv.agree,hg.glob,hg.sz⟩
theorem MO {F:Fence} {c:Code} {Q:Exit→Act→World→Prop} (I:Nat→Act→World→Prop)
  (round:∀m a w,I m a w→c.wpIn F n P (Exit.then (λa' w'=>∃m',m' <m∧I m' a' w') Q) a w):∀m a w,I m a w→(Code.loop c).wpIn F n P Q a w:=by
 intro m a w h₀ b k cs hro hb hr;have key:∀j a w,I j a w→
   ∃e a' w',Q e a' w'∧ArrivesIn (Machine.fenced P F) P (lone (b.atR a (.code c:: .inLoop c::k)) cs w) b k cs e a' w':=by
  intro j;induction j using Nat.strongRecOn with
  |_ j ih=>
   intro a w hI;obtain⟨e,a₁,w₁,hq,harr⟩:=round j a w hI b (.inLoop c::k) cs hro hb hr;cases e with
   |normal=>
    obtain⟨m',hlt,hI₁⟩:=hq;obtain⟨e₂,a₂,w₂,hq₂,harr₂⟩:=ih m' hlt a₁ w₁ hI₁;exact⟨e₂,a₂,w₂,hq₂,.of_steps (StepsIn.trans harr (.one (fenced_calm hb hr rfl) stepR_inLoop)) harr₂⟩
   |exit id=>exact⟨_,a₁,w₁,hq,.pass (x:= .inLoop c) rfl (λ_ _=> .inl (by simp)) harr⟩
   |goto l=>exact⟨_,a₁,w₁,hq,.pass (x:= .inLoop c) rfl (λ_ _=> .inl (by simp)) harr⟩
   |ret=>exact⟨_,a₁,w₁,hq,.pass (x:= .inLoop c) rfl (λ_ _=> .inl (by simp)) harr⟩
   |panic ch=>exact⟨_,a₁,w₁,hq,.pass (x:= .inLoop c) rfl (λ_ _=> .inl (by simp)) harr⟩
   |outgrown=>exact⟨_,a₁,w₁,hq,.pass (x:= .inLoop c) rfl (λ_ _=> .inl (by simp)) harr⟩
 obtain⟨e,a',w',hq,harr⟩:=key m a w h₀;exact⟨e,a',w',hq,.of_steps (.one (fenced_calm hb hr rfl) stepR_loop) harr⟩
end
end
end Go.Va
