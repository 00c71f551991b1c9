/- Part 2 of the proof that ExtractOther returns true for every input and leaves its arguments alone. Condition: the variable that the row lists holds what the text of the program lays. Texts joined here: VaO VaOa VaOb VaOc VaOd VaOe VaP VaQ Vg VwA VsA VwGa VaR. -/
import Derived.OrdersIn
import Derived.Laws.Cover3
import Derived.RangeFuncRecord
import Derived.Test.YtopldfpkgbkomaaGreatDoorProg
import Derived.Shelf.SlIterI.Collect
import Derived.Test.YtopldfpkgbkomaaGreatDoorL01
set_option linter.all false
set_option maxRecDepth 100000
namespace Go.Va
inductive AExit where
 |normal
 |exit (id:Nat)
 |ret
structure GI where
 g:Option (Nat×Bool)
 i:AI
 deriving Inhabited
def okF (P:Program) (f:Nat):Bool:=
 match P.funcs[f]? with
 |some fn=>fn.body.isSome&& !(fn.name== "runtime.NumGoroutine")
 |none=>false
def Hh:List V→D
 |[x]=> .v x
 |xs=> .tup (xs.map .v)
def V5 (g:Gh) (w:World):Prop:=∀b o v,g.m b o=some v→w.cell? ⟨b,o,none⟩=some v
def PSp (P:Program) (GL:AX) (f:Nat) (args rets:List V):Prop:=
 okF P f=true∧∀(g:Gh) (w:World) (us:List Value),V5 g w→GlobOK GL g→All2 (RepV g) args us→
  Calls P f us.toArray w λe w'=>∃v g',e= .returned v∧RepD g' w' [] (Hh rets) v∧Chg (λ_=>False) g w g' w'∧V5 g' w'
def WF (r:Option Nat):Fence:={Fence.wide with round:=r}
def YSp (P:Program) (GL:AX) (r:Nat) (args:List D) (h:List Row) (b:Bool) (h':List Row):Prop:=
 ∀(g:Gh) (w:World) (μ:List Nat) (us:List Value) (O:Nat→Prop),Inv g w μ I8 LF h O→GlobOK GL g→All2 (RepG g w μ) args us→Tame args us→∀bl,μ[r]?=some bl→
  ∃fn tmps asg body,(Instr.yield bl us.toArray).run P w= .ok (.round bl fn tmps asg body) w∧
   RoundIn (WF none) 0 P bl fn tmps asg body w λe w'=>∃g' μ',e= .returned (.bool b)∧Inv g' w' μ' I8 LF h' O∧Chg (λb=>¬O b) g w g' w'∧μ <+: μ'
def FSp (P:Program) (GL:AX) (f:Nat) (args:List D) (h:List Row) (rets:List D) (h':List Row):Prop:=
 okF P f=true∧∀(g:Gh) (w:World) (μ:List Nat) (us:List Value) (O:Nat→Prop),Inv g w μ I8 LF h O→GlobOK GL g→All2 (RepG g w μ) args us→Tame args us→
  Calls P f us.toArray w λe w'=>∃v g' μ',e= .returned v∧Inv g' w' μ' (at0 .any (Ba rets)) (at0 (.bool false) v) h' O∧Chg (λb=>¬O b) g w g' w'∧μ <+: μ'
def atL {α:Type} (z:α) (l:List α):Nat→α:=λn=>(l[n]?).getD z
def OSp (P:Program) (GL:AX) (f:Nat) (args rets:List D):Prop:=
 okF P f=true∧∀(g:Gh) (w:World) (μ:List Nat) (us:List Value) (O:Nat→Prop) (h:List Row),us.length=args.length→Inv g w μ (atL .any args) (atL undef us) h O→GlobOK GL g→
  Calls P f us.toArray w λe w'=>∃v g' μ',e= .returned v∧Inv g' w' μ' (at0 .any (Ba rets)) (at0 (.bool false) v) h O∧Chg (λb=>¬O b) g w g' w'∧μ <+: μ'
def AI.dst:AI→Option Nat
 | .p d _| .mv d _| .alloc d _| .box d _| .take d _| .app d _ _ _ _ _| .appS d _ _ _ _| .bsl d _ _ _| .s2b d _| .nilS d _ _| .mkm d| .mksl d _ _| .ment d _ _ _ _=>some d
 | .mdel d _ _ _ _=>d
 | .mput _ _ _ _ _=>none
 | .mest _ _ _=>none
 | .store _ _ _=>none
 | .call d _ _=>d
 | .callF d _ _=>d
 | .callC d _ _=>d
 | .callO d _ _ _=>d
 | .appR d _ _ _ _ _| .frz d _ _=>some d
 | .mksz d _ _=>some d
 | .cpy d _ _ _=>d
 | .callN d _ _=>d
 | .appP d _ _ _ _ _=>some d
 | .fin _ _ _ _ _=>none
section
variable (P:Program) (GL:AX)
def BF (d:Option Nat) (f:Opd) (args:List Opd) (K:St→Prop) (s:St):Prop:=
 match f.ev s.e with
 | .yld r=>∃b h',YSp P GL r (As s.e args) s.h b h'∧K ⟨Bh s.e d (.v (.bool b)),h'⟩
 | .meth fid fs=>∃rets h',FSp P GL fid (fs++As s.e args) s.h rets h'∧K ⟨Bh s.e d (Ba rets),h'⟩
 |fd=>match Db fd with
  |some (fid,caps)=>∃rets h',FSp P GL fid (As s.e args++caps) s.h rets h'∧K ⟨Bh s.e d (Ba rets),h'⟩
  |none=>False
def Da (i:AI) (K:St→Prop) (s:St):Prop:=
 match i with
 | .call d f args=>BF P GL d f args K s
 | .callF d f args=>BF P GL d f args K s
 | .callC d f args=>BF P GL d f args K s
 | .callO d f q args=>∃fid rets,Db (f.ev s.e)=some (fid,[])∧OSp P GL fid (q.ev s.e::As s.e args) rets∧K ⟨Bh (q.clear s.e) d (Ba rets),s.h⟩
 | .appP d x y e sz by_=>match EN e sz (x.ev s.e),(y.ev s.e).toV with
  |some xs,some (.list [z])=>z.cells.length=sz∧Ae (xs.length+1) by_=true∧∀b,K ⟨(d,.pend b e sz xs)::x.clear s.e,s.h⟩
  |_,_=>False
 | .callN d f args=>∃fid rets h',Db (f.ev s.e)=some (fid,[])∧FSp P GL fid (args.map λq=>(q.ev s.e).copy) s.h rets h'∧K ⟨Bh s.e d (Ba rets),h'⟩
 | .appR d x y e sz by_=>match x.ev s.e,(y.ev s.e).toV with
  | .nil _ _,some (.list ys)=>CK sz ys=true∧Ae ys.length by_=true∧if ys.isEmpty=true then K ⟨(d,.nil e sz)::s.e,s.h⟩ else
    ∀k,K ⟨(d,.sref s.h.length ys.length)::s.e,s.h++[.cells ((ys.flatMap V.cells).map .v++List.replicate k .any)]⟩
  |_,_=>False
 | .frz d x sz=>match x.ev s.e with
  | .nil _ _=>K ⟨(d,.v (.list []))::s.e,s.h⟩
  | .sref r n=>match s.h[r]? with
   |some (.cells ds)=>0 <sz∧∃xs:List V,xs.length=n∧(∀x∈xs,x.cells.length=sz)∧D.vs? (ds.take (n*sz))=some (xs.flatMap V.cells)∧K ⟨(d,.v (.list xs))::s.e,s.h.set r .dead⟩
   |_=>False
  |_=>False
 | .nilS d ne x=>match (x.ev s.e).copy with
  | .v (.list [])| .nil _ _=>K ⟨(d,.v (.bool (true != ne)))::s.e,s.h⟩∧K ⟨(d,.v (.bool (false != ne)))::s.e,s.h⟩
  | .v (.list (_::_))=>K ⟨(d,.v (.bool (false != ne)))::s.e,s.h⟩
  |_=>False
 |i=>match i.step s with
  |some s'=>K s'
  |none=>False
def Dc (x:GI) (K:St→Prop) (s:St):Prop:=
 match x.g with
 |none=>Da P GL x.i K s
 |some (t,want)=>match AH s.e t with
  | .v (.bool b)=>if b=want then Da P GL x.i K s else K ⟨Bh s.e x.i.dst (.tup []),s.h⟩
  | .tup []=>K ⟨Bh s.e x.i.dst (.tup []),s.h⟩
  |_=>False
def BE:List GI→(St→Prop)→St→Prop
 |[],K,s=>K s
 |x::rest,K,s=>Dc P GL x (BE rest K) s
def BR (e:Env):List Nat→Env
 |[]=>[]
 |n::ns=>(n,AH e n)::BR e ns
end
def CZ (P:Program) (GL:AX) (N:Nat) (o:Oper) (ai:AI):Bool:=
 match ai with
 | .p d i=>o.dst==some d&&decide (d <N)&&YT P GL o.op i
 | .mv d q=>o.dst==some d&&decide (d <N)&&TJ q&&(match o.op with| .move x=>oe GL x q| .assign x=>oe GL x q|_=>false)
 | .alloc d zs=>o.dst==some d&&decide (d <N)&&(match o.op with| .alloc t=>E9 P t zs|_=>false)
 | .box d q=>o.dst==some d&&decide (d <N)&&(match o.op with| .box _ x=>oe GL x q|_=>false)
 | .store p q n=>o.dst==none&&(match o.op with| .store t p' x=>oe GL p' p&&oe GL x q&&BK P t n|_=>false)
 | .take d p=>o.dst==some d&&decide (d <N)&&(match o.op with| .load t p'=>oe GL p' p&&isK P t (λ| .slice _=>true|_=>false)|_=>false)
 | .app d q r e s by_=>o.dst==some d&&decide (d <N)&&(match o.op with
  | .call {callee:= .builtin .append,args,argTypes}=>Fu args.toList (λx y=>oe GL x q&&oe GL y r)&&EZ q&&
    Fu argTypes.toList (λt t2=>DA P t e&&isK P t2 (λ| .slice _=>true|_=>false))&&Ep P e s by_
  |_=>false)
 | .appS d q r e by_=>o.dst==some d&&decide (d <N)&&(match o.op with
  | .call {callee:= .builtin .append,args,argTypes}=>Fu args.toList (λx y=>oe GL x q&&oe GL y r)&&EZ q&&
    Fu argTypes.toList (λt t2=>DA P t e&&isK P t2 (λ| .string=>true|_=>false))&&Ep P e 1 by_
  |_=>false)
 | .bsl d e s qs=>o.dst==some d&&decide (d <N)&&(match o.op with
  | .buildSlice t n ps=>DA P t e&&(match P.info? e with|some i=>Ep P e s i.bytes|none=>false)&&ps.toList.length==n&&decide (n*s≤2^24)&&FN GL 0 ps.toList qs
  |_=>false)
 | .s2b d q=>o.dst==some d&&decide (d <N)&&(match o.op with| .convert s t x=>isK P s (λ| .string=>true|_=>false)&&Sr P t&&oe GL x q|_=>false)
 | .mkm d=>o.dst==some d&&decide (d <N)&&(match o.op with| .makeMap _ none=>true|_=>false)
 | .mksl d q z=>o.dst==some d&&decide (d <N)&&(match o.op with
  | .makeSlice t x c=>(match x,c with| .tmp a,.tmp b=>a==b|_,_=>false)&&oe GL x q&&(match P.underlying t with|some (.slice e)=>E9 P e [z]&&BK P e 1&&((P.info? e).map λi=>decide (i.bytes≤1048576))==some true|_=>false)
  |_=>false)
 | .mput m k v st ks=>o.dst==none&&(match o.op with| .mapUpdate t x i y=>(match P.underlying t with|some (.map kt _)=>D6 P kt st ks|_=>false)&&oe GL x m&&oe GL i k&&oe GL y v|_=>false)
 | .ment d m k st ks=>o.dst==some d&&decide (d <N)&&(match o.op with| .mapEntry t x i=>(match P.underlying t with|some (.map kt _)=>D6 P kt st ks|_=>false)&&oe GL x m&&oe GL i k|_=>false)
 | .mest m b v=>o.dst==none&&(match o.op with| .entryStore _ x i y=>oe GL x m&&oe GL i b&&oe GL y v|_=>false)
 | .mdel d m k st ks=>o.dst==d&&(match d with|some d=>decide (d <N)|none=>true)&&(match o.op with
  | .call {callee:= .builtin .delete,args,argTypes}=>Fu args.toList (λx y=>oe GL x m&&oe GL y k)&&Fu argTypes.toList (λt _=>match P.underlying t with|some (.map kt _)=>D6 P kt st ks|_=>false)
  |_=>false)
 | .nilS d ne q=>o.dst==some d&&decide (d <N)&&(match o.op with| .binOp op t x y _=>(op==if ne then .neq else .eql)&&(match y with| .const (.slice none 0 0)=>true|_=>false)&&isK P t (λ| .slice _=>true|_=>false)&&oe GL x q|_=>false)
 | .call d f args=>(match o.op with
  | .call {callee:= .value f',args:=asx,..}=>o.dst==d&&(match d with|some d=>decide (d <N)|none=>true)&&oe GL f' f&&Aj (oe GL) asx.toList args
  |_=>false)
 | .callF d f args=>(match o.op with
  | .call {callee:= .value f',args:=asx,..}=>o.dst==d&&(match d with|some d=>decide (d <N)|none=>true)&&oe GL f' f&&Aj (oe GL) asx.toList args
  |_=>false)
 | .callC d f args=>(match o.op with
  | .call {callee:= .value f',args:=asx,..}=>o.dst==d&&(match d with|some d=>decide (d <N)|none=>true)&&oe GL f' f&&Aj (oe GL) asx.toList args
  |_=>false)
 | .callO d f q args=>(match o.op with
  | .call {callee:= .value f',args:=asx,..}=>o.dst==d&&(match d with|some d=>decide (d <N)|none=>true)&&oe GL f' f&&Aj (oe GL) asx.toList (q::args)&&EZ q
  |_=>false)
 | .appR d q r e s by_=>o.dst==some d&&decide (d <N)&&(match o.op with
  | .call {callee:= .builtin .append,args,argTypes}=>Fu args.toList (λx y=>oe GL x q&&oe GL y r)&&
    Fu argTypes.toList (λt t2=>DA P t e&&isK P t2 (λ| .slice _=>true|_=>false))&&Ep P e s by_&&((P.info? e).bind (·.zero)).any (λz=>z.cells.toList.all Value.oneCell')
  |_=>false)
 | .frz d q _=>o.dst==some d&&decide (d <N)&&(match o.op with| .move x=>oe GL x q| .assign x=>oe GL x q|_=>false)
 | .appP d q r e s by_=>o.dst==some d&&decide (d <N)&&(match o.op with
  | .call {callee:= .builtin .append,args,argTypes}=>Fu args.toList (λx y=>oe GL x q&&oe GL y r)&&EZ q&&
    Fu argTypes.toList (λt t2=>DA P t e&&isK P t2 (λ| .slice _=>true|_=>false))&&Ep P e s by_
  |_=>false)
 | .fin m _ p q sz=>o.dst==none&&decide (m <N)&&(match o.op with| .store t p' x=>oe GL p' p&&oe GL x q&&BK P t sz|_=>false)
 | .callN d f args=>(match o.op with
  | .call {callee:= .value f',args:=asx,..}=>o.dst==d&&(match d with|some d=>decide (d <N)|none=>true)&&oe GL f' f&&Aj (oe GL) asx.toList args
  |_=>false)
 | .mksz d q zs=>o.dst==some d&&decide (d <N)&&(match o.op with
  | .makeSlice t x c=>(match x,c with| .tmp a,.tmp b=>a==b|_,_=>false)&&oe GL x q&&(match P.underlying t with|some (.slice e)=>E9 P e zs&&BK P e zs.length&&((P.info? e).map λi=>decide (i.bytes≤1048576))==some true|_=>false)
  |_=>false)
 | .cpy d q r sz=>o.dst==d&&(match d with|some d=>decide (d <N)|none=>true)&&(match o.op with
  | .call {callee:= .builtin .copy,args,argTypes}=>Fu args.toList (λx y=>oe GL x q&&oe GL y r)&&Fu argTypes.toList (λt _=>match P.underlying t with|some (.slice e)=>BK P e sz|_=>false)
  |_=>false)
def Gx (P:Program) (GL:AX) (N:Nat) (ops:Array Oper) (i:Nat) (x:GI):Bool:=
 match ops[i]? with
 |none=>false
 |some o=>(match o.guard,x.g with
  |none,none=>true
  |some (j,want),some (t,want')=>(ops[j]?).bind (·.dst)==some t&&want==want'&&x.i.dst==o.dst
  |_,_=>false)&&CZ P GL N o x.i
theorem EX {r:Option Nat} {n:Nat} {P:Program} {f:FuncId} {args:Array Value} {w:World} {R:Ending→World→Prop} (h:Calls P f args w R):CallsIn (WF r) n P f args w R:=
 (callsIn_wide (n:=n)).2 h
theorem Le (e:Env):∀(ns:List Nat) (n:Nat),AH (BR e ns) n=if n∈ns then AH e n else .any
 |[],n=>by simp[BR,AH]
 |m::ns,n=>by
  simp only[BR,AH];by_cases h:m=n
  ·simp[h]
  ·rw[if_neg h,Le e ns n];simp[Ne.symm h]
section
variable {P:Program} {GL:AX} {N:Nat} {r:Option Nat}
theorem Gs.norm {g:Gh} {w:World} {μ:List Nat} {s:St} {a:Act} {O:Nat→Prop} (hg:Gs GL N g w μ s a O) (ns:List Nat):Gs GL N g w μ ⟨BR s.e ns,s.h⟩ a O where
 inv:=hg.inv.weaken _ λn=>by
  rw[Le];by_cases h:n∈ns
  ·exact .inl (by simp[h])
  ·exact .inr ⟨λv _=>by simp[h,RepD,RepG,RepE],λv k=>by simp only[h,if_false];cases k<;>simp[Ab,AZ]⟩
 glob:=hg.glob
 sz:=hg.sz
theorem AFM {o:Oper} {ai:AI} (h:CZ P GL N o ai=true) (hc:∀d f args,ai≠ .call d f args) (hc2:∀d ne x,ai≠ .nilS d ne x) (hc3:∀d f args,ai≠ .callF d f args∧ai≠ .callC d f args) (hc4:∀d f q args,ai≠ .callO d f q args) (hc5:∀d x y e s b,ai≠ .appR d x y e s b∧ai≠ .frz d x s) (hc7:∀d f args,ai≠ .callN d f args) (hc8:∀d x y e s b,ai≠ .appP d x y e s b):DL P GL N o ai∧∀c,o.op≠ .defer c:=by
 cases ai with
 |p d i=>
  simp only[CZ,AT1,beq_iff_eq,decide_eq_true_eq]at h;refine⟨APM h.1.1 h.1.2 h.2,λc hc=>?_⟩;rw[hc]at h;simp[YT]at h
 |mv d q=>
  simp only[CZ,AT1,beq_iff_eq,decide_eq_true_eq]at h;obtain⟨⟨⟨h1,h2⟩,h3⟩,h4⟩:=h;split at h4
  ·rename_i x hx;exact⟨yI h1 (.inl hx) h2 h4 h3,λc hc=>by rw[hx]at hc;cases hc⟩
  ·rename_i x hx;exact⟨yI h1 (.inr hx) h2 h4 h3,λc hc=>by rw[hx]at hc;cases hc⟩
  ·cases h4
 |alloc d zs=>
  simp only[CZ,AT1,beq_iff_eq,decide_eq_true_eq]at h;obtain⟨⟨h1,h2⟩,h4⟩:=h;split at h4
  ·rename_i t hx;exact⟨uO h1 hx h2 h4,λc hc=>by rw[hx]at hc;cases hc⟩
  ·cases h4
 |box d q=>
  simp only[CZ,AT1,beq_iff_eq,decide_eq_true_eq]at h;obtain⟨⟨h1,h2⟩,h4⟩:=h;split at h4
  ·rename_i t x hx;exact⟨AIu h1 hx h2 h4,λc hc=>by rw[hx]at hc;cases hc⟩
  ·cases h4
 |store p q n=>
  simp only[CZ,AT1,beq_iff_eq]at h;obtain⟨h1,h4⟩:=h;split at h4
  ·rename_i t p' x hx;simp only[AT1]at h4;exact⟨XD h1 hx h4.1.1 h4.1.2 h4.2,λc hc=>by rw[hx]at hc;cases hc⟩
  ·cases h4
 |take d p=>
  simp only[CZ,AT1,beq_iff_eq,decide_eq_true_eq]at h;obtain⟨⟨h1,h2⟩,h4⟩:=h;split at h4
  ·rename_i t p' hx;simp only[AT1]at h4;obtain⟨el,hel⟩:=EK h4.2;exact⟨uX h1 hx h2 h4.1 hel,λc hc=>by rw[hx]at hc;cases hc⟩
  ·cases h4
 |app d q r e s by_=>
  simp only[CZ,AT1,beq_iff_eq,decide_eq_true_eq]at h;obtain⟨⟨h1,h2⟩,h4⟩:=h;split at h4
  ·rename_i asx ts hx;simp only[AT1]at h4;obtain⟨⟨⟨k1,k2⟩,k3⟩,k4⟩:=h4;obtain⟨x,y,rfl,j1⟩:=Cj k1;obtain⟨t,t2,rfl,j3⟩:=Cj k3;simp only[AT1]at j1 j3;obtain⟨e2,he2⟩:=EK j3.2;exact⟨AI4 h1 hx h2 j1.1 j1.2 k2 j3.1 (e2:=e2) (by simp[DA,he2]) k4,λc hc=>by rw[hx]at hc;cases hc⟩
  ·cases h4
 |appS d q r e by_=>
  simp only[CZ,AT1,beq_iff_eq,decide_eq_true_eq]at h;obtain⟨⟨h1,h2⟩,h4⟩:=h;split at h4
  ·rename_i asx ts hx;simp only[AT1]at h4;obtain⟨⟨⟨k1,k2⟩,k3⟩,k4⟩:=h4;obtain⟨x,y,rfl,j1⟩:=Cj k1;obtain⟨t,t2,rfl,j3⟩:=Cj k3;simp only[AT1]at j1 j3;exact⟨wo h1 hx h2 j1.1 j1.2 k2 j3.1 j3.2 k4,λc hc=>by rw[hx]at hc;cases hc⟩
  ·cases h4
 |bsl d e s qs=>
  simp only[CZ,AT1,beq_iff_eq,decide_eq_true_eq]at h;obtain⟨⟨h1,h2⟩,h4⟩:=h;split at h4
  ·rename_i t n ps hx;simp only[AT1,beq_iff_eq,decide_eq_true_eq]at h4;obtain⟨⟨⟨⟨k1,k2⟩,k3⟩,k4⟩,k5⟩:=h4;split at k2
   ·exact⟨AIt h1 hx h2 k1 k2 k3 k4 k5,λc hc=>by rw[hx]at hc;cases hc⟩
   ·cases k2
  ·cases h4
 |s2b d x=>
  simp only[CZ,AT1,beq_iff_eq,decide_eq_true_eq]at h;obtain⟨⟨h1,h2⟩,h4⟩:=h;split at h4
  ·rename_i s t x hx;simp only[AT1]at h4;exact⟨AEW h1 hx h2 h4.2 h4.1.1 h4.1.2,λc hc=>by rw[hx]at hc;cases hc⟩
  ·cases h4
 |mkm d=>
  simp only[CZ,AT1,beq_iff_eq,decide_eq_true_eq]at h;obtain⟨⟨h1,h2⟩,h4⟩:=h;split at h4
  ·rename_i t hx;exact⟨AEs h1 hx rfl h2,λc hc=>by rw[hx]at hc;cases hc⟩
  ·cases h4
 |mksl d q z=>
  simp only[CZ,AT1,beq_iff_eq,decide_eq_true_eq]at h;obtain⟨⟨h1,h2⟩,h4⟩:=h;split at h4
  ·rename_i t x c hx;simp only[AT1]at h4;obtain⟨⟨k1,k2⟩,k3⟩:=h4;split at k1
   ·rename_i a b;have hab:b=a:=(beq_iff_eq.1 k1).symm;split at k3
    ·rename_i e hu;simp only[AT1,beq_iff_eq]at k3;exact⟨ux h1 hx h2 (by rw[hab]) k2 hu k3.1.1 k3.1.2 k3.2,λc hc=>by rw[hx]at hc;cases hc⟩
    ·cases k3
   ·cases k1
  ·cases h4
 |mput m k v st ks=>
  simp only[CZ,AT1,beq_iff_eq]at h;obtain⟨h1,h4⟩:=h;split at h4
  ·rename_i t x i y hx;simp only[AT1]at h4;exact⟨uu h1 hx h4.1.1.1 h4.1.1.2 h4.1.2 h4.2,λc hc=>by rw[hx]at hc;cases hc⟩
  ·cases h4
 |ment d m k st ks=>
  simp only[CZ,AT1,beq_iff_eq,decide_eq_true_eq]at h;obtain⟨⟨h1,h2⟩,h4⟩:=h;split at h4
  ·rename_i t x i hx;simp only[AT1]at h4;exact⟨u0 h1 h2 hx h4.1.1 h4.1.2 h4.2,λc hc=>by rw[hx]at hc;cases hc⟩
  ·cases h4
 |mest m b v=>
  simp only[CZ,AT1,beq_iff_eq]at h;obtain⟨h1,h4⟩:=h;split at h4
  ·rename_i t x i y hx;simp only[AT1]at h4;exact⟨uz h1 hx h4.1.1 h4.1.2 h4.2,λc hc=>by rw[hx]at hc;cases hc⟩
  ·cases h4
 |mdel d m k st ks=>
  simp only[CZ,AT1,beq_iff_eq]at h;obtain⟨⟨h1,h2⟩,h4⟩:=h;split at h4
  ·rename_i asx ts hx;simp only[AT1]at h4;obtain⟨x,y,rfl,j1⟩:=Cj h4.1;obtain⟨t,t2,rfl,j3⟩:=Cj h4.2;simp only[AT1]at j1;exact⟨u1 h1 (λn hn=>by subst hn;simpa using h2) hx j3 j1.1 j1.2,λc hc=>by rw[hx]at hc;cases hc⟩
  ·cases h4
 |nilS d ne x=>exact absurd rfl (hc2 d ne x)
 |call d f args=>exact absurd rfl (hc d f args)
 |callF d f args=>exact absurd rfl (hc3 d f args).1
 |callC d f args=>exact absurd rfl (hc3 d f args).2
 |callO d f q args=>exact absurd rfl (hc4 d f q args)
 |appR d x y e s b=>exact absurd rfl (hc5 d x y e s b).1
 |frz d x s=>exact absurd rfl (hc5 d x x 0 s 0).2
 |callN d f args=>exact absurd rfl (hc7 d f args)
 |appP d x y e s b=>exact absurd rfl (hc8 d x y e s b)
 |fin m ad p q sz=>
  simp only[CZ,AT1,beq_iff_eq,decide_eq_true_eq]at h;obtain⟨⟨h1,h2⟩,h4⟩:=h;split at h4
  ·rename_i t p' x hx;simp only[AT1]at h4;exact⟨AFF h1 hx h2 h4.1.1 h4.1.2 h4.2,λc hc=>by rw[hx]at hc;cases hc⟩
  ·cases h4
 |mksz d q zs=>
  simp only[CZ,AT1,beq_iff_eq,decide_eq_true_eq]at h;obtain⟨⟨h1,h2⟩,h4⟩:=h;split at h4
  ·rename_i t x c hx;simp only[AT1]at h4;obtain⟨⟨k1,k2⟩,k3⟩:=h4;split at k1
   ·rename_i a b;have hab:b=a:=(beq_iff_eq.1 k1).symm;split at k3
    ·rename_i e hu;simp only[AT1,beq_iff_eq]at k3;exact⟨uw h1 hx h2 (by rw[hab]) k2 hu k3.1.1 k3.1.2 k3.2,λc hc=>by rw[hx]at hc;cases hc⟩
    ·cases k3
   ·cases k1
  ·cases h4
 |cpy d q r sz=>
  simp only[CZ,AT1,beq_iff_eq]at h;obtain⟨⟨h1,h2⟩,h4⟩:=h;split at h4
  ·rename_i asx ts hx;simp only[AT1]at h4;obtain⟨x,y,rfl,j1⟩:=Cj h4.1;obtain⟨t,t2,rfl,j3⟩:=Cj h4.2;simp only[AT1]at j1;exact⟨AFQ h1 (λn hn=>by subst hn;simpa using h2) hx j1.1 j1.2 j3,λc hc=>by rw[hx]at hc;cases hc⟩
  ·cases h4
def Fy:AExit→Exit→Prop
 | .normal,.normal=>True
 | .exit i,.exit j=>i=j
 | .ret,.ret=>True
 |_,_=>False
def After (GL:AX) (N:Nat) (Q:St→Prop) (g:Gh) (w:World) (μ:List Nat) (a:Act) (O:Nat→Prop) (a':Act) (w':World):Prop:=
 ∃s' g' μ',Q s'∧Gs GL N g' w' μ' s' a' O∧Chg (λb=>¬O b) g w g' w'∧μ <+: μ'∧a'.defers=a.defers
theorem After.trans {Q:St→Prop} {g:Gh} {w:World} {μ:List Nat} {a:Act} {O:Nat→Prop} {g1:Gh} {w1:World} {μ1:List Nat} {a1:Act} {a2:Act} {w2:World}
  (hc:Chg (λb=>¬O b) g w g1 w1) (hμ:μ <+: μ1) (hd:a1.defers=a.defers) (h:After GL N Q g1 w1 μ1 a1 O a2 w2):After GL N Q g w μ a O a2 w2:=by
 obtain⟨s',g',μ',hq,hg,hc',hμ',hd'⟩:=h;exact⟨s',g',μ',hq,hg,hc.trans hc',hμ.trans hμ',hd'.trans hd⟩
theorem BW (a:Act) (d:Option Nat) (v:Value):(a.put d v).defers=a.defers:=by cases d<;>rfl
theorem XJ {g:Gh} {w:World} {μ:List Nat} {rets:List V} {v:Value} (h:RepD g w [] (Hh rets) v):RepD g w μ (Hh rets) v∧∀k,Ab (Hh rets) v k=none:=by
 unfold Hh at h ⊢;split
 ·rename_i x;exact⟨h,λk=>Bf _ _ _⟩
 ·rename_i hne;split at h
  ·rename_i x;exact absurd rfl (hne x)
  ·obtain⟨vs,rfl,ha⟩:=h;refine⟨⟨vs,rfl,ha.1,λi x v hx hv=>?_⟩,λk=>?_⟩
   ·have:=ha.2 i x v hx hv;simp only[AUG,AUA]at hx;obtain⟨y,_,rfl⟩:=hx;exact this
   ·simp only[Ab];cases hk:(rets.map D.v)[k]? with
    |none=>simp[AZ]
    |some d=>
     simp only[AUG,AUA]at hk;obtain⟨y,_,rfl⟩:=hk;simp[AZ]
theorem WH {g:Gh} {w:World} {μ:List Nat} {caps:List D} {vs:List Value} (h:All2 (RepC g μ) caps vs):All2 (RepG g w μ) caps vs∧Tame caps vs:=by
 refine⟨h.imp λd v h=>?_,λi d v hd hv=>?_⟩
 ·cases d<;>first|exact h|exact h.elim
 ·have:=h.2 i d v hd hv;cases d<;>first|rfl|exact this.elim
theorem Gs.setR {g:Gh} {w:World} {μ:List Nat} {s:St} {a:Act} {O:Nat→Prop} (h:Gs GL N g w μ s a O) {d:Nat} (hd:d <N) {x:D} {v:Value}
  (hi:Inv g w μ (λn=>if d=n then x else AH s.e n) (λn=>if d=n then v else a.tmps.getD n undef) s.h O):Gs GL N g w μ ⟨(d,x)::s.e,s.h⟩ (a.put (some d) v) O where
 inv:=by rw[DC v (h.sz▸hd)];exact hi
 glob:=h.glob
 sz:=by rw[Ay,h.sz]
theorem GR {o:Oper} {ai:AI} (hc3:∀d f args,ai≠ .callF d f args∧ai≠ .callC d f args) (hc4:∀d f q args,ai≠ .callO d f q args) (hc5:∀d x y e s b,ai≠ .appR d x y e s b∧ai≠ .frz d x s) (hc7:∀d f args,ai≠ .callN d f args) (hc8:∀d x y e s b,ai≠ .appP d x y e s b) (hk:CZ P GL N o ai=true) {K:St→Prop} {g:Gh} {w:World} {μ:List Nat} {s:St} {a:Act} {O:Nat→Prop} (hg:Gs GL N g w μ s a O)
  (h:Da P GL ai K s) {next:Act→World→Prop} {Q:Exit→Act→World→Prop}
  (hn:∀s' g' w' μ' a',K s'→Gs GL N g' w' μ' s' a' O→Chg (λb=>¬O b) g w g' w'→μ <+: μ'→a'.defers=a.defers→next a' w'):o.wpIn (WF r) 0 P a w next Q:=by
 refine⟨λ_ _=>trivial,?_⟩;by_cases hc2:∃d ne x,ai= .nilS d ne x
 ·obtain⟨d,ne,q,rfl⟩:=hc2;simp only[CZ,AT1,beq_iff_eq,decide_eq_true_eq]at hk;obtain⟨⟨hdst,hdN⟩,h4⟩:=hk;split at h4
  ·rename_i op t x y s' hop;simp only[AT1]at h4;obtain⟨⟨⟨hb,hy⟩,ht⟩,hx⟩:=h4;rw[Oper.semAt_eq _ _ _ (λc hc=>by rw[hop]at hc;cases hc)];obtain⟨el,hu⟩:=EK ht;split at hy
   ·have hr:=((hg.gd P).ev hx).copy;have fin:∀(b:Bool),(execOp a.eval o).run P w= .ok (.value (.bool b)) w→K ⟨(d,.v (.bool b))::s.e,s.h⟩→Oper.uponIn (WF r) 0 P o a next Q ((execOp a.eval o).run P w):=by
     intro b hrun hK;rw[hrun];refine hn _ g w μ _ hK ?_ (Chg.refl _ _ _) (AT8 _) (BW _ _ _);rw[hdst];exact hg.set hdN (.bool b) λk=>Bf _ _ _
    have hrun:∀(ad:Option Addr) (n c:Nat),a.eval x= .slice ad n c→(execOp a.eval o).run P w= .ok (.value (.bool (ad.isNone != ne))) w:=by
     intro ad n c hv;have hg:(eqGuard op t x (.const (.slice none 0 0)) (.slice ad n c) (.slice none 0 0)).run P w= .ok () w:=DW ⟨by simp,by simp⟩;have heq:=run_equal_slice_nil (P:=P) w t el ad n c hu;have hev:a.eval (.const (.slice none 0 0))= .slice none 0 0:=rfl;have:=Gu hb;subst this;cases ne<;>simp[execOp,hop,hv,hev,binOp,heq]at hg ⊢ <;>simp[hg,heq]
    simp only[Da]at h;split at h
    ·rename_i hc;rw[hc]at hr;have hr':RepV g (.list []) (a.eval x):=hr;generalize hv:a.eval x=u at hr';cases hr' with
     |lnil=>exact fin _ (hrun none 0 0 hv) h.1
     |list _ ad cap _ _ hs=>exact fin _ (hrun (some ad) _ cap hv) h.2
    ·rename_i hc;rw[hc]at hr;obtain⟨ad,hv,_⟩:=hr;cases ad with
     |none=>exact fin _ (hrun none 0 0 hv) h.1
     |some ad=>exact fin _ (hrun (some ad) 0 0 hv) h.2
    ·rename_i y ys hc;rw[hc]at hr;have hr':RepV g (.list (y::ys)) (a.eval x):=hr;generalize hv:a.eval x=u at hr';cases hr' with
     |list _ ad cap _ _ hs=>exact fin _ (hrun (some ad) _ cap hv) h
    ·exact h.elim
   ·cases hy
  ·cases h4
 by_cases hc:∀d f args,ai≠ .call d f args
 ·obtain⟨heff,hnd⟩:=AFM hk hc (λd ne x h=>hc2 ⟨d,ne,x,h⟩) hc3 hc4 hc5 hc7 hc8;rw[Oper.semAt_eq _ _ _ hnd];have h':∃s',ai.step s=some s'∧K s':=by
   unfold Da at h;split at h
   ·exact absurd rfl (hc _ _ _)
   ·exact absurd rfl (hc3 _ _ _).1
   ·exact absurd rfl (hc3 _ _ _).2
   ·exact absurd rfl (hc4 _ _ _ _)
   ·exact absurd rfl (hc8 _ _ _ _ _ _)
   ·exact absurd rfl (hc7 _ _ _)
   ·exact absurd rfl (hc5 _ _ _ _ _ _).1
   ·exact absurd rfl (hc5 _ _ default 0 _ 0).2
   ·exact absurd ⟨_,_,_,rfl⟩ hc2
   ·split at h
    ·rename_i s' hs;exact⟨s',hs,h⟩
    ·exact h.elim
  obtain⟨s',hs,hK⟩:=h';obtain⟨v,w',g',μ',hrun,hgs,hch,hμ⟩:=heff hg hs;rcases hrun with hrun|⟨hrun,rfl⟩
  ·rw[hrun];exact hn s' g' w' μ' _ hK hgs hch hμ (BW _ _ _)
  ·rw[hrun];exact hn s' g' w' μ' _ hK hgs hch hμ (BW _ _ _)
 ·have:∃d f args,ai= .call d f args:=by
   cases ai<;>first|exact⟨_,_,_,rfl⟩|exact absurd (λ_ _ _ h=>by cases h) hc
  obtain⟨d,f,args,rfl⟩:=this;have h:(∃r b h',f.ev s.e= .yld r∧YSp P GL r (As s.e args) s.h b h'∧K ⟨Bh s.e d (.v (.bool b)),h'⟩)∨
    (∃fid fs rets h',f.ev s.e= .meth fid fs∧FSp P GL fid (fs++As s.e args) s.h rets h'∧K ⟨Bh s.e d (Ba rets),h'⟩)∨
    ∃fid caps rets h',Db (f.ev s.e)=some (fid,caps)∧FSp P GL fid (As s.e args++caps) s.h rets h'∧K ⟨Bh s.e d (Ba rets),h'⟩:=by
   simp only[Da,BF]at h;split at h
   ·rename_i r hf;obtain⟨b,h',h1,h2⟩:=h;exact .inl ⟨r,b,h',hf,h1,h2⟩
   ·rename_i fid fs hf;obtain⟨rets,h',h1,h2⟩:=h;exact .inr (.inl ⟨fid,fs,rets,h',hf,h1,h2⟩)
   ·split at h
    ·rename_i fid caps hf;obtain⟨rets,h',h1,h2⟩:=h;exact .inr (.inr ⟨fid,caps,rets,h',hf,h1,h2⟩)
    ·exact h.elim
  rcases h with ⟨rr,yb,h',hf,hsp,hK⟩|⟨fid,fs,rets,h',hf,⟨hok,hsp⟩,hK⟩|h
  ·simp only[CZ]at hk;split at hk
   ·rename_i f' asx ts hop;simp only[AT1,beq_iff_eq]at hk;obtain⟨⟨⟨hdst,hdN⟩,hkf⟩,hka⟩:=hk;rw[Oper.semAt_eq _ _ _ (λc hc=>by rw[hop]at hc;cases hc)];have hrf:=(hg.gd P).ev hkf;rw[hf]at hrf;obtain⟨bl,hbl,hcv⟩:=hrf;obtain⟨har,hat⟩:=Eb (hg.gd P) hka;obtain⟨fn,tmps,asg,body,hy,hround⟩:=hsp g w μ _ _ hg.inv.call hg.glob har hat bl hbl;have hrun:(execOp a.eval o).run P w= .ok (.round bl fn tmps asg body) w:=by
     have h2:asx.map a.eval=(asx.toList.map a.eval).toArray:=by rw[←AUu];simp
     simp[execOp,hop,resolve,hcv,Deferred.ofValue,invoke,h2,hy]
    rw[hrun,Oper.uponIn_round];refine⟨(λh=>by simp[WF,Fence.wide]at h),?_⟩;refine RoundIn.mono (F:=WF r) (show RoundIn (WF r) 0 P bl fn tmps asg body w _ from hround) ?_;rintro e w' ⟨g',μ',rfl,hinv,hch,hμ⟩;have hgs:Gs GL N g' w' μ' ⟨s.e,h'⟩ a O:=⟨hg.inv.ret hinv hch hμ,hg.glob.mono hch.le,hg.sz⟩;refine hn ⟨Bh s.e d (.v (.bool yb)),h'⟩ g' w' μ' _ hK ?_ (hch.mono λ_ h ho=>h (.inl ho)) hμ (BW _ _ _);rw[hdst];cases d with
    |none=>exact⟨hgs.inv,hgs.glob,by rw[Ay,hgs.sz]⟩
    |some d=>exact hgs.set (by simpa using hdN) (.bool yb) λk=>Bf _ _ _
   ·cases hk
  ·simp only[CZ]at hk;split at hk
   ·rename_i f' asx ts hop;simp only[AT1,beq_iff_eq]at hk;obtain⟨⟨⟨hdst,hdN⟩,hkf⟩,hka⟩:=hk;rw[Oper.semAt_eq _ _ _ (λc hc=>by rw[hop]at hc;cases hc)];have hrf:=(hg.gd P).ev hkf;rw[hf]at hrf;obtain⟨cvs,hcv,hcr0⟩:=hrf;obtain⟨hcr,hct⟩:=WH (w:=w) hcr0;obtain⟨har,hat⟩:=Eb (hg.gd P) hka;have hall:=hcr.append har;have htm:=hct.append hcr.1 hat;have hcall:=hsp g w μ _ _ hg.inv.call hg.glob hall htm;have hrun:(execOp a.eval o).run P w= .ok (.enter fid (cvs++asx.toList.map a.eval).toArray) w:=by
     unfold okF at hok;split at hok
     ·rename_i fn hfn;simp only[AT1,AUw]at hok;have h1:¬fn.body=none:=by cases hb:fn.body<;>simp_all
      have h3:¬fn.name= "runtime.NumGoroutine" :=by simpa using hok.2
      have h2:(cvs.toArray++asx.map a.eval)=(cvs++asx.toList.map a.eval).toArray:=by
       rw[←AUu];simp
      simp[execOp,hop,resolve,hcv,Deferred.ofValue,invoke,callFunc,hfn,h3,h1,h2]
     ·cases hok
    rw[hrun,Oper.uponIn_enter];refine⟨(λh=>by simp[WF,Fence.wide]at h),EX ?_⟩;refine hcall.mono ?_;rintro e w' ⟨v,g',μ',rfl,hinv,hch,hμ⟩;have hgs:Gs GL N g' w' μ' ⟨s.e,h'⟩ a O:=⟨hg.inv.ret hinv.leave hch hμ,hg.glob.mono hch.le,hg.sz⟩;refine hn ⟨Bh s.e d (Ba rets),h'⟩ g' w' μ' _ hK ?_ (hch.mono λ_ h ho=>h (.inl ho)) hμ (BW _ _ _);rw[hdst];cases d with
    |none=>exact⟨hgs.inv,hgs.glob,by rw[Ay,hgs.sz]⟩
    |some d=>exact hgs.setR (by simpa using hdN) (hg.inv.retV hinv hgs.inv d)
   ·cases hk
  obtain⟨fid,caps,rets,h',hf,⟨hok,hsp⟩,hK⟩:=h;simp only[CZ]at hk;split at hk
  ·rename_i f' asx ts hop;simp only[AT1,beq_iff_eq]at hk;obtain⟨⟨⟨hdst,hdN⟩,hkf⟩,hka⟩:=hk;rw[Oper.semAt_eq _ _ _ (λc hc=>by rw[hop]at hc;cases hc)];obtain⟨cvs,hcv,hcr,hct⟩:=Hy ((hg.gd P).ev hkf) hf;obtain⟨har,hat⟩:=Eb (hg.gd P) hka;have hall:=har.append hcr;have htm:=hat.append har.1 hct;have hcall:=hsp g w μ _ _ hg.inv.call hg.glob hall htm;have hrun:(execOp a.eval o).run P w= .ok (.enter fid (asx.toList.map a.eval++cvs).toArray) w:=by
    unfold okF at hok;split at hok
    ·rename_i fn hfn;simp only[AT1,AUw]at hok;have h1:¬fn.body=none:=by cases hb:fn.body<;>simp_all
     have h3:¬fn.name= "runtime.NumGoroutine" :=by simpa using hok.2
     have h2:(asx.map a.eval++cvs.toArray)=(asx.toList.map a.eval++cvs).toArray:=by
      rw[←AUu];simp
     simp[execOp,hop,resolve,hcv,Deferred.ofValue,invoke,callFunc,hfn,h3,h1,h2]
    ·cases hok
   rw[hrun,Oper.uponIn_enter];refine⟨(λh=>by simp[WF,Fence.wide]at h),EX ?_⟩;refine hcall.mono ?_;rintro e w' ⟨v,g',μ',rfl,hinv,hch,hμ⟩;have hgs:Gs GL N g' w' μ' ⟨s.e,h'⟩ a O:=⟨hg.inv.ret hinv.leave hch hμ,hg.glob.mono hch.le,hg.sz⟩;refine hn ⟨Bh s.e d (Ba rets),h'⟩ g' w' μ' _ hK ?_ (hch.mono λ_ h ho=>h (.inl ho)) hμ (BW _ _ _);rw[hdst];cases d with
   |none=>exact⟨hgs.inv,hgs.glob,by rw[Ay,hgs.sz]⟩
   |some d=>exact hgs.setR (by simpa using hdN) (hg.inv.retV hinv hgs.inv d)
  ·cases hk
theorem Inv.callO {g:Gh} {w:World} {μ:List Nat} {t t':Nat→D} {u:Nat→Value} {h:List Row} {O:Nat→Prop} (hi:Inv g w μ t u h O) (ht:∀n k b,Ab (t' n) (u n) k=some b→Ab (t n) (u n) k=some b)
  {x:D} {v:Value} {ds:List D} {us:List Value} (hx:RepD g w μ x v) (hall:All2 (RepG g w μ) ds us) (htm:Tame ds us)
  (hown:∀k b,Ab x v k=some b→∃m,Ab (t m) (u m) k=some b∧t' m= .any):
  Inv g w μ (atL .any (x::ds)) (atL undef (v::us)) h (L1 t' u O):=by
 have tail:∀n k,Ab (atL .any (x::ds) (n+1)) (atL undef (v::us) (n+1)) k=none:=by
  intro n k;simp only[atL,AVH];cases hd:ds[n]? with
  |none=>cases k<;>simp[Ab,AZ]
  |some d=>
   obtain⟨y,hy,hr⟩:=hall.get hd;rw[hy];exact E2 hr (htm n d y hd hy) k
 have head:∀k b,blk (atL .any (x::ds)) (atL undef (v::us)) h w μ (.tmp 0 k)=some b→∃m,blk t u h w μ (.tmp m k)=some b∧t' m= .any:=λk b hb=>hown k b hb;have own_any:∀(v:Value) k,Ab .any v k=none:=λv k=>by cases k<;>simp[Ab,AZ]
 refine⟨hi.agree,λb hb=>?_,λn=>?_,hi.len,hi.rows,hi.nod,λb hb ho=>?_,λp q b hp hq=>?_,λp b hp=>?_⟩
 ·rcases hb with hb|⟨n,k,hb⟩
  ·exact hi.olt b hb
  ·exact hi.blk_lt (p:= .tmp n k) (ht n k b hb)
 ·cases n with
  |zero=>exact hx
  |succ n=>
   simp only[atL,AVH];cases hd:ds[n]? with
   |none=>simp[RepD,RepG,RepE]
   |some d=>
    obtain⟨y,hy,hr⟩:=hall.get hd;rw[hy];exact hr.toD
 ·rcases ho with ho|⟨n,k,ho⟩
  ·exact hi.mo b hb ho
  ·exact(hi.sep (.tmp n k) b (ht n k b ho)).1 hb
 ·cases p with
  |tmp n k=>
   cases n with
   |succ n=>have hp':Ab _ _ k=some b:=hp;rw[tail n k]at hp';cases hp'
   |zero=>
    obtain⟨m,hm,_⟩:=head k b hp;cases q with
    |tmp n' k'=>
     cases n' with
     |succ n'=>have hq':Ab _ _ k'=some b:=hq;rw[tail n' k']at hq';cases hq'
     |zero=>
      obtain⟨m',hm',_⟩:=head k' b hq;have:=hi.uniq _ _ b hm hm';cases this;rfl
    |cell r' k'=>have:=hi.uniq _ (.cell r' k') b hm hq;cases this
  |cell r k=>
   cases q with
   |tmp n' k'=>
    cases n' with
    |succ n'=>have hq':Ab _ _ k'=some b:=hq;rw[tail n' k']at hq';cases hq'
    |zero=>
     obtain⟨m',hm',_⟩:=head k' b hq;have:=hi.uniq (.cell r k) _ b hp hm';cases this
   |cell r' k'=>exact hi.uniq (.cell r k) (.cell r' k') b hp hq
 ·cases p with
  |tmp n k=>
   cases n with
   |succ n=>have hp':Ab _ _ k=some b:=hp;rw[tail n k]at hp';cases hp'
   |zero=>
    obtain⟨m,hm,hma⟩:=head k b hp;refine⟨(hi.sep _ b hm).1,λho=>?_⟩;rcases ho with ho|⟨n',k',ho⟩
    ·exact(hi.sep _ b hm).2 ho
    ·have:=hi.uniq _ (.tmp n' k') b hm (ht n' k' b ho);cases this;rw[hma,own_any]at ho;cases ho
  |cell r k=>
   obtain⟨h1,h2⟩:=hi.sep (.cell r k) b hp;refine⟨h1,λho=>?_⟩;rcases ho with ho|⟨n',k',ho⟩
   ·exact h2 ho
   ·have:=hi.uniq (.cell r k) (.tmp n' k') b hp (ht n' k' b ho);cases this
theorem Ox {o:Oper} {d:Option Nat} {f q:Opd} {args:List Opd} (hk:CZ P GL N o (.callO d f q args)=true) {K:St→Prop} {g:Gh} {w:World} {μ:List Nat} {s:St} {a:Act} {O:Nat→Prop} (hg:Gs GL N g w μ s a O)
  (h:Da P GL (.callO d f q args) K s) {next:Act→World→Prop} {Q:Exit→Act→World→Prop}
  (hn:∀s' g' w' μ' a',K s'→Gs GL N g' w' μ' s' a' O→Chg (λb=>¬O b) g w g' w'→μ <+: μ'→a'.defers=a.defers→next a' w'):o.wpIn (WF r) 0 P a w next Q:=by
 refine⟨λ_ _=>trivial,?_⟩;simp only[CZ]at hk;split at hk
 ·rename_i f' asx ts hop;simp only[AT1,beq_iff_eq]at hk;obtain⟨⟨⟨⟨hdst,hdN⟩,hkf⟩,hka⟩,hb⟩:=hk;obtain⟨fid,rets,hf,⟨hok,hsp⟩,hK⟩:=h;rw[Oper.semAt_eq _ _ _ (λc hc=>by rw[hop]at hc;cases hc)];obtain⟨cvs,hcv,hcr,_⟩:=Hy ((hg.gd P).ev hkf) hf;have hcv0:cvs=[]:=AUg (by have:=hcr.1;simpa using this);subst hcv0;obtain⟨x,as',has⟩:∃x as',asx.toList=x::as':=by
   cases h:asx.toList with
   |nil=>rw[h]at hka;simp[Aj]at hka
   |cons x as'=>exact⟨x,as',rfl⟩
  rw[has]at hka;simp only[Aj,AT1]at hka;obtain⟨hkx,hka⟩:=hka;have hrx:=(hg.gd P).ev hkx;obtain⟨har,hat⟩:=Eb (hg.gd P) hka;have hclear:(AH (q.clear s.e)=AH s.e∧∀k b,Ab (q.ev s.e) (a.eval x) k=some b→False)∨∃m,q= .t m true∧AH (q.clear s.e)=λn=>if m=n then .any else AH s.e n:=by
   cases q with
   |t m mv=>cases mv with
    |false=>simp[EZ]at hb
    |true=>exact .inr ⟨m,rfl,rfl⟩
   |c d=>
    refine .inl ⟨rfl,λk b hkb=>?_⟩;cases x with
    |const v=>
     rcases KL hkx with hkx|⟨cs,xs,rfl,rfl⟩
     case inr=>cases k<;>simp[Opd.ev,Act.eval,Ab,AZ]at hkb
     unfold Et at hkx;split at hkx<;>first|(cases k<;>simp[Opd.ev,Act.eval,Ab,AZ]at hkb;done)|(rename_i h _;cases h)|cases hkx
     all_goals (cases k<;>simp_all [Opd.ev,Act.eval,Ab,AZ])
    |tmp n=>simp[oe]at hkx
    |global n=>simp[oe]at hkx
    |func f=>cases k<;>cases d<;>first|(simp[Opd.ev,Act.eval,Ab,AZ]at hkb;done)|(simp[EZ]at hb;done)
   |g n cs=>simp[EZ]at hb
  have hInvC:Inv g w μ (AH (q.clear s.e)) (λn=>a.tmps.getD n undef) s.h O:=by
   rcases hclear with ⟨h,_⟩|⟨m,_,h⟩
   ·rw[h];exact hg.inv
   ·rw[h];refine hg.inv.weaken _ λn=>?_;by_cases hn:m=n
    ·exact .inr ⟨λv _=>by simp[hn,RepD,RepG,RepE],λv k=>by simp only[hn,if_true];cases k<;>simp[Ab,AZ]⟩
    ·exact .inl (by simp[hn])
  have hin:=hg.inv.callO (t':=AH (q.clear s.e)) (ds:=As s.e args) (us:=as'.map a.eval) (x:=q.ev s.e) (v:=a.eval x) (λn k b hb=>by
    rcases hclear with ⟨h,_⟩|⟨m,_,h⟩
    ·rw[h]at hb;exact hb
    ·rw[h]at hb;by_cases hn:m=n
     ·simp only[hn,if_true]at hb;cases k<;>simp[Ab,AZ]at hb
     ·simpa[hn]using hb) hrx har hat (λk b hkb=>by
    rcases hclear with ⟨_,h⟩|⟨m,rfl,h⟩
    ·exact(h k b hkb).elim
    ·refine⟨m,?_,by rw[h];simp⟩;cases x with
     |tmp n=>
      simp only[oe,beq_iff_eq]at hkx;subst hkx;simpa[Opd.ev,Act.eval]using hkb
     |const v=>simp[oe]at hkx
     |global n=>simp[oe]at hkx
     |func f=>simp[oe]at hkx)
  have hcall:=hsp g w μ (a.eval x::as'.map a.eval) _ s.h (by simp[har.1.symm,As]at *;have:=har.1;simpa[As]using this) hin hg.glob;have hrun:(execOp a.eval o).run P w= .ok (.enter fid (a.eval x::as'.map a.eval).toArray) w:=by
   unfold okF at hok;split at hok
   ·rename_i fn hfn;simp only[AT1,AUw]at hok;have h1:¬fn.body=none:=by cases hb:fn.body<;>simp_all
    have h3:¬fn.name= "runtime.NumGoroutine" :=by simpa using hok.2
    have h2:asx.map a.eval=(a.eval x::as'.map a.eval).toArray:=by
     rw[←AUu];simp[has]
    simp[execOp,hop,resolve,hcv,Deferred.ofValue,invoke,callFunc,hfn,h3,h1,h2]
   ·cases hok
  rw[hrun,Oper.uponIn_enter];refine⟨(λh=>by simp[WF,Fence.wide]at h),EX ?_⟩;refine hcall.mono ?_;rintro e w' ⟨v,g',μ',rfl,hinv,hch,hμ⟩;have hgs:Gs GL N g' w' μ' ⟨q.clear s.e,s.h⟩ a O:=⟨hInvC.ret hinv.leave hch hμ,hg.glob.mono hch.le,hg.sz⟩;refine hn ⟨Bh (q.clear s.e) d (Ba rets),s.h⟩ g' w' μ' _ hK ?_ (hch.mono λ_ h ho=>h (.inl ho)) hμ (BW _ _ _);rw[hdst];cases d with
  |none=>exact⟨hgs.inv,hgs.glob,by rw[Ay,hgs.sz]⟩
  |some d=>exact hgs.setR (by simpa using hdN) (hInvC.retV hinv hgs.inv d)
 ·cases hk
theorem H8 {st:St} {a:Act} {h:List Row} {O:Nat→Prop} {g:Gh} {w:World} {μ:List Nat} (hg:Gd P GL g w μ st.e a h O):∀ {ps:List Operand} {qs:List Opd},Aj (oe GL) ps qs=true→
  All2 (RepG g w μ) (qs.map λq=>(q.ev st.e).copy) (ps.map a.eval)∧Tame (qs.map λq=>(q.ev st.e).copy) (ps.map a.eval)
 |[],[],_=>⟨.nil,λi d v h=>by simp at h⟩
 |[],_::_,h=>by simp[Aj]at h
 |_::_,[],h=>by simp[Aj]at h
 |p::ps,q::qs,h=>by
  simp only[Aj,AT1]at h;obtain⟨h1,h2⟩:=H8 hg h.2;refine⟨.cons (yi (hg.ev h.1)) h1,λi d v hd hv=>?_⟩
  match i with
  |0=>
   simp only[AUD,AWG,AT0]at hd hv;subst hd;subst hv;exact Ih _ _
  |i+1=>exact h2 i d v (by simpa using hd) (by simpa using hv)
theorem Sv {o:Oper} {d:Nat} {q y':Opd} {e sz by_:Nat} (hk:CZ P GL N o (.appP d q y' e sz by_)=true) {K:St→Prop} {g:Gh} {w:World} {μ:List Nat} {s:St} {a:Act} {O:Nat→Prop} (hg:Gs GL N g w μ s a O)
  (h:Da P GL (.appP d q y' e sz by_) K s) {next:Act→World→Prop} {Q:Exit→Act→World→Prop}
  (hn:∀s' g' w' μ' a',K s'→Gs GL N g' w' μ' s' a' O→Chg (λb=>¬O b) g w g' w'→μ <+: μ'→a'.defers=a.defers→next a' w'):o.wpIn (WF r) 0 P a w next Q:=by
 refine⟨λ_ _=>trivial,?_⟩;simp only[CZ,AT1,beq_iff_eq,decide_eq_true_eq]at hk;obtain⟨⟨hdst,hdN⟩,h4⟩:=hk;split at h4
 ·rename_i asx ts hop;simp only[AT1]at h4;obtain⟨⟨⟨k1,k2⟩,k3⟩,k4⟩:=h4;obtain⟨x,y,rfl,j1⟩:=Cj k1;obtain⟨t,t2,rfl,j3⟩:=Cj k3;simp only[AT1]at j1 j3;obtain⟨e2,he2⟩:=EK j3.2;obtain⟨i,z,hi,rfl,rfl,h0,hz,hzs⟩:=EV k4;rw[Oper.semAt_eq _ _ _ (λc hc=>by rw[hop]at hc;cases hc)];simp only[Da]at h;split at h
  ·rename_i xs zv hx hy;obtain⟨hzl,hroom,hK⟩:=h;have hry:=CF ((hg.gd P).ev j1.2) hy;obtain⟨vy,h1,h2,h3,h3'⟩:=Ha (P:=P) hg.inv.agree hry h0 (by simp[CK,hzl]);obtain⟨v,w',g',b,hrun,hgs,hch⟩:=Wu hg (ty:=o.type) (Co j3.1) he2 (by simp) hi hz hzs h0 j1.1 hx (No hg j1.1 k2) h1 h3 h3' hroom hdN;have hrun2:(execOp a.eval o).run P w= .ok (.value v) w':=by simp[execOp,hop,resolve,invoke,builtin,hrun]
   rw[hrun2];refine hn _ g' w' μ _ (hK b) ?_ hch (AT8 _) (BW _ _ _);rw[hdst];exact hgs
  ·exact h.elim
 ·cases h4
theorem Oy {o:Oper} {d:Option Nat} {f:Opd} {args:List Opd} (hk:CZ P GL N o (.callN d f args)=true) {K:St→Prop} {g:Gh} {w:World} {μ:List Nat} {s:St} {a:Act} {O:Nat→Prop} (hg:Gs GL N g w μ s a O)
  (h:Da P GL (.callN d f args) K s) {next:Act→World→Prop} {Q:Exit→Act→World→Prop}
  (hn:∀s' g' w' μ' a',K s'→Gs GL N g' w' μ' s' a' O→Chg (λb=>¬O b) g w g' w'→μ <+: μ'→a'.defers=a.defers→next a' w'):o.wpIn (WF r) 0 P a w next Q:=by
 refine⟨λ_ _=>trivial,?_⟩;obtain⟨fid,rets,h',hf,⟨hok,hsp⟩,hK⟩:=h;simp only[CZ]at hk;split at hk
 ·rename_i f' asx ts hop;simp only[AT1,beq_iff_eq]at hk;obtain⟨⟨⟨hdst,hdN⟩,hkf⟩,hka⟩:=hk;rw[Oper.semAt_eq _ _ _ (λc hc=>by rw[hop]at hc;cases hc)];obtain⟨cvs,hcv,hcr,hct⟩:=Hy ((hg.gd P).ev hkf) hf;obtain rfl:cvs=[]:=by have:=hcr.1;simpa using this
  obtain⟨har,hat⟩:=H8 (hg.gd P) hka;have hcall:=hsp g w μ _ _ hg.inv.call hg.glob har hat;have hrun:(execOp a.eval o).run P w= .ok (.enter fid (asx.toList.map a.eval).toArray) w:=by
   unfold okF at hok;split at hok
   ·rename_i fn hfn;simp only[AT1,AUw]at hok;have h1:¬fn.body=none:=by cases hb:fn.body<;>simp_all
    have h3:¬fn.name= "runtime.NumGoroutine" :=by simpa using hok.2
    have h2:asx.map a.eval=(asx.toList.map a.eval).toArray:=by
     rw[←AUu];simp
    simp[execOp,hop,resolve,hcv,Deferred.ofValue,invoke,callFunc,hfn,h3,h1,h2]
   ·cases hok
  rw[hrun,Oper.uponIn_enter];refine⟨(λh=>by simp[WF,Fence.wide]at h),EX ?_⟩;refine hcall.mono ?_;rintro e w' ⟨v,g',μ',rfl,hinv,hch,hμ⟩;have hgs:Gs GL N g' w' μ' ⟨s.e,h'⟩ a O:=⟨hg.inv.ret hinv.leave hch hμ,hg.glob.mono hch.le,hg.sz⟩;refine hn ⟨Bh s.e d (Ba rets),h'⟩ g' w' μ' _ hK ?_ (hch.mono λ_ h ho=>h (.inl ho)) hμ (BW _ _ _);rw[hdst];cases d with
  |none=>exact⟨hgs.inv,hgs.glob,by rw[Ay,hgs.sz]⟩
  |some d=>exact hgs.setR (by simpa using hdN) (hg.inv.retV hinv hgs.inv d)
 ·cases hk
theorem PU {g:Gh} {sz:Nat}:∀ {xs:List V} {us:List Value},(∀x∈xs,x.cells.length=sz)→All2 (RepV g) (xs.flatMap V.cells) us→(∀u∈us,u.oneCell'=true)→
  ∃vs:List Value,All2 (RepV g) xs vs∧us=vs.flatMap (λv=>v.cells.toList)∧∀v∈vs,v.cells.size=sz
 |[],us,_,h,_=>by
  have:=h.1;simp at this;subst this;exact⟨[],.nil,rfl,by simp⟩
 |x::xs,us,hx,h,h1=>by
  rw[AUN]at h;have hxl:=hx x (by simp);have ha:All2 (RepV g) x.cells (us.take sz):=by
   have:=h.take sz
   rwa [AV3 (by omega),AUc (by omega)]at this
  have hb:All2 (RepV g) (xs.flatMap V.cells) (us.drop sz):=by
   have:=h.drop sz
   rwa [←hxl,List.drop_left,hxl]at this
  obtain⟨vs,h2,h3,h4⟩:=PU (λy hy=>hx y (by simp[hy])) hb (λu hu=>h1 u (AVk hu));have ho:∀u∈us.take sz,u.oneCell'=true:=λu hu=>h1 u (AUi hu);have hlt:(us.take sz).length=sz:=by rw[ha.1,hxl]
  obtain⟨v,hv1,hv2⟩:∃v,RepV g x v∧v.cells.toList=us.take sz:=by
   generalize us.take sz=ut at ha ho;have one:x.cells=[x]→∃v,RepV g x v∧v.cells.toList=ut:=by
    intro hc;rw[hc]at ha;obtain⟨u,rfl⟩:∃u,ut=[u]:=by
     match ut,ha.1 with
     |[u],_=>exact⟨u,rfl⟩
    exact⟨u,(All2.cons_iff.1 ha).1,by rw[Fd (ho u (by simp))]⟩
   cases x with
   |agg cs=>exact⟨.agg ut.toArray,.agg' ha ho,by simp[Value.cells]⟩
   |_=>exact one rfl
  refine⟨v::vs,.cons hv1 h2,by rw[AUN,hv2,←h3,AUr],λy hy=>?_⟩;rcases AT7.1 hy with rfl|hy
  ·rw[←hlt,←hv2];simp
  ·exact h4 y hy
theorem OJ {g:Gh} {u:Value} (h:∃a:Option Addr,u= .slice a 0 0∧∀x,a=some x→x.spot=none):RepV g (.list []) u:=by
 obtain⟨a,rfl,hs⟩:=h;cases a with
 |none=>exact .lnil
 |some a=>exact .list [] a 0 0 (λ_=> .bool false) (hs a rfl) (AT6 _) (by simp) (by simp)
theorem PT {g:Gh} {w:World} {μ:List Nat}:∀ {ds:List D} {xs:List V} {us:List Value},D.vs? ds=some xs→All2 (RepE g w μ) ds us→All2 (RepV g) xs us
 |[],xs,us,h,ha=>by simp only[D.vs?,AT0]at h;subst h;exact⟨by simpa using ha.1,λi x v h=>by simp at h⟩
 |d::ds,xs,us,h,ha=>by
  obtain⟨u,us',rfl⟩:∃u us',us=u::us':=by
   match us,ha.1 with
   |u::us',_=>exact⟨u,us',rfl⟩
  obtain⟨h1,h2⟩:=All2.cons_iff.1 ha;simp only[D.vs?]at h;split at h
  ·rename_i x xs' hx hxs;simp only[AT0]at h;subst h;refine .cons ?_ (PT hxs h2);cases d<;>simp only[D.v?,AT0,reduceCtorEq]at hx<;>subst hx
   ·exact h1
   ·exact OJ h1
   ·exact RepOwn.list h1
  ·cases h
theorem MN:∀(vs:List Value),vs.flatMap (λv=>v.cells.toList)=A8 vs.length λi=>vs.getD i (.bool false)
 |[]=>rfl
 |v::vs=>by
  have e2:A8 (v::vs).length (λi=>(v::vs).getD i (.bool false))=v.cells.toList++A8 vs.length (λi=>vs.getD i (.bool false)):=by simp[A8,AWL,AWJ]
  rw[e2,AUN,MN vs]
theorem K7 {z:Array Value} {n:Nat} {v:Value} (h:v∈(Builtin.zeroCells z n).toList):v∈z.toList:=by
 simp[Builtin.zeroCells]at h;obtain⟨i,hi,rfl⟩:=h;have h0:0 <z.size:=by
  rcases AV2 z.size with h|h
  ·rw[h]at hi;omega
  ·exact h
 have hm:=Nat.mod_lt i h0;simp[hm]
theorem WS {o:Oper} {d:Nat} {q:Opd} {sz:Nat} (hk:CZ P GL N o (.frz d q sz)=true) {K:St→Prop} {g:Gh} {w:World} {μ:List Nat} {s:St} {a:Act} {O:Nat→Prop} (hg:Gs GL N g w μ s a O)
  (h:Da P GL (.frz d q sz) K s) {next:Act→World→Prop} {Q:Exit→Act→World→Prop}
  (hn:∀s' g' w' μ' a',K s'→Gs GL N g' w' μ' s' a' O→Chg (λb=>¬O b) g w g' w'→μ <+: μ'→a'.defers=a.defers→next a' w'):o.wpIn (WF r) 0 P a w next Q:=by
 refine⟨λ_ _=>trivial,?_⟩;simp only[CZ,AT1,beq_iff_eq,decide_eq_true_eq]at hk;obtain⟨⟨hdst,hdN⟩,h4⟩:=hk;obtain⟨x,hop,hx⟩:∃x,(o.op= .move x∨o.op= .assign x)∧oe GL x q=true:=by
  split at h4
  ·rename_i x hop;exact⟨x,.inl hop,h4⟩
  ·rename_i x hop;exact⟨x,.inr hop,h4⟩
  ·cases h4
 have hrun:(execOp a.eval o).run P w= .ok (.value (a.eval x)) w:=by rcases hop with hop|hop<;>simp[execOp,hop]
 rw[Oper.semAt_eq _ _ _ (λc hc=>by rcases hop with hop|hop<;>rw[hop]at hc<;>cases hc),hrun]
 have hr:=(hg.gd P).ev hx;simp only[Da]at h;split at h
 ·rename_i e' s' hq;rw[hq]at hr;obtain⟨ad,hv,hsp⟩:=hr;refine hn _ g w μ _ h ?_ (Chg.refl _ _ _) (AT8 _) (BW _ _ _);rw[hdst,hv];exact hg.set hdN (OJ ⟨ad,rfl,hsp⟩) λk=>Bf _ _ _
 ·rename_i r n hq;rw[hq]at hr;obtain⟨b,cap,hb,hv,hnc⟩:=hr;split at h
  ·rename_i ds hrow;obtain⟨h0,xs,hxl,hxc,hvs,hK⟩:=h;obtain⟨vs,T,hheap,hall,hone,hgn⟩:=hg.inv.rows r _ b hrow hb;have hcl:=PT hvs (hall.take (n*sz));obtain⟨ws,w1,w2,w3⟩:=PU hxc hcl (λu hu=>hone u (AUi hu));have hwl:ws.length=n:=by rw[w1.1,hxl]
   let g':=g.put b 0 (vs.take (n*sz))
   have hgle:g.le g':=Gh.le_put _ λo _ _=>hgn o;have hchg:Chg (λz=>z=b) g w g' w:=⟨hgle,AT6 _,λ_ _ _=>rfl,λb' _ hb' o=>Gh.put_other hb' o,rfl,rfl⟩;have hag:∀b' o v,g'.m b' o=some v→w.cell? ⟨b',o,none⟩=some v:=by
    intro b' o v hv;by_cases hb':b'=b
    ·subst hb';rw[cell_of_row w b' o _ _ _ hheap];simp only[g',Gh.put]at hv;split at hv
     ·rename_i hc;simp only[AVn]at hv;have h2:=hc.2.2;rw[AUV]at hv;split at hv
      ·simpa using hv
      ·cases hv
     ·rw[hgn]at hv;cases hv
    ·simp only[g',Gh.put_other hb']at hv;exact hg.inv.agree b' o v hv
   have hinv:=hg.inv.setAny hrow hb .dead hchg hag (BC hheap) (λk ds d h=>by cases h);have hgs:Gs GL N g' w μ ⟨s.e,s.h.set r .dead⟩ a O:=⟨hinv,hg.glob.mono hgle,hg.sz⟩;have hsz:∀i,i <n→((λi=>ws.getD i (.bool false)) i).cells.size=sz:=λi hi=>by
    have:i <ws.length:=by omega
    simp only[List.getD,AT2 this,AUH];exact w3 _ (AUs this)
   refine hn _ g' w μ _ hK ?_ (hchg.mono λz (hz:z=b) ho=>hg.inv.mo b (AT3 hb) (hz▸ho)) (AT8 _) (BW _ _ _);rw[hdst,hv];refine hgs.set hdN (x:= .v (.list xs)) ?_ λk=>Bf _ _ _;rw[←hxl];refine RepV.list xs ⟨b,0,none⟩ cap sz (λi=>ws.getD i (.bool false)) rfl (by omega) (λi x hi=>?_) (λi hi=>⟨hsz i (by omega),λj v hj=>?_⟩)
   ·obtain⟨u,hu,hru⟩:=w1.get hi;simp only[List.getD,hu,AUH];exact hru.mono hgle
   ·have hjs:j <sz:=by have:=(AT4.1 hj).1;have:=hsz i (by omega);simp at *;omega
    have:=Gh.put_at g b 0 (vs.take (n*sz)) (i*sz+j) v (by
     rw[w2,MN,hwl,DU hsz (by omega) hjs];exact hj)
    simpa using this
  ·exact h.elim
 ·exact h.elim
theorem Su {o:Oper} {d:Nat} {q y':Opd} {e sz by_:Nat} (hk:CZ P GL N o (.appR d q y' e sz by_)=true) {K:St→Prop} {g:Gh} {w:World} {μ:List Nat} {s:St} {a:Act} {O:Nat→Prop} (hg:Gs GL N g w μ s a O)
  (h:Da P GL (.appR d q y' e sz by_) K s) {next:Act→World→Prop} {Q:Exit→Act→World→Prop}
  (hn:∀s' g' w' μ' a',K s'→Gs GL N g' w' μ' s' a' O→Chg (λb=>¬O b) g w g' w'→μ <+: μ'→a'.defers=a.defers→next a' w'):o.wpIn (WF r) 0 P a w next Q:=by
 refine⟨λ_ _=>trivial,?_⟩;simp only[CZ,AT1,beq_iff_eq,decide_eq_true_eq]at hk;obtain⟨⟨hdst,hdN⟩,h4⟩:=hk;split at h4
 ·rename_i asx ts hop;simp only[AT1]at h4;obtain⟨⟨⟨k1,k3⟩,k4⟩,k5⟩:=h4;obtain⟨x,y,rfl,j1⟩:=Cj k1;obtain⟨t,t2,rfl,j3⟩:=Cj k3;simp only[AT1]at j1 j3;obtain⟨e2,he2⟩:=EK j3.2;obtain⟨i,z,hi,rfl,rfl,h0,hz,hzs⟩:=EV k4;have hz1:∀v∈z.cells.toList,v.oneCell'=true:=by
   rw[hi]at k5;simp only[AUX,hz,Option.any_some]at k5;exact AUI.1 k5
  have ht:=Co j3.1;rw[Oper.semAt_eq _ _ _ (λc hc=>by rw[hop]at hc;cases hc)];simp only[Da]at h;split at h
  ·rename_i e' s' ys hq hy;obtain⟨hh,hroom,h⟩:=h;have hrq:=(hg.gd P).ev j1.1;rw[hq]at hrq;obtain⟨base,hev,hsp⟩:=hrq;have hry:=CF ((hg.gd P).ev j1.2) hy;obtain⟨vy,h1,h2,h3,h3'⟩:=Ha (P:=P) hg.inv.agree hry h0 hh;by_cases hy0:ys=[]
   ·subst hy0;simp only[List.isEmpty_nil,if_true]at h;have hrun:=Hd (ty:=o.type) ht he2 (by simp) hi h1 rfl base 0 0 (AT6 _);have:(execOp a.eval o).run P w= .ok (.value (.slice base 0 0)) w:=by simp[execOp,hop,resolve,invoke,builtin,hev,hrun]
    rw[this];refine hn _ g w μ _ h ?_ (Chg.refl _ _ _) (AT8 _) (BW _ _ _);rw[hdst];exact hg.set hdN (x:= .nil e i.size) ⟨base,rfl,hsp⟩ λk=>by cases k<;>cases base<;>simp[Ab,AZ]
   ·have hpos:0 <ys.length:=List.length_pos_iff.2 hy0;rw[if_neg (by simpa using hy0)]at h;obtain⟨hf63,hfit⟩:=HK hroom hpos;have hrun:=FE (ty:=o.type) (base:=base) (len:=0) (cap:=0) (olds:=[]) ht he2 (by simp) hi hz h1 (λw' _=>by cases base<;>simp[Builtin.firstCells,loadCells,loadCellsFrom]) (by omega) (by simpa using hf63) (by simpa using hfit)
    simp only[AU9]at hrun;have hge:=grownCap_ge w ys.length 0 e
    let zs:=Builtin.zeroCells z.cells (grownCap w ys.length 0 e-ys.length)
    let ob:Obj:= .cells ((#[]:Array Value)++(A8 ys.length vy).toArray++zs) e
    have hzsm:∀v∈zs.toList,v.oneCell'=true:=by
     intro v hv;exact hz1 v (K7 hv)
    have hdr:Inv g w.drew μ (AH s.e) (λn=>a.tmps.getD n undef) s.h O:=hg.inv.chg ⟨Gh.le.refl g,AT6 _,λ_ _ _=>rfl,λ_ _ _ _=>rfl,rfl,rfl⟩ hg.inv.agree;have hnone:∀o,g.m w.heap.size o=none:=λo=>Gh.lt_of hg.inv.agree (AT6 _) o;have hob:(w.drew.alloc ob).heap[w.heap.size]?=some (.cells ((A8 ys.length vy++zs.toList).toArray) e (0,0)):=by
     have:=heap_alloc_new w.drew ob;have e1:(#[]:Array Value)++(A8 ys.length vy).toArray++zs=(A8 ys.length vy++zs.toList).toArray:=by rw[←AUu];simp
     rw[←e1];exact this
    have hfl:All2 (RepV g) (ys.flatMap V.cells) (A8 ys.length vy):=by
     have:∀(ys:List V) (vy:Nat→Value),(∀(j:Nat) y,ys[j]?=some y→RepV g y (vy j))→All2 (RepV g) (ys.flatMap V.cells) (A8 ys.length vy):=by
      intro ys;induction ys with
      |nil=>intro vy _;exact .nil
      |cons y ys ih=>
       intro vy hvy;have e2:A8 (y::ys).length vy=(vy 0).cells.toList++A8 ys.length (λj=>vy (j+1)):=by simp[A8,AWL,AWJ]
       rw[e2,AUN];exact(hvy 0 y rfl).cells.1.append (ih _ λj x hx=>hvy (j+1) x (by simpa using hx))
     exact this ys vy h2
    have hcl:All2 (RepE g (w.drew.alloc ob) (μ++[w.heap.size])) ((ys.flatMap V.cells).map .v++List.replicate zs.size .any) (A8 ys.length vy++zs.toList):=by
     refine .append (All2.map_left (f:=D.v) (R:=RepV g) (λx y h=>h) hfl) ⟨by simp,λj x v hx hv=>?_⟩;have:=(AVU.1 (AT3 hx)).2;subst this;trivial
    have hone:∀v∈A8 ys.length vy++zs.toList,v.oneCell'=true:=by
     intro v hv;rcases AUK.1 hv with hv|hv
     ·obtain⟨j,hj,hm⟩:=H4 hv;exact h3' j hj v hm
     ·exact hzsm v hv
    have hrow:RowOK g (w.drew.alloc ob) (μ++[w.drew.heap.size]) w.drew.heap.size (.cells ((ys.flatMap V.cells).map .v++List.replicate zs.size .any)):=⟨_,e,hob,hcl,hone,hnone⟩;have hinv:=hdr.newAny (.cells ((ys.flatMap V.cells).map .v++List.replicate zs.size .any)) ob hrow (λk ds d hd hk=>by
     simp only[Row.cells.injEq]at hd;subst hd;have hm:=AT3 hk;rcases AUK.1 hm with hm|hm
     ·obtain⟨y,_,rfl⟩:=AT9.1 hm;simp[AZ]
     ·have:=(AVU.1 hm).2;subst this;simp[AZ])
    have hrun2:(execOp a.eval o).run P w= .ok (.value (.slice (some ⟨w.heap.size,0,none⟩) ys.length (grownCap w ys.length 0 e))) (w.drew.alloc ob):=by
     simp[execOp,hop,resolve,invoke,builtin,hev,hrun,ob,zs]
    rw[hrun2];have hdw:Chg (λb=>¬O b) g w g w.drew:=⟨Gh.le.refl g,AT6 _,λ_ _ _=>rfl,λ_ _ _ _=>rfl,rfl,rfl⟩;have hch:Chg (λb=>¬O b) g w g (w.drew.alloc ob):=hdw.trans (Bj (λb=>¬O b) g w.drew ob);refine hn _ g (w.drew.alloc ob) (μ++[w.heap.size]) _ (h zs.size) ?_ hch (AUz _ _) (BW _ _ _);rw[hdst];have hgn:Gs GL N g (w.drew.alloc ob) (μ++[w.heap.size]) ⟨s.e,s.h++[.cells ((ys.flatMap V.cells).map .v++List.replicate zs.size .any)]⟩ a O:=⟨hinv,hg.glob,hg.sz⟩;exact hgn.set hdN (x:= .sref s.h.length ys.length) ⟨w.heap.size,_,by rw[←hg.inv.len];simp,rfl,hge⟩ λk=>by cases k<;>simp[Ab,AZ]
  ·exact h.elim
 ·cases h4
theorem Ss {o:Oper} {ai:AI} (hk:CZ P GL N o ai=true) {K:St→Prop} {g:Gh} {w:World} {μ:List Nat} {s:St} {a:Act} {O:Nat→Prop} (hg:Gs GL N g w μ s a O)
  (h:Da P GL ai K s) {next:Act→World→Prop} {Q:Exit→Act→World→Prop}
  (hn:∀s' g' w' μ' a',K s'→Gs GL N g' w' μ' s' a' O→Chg (λb=>¬O b) g w g' w'→μ <+: μ'→a'.defers=a.defers→next a' w'):o.wpIn (WF r) 0 P a w next Q:=by
 by_cases hc4:∃d f q args,ai= .callO d f q args
 ·obtain⟨d,f,q,args,rfl⟩:=hc4;exact Ox hk hg h hn
 have hc4:∀d f q args,ai≠ .callO d f q args:=λd f q args h=>hc4 ⟨d,f,q,args,h⟩;by_cases hc5:∃d x y e s b,ai= .appR d x y e s b
 ·obtain⟨d,x,y,e,s,b,rfl⟩:=hc5;exact Su hk hg h hn
 by_cases hc6:∃d x s,ai= .frz d x s
 ·obtain⟨d,x,s,rfl⟩:=hc6;exact WS hk hg h hn
 have hc5:∀d x y e s b,ai≠ .appR d x y e s b∧ai≠ .frz d x s:=λd x y e s b=>⟨λh=>hc5 ⟨d,x,y,e,s,b,h⟩,λh=>hc6 ⟨d,x,s,h⟩⟩;by_cases hc7:∃d f args,ai= .callN d f args
 ·obtain⟨d,f,args,rfl⟩:=hc7;exact Oy hk hg h hn
 have hc7:∀d f args,ai≠ .callN d f args:=λd f args h=>hc7 ⟨d,f,args,h⟩;by_cases hc8:∃d x y e s b,ai= .appP d x y e s b
 ·obtain⟨d,x,y,e,s,b,rfl⟩:=hc8;exact Sv hk hg h hn
 have hc8:∀d x y e s b,ai≠ .appP d x y e s b:=λd x y e s b h=>hc8 ⟨d,x,y,e,s,b,h⟩;by_cases hc:∃d f args,ai= .callF d f args
 ·obtain⟨d,f,args,rfl⟩:=hc;exact GR (ai:= .call d f args) (λ_ _ _=>⟨(λh=>by cases h),(λh=>by cases h)⟩) (λ_ _ _ _ h=>by cases h) (λ_ _ _ _ _ _=>⟨(λh=>by cases h),(λh=>by cases h)⟩) (λ_ _ _ h=>by cases h) (λ_ _ _ _ _ _ h=>by cases h) hk hg h hn
 ·by_cases hc2:∃d f args,ai= .callC d f args
  ·obtain⟨d,f,args,rfl⟩:=hc2;exact GR (ai:= .call d f args) (λ_ _ _=>⟨(λh=>by cases h),(λh=>by cases h)⟩) (λ_ _ _ _ h=>by cases h) (λ_ _ _ _ _ _=>⟨(λh=>by cases h),(λh=>by cases h)⟩) (λ_ _ _ h=>by cases h) (λ_ _ _ _ _ _ h=>by cases h) hk hg h hn
  ·exact GR (λd f args=>⟨λh=>hc ⟨d,f,args,h⟩,λh=>hc2 ⟨d,f,args,h⟩⟩) hc4 hc5 hc7 hc8 hk hg h hn
theorem Fl {ops:Array Oper} {i:Nat} {x:GI} (hk1:Gx P GL N ops i x=true) {K:St→Prop} {g:Gh} {w:World} {μ:List Nat} {s:St} {a:Act} {O:Nat→Prop} (hg:Gs GL N g w μ s a O)
  (h:Dc P GL x K s) {next:Act→World→Prop} {Q:Exit→Act→World→Prop}
  (hn:∀s' g' w' μ' a',K s'→Gs GL N g' w' μ' s' a' O→Chg (λb=>¬O b) g w g' w'→μ <+: μ'→a'.defers=a.defers→next a' w'):wpOpIn (WF r) 0 P ops Q i next a w:=by
 unfold Gx at hk1;split at hk1
 ·cases hk1
 ·rename_i o ho;simp only[AT1]at hk1;obtain⟨hgd,hki⟩:=hk1;simp only[wpOpIn,ho];have go:Da P GL x.i K s→o.wpIn (WF r) 0 P a w next Q:=λh=>Ss hki hg h hn;cases hog:o.guard with
  |none=>
   cases hxg:x.g with
   |none=>
    simp only[Dc,hxg]at h;rw[if_pos (by simp[Region.wanted,hog])];exact go h
   |some p=>simp[hog,hxg]at hgd
  |some p=>
   obtain⟨j,want⟩:=p;cases hxg:x.g with
   |none=>simp[hog,hxg]at hgd
   |some p'=>
    obtain⟨t,want'⟩:=p';simp only[hog,hxg,AT1,beq_iff_eq]at hgd;obtain⟨⟨hj,rfl⟩,hdst⟩:=hgd;simp only[Dc,hxg]at h;have hrt:=hg.inv.rep t;have skip:K ⟨Bh s.e x.i.dst (.tup []),s.h⟩→next (a.put o.dst undef) w:=λh2=>by
     refine hn _ g w μ _ h2 ?_ (Chg.refl _ _ _) (AT8 _) (BW _ _ _);rw[←hdst];cases hd:x.i.dst with
     |none=>exact⟨hg.inv,hg.glob,by rw[Ay,hg.sz]⟩
     |some d=>
      have hdN:d <N:=by
       have:∀(ai:AI),CZ P GL N o ai=true→ai.dst=some d→d <N:=by
        intro ai hk hd;cases ai<;>simp only[AI.dst,AT0,reduceCtorEq]at hd<;>(try subst hd)<;>simp only[CZ,AT1,decide_eq_true_eq]at hk
        all_goals first
         |exact hk.1.2
         |exact hk.1.1.2
         |(cases hk;done)
         |(split at hk
           ·simp only[AT1,beq_iff_eq,decide_eq_true_eq]at hk;first|exact hk.1.1.2|exact hk.1.1.1.2
           ·cases hk)
       exact this x.i hki hd
      exact hg.set hdN (x:= .tup []) (v:=undef) ⟨[],rfl,.nil⟩ λk=>by simp[Ab,undef,AZ]
    split at h
    ·rename_i b hb;rw[hb]at hrt;have hv:=Ez hrt;have hy:yielded ops a.tmps j=some b:=by
      have h2:a.tmps[t]?=some (.bool b):=by
       cases hq:a.tmps[t]? with
       |none=>simp[hq,undef]at hv
       |some u=>simpa[hq]using hv
      simp[yielded,hj,h2]
     by_cases hbw:b=want
     ·subst hbw;simp only[if_true]at h;rw[if_pos (by simp[Region.wanted,hog,hy])];exact go h
     ·simp only[hbw,if_false]at h;rw[if_neg (by simp[Region.wanted,hog,hy,hbw])];exact⟨λ_ _=>trivial,skip h⟩
    ·rename_i hb;rw[hb]at hrt;obtain⟨us,hv,hall⟩:=hrt;have hu:us=[]:=AUg hall.1;subst hu;have hy:yielded ops a.tmps j=none:=by
      have h2:∀b,a.tmps[t]?≠some (.bool b):=by
       intro b hb';simp[hb']at hv
      unfold yielded;rw[hj];show (match a.tmps[t]? with|some (.bool b)=>some b|_=>none)=none
      split
      ·rename_i b hb';exact absurd hb' (h2 b)
      ·rfl
     rw[if_neg (by simp[Region.wanted,hog,hy])];exact⟨λ_ _=>trivial,skip h⟩
    ·exact h.elim
theorem IR {ops:Array Oper} {Q:Exit→Act→World→Prop}:∀(l:List Nat) (is:List GI) {K:St→Prop} {g:Gh} {w:World} {μ:List Nat} {s:St} {a:Act} {O:Nat→Prop},
  Aj (Gx P GL N ops) l is=true→Gs GL N g w μ s a O→BE P GL is K s→(∀a' w',After GL N K g w μ a O a' w'→Q .normal a' w')→wpOpsIn (WF r) 0 P ops Q l a w
 |[],[],K,g,w,μ,s,a,O,_,hg,h,hq=>by
  simp only[wpOpsIn];exact hq a w ⟨s,g,μ,h,hg,Chg.refl _ _ _,AT8 _,rfl⟩
 |[],_::_,_,_,_,_,_,_,_,hk,_,_,_=>by simp[Aj]at hk
 |_::_,[],_,_,_,_,_,_,_,hk,_,_,_=>by simp[Aj]at hk
 |i::l,x::is,K,g,w,μ,s,a,O,hk,hg,h,hq=>by
  simp only[Aj,AT1]at hk;rw[wpOpsIn_cons];exact Fl hk.1 hg h λs' g' w' μ' a' hK hgs hch hμ hd=>IR l is hk.2 hgs hK λa2 w2 h2=>hq a2 w2 (h2.trans hch hμ hd)
theorem Ig (rets:List V):Ba (rets.map .v)=Hh rets:=by
 match rets with
 |[]=>rfl
 |[x]=>rfl
 |x::y::r=>rfl
theorem PSp.fsp {f:Nat} {args rets:List V} (hp:PSp P GL f args rets) (h:List Row):FSp P GL f (args.map .v) h (rets.map .v) h:=by
 refine⟨hp.1,λg w μ us O hinv hgl hall _=>(hp.2 g w us hinv.agree hgl ⟨by simpa using hall.1,λi x v hx hv=>hall.2 i (.v x) v (by simp[hx]) hv⟩).mono ?_⟩;rintro e w' ⟨v,g',rfl,hrep,hch,hag⟩;obtain⟨h1,h2⟩:=XJ (μ:=μ) hrep;rw[Ig];exact⟨v,g',μ,rfl,(hinv.chg hch hag).set (d:=0) h1 h2,hch.mono λ_ h=>h.elim,AT8 _⟩
end
def Opd.rd:Opd→List Nat
 | .t n _=>[n]
 |_=>[]
def Opd.wr:Opd→List Nat
 | .t n true=>[n]
 |_=>[]
def Opd.rds:List Opd→List Nat
 |[]=>[]
 |x::xs=>x.rd++Opd.rds xs
def Opd.rdo:Option Opd→List Nat
 |some x=>x.rd
 |none=>[]
def PI.rd:PI→List Nat
 | .pick c a b=>c.rd++(a.rd++b.rd)
 | .build _ ps=>Opd.rds (ps.map (·.2.2))
 | .load a _ _=>a.rd
 | .nilc x=>x.rd
 | .bin _ x y=>x.rd++y.rd
 | .eqB _ x y=>x.rd++y.rd
 | .eqA _ _ x y=>x.rd++y.rd
 | .eqP _ x y=>x.rd++y.rd
 | .not x=>x.rd
 | .neg x=>x.rd
 | .inv x=>x.rd
 | .cint _ x=>x.rd
 | .faddr x _ _=>x.rd
 | .fld x _ _ _=>x.rd
 | .iaddr x i _=>x.rd++i.rd
 | .iaddrA x i _ _=>x.rd++i.rd
 | .iaddrP x i _=>x.rd++i.rd
 | .idxS x i=>x.rd++i.rd
 | .slc x lo hi _=>x.rd++(Opd.rdo lo++Opd.rdo hi)
 | .slcS x lo hi=>x.rd++(Opd.rdo lo++Opd.rdo hi)
 | .slc0 x _ _=>x.rd
 | .ext x _=>x.rd
 | .mkf _ caps=>Opd.rds caps
 | .mkme _ caps=>Opd.rds caps
 | .idxA x i _ _ _=>x.rd++i.rd
 | .alen x=>x.rd
 | .lenS x=>x.rd
 | .b2s x=>x.rd
 | .look m k _ _ _ _ _=>m.rd++k.rd
 | .mlen m=>m.rd
 | .minmax _ x y=>x.rd++y.rd
inductive Kd where
 |n|r|a|w|t
 deriving DecidableEq
def AI.kd:AI→Kd
 | .p _ (.load _ _ _)=> .r
 | .p _ (.look _ _ _ _ _ _ _)=> .r
 | .p _ (.mlen _)=> .r
 | .alloc _ _| .box _ _| .mkm _| .mksl _ _ _| .mksz _ _ _| .callC _ _ _=> .a
 | .take _ _=> .t
 | .store _ _ _| .mput _ _ _ _ _| .mdel _ _ _ _ _| .callF _ _ _| .mest _ _ _| .ment _ _ _ _ _| .cpy _ _ _ _| .fin _ _ _ _ _=> .w
 |_=> .n
def AI.rd:AI→List Nat
 | .p _ i=>i.rd
 | .mv _ x=>x.rd
 | .alloc _ _=>[]
 | .box _ x=>x.rd
 | .store a x _=>a.rd++x.rd
 | .take _ a=>a.rd
 | .app _ x y _ _ _=>x.rd++y.rd
 | .appS _ x y _ _=>x.rd++y.rd
 | .bsl _ _ _ ps=>Opd.rds ps
 | .s2b _ x=>x.rd
 | .nilS _ _ x=>x.rd
 | .mkm _=>[]
 | .mksl _ x _=>x.rd
 | .mput m k v _ _=>m.rd++(k.rd++v.rd)
 | .ment _ m k _ _=>m.rd++k.rd
 | .mest m b v=>m.rd++(b.rd++v.rd)
 | .mdel _ m k _ _=>m.rd++k.rd
 | .call _ f args=>f.rd++Opd.rds args
 | .callF _ f args=>f.rd++Opd.rds args
 | .callC _ f args=>f.rd++Opd.rds args
 | .callO _ f q args=>f.rd++(q.rd++Opd.rds args)
 | .appR _ x y _ _ _=>x.rd++y.rd
 | .frz _ x _=>x.rd
 | .mksz _ x _=>x.rd
 | .callN _ f args=>f.rd++Opd.rds args
 | .appP _ x y _ _ _=>x.rd++y.rd
 | .fin m ad pp x _=>[m]++(ad.rd++(pp.rd++x.rd))
 | .cpy _ x y _=>x.rd++y.rd
def AI.wr:AI→List Nat
 | .p d _| .alloc d _| .box d _| .take d _| .bsl d _ _ _| .s2b d _| .nilS d _ _| .mkm d| .mksl d _ _| .ment d _ _ _ _=>[d]
 | .mput _ _ _ _ _=>[]
 | .mest _ _ _=>[]
 | .mdel d _ _ _ _=>d.toList
 | .mv d x| .app d x _ _ _ _| .appS d x _ _ _=>d::x.wr
 | .store _ x _=>x.wr
 | .call d _ _=>d.toList
 | .callF d _ _=>d.toList
 | .callC d _ _=>d.toList
 | .callO d _ q _=>d.toList++q.wr
 | .appR d _ _ _ _ _| .frz d _ _=>[d]
 | .mksz d _ _=>[d]
 | .callN d _ _=>d.toList
 | .appP d x _ _ _ _=>d::x.wr
 | .fin m _ _ _ _=>[m]
 | .cpy d _ _ _=>d.toList
def GI.rd (x:GI):List Nat:=(match x.g with|some (t,_)=>[t]|none=>[])++x.i.rd
def GI.wr (x:GI):List Nat:=x.i.dst.toList++x.i.wr
def Same (e e2:Env) (l:List Nat):Prop:=∀n∈l,AH e2 n=AH e n
theorem Same.left {e e2:Env} {a b:List Nat} (h:Same e e2 (a++b)):Same e e2 a:=λn hn=>h n (AV4 _ hn)
theorem Same.right {e e2:Env} {a b:List Nat} (h:Same e e2 (a++b)):Same e e2 b:=λn hn=>h n (AVo _ hn)
theorem Same.ev {e e2:Env} {x:Opd} (h:Same e e2 x.rd):x.ev e2=x.ev e:=by
 cases x with
 |t n mv=>simp[Opd.ev,h n (by simp[Opd.rd])]
 |c d=>rfl
 |g n cs=>rfl
theorem Same.toVs {e e2:Env}:∀ {xs:List Opd},Same e e2 (Opd.rds xs)→Go.Va.HC e2 xs=Go.Va.HC e xs
 |[],_=>rfl
 |x::xs,h=>by simp only[Go.Va.HC,Same.ev (Same.left h),Same.toVs (Same.right h)]
theorem Same.argsOf {e e2:Env}:∀ {xs:List Opd},Same e e2 (Opd.rds xs)→Go.Va.As e2 xs=Go.Va.As e xs
 |[],_=>rfl
 |x::xs,h=>by
  have:=Same.argsOf (Same.right h);simp only[Go.Va.As]at this ⊢;simp only[AUD,Same.ev (Same.left h),this]
theorem Same.caps {e e2:Env}:∀ {xs:List Opd},Same e e2 (Opd.rds xs)→D4 e2 xs=D4 e xs
 |[],_=>rfl
 |x::xs,h=>by simp only[D4,Same.ev (Same.left h),Same.caps (Same.right h)]
theorem Same.fill {e e2:Env}:∀ {ps:List (Nat×Nat×Opd)} {cs:List D},Same e e2 (Opd.rds (ps.map (·.2.2)))→EU e2 cs ps=EU e cs ps
 |[],_,_=>rfl
 |(o,n,x)::ps,cs,h=>by
  have h1:Same e e2 x.rd:=Same.left h;have h2:Same e e2 (Opd.rds (ps.map (·.2.2))):=Same.right h;simp only[EU,h1.ev];split
  ·split
   ·exact Same.fill h2
   ·rfl
  ·rfl
theorem Same.opt {e e2:Env} {x:Option Opd} (h:Same e e2 (Opd.rdo x)):x.map (·.ev e2)=x.map (·.ev e):=by
 cases x with
 |none=>rfl
 |some x=>simp[Same.ev (x:=x) h]
def PI.kd:PI→Kd
 | .load _ _ _=> .r
 | .look _ _ _ _ _ _ _=> .r
 | .mlen _=> .r
 |_=> .n
def LoadEq (h h2:List Row):Prop:=h2.length=h.length∧∀r:Nat,h2[r]?=h[r]?∨∃ds es:List D,h[r]?=some (.cells ds)∧h2[r]?=some (.cells es)∧es.map D.copy=ds.map D.copy
theorem LoadEq.symm {h h2:List Row} (hq:LoadEq h h2):LoadEq h2 h:=⟨hq.1.symm,λr=>(hq.2 r).elim (λh=> .inl h.symm) λ⟨ds,es,h1,h2,h3⟩=> .inr ⟨es,ds,h2,h1,h3.symm⟩⟩
theorem LoadEq.take {h:List Row} {r off e sz:Nat} {ds:List D} {xs:List V} (hr:h[r]?=some (.cells ds)) (hd:ds[off]?=some (.own e sz xs)):LoadEq h (h.set r (.cells (ds.set off (.v (.list xs))))):=by
 refine⟨by simp,λi=>?_⟩;by_cases hi:r=i
 ·subst hi;refine .inr ⟨ds,_,hr,AUY (AT4.1 hr).1,?_⟩;apply AUj;intro j;rw[AUG,AUG,AUe];by_cases hj:off=j
  ·subst hj;have:=(AT4.1 hd).1;rw[if_pos rfl,if_pos this,hd];rfl
  ·rw[if_neg hj]
 ·exact .inl (AUJ hi)
theorem Px {ds es:List D} (h:es.map D.copy=ds.map D.copy) (off n:Nat) (ag:Bool):D.part es off n ag=D.part ds off n ag:=by
 have hl:es.length=ds.length:=by have:=congrArg List.length h;simpa using this
 unfold D.part;rw[hl];split
 ·cases ag with
  |true=>
   simp only[if_true,AT0,D.agg.injEq];rw[AUd,AWO,h,←AWO,←AUd]
  |false=>
   simp only[AUF,if_false];rw[←AUG,h,AUG]
 ·rfl
theorem PI.val_same {e:Env} {h h2:List Row} (hq:LoadEq h h2) {i:PI} {x:D} (hv:i.val e h=some x):i.val e h2=some x:=by
 have hmap:∀(r:Nat) es bs ck,h[r]?=some (.map es bs ck)→h2[r]?=some (.map es bs ck):=λr es bs ck hr=>by
  rcases hq.2 r with h|⟨ds,_,h1,_⟩
  ·rw[h];exact hr
  ·rw[h1]at hr;cases hr
 cases i<;>try exact hv
 ·rename_i a n ag;simp only[PI.val]at hv ⊢;split at hv
  ·exact hv
  ·rename_i r off ha;split at hv
   ·rename_i ds hr;rcases hq.2 r with h|⟨ds',es,h1,h2,h3⟩
    ·rw[h,hr];exact hv
    ·rw[hr]at h1;simp only[AT0,Row.cells.injEq]at h1;subst h1;simp only[h2,Px h3];exact hv
   ·cases hv
  ·cases hv
 ·rename_i m k st ks zs ag ok;simp only[PI.val]at hv ⊢;split at hv
  ·split at hv
   ·rename_i hok;rw[if_pos hok];split at hv
    ·rename_i z hz;split at hv
     ·exact hv
     ·rename_i r ha;split at hv
      ·rename_i es bs ck hr;simp only[hmap r es bs ck hr];exact hv
      ·cases hv
     ·cases hv
    ·cases hv
   ·cases hv
  ·cases hv
 ·rename_i m;simp only[PI.val]at hv ⊢;split at hv
  ·exact hv
  ·rename_i r ha;split at hv
   ·rename_i es bs ck hr;simp only[hmap r es bs ck hr];exact hv
   ·cases hv
  ·cases hv
theorem PI.val_congr {e e2:Env} {h:List Row} {i:PI} (hs:Same e e2 i.rd):i.val e2 h=i.val e h:=by
 cases i with
 |pick c a b=>simp only[PI.val,(Same.left hs).ev,(Same.left (Same.right hs)).ev,(Same.right (Same.right hs)).ev]
 |build zs ps=>simp only[PI.val,Same.fill hs]
 |load a n ag=>simp only[PI.val,Same.ev (x:=a) hs]
 |nilc x=>simp only[PI.val,Same.ev (x:=x) hs]
 |bin op x y=>simp only[PI.val,(Same.left hs).ev,(Same.right hs).ev]
 |eqB ne x y=>simp only[PI.val,(Same.left hs).ev,(Same.right hs).ev]
 |eqA ne ks x y=>simp only[PI.val,(Same.left hs).ev,(Same.right hs).ev]
 |eqP ne x y=>simp only[PI.val,(Same.left hs).ev,(Same.right hs).ev]
 |not x=>simp only[PI.val,Same.ev (x:=x) hs]
 |neg x=>simp only[PI.val,Same.ev (x:=x) hs]
 |inv x=>simp only[PI.val,Same.ev (x:=x) hs]
 |cint k x=>simp only[PI.val,Same.ev (x:=x) hs]
 |faddr x o n=>simp only[PI.val,Same.ev (x:=x) hs]
 |fld x o n ag=>simp only[PI.val,Same.ev (x:=x) hs]
 |iaddr x i s=>simp only[PI.val,(Same.left hs).ev,(Same.right hs).ev]
 |iaddrP x i s=>simp only[PI.val,(Same.left hs).ev,(Same.right hs).ev]
 |iaddrA x i l s=>simp only[PI.val,(Same.left hs).ev,(Same.right hs).ev]
 |idxS x i=>simp only[PI.val,(Same.left hs).ev,(Same.right hs).ev]
 |slc x lo hi s=>simp only[PI.val,(Same.left hs).ev,Same.opt (Same.left (Same.right hs)),Same.opt (Same.right (Same.right hs))]
 |slcS x lo hi=>simp only[PI.val,(Same.left hs).ev,Same.opt (Same.left (Same.right hs)),Same.opt (Same.right (Same.right hs))]
 |slc0 x el s=>simp only[PI.val,Same.ev (x:=x) hs]
 |ext x i=>
  cases x with
  |t n mv=>simp only[PI.val,hs n (by simp[PI.rd,Opd.rd])]
  |c d=>rfl
  |g n cs=>rfl
 |mkf f caps=>simp only[PI.val,Same.caps hs]
 |mkme f caps=>simp only[PI.val,Same.caps hs]
 |idxA x i n s ag=>simp only[PI.val,(Same.left hs).ev,(Same.right hs).ev]
 |alen x=>simp only[PI.val,Same.ev (x:=x) hs]
 |lenS x=>simp only[PI.val,Same.ev (x:=x) hs]
 |look m k st ks zs ag ok=>simp only[PI.val,(Same.left hs).ev,(Same.right hs).ev]
 |mlen m=>simp only[PI.val,Same.ev (x:=m) hs]
 |b2s x=>simp only[PI.val,Same.ev (x:=x) hs]
 |minmax mx x y=>simp only[PI.val,(Same.left hs).ev,(Same.right hs).ev]
theorem PI.val_heap {e:Env} {h h2:List Row} {i:PI} (hk:i.kd= .n):i.val e h2=i.val e h:=by
 cases i<;>first|rfl|cases hk
theorem PI.val_grow {e:Env} {h t:List Row} {i:PI} {x:D} (hv:i.val e h=some x):i.val e (h++t)=some x:=by
 cases hk:i.kd with
 |n=>rw[PI.val_heap (h2:=h++t) hk];exact hv
 |r=>
  cases i with
  |load a n ag=>
   simp only[PI.val]at hv ⊢;split at hv
   ·exact hv
   ·rename_i r off ha;split at hv
    ·rename_i ds hr;have:(h++t)[r]?=some (.cells ds):=by rw[AUQ (AT4.1 hr).1];exact hr
     simp only[this];exact hv
    ·cases hv
   ·cases hv
  |look m k st ks zs ag ok=>
   simp only[PI.val]at hv ⊢;split at hv
   ·split at hv
    ·rename_i hok;rw[if_pos hok];split at hv
     ·rename_i z hz;split at hv
      ·exact hv
      ·rename_i r ha;split at hv
       ·rename_i es bs ck hr;have:(h++t)[r]?=some (.map es bs ck):=by rw[AUQ (AT4.1 hr).1];exact hr
        simp only[this];exact hv
       ·cases hv
      ·cases hv
     ·cases hv
    ·cases hv
   ·cases hv
  |mlen m=>
   simp only[PI.val]at hv ⊢;split at hv
   ·exact hv
   ·rename_i r ha;split at hv
    ·rename_i es bs ck hr;have:(h++t)[r]?=some (.map es bs ck):=by rw[AUQ (AT4.1 hr).1];exact hr
     simp only[this];exact hv
    ·cases hv
   ·cases hv
  |_=>cases hk
 |a=>cases i<;>cases hk
 |w=>cases i<;>cases hk
 |t=>cases i<;>cases hk
def Opd.clr:Opd→Env
 | .t n true=>[(n,.any)]
 |_=>[]
theorem D0 (x:Opd) (e:Env):x.clear e=x.clr++e:=by
 cases x with
 |t n mv=>cases mv<;>rfl
 |_=>rfl
theorem MY {x:Opd} {p:Nat×D} (h:p∈x.clr):p.1∈x.wr:=by
 cases x with
 |t n mv=>cases mv<;>simp_all [Opd.clr,Opd.wr]
 |_=>simp[Opd.clr]at h
structure Local (R:St→St→Prop) (rd wr:List Nat) (kd:Kd) (s:St) (δ:Env) (h':List Row):Prop where
 wr:∀p∈δ,p.1∈wr
 here:∀e2,Same s.e e2 rd→R ⟨e2,s.h⟩ ⟨δ++e2,h'⟩
 n:kd= .n→h'=s.h∧∀e2 h2,Same s.e e2 rd→R ⟨e2,h2⟩ ⟨δ++e2,h2⟩
 r:kd= .r→h'=s.h∧(∀e2 t,Same s.e e2 rd→R ⟨e2,s.h++t⟩ ⟨δ++e2,s.h++t⟩)∧∀e2 h2,LoadEq s.h h2→Same s.e e2 rd→R ⟨e2,h2⟩ ⟨δ++e2,h2⟩
 a:kd= .a→∃t,h'=s.h++t
 t:kd= .t→LoadEq s.h h'
theorem Local.ofN {R:St→St→Prop} {rd wr:List Nat} {s:St} {δ:Env} {kd:Kd} (hwr:∀p∈δ,p.1∈wr) (h:∀e2 h2,Same s.e e2 rd→R ⟨e2,h2⟩ ⟨δ++e2,h2⟩):Local R rd wr kd s δ s.h where
 wr:=hwr
 here:=λe2 hs=>h e2 s.h hs
 n:=λ_=>⟨rfl,h⟩
 r:=λ_=>⟨rfl,λe2 t hs=>h e2 _ hs,λe2 h2 _ hs=>h e2 h2 hs⟩
 a:=λ_=>⟨[],by simp⟩
 t:=λ_=>⟨rfl,λr=> .inl rfl⟩
theorem PW {i:AI} {s s':St} (h:i.step s=some s'):∃δ h',s'=⟨δ++s.e,h'⟩∧Local (λs s'=>i.step s=some s') i.rd i.wr i.kd s δ h':=by
 cases i with
 |p d i=>
  simp only[AI.step,AUA]at h;obtain⟨x,hx,rfl⟩:=h;cases hk:i.kd with
  |n=>
   refine⟨[(d,x)],s.h,rfl,.ofN (by simp[AI.wr]) λe2 h2 hs=>?_⟩;simp only[AI.step,PI.val_congr (i:=i) hs,PI.val_heap (h:=s.h) (h2:=h2) hk,hx,AUU];rfl
  |r=>
   have hkd:(AI.p d i).kd= .r:=by cases i<;>first|rfl|cases hk
   refine⟨[(d,x)],s.h,rfl,by simp[AI.wr],λe2 hs=>?_,λh=>(by rw[hkd]at h;cases h),λ_=>⟨rfl,λe2 t hs=>?_,λe2 h2 hq hs=>?_⟩,λh=>(by rw[hkd]at h;cases h),λh=>(by rw[hkd]at h;cases h)⟩
   ·simp only[AI.step,PI.val_congr (i:=i) hs,hx,AUU];rfl
   ·simp only[AI.step,PI.val_congr (i:=i) hs,PI.val_grow hx,AUU];rfl
   ·simp only[AI.step,PI.val_congr (i:=i) hs,PI.val_same hq hx,AUU];rfl
  |a=>cases i<;>cases hk
  |w=>cases i<;>cases hk
  |t=>cases i<;>cases hk
 |mv d x=>
  simp only[AI.step,AT0]at h;subst h;refine⟨(d,x.ev s.e)::x.clr,s.h,by rw[D0];rfl,.ofN ?_ λe2 h2 hs=>?_⟩
  ·intro p hp;rcases AT7.1 hp with rfl|hp
   ·simp[AI.wr]
   ·exact AVX _ (MY hp)
  ·simp only[AI.step,Same.ev (x:=x) hs,D0];rfl
 |alloc d zs=>
  simp only[AI.step,AT0]at h;subst h;refine⟨[(d,.ref s.h.length 0)],_,rfl,by simp[AI.wr],λe2 hs=>rfl,(λh=>by cases h),(λh=>by cases h),(λ_=>⟨_,rfl⟩),(λh=>by cases h)⟩
 |box d x=>
  simp only[AI.step]at h;split at h
  ·rename_i cs hcs;simp only[AT0]at h;subst h;refine⟨[(d,.ref s.h.length 0)],_,rfl,by simp[AI.wr],λe2 hs=>?_,(λh=>by cases h),(λh=>by cases h),(λ_=>⟨_,rfl⟩),(λh=>by cases h)⟩;simp only[AI.step,Same.ev (x:=x) hs,hcs];rfl
  ·cases h
 |store a x n=>
  have e0:∀e2,Same s.e e2 (AI.store a x n).rd→a.ev e2=a.ev s.e∧x.ev e2=x.ev s.e:=λe2 hs=>⟨(Same.left hs).ev,(Same.right hs).ev⟩;simp only[AI.step]at h;split at h
  ·rename_i r off ha;split at h
   ·rename_i ds hr;split at h
    ·rename_i e sz xs hx;split at h
     ·rename_i m;split at h
      ·rename_i hc;simp only[AT0]at h;subst h;refine⟨[(m,.any)],_,rfl,by simp[AI.wr,Opd.wr],λe2 hs=>?_,(λh=>by cases h),(λh=>by cases h),(λh=>by cases h),(λh=>by cases h)⟩;simp only[AI.step,(e0 e2 hs).1,ha,hr,(e0 e2 hs).2,hx,hc,and_self,if_true];rfl
      ·cases h
     ·cases h
    ·rename_i bb e sz xs hx;split at h
     ·rename_i m;split at h
      ·rename_i hc;simp only[AT0]at h;subst h;refine⟨[(m,.pptr bb 0 xs.length)],_,rfl,by simp[AI.wr,Opd.wr],λe2 hs=>?_,(λh=>by cases h),(λh=>by cases h),(λh=>by cases h),(λh=>by cases h)⟩;simp only[AI.step,(e0 e2 hs).1,ha,hr,(e0 e2 hs).2,hx,hc,and_self,if_true];rfl
      ·cases h
     ·cases h
    ·rename_i hne hne2;split at h
     ·rename_i cs hcs;split at h
      ·rename_i hc;simp only[AT0]at h;subst h;refine⟨[],_,rfl,by simp,λe2 hs=>?_,(λh=>by cases h),(λh=>by cases h),(λh=>by cases h),(λh=>by cases h)⟩;simp only[AI.step,(e0 e2 hs).1,ha,hr,(e0 e2 hs).2,hcs];generalize hxe:x.ev s.e=X at hne hne2 hcs;cases X<;>simp_all
      ·cases h
     ·cases h
   ·cases h
  ·cases h
 |take d a=>
  simp only[AI.step]at h;split at h
  ·rename_i r off ha;split at h
   ·rename_i ds hr;split at h
    ·rename_i e sz xs hx;simp only[AT0]at h;subst h;refine⟨[(d,.own e sz xs)],_,rfl,by simp[AI.wr],λe2 hs=>?_,(λh=>by cases h),(λh=>by cases h),(λh=>by cases h),λ_=>LoadEq.take hr hx⟩;simp only[AI.step,Same.ev (x:=a) hs,ha,hr,hx];rfl
    ·cases h
   ·cases h
  ·cases h
 |app d x y e sz b=>
  have e0:∀e2,Same s.e e2 (AI.app d x y e sz b).rd→x.ev e2=x.ev s.e∧y.ev e2=y.ev s.e:=λe2 hs=>⟨(Same.left hs).ev,(Same.right hs).ev⟩;simp only[AI.step]at h;split at h
  ·rename_i xs ys hx hy;split at h
   ·rename_i hc;simp only[AT0]at h;subst h;refine⟨(d,.own e sz (xs++ys))::x.clr,s.h,by rw[D0];rfl,.ofN ?_ λe2 h2 hs=>?_⟩
    ·intro p hp;rcases AT7.1 hp with rfl|hp
     ·simp[AI.wr]
     ·exact AVX _ (MY hp)
    ·simp only[AI.step,(e0 e2 hs).1,(e0 e2 hs).2,hx,hy,hc,and_self,if_true,D0];rfl
   ·cases h
  ·cases h
 |appS d x y e b=>
  have e0:∀e2,Same s.e e2 (AI.appS d x y e b).rd→x.ev e2=x.ev s.e∧y.ev e2=y.ev s.e:=λe2 hs=>⟨(Same.left hs).ev,(Same.right hs).ev⟩;simp only[AI.step]at h;split at h
  ·rename_i xs ys hx hy;split at h
   ·rename_i hc;simp only[AT0]at h;subst h;refine⟨(d,.own e 1 (xs++ys.data.toList.map λc=> .int .u8 c.toNat))::x.clr,s.h,by rw[D0];rfl,.ofN ?_ λe2 h2 hs=>?_⟩
    ·intro p hp;rcases AT7.1 hp with rfl|hp
     ·simp[AI.wr]
     ·exact AVX _ (MY hp)
    ·simp only[AI.step,(e0 e2 hs).1,(e0 e2 hs).2,hx,hy,hc,if_true,D0];rfl
   ·cases h
  ·cases h
 |bsl d e sz ps=>
  simp only[AI.step]at h;split at h
  ·rename_i vs hvs;split at h
   ·rename_i hall;cases vs with
    |nil=>
     simp only[AT0]at h;subst h;refine⟨[(d,.nil e sz)],s.h,rfl,.ofN (by simp[AI.wr]) λe2 h2 hs=>?_⟩;simp only[AI.step,Same.toVs (xs:=ps) hs,hvs];rfl
    |cons v vs=>
     simp only[AT0]at h;subst h;refine⟨[(d,.own e sz (v::vs))],s.h,rfl,.ofN (by simp[AI.wr]) λe2 h2 hs=>?_⟩;simp only[AI.step,Same.toVs (xs:=ps) hs,hvs,hall,if_true];rfl
   ·cases h
  ·cases h
 |s2b d x=>
  simp only[AI.step]at h;split at h
  ·rename_i b hb;simp only[AT0]at h;subst h;refine⟨[(d,.v (.list (b.data.toList.map λc=> .int .u8 c.toNat)))],s.h,rfl,.ofN (by simp[AI.wr]) λe2 h2 hs=>?_⟩;simp only[AI.step,Same.ev (x:=x) hs,hb];rfl
  ·cases h
 |nilS d ne x=>cases h
 |mksl d x z=>
  simp only[AI.step]at h;split at h
  ·rename_i k n hn;split at h
   ·rename_i hc;simp only[AT0]at h;subst h;refine⟨[(d,.sref s.h.length n.toNat)],_,rfl,by simp[AI.wr],λe2 hs=>?_,(λh=>by cases h),(λh=>by cases h),(λ_=>⟨_,rfl⟩),(λh=>by cases h)⟩;simp only[AI.step,Same.ev (x:=x) hs,hn,if_pos hc];rfl
   ·cases h
  ·cases h
 |mkm d=>
  simp only[AI.step,AT0]at h;subst h;exact⟨[(d,.mref s.h.length)],_,rfl,by simp[AI.wr],λe2 hs=>rfl,(λh=>by cases h),(λh=>by cases h),(λ_=>⟨_,rfl⟩),(λh=>by cases h)⟩
 |ment d m k st ks=>
  have e0:∀e2,Same s.e e2 (AI.ment d m k st ks).rd→m.ev e2=m.ev s.e∧k.ev e2=k.ev s.e:=λe2 hs=>⟨(Same.left hs).ev,(Same.right hs).ev⟩;have hh:∃x,s'=⟨(d,x)::s.e,s.h⟩∧∀e2,Same s.e e2 (AI.ment d m k st ks).rd→(AI.ment d m k st ks).step ⟨e2,s.h⟩=some ⟨(d,x)::e2,s.h⟩:=by
   simp only[AI.step]at h;split at h
   ·rename_i r hm;split at h
    ·rename_i es bs ck hr;split at h
     ·rename_i kv hkv;split at h
      ·rename_i hko;split at h
       ·rename_i i hi;split at h
        ·rename_i p n hp hn;simp only[AT0]at h;subst h;exact⟨_,rfl,λe2 hs=>by simp only[AI.step,(e0 e2 hs).1,(e0 e2 hs).2,hm,hr,hkv,hko,if_true,hi,hp,hn]⟩
        ·cases h
       ·cases h
      ·cases h
     ·cases h
    ·cases h
   ·cases h
  obtain⟨x,rfl,hh⟩:=hh;exact⟨[(d,x)],s.h,rfl,by simp[AI.wr],hh,(λh=>by cases h),(λh=>by cases h),(λh=>by cases h),(λh=>by cases h)⟩
 |mest m b v=>
  have e0:∀e2,Same s.e e2 (AI.mest m b v).rd→m.ev e2=m.ev s.e∧b.ev e2=b.ev s.e∧v.ev e2=v.ev s.e:=λe2 hs=>⟨(Same.left hs).ev,(Same.left (Same.right hs)).ev,(Same.right (Same.right hs)).ev⟩;have hh:∃h',s'=⟨s.e,h'⟩∧∀e2,Same s.e e2 (AI.mest m b v).rd→(AI.mest m b v).step ⟨e2,s.h⟩=some ⟨e2,h'⟩:=by
   simp only[AI.step]at h;split at h
   ·rename_i r hm;split at h
    ·rename_i es bs ck hr;split at h
     ·rename_i kk n vv hb hv;split at h
      ·rename_i i hi;split at h
       ·rename_i p hp;simp only[AT0]at h;subst h;exact⟨_,rfl,λe2 hs=>by simp only[AI.step,(e0 e2 hs).1,(e0 e2 hs).2.1,(e0 e2 hs).2.2,hm,hr,hb,hv,hi,hp]⟩
       ·cases h
      ·cases h
     ·cases h
    ·cases h
   ·cases h
  obtain⟨h',rfl,hh⟩:=hh;exact⟨[],h',rfl,by simp,hh,(λh=>by cases h),(λh=>by cases h),(λh=>by cases h),(λh=>by cases h)⟩
 |mput m k v st ks=>
  have e0:∀e2,Same s.e e2 (AI.mput m k v st ks).rd→m.ev e2=m.ev s.e∧k.ev e2=k.ev s.e∧v.ev e2=v.ev s.e:=λe2 hs=>⟨(Same.left hs).ev,(Same.left (Same.right hs)).ev,(Same.right (Same.right hs)).ev⟩;have hh:∃h',s'=⟨s.e,h'⟩∧∀e2,Same s.e e2 (AI.mput m k v st ks).rd→(AI.mput m k v st ks).step ⟨e2,s.h⟩=some ⟨e2,h'⟩:=by
   simp only[AI.step]at h;split at h
   ·rename_i r hm;split at h
    ·rename_i es hr;split at h
     ·rename_i kv vv hkv hvv;split at h
      ·rename_i hko;split at h
       ·rename_i hf;simp only[AT0]at h;subst h;exact⟨_,rfl,λe2 hs=>by simp only[AI.step,(e0 e2 hs).1,(e0 e2 hs).2.1,(e0 e2 hs).2.2,hm,hr,hkv,hvv,hko,hf,if_true]⟩
       ·rename_i j hf;simp only[AT0]at h;subst h;exact⟨_,rfl,λe2 hs=>by simp only[AI.step,(e0 e2 hs).1,(e0 e2 hs).2.1,(e0 e2 hs).2.2,hm,hr,hkv,hvv,hko,hf,if_true]⟩
       ·cases h
      ·cases h
     ·cases h
    ·cases h
   ·cases h
  obtain⟨h',rfl,hh⟩:=hh;exact⟨[],h',rfl,by simp,hh,(λh=>by cases h),(λh=>by cases h),(λh=>by cases h),(λh=>by cases h)⟩
 |mdel d m k st ks=>
  have e0:∀e2,Same s.e e2 (AI.mdel d m k st ks).rd→m.ev e2=m.ev s.e∧k.ev e2=k.ev s.e:=λe2 hs=>⟨(Same.left hs).ev,(Same.right hs).ev⟩;have hh:∃h',s'=⟨Bh s.e d (.tup []),h'⟩∧∀e2,Same s.e e2 (AI.mdel d m k st ks).rd→(AI.mdel d m k st ks).step ⟨e2,s.h⟩=some ⟨Bh e2 d (.tup []),h'⟩:=by
   simp only[AI.step]at h;split at h
   ·rename_i r hm;split at h
    ·rename_i es hr;split at h
     ·rename_i kv hkv;split at h
      ·rename_i hko;split at h
       ·rename_i hf;simp only[AT0]at h;subst h;exact⟨_,rfl,λe2 hs=>by simp only[AI.step,(e0 e2 hs).1,(e0 e2 hs).2,hm,hr,hkv,hko,hf,if_true]⟩
       ·rename_i j hf;simp only[AT0]at h;subst h;exact⟨_,rfl,λe2 hs=>by simp only[AI.step,(e0 e2 hs).1,(e0 e2 hs).2,hm,hr,hkv,hko,hf,if_true]⟩
       ·cases h
      ·cases h
     ·cases h
    ·cases h
   ·cases h
  obtain⟨h',rfl,hh⟩:=hh;cases d with
  |none=>exact⟨[],h',rfl,by simp,hh,(λh=>by cases h),(λh=>by cases h),(λh=>by cases h),(λh=>by cases h)⟩
  |some d=>exact⟨[(d,.tup [])],h',rfl,by simp[AI.wr],hh,(λh=>by cases h),(λh=>by cases h),(λh=>by cases h),(λh=>by cases h)⟩
 |call d f args=>cases h
 |callF d f args=>cases h
 |callC d f args=>cases h
 |callO d f q args=>cases h
 |appR d x y e s b=>cases h
 |frz d x s=>cases h
 |callN d f args=>cases h
 |appP d x y e s b=>cases h
 |fin m ad p x sz=>
  have e0:∀e2,Same s.e e2 (AI.fin m ad p x sz).rd→AH e2 m=AH s.e m∧ad.ev e2=ad.ev s.e∧p.ev e2=p.ev s.e∧x.ev e2=x.ev s.e:=λe2 hs=>
   ⟨hs m (by simp[AI.rd]),(Same.left (Same.right hs)).ev,(Same.left (Same.right (Same.right hs))).ev,(Same.right (Same.right (Same.right hs))).ev⟩
  have hh:∃δ h',s'=⟨δ++s.e,h'⟩∧(∀q∈δ,q.1=m)∧∀e2,Same s.e e2 (AI.fin m ad p x sz).rd→(AI.fin m ad p x sz).step ⟨e2,s.h⟩=some ⟨δ++e2,h'⟩:=by
   simp only[AI.step]at h;split at h
   ·rename_i b s0 n y hp hx;split at h
    ·rename_i b' e s2 xs hf;split at h
     ·rename_i hc;simp only[AT0]at h;subst h;refine⟨[(m,.own e sz (xs++[y]))],s.h,rfl,by simp,λe2 hs=>?_⟩;obtain⟨q1,q2,q3,q4⟩:=e0 e2 hs;simp only[AI.step,q3,q4,hp,hx,q1,hf,if_pos hc];rfl
     ·cases h
    ·rename_i hnp;split at h
     ·rename_i r off ha;split at h
      ·rename_i ds hr;split at h
       ·rename_i b' e s2 xs hd;split at h
        ·rename_i hc;simp only[AT0]at h;subst h;refine⟨[],_,rfl,by simp,λe2 hs=>?_⟩;obtain⟨q1,q2,q3,q4⟩:=e0 e2 hs;simp only[AI.step,q3,q4,hp,hx,q1,q2,ha];cases hfm:AH s.e m with
         |pend b3 e3 s3 xs3=>exact absurd hfm (hnp _ _ _ _)
         |_=>simp only[hr,hd,if_pos hc];rfl
        ·cases h
       ·cases h
      ·cases h
     ·cases h
   ·cases h
  obtain⟨δ,h',rfl,hw,hh⟩:=hh;exact⟨δ,h',rfl,λq hq=>by simp[AI.wr,hw q hq],hh,(λh=>by cases h),(λh=>by cases h),(λh=>by cases h),(λh=>by cases h)⟩
 |mksz d x zs=>
  simp only[AI.step]at h;split at h
  ·rename_i k n hn;split at h
   ·rename_i hc;simp only[AT0]at h;subst h;refine⟨[(d,.sref s.h.length n.toNat)],_,rfl,by simp[AI.wr],λe2 hs=>?_,(λh=>by cases h),(λh=>by cases h),(λ_=>⟨_,rfl⟩),(λh=>by cases h)⟩;simp only[AI.step,Same.ev (x:=x) hs,hn,if_pos hc];rfl
   ·cases h
  ·cases h
 |cpy d x y sz=>
  have e0:∀e2,Same s.e e2 (AI.cpy d x y sz).rd→x.ev e2=x.ev s.e∧y.ev e2=y.ev s.e:=λe2 hs=>⟨(Same.left hs).ev,(Same.right hs).ev⟩;have hh:∃v h',s'=⟨Bh s.e d v,h'⟩∧∀e2,Same s.e e2 (AI.cpy d x y sz).rd→(AI.cpy d x y sz).step ⟨e2,s.h⟩=some ⟨Bh e2 d v,h'⟩:=by
   simp only[AI.step]at h;split at h
   ·rename_i r n hx;split at h
    ·rename_i ys hy;split at h
     ·rename_i ds hr;split at h
      ·rename_i hc;simp only[AT0]at h;subst h;exact⟨_,_,rfl,λe2 hs=>by simp only[AI.step,(e0 e2 hs).1,(e0 e2 hs).2,hx,hy,hr,if_pos hc]⟩
      ·cases h
     ·cases h
    ·cases h
   ·cases h
  obtain⟨v,h',rfl,hh⟩:=hh;cases d with
  |none=>exact⟨[],h',rfl,by simp,hh,(λh=>by cases h),(λh=>by cases h),(λh=>by cases h),(λh=>by cases h)⟩
  |some d=>exact⟨[(d,v)],h',rfl,by simp[AI.wr],hh,(λh=>by cases h),(λh=>by cases h),(λh=>by cases h),(λh=>by cases h)⟩
section
variable (P:Program) (GL:AX)
def E8 (fd:D) (args:List D) (h:List Row) (rets:List D) (h':List Row):Prop:=
 match fd with
 | .yld r=>∃b,YSp P GL r args h b h'∧rets=[.v (.bool b)]
 | .meth fid fs=>FSp P GL fid (fs++args) h rets h'
 |fd=>∃fid caps,Db fd=some (fid,caps)∧FSp P GL fid (args++caps) h rets h'
def JB (i:AI) (s s':St):Prop:=
 i.step s=some s'∨(∃d f args fid caps vs rets,i= .call d f args∧(f.ev s.e).toV=some (.func fid caps)∧HC s.e args=some vs∧PSp P GL fid (vs++caps) rets∧s'=⟨Bh s.e d (Hh rets),s.h⟩)∨
 (∃d f args rets h',(i= .callF d f args∨i= .callC d f args∧∃t,h'=s.h++t)∧E8 P GL (f.ev s.e) (As s.e args) s.h rets h'∧s'=⟨Bh s.e d (Ba rets),h'⟩)∨
 ∃d f q args fid rets,i= .callO d f q args∧Db (f.ev s.e)=some (fid,[])∧OSp P GL fid (q.ev s.e::As s.e args) rets∧s'=⟨Bh (q.clear s.e) d (Ba rets),s.h⟩
def BD (x:GI) (s s':St):Prop:=
 match x.g with
 |none=>JB P GL x.i s s'
 |some (t,want)=>match AH s.e t with
  | .v (.bool b)=>if b=want then JB P GL x.i s s' else s'=⟨Bh s.e x.i.dst (.tup []),s.h⟩
  | .tup []=>s'=⟨Bh s.e x.i.dst (.tup []),s.h⟩
  |_=>False
def K6:List GI→St→St→Prop
 |[],s,s'=>s'=s
 |x::rest,s,s'=>∃s1,BD P GL x s s1∧K6 rest s1 s'
end
section
variable {P:Program} {GL:AX}
def dO (d:Option Nat) (x:D):Env:=match d with|some d=>[(d,x)]|none=>[]
theorem Dp (e:Env) (d:Option Nat) (x:D):Bh e d x=dO d x++e:=by cases d<;>rfl
theorem Ot {d:Option Nat} {x:D} {p:Nat×D} (h:p∈dO d x):p.1∈d.toList:=by cases d<;>simp_all [dO]
theorem JA {i:AI} {s s':St} (h:JB P GL i s s'):∃δ h',s'=⟨δ++s.e,h'⟩∧Local (JB P GL i) i.rd i.wr i.kd s δ h':=by
 rcases h with h|⟨d,f,args,fid,caps,vs,rets,rfl,hf,hv,hp,rfl⟩|⟨d,f,args,rets,h',hi,hc,rfl⟩|⟨d,f,q,args,fid,rets,rfl,hf,hp,rfl⟩
 ·obtain⟨δ,h',hs,l⟩:=PW h;exact⟨δ,h',hs,l.wr,λe2 x=> .inl (l.here e2 x),λk=>⟨(l.n k).1,λe2 h2 x=> .inl ((l.n k).2 e2 h2 x)⟩,λk=>⟨(l.r k).1,λe2 h2 x=> .inl ((l.r k).2.1 e2 h2 x),λe2 h2 hq x=> .inl ((l.r k).2.2 e2 h2 hq x)⟩,l.a,l.t⟩
 ·refine⟨dO d (Hh rets),s.h,by rw[Dp],.ofN (λp hp=>Ot hp) λe2 h2 hs=> .inr (.inl ⟨d,f,args,fid,caps,vs,rets,rfl,?_,?_,hp,by rw[Dp]⟩)⟩
  ·rw[Same.ev (x:=f) (Same.left hs)];exact hf
  ·rw[Same.toVs (xs:=args) (Same.right hs)];exact hv
 ·rcases hi with rfl|⟨rfl,ht⟩
  ·refine⟨dO d (Ba rets),h',by rw[Dp],λp hp=>Ot hp,λe2 hs=> .inr (.inr (.inl ⟨d,f,args,rets,h',.inl rfl,?_,by rw[Dp]⟩)),(λh=>by cases h),(λh=>by cases h),(λh=>by cases h),(λh=>by cases h)⟩;rw[Same.ev (x:=f) (Same.left hs),Same.argsOf (xs:=args) (Same.right hs)];exact hc
  ·refine⟨dO d (Ba rets),h',by rw[Dp],λp hp=>Ot hp,λe2 hs=> .inr (.inr (.inl ⟨d,f,args,rets,h',.inr ⟨rfl,ht⟩,?_,by rw[Dp]⟩)),(λh=>by cases h),(λh=>by cases h),(λ_=>ht),(λh=>by cases h)⟩;rw[Same.ev (x:=f) (Same.left hs),Same.argsOf (xs:=args) (Same.right hs)];exact hc
 ·refine⟨dO d (Ba rets)++q.clr,s.h,by rw[Dp,D0,AUB],.ofN (λp hp=>?_) λe2 h2 hs=> .inr (.inr (.inr ⟨d,f,q,args,fid,rets,rfl,?_,?_,by rw[Dp,D0,AUB]⟩))⟩
  ·rcases AUK.1 hp with h|h
   ·exact AV4 _ (Ot h)
   ·exact AVo _ (MY h)
  ·rw[Same.ev (x:=f) (Same.left hs)];exact hf
  ·rw[Same.ev (x:=q) (Same.left (Same.right hs)),Same.argsOf (xs:=args) (Same.right (Same.right hs))];exact hp
theorem FO {x:GI} {s s':St} (h:BD P GL x s s'):∃δ h',s'=⟨δ++s.e,h'⟩∧Local (BD P GL x) x.rd x.wr x.i.kd s δ h':=by
 obtain⟨g,i⟩:=x;cases g with
 |none=>
  obtain⟨δ,h',hs,l⟩:=JA (i:=i) h;have hr:∀e2,Same s.e e2 (GI.rd ⟨none,i⟩)→Same s.e e2 i.rd:=λe2 hs=>by simpa[GI.rd]using hs
  exact⟨δ,h',hs,λp hp=>AVo _ (l.wr p hp),λe2 x=>l.here e2 (hr e2 x),λk=>⟨(l.n k).1,λe2 h2 x=>(l.n k).2 e2 h2 (hr e2 x)⟩,λk=>⟨(l.r k).1,λe2 h2 x=>(l.r k).2.1 e2 h2 (hr e2 x),λe2 h2 hq x=>(l.r k).2.2 e2 h2 hq (hr e2 x)⟩,l.a,l.t⟩
 |some tw=>
  obtain⟨t,want⟩:=tw;have hr:∀ {e2},Same s.e e2 (GI.rd ⟨some (t,want),i⟩)→Same s.e e2 i.rd:=λhs=>Same.right hs;have ht:∀ {e2},Same s.e e2 (GI.rd ⟨some (t,want),i⟩)→AH e2 t=AH s.e t:=λhs=>hs t (by simp[GI.rd]);have skip:∀ {s':St},s'=⟨Bh s.e i.dst (.tup []),s.h⟩→(∀e2 h2,AH e2 t=AH s.e t→BD P GL ⟨some (t,want),i⟩ ⟨e2,h2⟩ ⟨Bh e2 i.dst (.tup []),h2⟩)→
    ∃δ h',s'=⟨δ++s.e,h'⟩∧Local (BD P GL ⟨some (t,want),i⟩) (GI.rd ⟨some (t,want),i⟩) (GI.wr ⟨some (t,want),i⟩) i.kd s δ h':=by
   rintro s' rfl hall;refine⟨dO i.dst (.tup []),s.h,by rw[Dp],.ofN (λp hp=>AV4 _ (Ot hp)) λe2 h2 hs=>?_⟩;have:=hall e2 h2 (ht hs);rw[Dp]at this;exact this
  simp only[BD]at h;split at h
  ·rename_i b hb;split at h
   ·rename_i hbw;obtain⟨δ,h',hs,l⟩:=JA (i:=i) h;have go:∀ {e2:Env} {h2:List Row} {s2:St},Same s.e e2 (GI.rd ⟨some (t,want),i⟩)→JB P GL i ⟨e2,h2⟩ s2→BD P GL ⟨some (t,want),i⟩ ⟨e2,h2⟩ s2:=by
     intro e2 h2 s2 hs hj;simp only[BD,ht hs,hb,hbw,if_true];exact hj
    exact⟨δ,h',hs,λp hp=>AVo _ (l.wr p hp),λe2 x=>go x (l.here e2 (hr x)),λk=>⟨(l.n k).1,λe2 h2 x=>go x ((l.n k).2 e2 h2 (hr x))⟩,λk=>⟨(l.r k).1,λe2 h2 x=>go x ((l.r k).2.1 e2 h2 (hr x)),λe2 h2 hq x=>go x ((l.r k).2.2 e2 h2 hq (hr x))⟩,l.a,l.t⟩
   ·rename_i hbw;refine skip h λe2 h2 hf=>?_;simp only[BD,hf,hb,hbw,if_false]
  ·rename_i hb;refine skip h λe2 h2 hf=>?_;simp only[BD,hf,hb]
  ·exact h.elim
def EqS (s s':St):Prop:=(∀n,AH s.e n=AH s'.e n)∧s.h=s'.h
theorem EqS.refl (s:St):EqS s s:=⟨λ_=>rfl,rfl⟩
theorem EqS.trans {a b c:St} (h:EqS a b) (h':EqS b c):EqS a c:=⟨λn=>(h.1 n).trans (h'.1 n),h.2.trans h'.2⟩
theorem H5 {δ:Env} {e e':Env} (h:∀n,AH e n=AH e' n) (n:Nat):AH (δ++e) n=AH (δ++e') n:=by
 induction δ with
 |nil=>exact h n
 |cons p δ ih=>simp only[AUx,AH];split<;>first|rfl|exact ih
theorem D3 {δ:Env} {e:Env} {n:Nat} (h:∀p∈δ,p.1≠n):AH (δ++e) n=AH e n:=by
 induction δ with
 |nil=>rfl
 |cons p δ ih=>
  simp only[AUx,AH];rw[if_neg (h p (by simp)),ih λq hq=>h q (by simp[hq])]
theorem WU {δ':Env} {e:Env} {p:Nat×D} {n:Nat} (h:p.1≠n):AH (δ'++p::e) n=AH (δ'++e) n:=by
 induction δ' with
 |nil=>simp[AH,h]
 |cons q δ' ih=>simp only[AUx,AH];split<;>first|rfl|exact ih
theorem WT {δ δ':Env} {e:Env} (h:∀p∈δ,∀q∈δ',p.1≠q.1) (n:Nat):AH (δ++(δ'++e)) n=AH (δ'++(δ++e)) n:=by
 induction δ with
 |nil=>rfl
 |cons p δ ih=>
  have ih:=ih λq hq=>h q (by simp[hq]);simp only[AUx,AH];by_cases hn:p.1=n
  ·rw[if_pos hn,D3 (δ:=δ') λq hq=>by rw[←hn];exact(h p (by simp) q hq).symm];simp[AH,hn]
  ·rw[if_neg hn,ih,WU hn]
theorem Ie:∀ {l:List GI} {s s2 t:St},K6 P GL l s t→EqS s s2→∃t2,K6 P GL l s2 t2∧EqS t t2
 |[],s,s2,t,h,he=>by cases h;exact⟨s2,rfl,he⟩
 |x::l,s,s2,t,⟨s1,h1,h⟩,he=>by
  obtain⟨δ,h',rfl,loc⟩:=FO h1;have h2:BD P GL x s2 ⟨δ++s2.e,h'⟩:=by
   have:=loc.here s2.e (λn _=>(he.1 n).symm);rw[he.2]at this;exact this
  obtain⟨t2,h3,h4⟩:=Ie (s2:=⟨δ++s2.e,h'⟩) h ⟨λn=>H5 he.1 n,rfl⟩;exact⟨t2,⟨_,h2,h3⟩,h4⟩
def vK (a b:List Nat):Bool:=a.all λn=> !b.contains n
theorem Ir {a b:List Nat} (h:vK a b=true) {n:Nat} (ha:n∈a) (hb:n∈b):False:=by
 have:=AUI.1 h n ha;simp[hb]at this
def ARC:Kd→Kd→Bool
 | .n,_=>true
 |_,.n=>true
 | .r,.r=>true
 | .r,.a=>true
 | .r,.t=>true
 | .t,.r=>true
 |_,_=>false
def Hw (y x:GI):Bool:=vK y.wr x.rd&&vK x.wr y.rd&&vK y.wr x.wr&&ARC y.i.kd x.i.kd
theorem wv {y x:GI} (hi:Hw y x=true) {s s1 s2:St} (hy:BD P GL y s s1) (hx:BD P GL x s1 s2):∃s1' s2',BD P GL x s s1'∧BD P GL y s1' s2'∧EqS s2 s2':=by
 simp only[Hw,AT1]at hi;obtain⟨⟨⟨d1,d2⟩,d3⟩,hk⟩:=hi;obtain⟨δy,hy',rfl,ly⟩:=FO hy;obtain⟨δx,hx',rfl,lx⟩:=FO hx;have sx:Same (δy++s.e) s.e x.rd:=λn hn=>(D3 λp hp hpn=>Ir d1 (ly.wr p hp) (hpn▸hn)).symm;have sy:Same s.e (δx++s.e) y.rd:=λn hn=>D3 λp hp hpn=>Ir d2 (lx.wr p hp) (hpn▸hn);have hend:∀n,AH (δx++(δy++s.e)) n=AH (δy++(δx++s.e)) n:=λn=>WT (λp hp q hq h=>Ir d3 (ly.wr q hq) (h▸lx.wr p hp)) n;cases hky:y.i.kd with
 |n=>
  obtain⟨rfl,hn⟩:=ly.n hky;exact⟨_,_,lx.here s.e sx,hn _ _ sy,hend,rfl⟩
 |r=>
  obtain⟨rfl,hr⟩:=ly.r hky;cases hkx:x.i.kd with
  |n=>
   obtain⟨rfl,hn⟩:=lx.n hkx;exact⟨_,_,hn _ _ sx,ly.here _ sy,hend,rfl⟩
  |r=>
   obtain⟨rfl,hn⟩:=lx.r hkx;have:=hn.1 s.e [] sx;simp only[AUq]at this;exact⟨_,_,this,ly.here _ sy,hend,rfl⟩
  |a=>
   obtain⟨t,rfl⟩:=lx.a hkx;exact⟨_,_,lx.here s.e sx,hr.1 _ t sy,hend,rfl⟩
  |t=>exact⟨_,_,lx.here s.e sx,hr.2 _ _ (lx.t hkx) sy,hend,rfl⟩
  |w=>rw[hky,hkx]at hk;cases hk
 |a=>
  cases hkx:x.i.kd with
  |n=>
   obtain⟨rfl,hn⟩:=lx.n hkx;exact⟨_,_,hn _ s.h sx,ly.here _ sy,hend,rfl⟩
  |_=>rw[hky,hkx]at hk;cases hk
 |t=>
  cases hkx:x.i.kd with
  |n=>
   obtain⟨rfl,hn⟩:=lx.n hkx;exact⟨_,_,hn _ s.h sx,ly.here _ sy,hend,rfl⟩
  |r=>
   obtain⟨rfl,hn⟩:=lx.r hkx;exact⟨_,_,hn.2 _ s.h (ly.t hky).symm sx,ly.here _ sy,hend,rfl⟩
  |_=>rw[hky,hkx]at hk;cases hk
 |w=>
  cases hkx:x.i.kd with
  |n=>
   obtain⟨rfl,hn⟩:=lx.n hkx;exact⟨_,_,hn _ s.h sx,ly.here _ sy,hend,rfl⟩
  |_=>rw[hky,hkx]at hk;cases hk
theorem Xk {x:GI} {post:List GI}:∀ {pre:List GI} {s t:St},(∀y∈pre,Hw y x=true)→K6 P GL (pre++x::post) s t→∃t',K6 P GL (x::(pre++post)) s t'∧EqS t t'
 |[],s,t,_,h=>⟨t,h,EqS.refl t⟩
 |y::pre,s,t,hp,⟨s1,h1,h⟩=>by
  obtain⟨t',⟨s2,h2,h3⟩,he⟩:=Xk (λz hz=>hp z (by simp[hz])) h;obtain⟨s1',s2',h4,h5,he2⟩:=wv (hp y (by simp)) h1 h2;obtain⟨t'',h6,he3⟩:=Ie h3 he2;exact⟨t'',⟨s1',h4,s2',h5,h6⟩,he.trans he3⟩
end
inductive AT where
 |done
 |take (i:Nat) (t:AT)
 |pick (c:AT)
 |alt (i:Nat) (t rest:AT)
 |none
 deriving Inhabited
inductive AC where
 |skip
 |reg (ops:List GI) (keep:List Nat)
 |regD (ops:List GI) (keep:List Nat) (clos:List (List Nat))
 |regA (ops:List GI) (keep:List Nat) (clos:List (List Nat)) (t:AT)
 |regV (ops:List GI) (keep:List Nat) (clos:List (List Nat))
 |seq (a b:AC)
 |cond (x:Opd) (a b:AC)
 |block (id:Nat) (c:AC)
 |loop (c:AC)
 |exit (id:Nat)
 |ret
 |rangeF (g:Opd) (ps:List Nat) (asg body:AC)
 |never
 deriving Inhabited
def AC.flat:AC→Bool
 | .rangeF _ _ _ _=>false
 | .seq a b=>a.flat&&b.flat
 | .cond _ a b=>a.flat&&b.flat
 | .block _ c=>c.flat
 | .loop c=>c.flat
 |_=>true
section
variable (P:Program) (GL:AX)
def AT.ok (is:List GI):AT→(St→Prop)→St→Prop
 | .done,K,s=>K s
 | .take i t,K,s=>∃s1,BD P GL (is.getD i default) s s1∧t.ok is K s1
 | .pick c,K,s=>c.ok is K s
 | .alt i t r,K,s=>(∃s1,BD P GL (is.getD i default) s s1∧t.ok is K s1)∧r.ok is K s
 | .none,_,_=>True
def AnyJ (is:List GI) (clos:List (List Nat)) (K:St→Prop):Nat→List Nat→St→Prop
 |0,_,s=>K s
 |n+1,rem,s=>∀i∈rem,(∀j∈(clos[i]?).getD [],j∉rem)→∃s1,BD P GL (is.getD i default) s s1∧AnyJ is clos K n (rem.erase i) s1
def LG (is:List GI) (clos:List (List Nat)) (K:St→Prop):Nat→List Nat→St→Prop
 |0,_,s=>K s
 |n+1,rem,s=>∀i∈rem,(∀j∈(clos[i]?).getD [],j∉rem)→Dc P GL (is.getD i default) (λs1=>LG is clos K n (rem.erase i) s1) s
end
def AFS (ops:Array Oper) (is:List GI) (clos:List (List Nat)):Bool:=
 (List.range ops.size).all λi=>match ops[i]?,clos[i]?,is[i]? with
  |some o,some cl,some x=>o.after.all (λe=> !Region.binds .any e||decide (e.on <i))&&
    cl.all (λj=>o.after.any λe=>Region.binds .any e&&(e.on==j||((clos[e.on]?).getD []).contains j))&&
    (List.range i).all (λj=>cl.contains j||(match is[j]? with|some y=>Hw y x|none=>false))
  |_,_,_=>false
def Wf (ops:Array Oper) (is:List GI) (clos:List (List Nat)):Bool:=
 (List.range ops.size).all λi=>match ops[i]?,clos[i]?,is[i]? with
  |some o,some cl,some _=>o.after.all (λe=> !Region.binds .any e||decide (e.on <i))&&
    cl.all (λj=>o.after.any λe=>Region.binds .any e&&(e.on==j||((clos[e.on]?).getD []).contains j))
  |_,_,_=>false
def rdy (clos:List (List Nat)) (rem:List Nat) (i:Nat):Bool:=rem.contains i&&((clos[i]?).getD []).all λj=> !rem.contains j
def AT.heads:AT→List Nat
 | .alt i _ r=>i::r.heads
 |_=>[]
def AT.good:AT→Bool
 | .alt _ _ _=>false
 | .none=>false
 |_=>true
def AT.chk (is:List GI) (clos:List (List Nat)):AT→List Nat→Bool
 | .done,rem=>rem.isEmpty
 | .take i t,rem=>rdy clos rem i&&t.good&&rem.all (λj=>j==i||((clos[j]?).getD []).contains i||Hw (is.getD i default) (is.getD j default))&&t.chk is clos (rem.erase i)
 | .pick c,rem=> !rem.isEmpty&&rem.all (λj=> !rdy clos rem j||c.heads.contains j)&&c.chk is clos rem
 | .alt i t r,rem=>rdy clos rem i&&t.good&&t.chk is clos (rem.erase i)&&r.chk is clos rem
 | .none,_=>true
def Cv (P:Program) (GL:AX) (N:Nat):Code→AC→Bool
 |_,.never=>true
 | .skip,.skip=>true
 | .region _ ops false,.reg is _=>Aj (Gx P GL N ops) (List.range ops.size) is
 | .region _ ops true,.regD is _ clos=>Aj (Gx P GL N ops) (List.range ops.size) is&&AFS ops is clos&&P.follows .mixedOrders
 | .region _ ops true,.regA is _ clos t=>Aj (Gx P GL N ops) (List.range ops.size) is&&Wf ops is clos&&t.chk is clos (List.range ops.size)&&t.good&&P.follows .mixedOrders
 | .region _ ops true,.regV is _ clos=>Aj (Gx P GL N ops) (List.range ops.size) is&&Wf ops is clos&&P.follows .mixedOrders
 | .seq a b,.seq a' b'=>Cv P GL N a a'&&Cv P GL N b b'
 | .cond x a b,.cond x' a' b'=>oe GL x x'&&Cv P GL N a a'&&Cv P GL N b b'
 | .block id c,.block id' c'=>id==id'&&Cv P GL N c c'
 | .loop c,.loop c'=>Cv P GL N c c'
 | .exit id,.exit id'=>id==id'
 | .ret,.ret=>true
 | .rangeFunc g ps asg body,.rangeF g' ps' asg' body'=>oe GL g g'&&ps.toList==ps'&&ps'.all (λp=>decide (p <N))&&asg'.flat&&body'.flat&&Cv P GL N asg asg'&&Cv P GL N body body'
 |_,_=>false
def cpE (e:Env):Env:=e.map λp=>(p.1,p.2.copy)
def AEA:Tag→Loop→Prop
 | .ready,l=>l.state= .ready∧l.pending=none
 | .busy,l=>l.state= .busy
 | .done none,l=>l.state≠ .busy∧l.pending=some .ret
 | .done (some i),l=>l.state≠ .busy∧l.pending=some (.exit i)
def LoopP (P:Program) (GL:AX) (tag:Tag) (e:Env) (ps:List Nat) (asg body:AC) (g:Gh) (μ:List Nat) (o:Obj):Prop:=
 ∃(l:Loop) (N:Nat),o= .loop l∧l.params=ps.toArray∧l.tmps.size=N∧(∀n w,RepD g w μ (AH e n) (l.tmps.getD n undef)∧∀k,Ab (AH e n) (l.tmps.getD n undef) k=none)∧
  Cv P GL N l.assign asg=true∧Cv P GL N l.body body=true∧asg.flat=true∧body.flat=true∧(∀p∈ps,p <N)∧AEA tag l
theorem LoopP.mono {P:Program} {GL:AX} {tag:Tag} {e:Env} {ps:List Nat} {asg body:AC} (g g':Gh) (μ μ':List Nat) (o:Obj) (hl:g.le g') (hμ:μ <+: μ')
  (h:LoopP P GL tag e ps asg body g μ o):LoopP P GL tag e ps asg body g' μ' o:=by
 obtain⟨l,N,h1,h2,h3,h4,h5⟩:=h;refine⟨l,N,h1,h2,h3,λn w=>⟨?_,(h4 n w).2⟩,h5⟩;exact(h4 n w).1.chg (M:=λ_=>True) ⟨hl,AT6 _,λ_ _ h=>absurd trivial h,λ_ _ h=>absurd trivial h,rfl,rfl⟩ hμ λk b hb=>by rw[(h4 n w).2 k]at hb;cases hb
def An (P:Program) (GL:AX) (tag:Tag) (e:Env) (ps:List Nat) (asg body:AC):Row:= .obj tag (LoopP P GL tag e ps asg body) LoopP.mono
def Bo (Q:AExit→St→Prop) (s:St):Tag→Prop
 | .ready=>Q .normal s
 | .busy=>False
 | .done none=>Q .ret s
 | .done (some i)=>Q (.exit i) s
section
variable (P:Program) (GL:AX)
def awp:AC→(AExit→St→Prop)→St→Prop
 | .skip,Q,s=>Q .normal s
 | .reg ops keep,Q,s=>BE P GL ops (λs'=>Q .normal ⟨BR s'.e keep,s'.h⟩) s
 | .regD ops keep _,Q,s=>∃s',K6 P GL ops s s'∧Q .normal ⟨BR s'.e keep,s'.h⟩
 | .regA ops keep _ t,Q,s=>t.ok P GL ops (λs'=>∃s2,PR s.h.length s' s2∧Q .normal ⟨BR s2.e keep,s2.h⟩) s
 | .regV ops keep cl,Q,s=>LG P GL ops cl (λs'=>Q .normal ⟨BR s'.e keep,s'.h⟩) ops.length (List.range ops.length) s
 | .seq a b,Q,s=>awp a (λe s'=>match e with| .normal=>awp b Q s'|e=>Q e s') s
 | .cond x a b,Q,s=>match x.ev s.e with
  | .v (.bool t)=>if t then awp a Q s else awp b Q s
  |_=>False
 | .block id c,Q,s=>awp c (λe s'=>match e with| .exit id'=>if id'=id then Q .normal s' else Q (.exit id') s'|e=>Q e s') s
 | .loop c,Q,s=>∃I:Nat→St→Prop,(∃m,I m s)∧∀m s,I m s→awp c (λe s'=>match e with| .normal=>∃m',m' <m∧I m' s'|e=>Q e s') s
 | .never,_,_=>False
 | .exit id,Q,s=>Q (.exit id) s
 | .ret,Q,s=>Q .ret s
 | .rangeF q ps asg body,Q,s=>∃fid caps rets h' tag,Db (q.ev s.e)=some (fid,caps)∧
   FSp P GL fid (.yld s.h.length::caps) (s.h++[An P GL .ready (cpE s.e) ps asg body]) rets h'∧h'[s.h.length]?=some (An P GL tag (cpE s.e) ps asg body)∧
   Bo Q ⟨s.e,h'.set s.h.length .dead⟩ tag
end
section
variable {P:Program} {GL:AX} {N:Nat} {r:Option Nat}
theorem F9 {e e':Env} (h:∀n,AH e n=AH e' n):∀ns,BR e ns=BR e' ns
 |[]=>rfl
 |n::ns=>by simp only[BR,h n,F9 h ns]
theorem J7 {i:AI} {s s1:St} (h:JB P GL i s s1):Da P GL i (λx=>x=s1) s:=by
 rcases h with h|⟨d,f,args,fid,caps,vs,rets,rfl,hf,hv,hp,rfl⟩|⟨d,f,args,rets,h',hi,hc,rfl⟩|⟨d,f,q,args,fid,rets,rfl,hf,hp,rfl⟩
 ·unfold Da;split
  ·cases h
  ·cases h
  ·cases h
  ·cases h
  ·cases h
  ·cases h
  ·cases h
  ·cases h
  ·cases h
  ·rw[h]
 ·have hny:∀r,f.ev s.e≠ .yld r:=λr hr=>by rw[hr]at hf;simp[D.toV,D.v?]at hf
  have hnm:∀g fs,f.ev s.e≠ .meth g fs:=λg fs hr=>by rw[hr]at hf;simp[D.toV,D.v?]at hf
  simp only[Da,BF,vF hf];refine⟨rets.map .v,s.h,?_,by rw[Ig]⟩;rw[Ly hv,←AUZ];exact hp.fsp s.h
 ·have e0:Da P GL i=BF P GL d f args:=by rcases hi with rfl|⟨rfl,_⟩<;>rfl
  rw[e0];simp only[BF];unfold E8 at hc;split at hc
  ·rename_i r hf;obtain⟨b,hy,rfl⟩:=hc
   first|(rw[hf];exact⟨b,h',hy,rfl⟩)|exact⟨b,h',hy,rfl⟩
  ·rename_i fid fs hf
   first|(rw[hf];exact⟨rets,h',hc,rfl⟩)|exact⟨rets,h',hc,rfl⟩
  ·rename_i h1 h2;obtain⟨fid,caps,hf,hs⟩:=hc
   first
    |(simp only[hf];exact⟨rets,h',hs,rfl⟩)
    |(split
      ·rename_i r hr;exact absurd hr (h1 r)
      ·rename_i a b hr;exact absurd hr (h2 a b)
      ·simp only[hf];exact⟨rets,h',hs,rfl⟩)
 ·exact⟨fid,rets,hf,hp,rfl⟩
theorem JI {x:GI} {s s1:St} (h:BD P GL x s s1):Dc P GL x (λx=>x=s1) s:=by
 unfold BD at h;unfold Dc;split
 ·rename_i hx;rw[hx]at h;exact J7 h
 ·rename_i t want hx;rw[hx]at h;simp only at h;split
  ·rename_i b hb;rw[hb]at h;simp only at h;split
   ·rename_i hw;rw[if_pos hw]at h;exact J7 h
   ·rename_i hw;rw[if_neg hw]at h;exact h.symm
  ·rename_i hb;rw[hb]at h;exact h.symm
  ·rename_i h1 h2;split at h
   ·rename_i b hb;exact h1 b hb
   ·rename_i hb;exact h2 hb
   ·exact h
theorem Wv {ops:Array Oper} {is:List GI} {clos:List (List Nat)} (hk:∀(i:Nat) x,is[i]?=some x→Gx P GL N ops i x=true) (hlen:is.length=ops.size) (hd:AFS ops is clos=true)
  {K:St→Prop} (hK:∀s1 s2,EqS s1 s2→K s1→K s2) {Q:Exit→Act→World→Prop}:∀(fuel:Nat) (rem:List Nat) (listed:Array Bool) {g:Gh} {w:World} {μ:List Nat} {s:St} {a:Act} {O:Nat→Prop},
  rem.length=fuel→rem.Pairwise (· <·)→(∀i,i∈rem↔i <ops.size∧listed.getD i true=false)→listed.size=ops.size→
  (∀i cl,listed.getD i false=true→clos[i]?=some cl→∀j∈cl,listed.getD j false=true)→
  Gs GL N g w μ s a O→(∃t,K6 P GL (rem.map λi=>is.getD i default) s t∧K t)→(∀a' w',After GL N K g w μ a O a' w'→Q .normal a' w')→
  wpAnyIn (WF r) 0 P .any ops Q fuel listed a w:=by
 have hspec:∀i,i <ops.size→∃o cl x,ops[i]?=some o∧clos[i]?=some cl∧is[i]?=some x∧(∀e∈o.after,Region.binds .any e=true→e.on <i)∧
   (∀j∈cl,∃e∈o.after,Region.binds .any e=true∧(e.on=j∨∃cl',clos[e.on]?=some cl'∧j∈cl'))∧(∀j,j <i→j∈cl∨∃y,is[j]?=some y∧Hw y x=true):=by
  intro i hi;have h:=AUI.1 hd i (AUR.2 hi);split at h
  ·rename_i o cl x ho hcl hx;simp only[AT1]at h;obtain⟨⟨h1,h2⟩,h3⟩:=h;refine⟨o,cl,x,ho,hcl,hx,λe he hb=>?_,λj hj=>?_,λj hj=>?_⟩
   ·rw[Array.all_eq_true']at h1;have:=h1 e he;simpa[hb]using this
   ·have h4:=AUI.1 h2 j hj;rw[Array.any_eq_true']at h4;obtain⟨e,he,h5⟩:=h4;simp only[AT1,AVJ,beq_iff_eq]at h5;refine⟨e,he,h5.1,?_⟩;rcases h5.2 with h6|h6
    ·exact .inl h6
    ·cases hc:clos[e.on]? with
     |none=>simp[hc]at h6
     |some cl'=>exact .inr ⟨cl',rfl,by simpa[hc]using h6⟩
   ·have h4:=AUI.1 h3 j (AUR.2 hj);simp only[AVJ]at h4;rcases h4 with h5|h5
    ·exact .inl (by simpa using h5)
    ·split at h5
     ·rename_i y hy;exact .inr ⟨y,hy,h5⟩
     ·cases h5
  ·cases h
 intro fuel;induction fuel with
 |zero=>
  intro rem listed g w μ s a O hl _ hmem _ _ hg h hq;have:rem=[]:=AUg hl;subst this;obtain⟨t,rfl,hKt⟩:=h;refine⟨?_,hq a w ⟨_,g,μ,hKt,hg,Chg.refl _ _ _,AT8 _,rfl⟩⟩;rw[AWh];intro i hi;rw[mem_ready]at hi;obtain⟨h1,o,ho,_⟩:=hi;have:=(hmem i).2 ⟨(AVI.1 ho).1,h1⟩;simp at this
 |succ fuel ih=>
  intro rem listed g w μ s a O hl hsort hmem hsz hcl hg h hq;refine⟨λhnil=>?_,λi hi=>?_⟩
  ·exfalso;cases rem with
   |nil=>simp at hl
   |cons i0 rem'=>
    obtain⟨hi0,hun⟩:=(hmem i0).1 (by simp);obtain⟨o,cl,x,ho,_,_,he,_⟩:=hspec i0 hi0;have:i0∈Region.ready .any ops listed:=by
     rw[mem_ready];refine⟨hun,o,ho,λe hee hb=>?_⟩;have hlt:=he e hee hb;have hns:e.on <listed.size:=by omega
     cases hv:listed.getD e.on true with
     |true=>simp[hns]at hv ⊢;exact hv
     |false=>
      have h1:=(hmem e.on).2 ⟨by omega,hv⟩;rcases AT7.1 h1 with h2|h2
      ·omega
      ·have:=AVY hsort h2;omega
    rw[hnil]at this;simp at this
  ·have hi':=mem_ready.1 hi;obtain⟨hun,o',ho',hedge⟩:=hi';have hin:i <ops.size:=(AVI.1 ho').1;have him:=(hmem i).2 ⟨hin,hun⟩;obtain⟨pre,post,rfl⟩:=List.append_of_mem him;obtain⟨o,cl,x,ho,hcli,hx,_,hcl2,hind⟩:=hspec i hin;rw[ho']at ho;cases ho;have hclist:∀j∈cl,listed.getD j false=true:=by
    intro j hj;obtain⟨e,he,hb,h6⟩:=hcl2 j hj;have h7:=hedge e he hb;rcases h6 with rfl|⟨cl',hc',hj'⟩
    ·exact h7
    ·exact hcl e.on cl' h7 hc' j hj'
   have hxd:is.getD i default=x:=by simp[List.getD,hx]
   obtain⟨t,hrun,hKt⟩:=h;rw[AUZ,AUD,hxd]at hrun;have hpre:∀y∈pre.map (λi=>is.getD i default),Hw y x=true:=by
    intro y hy;obtain⟨j,hj,rfl⟩:=AT9.1 hy;have hji:j <i:=(AU1.1 hsort).2.2 j hj i (by simp);obtain⟨hjn,hjun⟩:=(hmem j).1 (by simp[hj]);rcases hind j hji with h1|⟨y',hy',h2⟩
    ·have:=hclist j h1;have hns:j <listed.size:=by omega
     simp[hns]at this hjun;rw[hjun]at this;cases this
    ·simpa[List.getD,hy']using h2
   obtain⟨t',⟨s1,hs1,hrun'⟩,he⟩:=Xk hpre hrun;refine Fl (hk i x hx) hg (JI hs1) ?_;rintro s' g' w' μ' a' rfl hgs hch hμ hdf;refine ih (pre++post) _ ?_ ?_ ?_ (by simp[hsz]) ?_ hgs ⟨t',by rw[AUZ];exact hrun',hK _ _ he hKt⟩ λa2 w2 h2=>hq a2 w2 (h2.trans hch hμ hdf)
   ·simp at hl ⊢;omega
   ·exact hsort.sublist (AWi (AWj i post) pre)
   ·intro j;have hnd:i∉pre++post:=by
     intro hm;rcases AUK.1 hm with hm|hm
     ·have:=(AU1.1 hsort).2.2 i hm i (by simp);omega
     ·have:=AVY (AU1.1 hsort).2.1 hm;omega
    by_cases hji:j=i
    ·subst hji;refine⟨λhm=>absurd hm hnd,λhm=>?_⟩;have h2:=hm.2;have hns:j <listed.size:=by omega
     simp[hns]at h2
    ·have hsame:(listed.setIfInBounds i true).getD j true=listed.getD j true:=by
      simp[AUL,AUf,Ne.symm hji]
     rw[hsame];have:=hmem j;simp only[AUK,AT7,hji,false_or]at this ⊢;exact this
   ·intro k cl' hk' hc' j hj;by_cases hki:k=i
    ·subst hki;rw[hcli]at hc';cases hc';have:=hclist j hj;by_cases hjk:j=k
     ·subst hjk;have hns:j <listed.size:=by omega
      simp[AUL,AUf,hns]
     ·rw[AUL,AUf,if_neg (Ne.symm hjk),←AUL];exact this
    ·rw[AUL,AUf,if_neg (Ne.symm hki),←AUL]at hk';have:=hcl k cl' hk' hc' j hj;by_cases hji:j=i
     ·subst hji;have hns:j <listed.size:=by omega
      simp[AUL,AUf,hns]
     ·rw[AUL,AUf,if_neg (Ne.symm hji),←AUL];exact this
theorem Sx {ops:Array Oper} {is:List GI} {clos:List (List Nat)} (hk:∀(i:Nat) x,is[i]?=some x→Gx P GL N ops i x=true) (hlen:is.length=ops.size) (hd:Wf ops is clos=true)
  {K:St→Prop} {Q:Exit→Act→World→Prop}:∀(fuel:Nat) (rem:List Nat) (listed:Array Bool) {g:Gh} {w:World} {μ:List Nat} {s:St} {a:Act} {O:Nat→Prop},
  rem.length=fuel→rem.Pairwise (· <·)→(∀i,i∈rem↔i <ops.size∧listed.getD i true=false)→listed.size=ops.size→
  (∀i cl,listed.getD i false=true→clos[i]?=some cl→∀j∈cl,listed.getD j false=true)→
  Gs GL N g w μ s a O→AnyJ P GL is clos K fuel rem s→(∀a' w',After GL N K g w μ a O a' w'→Q .normal a' w')→
  wpAnyIn (WF r) 0 P .any ops Q fuel listed a w:=by
 have hspec:∀i,i <ops.size→∃o cl x,ops[i]?=some o∧clos[i]?=some cl∧is[i]?=some x∧(∀e∈o.after,Region.binds .any e=true→e.on <i)∧
   (∀j∈cl,∃e∈o.after,Region.binds .any e=true∧(e.on=j∨∃cl',clos[e.on]?=some cl'∧j∈cl')):=by
  intro i hi;have h:=AUI.1 hd i (AUR.2 hi);split at h
  ·rename_i o cl x ho hcl hx;simp only[AT1]at h;obtain⟨h1,h2⟩:=h;refine⟨o,cl,x,ho,hcl,hx,λe he hb=>?_,λj hj=>?_⟩
   ·rw[Array.all_eq_true']at h1;have:=h1 e he;simpa[hb]using this
   ·have h4:=AUI.1 h2 j hj;rw[Array.any_eq_true']at h4;obtain⟨e,he,h5⟩:=h4;simp only[AT1,AVJ,beq_iff_eq]at h5;refine⟨e,he,h5.1,?_⟩;rcases h5.2 with h6|h6
    ·exact .inl h6
    ·cases hc:clos[e.on]? with
     |none=>simp[hc]at h6
     |some cl'=>exact .inr ⟨cl',rfl,by simpa[hc]using h6⟩
  ·cases h
 intro fuel;induction fuel with
 |zero=>
  intro rem listed g w μ s a O hl _ hmem _ _ hg h hq;have:rem=[]:=AUg hl;subst this;refine⟨?_,hq a w ⟨_,g,μ,h,hg,Chg.refl _ _ _,AT8 _,rfl⟩⟩;rw[AWh];intro i hi;rw[mem_ready]at hi;obtain⟨h1,o,ho,_⟩:=hi;have:=(hmem i).2 ⟨(AVI.1 ho).1,h1⟩;simp at this
 |succ fuel ih=>
  intro rem listed g w μ s a O hl hsort hmem hsz hcl hg h hq;refine⟨λhnil=>?_,λi hi=>?_⟩
  ·exfalso;cases rem with
   |nil=>simp at hl
   |cons i0 rem'=>
    obtain⟨hi0,hun⟩:=(hmem i0).1 (by simp);obtain⟨o,cl,x,ho,_,_,he,_⟩:=hspec i0 hi0;have:i0∈Region.ready .any ops listed:=by
     rw[mem_ready];refine⟨hun,o,ho,λe hee hb=>?_⟩;have hlt:=he e hee hb;have hns:e.on <listed.size:=by omega
     cases hv:listed.getD e.on true with
     |true=>simp[hns]at hv ⊢;exact hv
     |false=>
      have h1:=(hmem e.on).2 ⟨by omega,hv⟩;rcases AT7.1 h1 with h2|h2
      ·omega
      ·have:=AVY hsort h2;omega
    rw[hnil]at this;simp at this
  ·have hi':=mem_ready.1 hi;obtain⟨hun,o',ho',hedge⟩:=hi';have hin:i <ops.size:=(AVI.1 ho').1;have him:=(hmem i).2 ⟨hin,hun⟩;obtain⟨pre,post,rfl⟩:=List.append_of_mem him;obtain⟨o,cl,x,ho,hcli,hx,_,hcl2⟩:=hspec i hin;rw[ho']at ho;cases ho;have hclist:∀j∈cl,listed.getD j false=true:=by
    intro j hj;obtain⟨e,he,hb,h6⟩:=hcl2 j hj;have h7:=hedge e he hb;rcases h6 with rfl|⟨cl',hc',hj'⟩
    ·exact h7
    ·exact hcl e.on cl' h7 hc' j hj'
   have hxd:is.getD i default=x:=by simp[List.getD,hx]
   have hcg:(clos[i]?).getD []=cl:=by rw[hcli];rfl
   obtain⟨s1,hs1,hrun'⟩:=h i him (λj hj hjm=>by
    rw[hcg]at hj;have h1:=hclist j hj;obtain⟨hjn,hjun⟩:=(hmem j).1 hjm;have hns:j <listed.size:=by omega
    simp[hns]at h1 hjun;rw[hjun]at h1;cases h1)
   rw[hxd]at hs1;have herase:(pre++i::post).erase i=pre++post:=by
    have hnp:i∉pre:=λhm=>by have:=(AU1.1 hsort).2.2 i hm i (by simp);omega
    rw[List.erase_append_right _ hnp];simp
   rw[herase]at hrun';refine Fl (hk i x hx) hg (JI hs1) ?_;rintro s' g' w' μ' a' rfl hgs hch hμ hdf;refine ih (pre++post) _ ?_ ?_ ?_ (by simp[hsz]) ?_ hgs hrun' λa2 w2 h2=>hq a2 w2 (h2.trans hch hμ hdf)
   ·simp at hl ⊢;omega
   ·exact hsort.sublist (AWi (AWj i post) pre)
   ·intro j;have hnd:i∉pre++post:=by
     intro hm;rcases AUK.1 hm with hm|hm
     ·have:=(AU1.1 hsort).2.2 i hm i (by simp);omega
     ·have:=AVY (AU1.1 hsort).2.1 hm;omega
    by_cases hji:j=i
    ·subst hji;refine⟨λhm=>absurd hm hnd,λhm=>?_⟩;have h2:=hm.2;have hns:j <listed.size:=by omega
     simp[hns]at h2
    ·have hsame:(listed.setIfInBounds i true).getD j true=listed.getD j true:=by
      simp[AUL,AUf,Ne.symm hji]
     rw[hsame];have:=hmem j;simp only[AUK,AT7,hji,false_or]at this ⊢;exact this
   ·intro k cl' hk' hc' j hj;by_cases hki:k=i
    ·subst hki;rw[hcli]at hc';cases hc';have:=hclist j hj;by_cases hjk:j=k
     ·subst hjk;have hns:j <listed.size:=by omega
      simp[AUL,AUf,hns]
     ·rw[AUL,AUf,if_neg (Ne.symm hjk),←AUL];exact this
    ·rw[AUL,AUf,if_neg (Ne.symm hki),←AUL]at hk';have:=hcl k cl' hk' hc' j hj;by_cases hji:j=i
     ·subst hji;have hns:j <listed.size:=by omega
      simp[AUL,AUf,hns]
     ·rw[AUL,AUf,if_neg (Ne.symm hji),←AUL];exact this
theorem Sy {ops:Array Oper} {is:List GI} {clos:List (List Nat)} (hk:∀(i:Nat) x,is[i]?=some x→Gx P GL N ops i x=true) (hlen:is.length=ops.size) (hd:Wf ops is clos=true)
  {K:St→Prop} {Q:Exit→Act→World→Prop}:∀(fuel:Nat) (rem:List Nat) (listed:Array Bool) {g:Gh} {w:World} {μ:List Nat} {s:St} {a:Act} {O:Nat→Prop},
  rem.length=fuel→rem.Pairwise (· <·)→(∀i,i∈rem↔i <ops.size∧listed.getD i true=false)→listed.size=ops.size→
  (∀i cl,listed.getD i false=true→clos[i]?=some cl→∀j∈cl,listed.getD j false=true)→
  Gs GL N g w μ s a O→LG P GL is clos K fuel rem s→(∀a' w',After GL N K g w μ a O a' w'→Q .normal a' w')→
  wpAnyIn (WF r) 0 P .any ops Q fuel listed a w:=by
 have hspec:∀i,i <ops.size→∃o cl x,ops[i]?=some o∧clos[i]?=some cl∧is[i]?=some x∧(∀e∈o.after,Region.binds .any e=true→e.on <i)∧
   (∀j∈cl,∃e∈o.after,Region.binds .any e=true∧(e.on=j∨∃cl',clos[e.on]?=some cl'∧j∈cl')):=by
  intro i hi;have h:=AUI.1 hd i (AUR.2 hi);split at h
  ·rename_i o cl x ho hcl hx;simp only[AT1]at h;obtain⟨h1,h2⟩:=h;refine⟨o,cl,x,ho,hcl,hx,λe he hb=>?_,λj hj=>?_⟩
   ·rw[Array.all_eq_true']at h1;have:=h1 e he;simpa[hb]using this
   ·have h4:=AUI.1 h2 j hj;rw[Array.any_eq_true']at h4;obtain⟨e,he,h5⟩:=h4;simp only[AT1,AVJ,beq_iff_eq]at h5;refine⟨e,he,h5.1,?_⟩;rcases h5.2 with h6|h6
    ·exact .inl h6
    ·cases hc:clos[e.on]? with
     |none=>simp[hc]at h6
     |some cl'=>exact .inr ⟨cl',rfl,by simpa[hc]using h6⟩
  ·cases h
 intro fuel;induction fuel with
 |zero=>
  intro rem listed g w μ s a O hl _ hmem _ _ hg h hq;have:rem=[]:=AUg hl;subst this;refine⟨?_,hq a w ⟨_,g,μ,h,hg,Chg.refl _ _ _,AT8 _,rfl⟩⟩;rw[AWh];intro i hi;rw[mem_ready]at hi;obtain⟨h1,o,ho,_⟩:=hi;have:=(hmem i).2 ⟨(AVI.1 ho).1,h1⟩;simp at this
 |succ fuel ih=>
  intro rem listed g w μ s a O hl hsort hmem hsz hcl hg h hq;refine⟨λhnil=>?_,λi hi=>?_⟩
  ·exfalso;cases rem with
   |nil=>simp at hl
   |cons i0 rem'=>
    obtain⟨hi0,hun⟩:=(hmem i0).1 (by simp);obtain⟨o,cl,x,ho,_,_,he,_⟩:=hspec i0 hi0;have:i0∈Region.ready .any ops listed:=by
     rw[mem_ready];refine⟨hun,o,ho,λe hee hb=>?_⟩;have hlt:=he e hee hb;have hns:e.on <listed.size:=by omega
     cases hv:listed.getD e.on true with
     |true=>simp[hns]at hv ⊢;exact hv
     |false=>
      have h1:=(hmem e.on).2 ⟨by omega,hv⟩;rcases AT7.1 h1 with h2|h2
      ·omega
      ·have:=AVY hsort h2;omega
    rw[hnil]at this;simp at this
  ·have hi':=mem_ready.1 hi;obtain⟨hun,o',ho',hedge⟩:=hi';have hin:i <ops.size:=(AVI.1 ho').1;have him:=(hmem i).2 ⟨hin,hun⟩;obtain⟨pre,post,rfl⟩:=List.append_of_mem him;obtain⟨o,cl,x,ho,hcli,hx,_,hcl2⟩:=hspec i hin;rw[ho']at ho;cases ho;have hclist:∀j∈cl,listed.getD j false=true:=by
    intro j hj;obtain⟨e,he,hb,h6⟩:=hcl2 j hj;have h7:=hedge e he hb;rcases h6 with rfl|⟨cl',hc',hj'⟩
    ·exact h7
    ·exact hcl e.on cl' h7 hc' j hj'
   have hxd:is.getD i default=x:=by simp[List.getD,hx]
   have hcg:(clos[i]?).getD []=cl:=by rw[hcli];rfl
   have hs1:=h i him (λj hj hjm=>by
    rw[hcg]at hj;have h1:=hclist j hj;obtain⟨hjn,hjun⟩:=(hmem j).1 hjm;have hns:j <listed.size:=by omega
    simp[hns]at h1 hjun;rw[hjun]at h1;cases h1)
   rw[hxd]at hs1;have herase:(pre++i::post).erase i=pre++post:=by
    have hnp:i∉pre:=λhm=>by have:=(AU1.1 hsort).2.2 i hm i (by simp);omega
    rw[List.erase_append_right _ hnp];simp
   rw[herase]at hs1;refine Fl (hk i x hx) hg hs1 ?_;rintro s' g' w' μ' a' hrun' hgs hch hμ hdf;refine ih (pre++post) _ ?_ ?_ ?_ (by simp[hsz]) ?_ hgs hrun' λa2 w2 h2=>hq a2 w2 (h2.trans hch hμ hdf)
   ·simp at hl ⊢;omega
   ·exact hsort.sublist (AWi (AWj i post) pre)
   ·intro j;have hnd:i∉pre++post:=by
     intro hm;rcases AUK.1 hm with hm|hm
     ·have:=(AU1.1 hsort).2.2 i hm i (by simp);omega
     ·have:=AVY (AU1.1 hsort).2.1 hm;omega
    by_cases hji:j=i
    ·subst hji;refine⟨λhm=>absurd hm hnd,λhm=>?_⟩;have h2:=hm.2;have hns:j <listed.size:=by omega
     simp[hns]at h2
    ·have hsame:(listed.setIfInBounds i true).getD j true=listed.getD j true:=by
      simp[AUL,AUf,Ne.symm hji]
     rw[hsame];have:=hmem j;simp only[AUK,AT7,hji,false_or]at this ⊢;exact this
   ·intro k cl' hk' hc' j hj;by_cases hki:k=i
    ·subst hki;rw[hcli]at hc';cases hc';have:=hclist j hj;by_cases hjk:j=k
     ·subst hjk;have hns:j <listed.size:=by omega
      simp[AUL,AUf,hns]
     ·rw[AUL,AUf,if_neg (Ne.symm hjk),←AUL];exact this
    ·rw[AUL,AUf,if_neg (Ne.symm hki),←AUL]at hk';have:=hcl k cl' hk' hc' j hj;by_cases hji:j=i
     ·subst hji;have hns:j <listed.size:=by omega
      simp[AUL,AUf,hns]
     ·rw[AUL,AUf,if_neg (Ne.symm hji),←AUL];exact this
theorem AnyJ.congr {is:List GI} {clos:List (List Nat)} {K:St→Prop} (hK:∀s1 s2,EqS s1 s2→K s1→K s2):∀(n:Nat) (rem:List Nat) {s s2:St},EqS s s2→AnyJ P GL is clos K n rem s→AnyJ P GL is clos K n rem s2
 |0,_,_,_,he,h=>hK _ _ he h
 |n+1,rem,s,s2,he,h=>by
  intro i hi hr;obtain⟨s1,h1,h2⟩:=h i hi hr;obtain⟨t2,⟨x,h3,h4⟩,h5⟩:=Ie (l:=[is.getD i default]) (t:=s1) ⟨s1,h1,rfl⟩ he;cases h4;exact⟨t2,h3,AnyJ.congr hK n _ h5 h2⟩
theorem AnyJ.take {is:List GI} {clos:List (List Nat)} {K:St→Prop} (hK:∀s1 s2,EqS s1 s2→K s1→K s2) {i:Nat}:∀(n:Nat) (rem:List Nat) {s s1:St},rem.length=n+1→rem.Nodup→i∈rem→
  (∀j∈rem,j=i∨i∈(clos[j]?).getD []∨Hw (is.getD i default) (is.getD j default)=true)→BD P GL (is.getD i default) s s1→AnyJ P GL is clos K n (rem.erase i) s1→(∀j∈(clos[i]?).getD [],j∉rem)→AnyJ P GL is clos K (n+1) rem s:=by
 intro n;induction n with
 |zero=>
  intro rem s s1 hl hnd hi _ h1 h2 _ j hj hr;have:rem=[i]:=by
   match rem,hl with
   |[x],_=>simp at hi;rw[hi]
  subst this;simp at hj;subst hj;exact⟨s1,h1,h2⟩
 |succ n ih=>
  intro rem s s1 hl hnd hi hind h1 h2 hri j hj hr;by_cases hji:j=i
  ·subst hji;exact⟨s1,h1,h2⟩
  ·have hje:j∈rem.erase i:=(AWP hji).2 hj;obtain⟨s2,h3,h4⟩:=h2 j hje λk hk hkm=>hr k hk (AVZ hkm);have hin:Hw (is.getD i default) (is.getD j default)=true:=by
    rcases hind j hj with h|h|h
    ·exact absurd h hji
    ·exact absurd hi (hr i h)
    ·exact h
   obtain⟨s1',s2',h5,h6,he⟩:=wv hin h1 h3;refine⟨s1',h5,ih (rem.erase j) (by rw[AWQ hj];omega) (hnd.erase _) ((AWP (Ne.symm hji)).2 hi) (λk hk=>hind k (AVZ hk)) h6 ?_ λk hk hkm=>hri k hk (AVZ hkm)⟩;rw[List.erase_comm];exact AnyJ.congr hK n _ he h4
theorem OB {clos:List (List Nat)} {rem:List Nat} {i:Nat}:rdy clos rem i=true↔i∈rem∧∀j∈(clos[i]?).getD [],j∉rem:=by
 simp[rdy]
theorem AT.any {is:List GI} {clos:List (List Nat)} {K:St→Prop} (hK:∀s1 s2,EqS s1 s2→K s1→K s2):∀(t:AT) (rem:List Nat) {s:St},rem.Nodup→t.chk is clos rem=true→t.ok P GL is K s→
  (t.good=true→AnyJ P GL is clos K rem.length rem s)∧
  (∀i∈t.heads,i∈rem→∃s1,BD P GL (is.getD i default) s s1∧AnyJ P GL is clos K (rem.length-1) (rem.erase i) s1):=by
 intro t;induction t with
 |done=>
  intro rem s _ hc h;have:rem=[]:=by simpa[AT.chk]using hc
  subst this;exact⟨λ_=>h,λi hi=>by simp[AT.heads]at hi⟩
 |take i t ih=>
  intro rem s hnd hc h;simp only[AT.chk,AT1]at hc;obtain⟨⟨⟨h1,h0⟩,h2⟩,h3⟩:=hc;obtain⟨s1,h4,h5⟩:=h;obtain⟨hi,hr⟩:=OB.1 h1;have hlen:(rem.erase i).length=rem.length-1:=AWQ hi;have hpos:0 <rem.length:=List.length_pos_of_mem hi;refine⟨λ_=>?_,λj hj=>by simp[AT.heads]at hj⟩;have:=(ih (rem.erase i) (hnd.erase _) h3 h5).1 h0;rw[hlen]at this;have h6:=AnyJ.take hK (rem.length-1) rem (by omega) hnd hi (λj hj=>by
    have:=AUI.1 h2 j hj;simp only[AVJ,beq_iff_eq]at this;rcases this with (h|h)|h
    ·exact .inl h
    ·exact .inr (.inl (by simpa using h))
    ·exact .inr (.inr h)) h4 this hr
  rwa [show rem.length-1+1=rem.length by omega]at h6
 |pick c ih=>
  intro rem s hnd hc h;simp only[AT.chk,AT1]at hc;obtain⟨⟨h0,h1⟩,h2⟩:=hc;have hpos:0 <rem.length:=by cases rem<;>simp at h0 ⊢
  refine⟨λ_=>?_,λj hj=>by simp[AT.heads]at hj⟩;have h3:=(ih rem hnd h2 h).2;obtain⟨n,hn⟩:∃n,rem.length=n+1:=⟨rem.length-1,by omega⟩;rw[hn];intro i hi hr;have h4:=AUI.1 h1 i hi;simp only[OB.2 ⟨hi,hr⟩,Bool.not_true,Bool.false_or]at h4;have:=h3 i (by simpa using h4) hi
  rwa [hn]at this
 |alt i t r iht ihr=>
  intro rem s hnd hc h;simp only[AT.chk,AT1]at hc;obtain⟨⟨⟨h1,h2⟩,h3⟩,h4⟩:=hc;refine⟨λh=>by simp[AT.good]at h,λj hj hjm=>?_⟩;simp only[AT.heads,AT7]at hj;rcases hj with rfl|hj
  ·obtain⟨⟨s1,h5,h6⟩,_⟩:=h;have hlen:(rem.erase j).length=rem.length-1:=AWQ hjm;have:=(iht (rem.erase j) (hnd.erase _) h3 h6).1 h2;rw[hlen]at this;exact⟨s1,h5,this⟩
  ·exact(ihr rem hnd h4 h.2).2 j hj hjm
 |none=>intro rem s _ _ _;exact⟨λh=>by simp[AT.good]at h,λi hi=>by simp[AT.heads]at hi⟩
theorem Pa {ops:Array Oper} {is:List GI} {clos:List (List Nat)} (hk:Aj (Gx P GL N ops) (List.range ops.size) is=true) (hd:AFS ops is clos=true)
  {K:St→Prop} (hK:∀s1 s2,EqS s1 s2→K s1→K s2) {Q:Exit→Act→World→Prop} {g:Gh} {w:World} {μ:List Nat} {s:St} {a:Act} {O:Nat→Prop}
  (hg:Gs GL N g w μ s a O) (h:∃t,K6 P GL is s t∧K t) (hq:∀a' w',After GL N K g w μ a O a' w'→Q .normal a' w'):
  wpAnyIn (WF r) 0 P .any ops Q ops.size (Array.replicate ops.size false) a w:=by
 have hall:All2 (λy x=>Gx P GL N ops x y=true) is (List.range ops.size):=B9 (λx y h=>h) hk;have hlen:is.length=ops.size:=by have:=hall.1;simp at this;omega
 refine Wv (λi x hx=>?_) hlen hd hK ops.size (List.range ops.size) _ (by simp) AVa (λi=>?_) (by simp) (λi cl hi=>?_) hg ?_ hq
 ·have hlt:=(AT4.1 hx).1;have hri:(List.range ops.size)[i]?=some i:=AU4 (by omega);exact hall.2 i x i hx hri
 ·rw[AUR]
  constructor
  ·intro h;exact⟨h,by simp[AUL,h]⟩
  ·exact λh=>h.1
 ·exfalso;by_cases hin:i <ops.size<;>simp[AUL,hin]at hi
 ·have:(List.range ops.size).map (λi=>is.getD i default)=is:=by
   apply AUj;intro i;by_cases hin:i <ops.size
   ·have:i <is.length:=by omega
    simp[hin,List.getD,this]
   ·have:is[i]?=none:=by rw[AUW];omega
    rw[this];simp;omega
  rw[this];exact h
theorem Pb {ops:Array Oper} {is:List GI} {clos:List (List Nat)} {t:AT} (hk:Aj (Gx P GL N ops) (List.range ops.size) is=true) (hd:Wf ops is clos=true) (ht:t.chk is clos (List.range ops.size)=true)
  (ht2:t.good=true)
  {K:St→Prop} (hK:∀s1 s2,EqS s1 s2→K s1→K s2) {Q:Exit→Act→World→Prop} {g:Gh} {w:World} {μ:List Nat} {s:St} {a:Act} {O:Nat→Prop}
  (hg:Gs GL N g w μ s a O) (h:t.ok P GL is K s) (hq:∀a' w',After GL N K g w μ a O a' w'→Q .normal a' w'):
  wpAnyIn (WF r) 0 P .any ops Q ops.size (Array.replicate ops.size false) a w:=by
 have hall:All2 (λy x=>Gx P GL N ops x y=true) is (List.range ops.size):=B9 (λx y h=>h) hk;have hlen:is.length=ops.size:=by have:=hall.1;simp at this;omega
 refine Sx (λi x hx=>?_) hlen hd ops.size (List.range ops.size) _ (by simp) AVa (λi=>?_) (by simp) (λi cl hi=>?_) hg ?_ hq
 ·have hlt:=(AT4.1 hx).1;have hri:(List.range ops.size)[i]?=some i:=AU4 (by omega);exact hall.2 i x i hx hri
 ·rw[AUR]
  constructor
  ·intro h;exact⟨h,by simp[AUL,h]⟩
  ·exact λh=>h.1
 ·exfalso;by_cases hin:i <ops.size<;>simp[AUL,hin]at hi
 ·have:=(AT.any hK t (List.range ops.size) AWR ht h).1 ht2;simpa using this
theorem PZ {ops:Array Oper} {is:List GI} {clos:List (List Nat)} (hk:Aj (Gx P GL N ops) (List.range ops.size) is=true) (hd:Wf ops is clos=true)
  {K:St→Prop} {Q:Exit→Act→World→Prop} {g:Gh} {w:World} {μ:List Nat} {s:St} {a:Act} {O:Nat→Prop}
  (hg:Gs GL N g w μ s a O) (h:LG P GL is clos K is.length (List.range is.length) s) (hq:∀a' w',After GL N K g w μ a O a' w'→Q .normal a' w'):
  wpAnyIn (WF r) 0 P .any ops Q ops.size (Array.replicate ops.size false) a w:=by
 have hall:All2 (λy x=>Gx P GL N ops x y=true) is (List.range ops.size):=B9 (λx y h=>h) hk;have hlen:is.length=ops.size:=by have:=hall.1;simp at this;omega
 refine Sy (λi x hx=>?_) hlen hd ops.size (List.range ops.size) _ (by simp) AVa (λi=>?_) (by simp) (λi cl hi=>?_) hg ?_ hq
 ·have hlt:=(AT4.1 hx).1;have hri:(List.range ops.size)[i]?=some i:=AU4 (by omega);exact hall.2 i x i hx hri
 ·rw[AUR]
  constructor
  ·intro h;exact⟨h,by simp[AUL,h]⟩
  ·exact λh=>h.1
 ·exfalso;by_cases hin:i <ops.size<;>simp[AUL,hin]at hi
 ·rw[hlen]at h;exact h
theorem Gn (g:Gh) (w:World) (n:Nat) (M:Nat→Prop):Chg M g w g {w with drawn:=n}:=⟨Gh.le.refl g,AT6 _,λ_ _ _=>rfl,λ_ _ _ _=>rfl,rfl,rfl⟩
theorem Gs.drawn {g:Gh} {w:World} {μ:List Nat} {s:St} {a:Act} {O:Nat→Prop} (hg:Gs GL N g w μ s a O):Gs GL N g {w with drawn:=w.drawn+1} μ s a O:=
 ⟨hg.inv.chg (Gn g w _ _) hg.inv.agree,hg.glob,hg.sz⟩
theorem K3 {F:Fence} {n:Nat} {c:Code} {Q:Exit→Act→World→Prop} (I:Nat→Act→World→Prop)
  (round:∀m a w,I m a w→c.wpIn F n P (Exit.then (λa' w'=>∃m',m' <m∧I m' a' w') Q) a w):∀m a w,I m a w→(Code.loop c).wpIn F n P Q a w:=by
 intro m a w h₀ b k cs hro hb hr;have key:∀j a w,I j a w→
   ∃e a' w',Q e a' w'∧ArrivesIn (Machine.fenced P F) P (lone (b.atR a (.code c:: .inLoop c::k)) cs w) b k cs e a' w':=by
  intro j;induction j using Nat.strongRecOn with
  |_ j ih=>
   intro a w hI;obtain⟨e,a₁,w₁,hq,harr⟩:=round j a w hI b (.inLoop c::k) cs hro hb hr;cases e with
   |normal=>
    obtain⟨m',hlt,hI₁⟩:=hq;obtain⟨e₂,a₂,w₂,hq₂,harr₂⟩:=ih m' hlt a₁ w₁ hI₁;exact⟨e₂,a₂,w₂,hq₂,.of_steps (StepsIn.trans harr (.one (fenced_calm hb hr rfl) stepR_inLoop)) harr₂⟩
   |exit id=>exact⟨_,a₁,w₁,hq,.pass (x:= .inLoop c) rfl (λ_ _=> .inl (by simp)) harr⟩
   |goto l=>exact⟨_,a₁,w₁,hq,.pass (x:= .inLoop c) rfl (λ_ _=> .inl (by simp)) harr⟩
   |ret=>exact⟨_,a₁,w₁,hq,.pass (x:= .inLoop c) rfl (λ_ _=> .inl (by simp)) harr⟩
   |panic ch=>exact⟨_,a₁,w₁,hq,.pass (x:= .inLoop c) rfl (λ_ _=> .inl (by simp)) harr⟩
   |outgrown=>exact⟨_,a₁,w₁,hq,.pass (x:= .inLoop c) rfl (λ_ _=> .inl (by simp)) harr⟩
 obtain⟨e,a',w',hq,harr⟩:=key m a w h₀;exact⟨e,a',w',hq,.of_steps (.one (fenced_calm hb hr rfl) stepR_loop) harr⟩
end
section
variable {P:Program} {GL:AX} {N:Nat} {r:Option Nat}
theorem KW:∀(e:Env) (n:Nat),AH (cpE e) n=(AH e n).copy
 |[],n=>rfl
 |(k,d)::e,n=>by
  simp only[cpE,AUD,AH];by_cases h:k=n
  ·simp[h]
  ·rw[if_neg h,if_neg h];exact KW e n
theorem N9 {g:Gh} {w w':World} {μ:List Nat} {d:D} {u:Value} (h:RepE g w μ d u) (h0:∀v,AZ d v=none):RepE g w' μ d u:=by
 cases d<;>first
  |exact h
  |(have:=h0 (.slice (some ⟨0,0,none⟩) 0 1);simp[AZ]at this;done)
theorem Wd {g:Gh} {w w':World} {μ:List Nat} {d:D} {u:Value} (h:RepD g w μ d.copy u):RepD g w' μ d.copy u:=by
 cases d<;>simp only[D.copy]at h ⊢ <;>first
  |exact h
  |exact N9 h λv=>rfl
  |trivial
  |(obtain⟨vs,rfl,ha,h1,h2⟩:=h
    exact⟨vs,rfl,⟨ha.1,λi x v hx hv=>N9 (ha.2 i x v hx hv) (h2 x (AT3 hx))⟩,h1,h2⟩)
def WM (b:Nat):Deferred:={target:= .collected b,args:= #[]}
def Marks (O':Nat→Prop) (w w':World) (ds ds':List Deferred):Prop:=
 ∃ms:List Nat,ds'=ms.map WM++ds∧ms.Nodup∧∀b∈ms,O' b∧w.heap.size≤b∧w'.heap[b]?=some (.deferred (some []))
def AfterM (GL:AX) (N:Nat) (Q:St→Prop) (g:Gh) (w:World) (μ:List Nat) (a:Act) (O:Nat→Prop) (a':Act) (w':World):Prop:=
 ∃s' g' μ' O',Q s'∧Gs GL N g' w' μ' s' a' O'∧(∀b,O b→O' b)∧Chg (λb=>¬O b) g w g' w'∧μ <+: μ'∧Marks O' w w' a.defers a'.defers
theorem Marks.nil {O':Nat→Prop} {w w':World} {ds ds':List Deferred} (h:ds'=ds):Marks O' w w' ds ds':=⟨[],by simp[h],List.nodup_nil,by simp⟩
theorem Marks.trans {O1 O2:Nat→Prop} {g1 g2:Gh} {w w1 w2:World} {d0 d1 d2:List Deferred} (h1:Marks O1 w w1 d0 d1) (hs:w.heap.size≤w1.heap.size) (hO:∀b,O1 b→O2 b) (hc:Chg (λb=>¬O1 b) g1 w1 g2 w2)
  (h2:Marks O2 w1 w2 d1 d2):Marks O2 w w2 d0 d2:=by
 obtain⟨m1,rfl,n1,p1⟩:=h1;obtain⟨m2,rfl,n2,p2⟩:=h2;refine⟨m2++m1,by simp,?_,λb hb=>?_⟩
 ·rw[List.nodup_append];refine⟨n2,n1,λa ha b hb hab=>?_⟩;subst hab;have:=BC (p1 a hb).2.2;have:=(p2 a ha).2.1;omega
 ·rcases AUK.1 hb with hb|hb
  ·obtain⟨q1,q2,q3⟩:=p2 b hb;exact⟨q1,by omega,q3⟩
  ·obtain⟨q1,q2,q3⟩:=p1 b hb;exact⟨hO b q1,q2,(hc.heap b (BC q3) (λh=>h q1)).trans q3⟩
theorem AfterM.trans {Q:St→Prop} {g:Gh} {w:World} {μ:List Nat} {a:Act} {O O1:Nat→Prop} {g1:Gh} {w1:World} {μ1:List Nat} {a1:Act} {a2:Act} {w2:World}
  (hO:∀b,O b→O1 b) (hc:Chg (λb=>¬O b) g w g1 w1) (hμ:μ <+: μ1) (hd:Marks O1 w w1 a.defers a1.defers) (h:AfterM GL N Q g1 w1 μ1 a1 O1 a2 w2):AfterM GL N Q g w μ a O a2 w2:=by
 obtain⟨s',g',μ',O2,hq,hg,hO',hc',hμ',hd'⟩:=h;exact⟨s',g',μ',O2,hq,hg,λb hb=>hO' b (hO b hb),hc.trans (hc'.mono λb h hb=>h (hO b hb)),hμ.trans hμ',hd.trans hc.size hO' hc' hd'⟩
def PostM (GL:AX) (N:Nat) (Q:AExit→St→Prop) (g:Gh) (w:World) (μ:List Nat) (a:Act) (O:Nat→Prop) (e':Exit) (a':Act) (w':World):Prop:=
 ∃e,Fy e e'∧AfterM GL N (Q e) g w μ a O a' w'
theorem PostM.trans {Q:AExit→St→Prop} {g:Gh} {w:World} {μ:List Nat} {a:Act} {O O1:Nat→Prop} {g1:Gh} {w1:World} {μ1:List Nat} {a1:Act}
  (hO:∀b,O b→O1 b) (hc:Chg (λb=>¬O b) g w g1 w1) (hμ:μ <+: μ1) (hd:Marks O1 w w1 a.defers a1.defers) {e':Exit} {a2:Act} {w2:World} (h:PostM GL N Q g1 w1 μ1 a1 O1 e' a2 w2):PostM GL N Q g w μ a O e' a2 w2:=by
 obtain⟨e,he,h2⟩:=h;exact⟨e,he,h2.trans hO hc hμ hd⟩
theorem Inv.addO {g:Gh} {w:World} {μ:List Nat} {t:Nat→D} {u:Nat→Value} {h:List Row} {O:Nat→Prop} (hi:Inv g w μ t u h O) {b0:Nat} (hb0:b0 <w.heap.size) (hm:b0∉μ) (hp:∀p,blk t u h w μ p≠some b0):
  Inv g w μ t u h (λb=>O b∨b=b0) where
 agree:=hi.agree
 olt:=λb h=>by rcases h with h|rfl;exact hi.olt b h;exact hb0
 rep:=hi.rep
 len:=hi.len
 rows:=hi.rows
 nod:=hi.nod
 mo:=λb hb ho=>by rcases ho with ho|ho;exact hi.mo b hb ho;exact hm (ho▸hb)
 uniq:=hi.uniq
 sep:=λp b h=>⟨(hi.sep p b h).1,λho=>by rcases ho with ho|ho;exact(hi.sep p b h).2 ho;exact hp p (ho▸h)⟩
theorem Inv.subO {g:Gh} {w:World} {μ:List Nat} {t:Nat→D} {u:Nat→Value} {h:List Row} {O O':Nat→Prop} (hi:Inv g w μ t u h O) (hs:∀b,O' b→O b):Inv g w μ t u h O' where
 agree:=hi.agree
 olt:=λb h=>hi.olt b (hs b h)
 rep:=hi.rep
 len:=hi.len
 rows:=hi.rows
 nod:=hi.nod
 mo:=λb hb ho=>hi.mo b hb (hs b ho)
 uniq:=hi.uniq
 sep:=λp b h=>⟨(hi.sep p b h).1,λho=>(hi.sep p b h).2 (hs b ho)⟩
theorem Dh {w:World} {b:Nat} {o:Obj} (g:Gh):Chg (λx=>x=b) g w g (w.putObj b o):=
 ⟨Gh.le.refl g,by simp,λb' _ hne=>World.putObj_heap_other hne,λ_ _ _ _=>rfl,rfl,rfl⟩
theorem FG {w:World} {b:Nat} {o:Obj} {g:Gh} (hg:∀o,g.m b o=none) (hag:∀b o v,g.m b o=some v→w.cell? ⟨b,o,none⟩=some v):
  ∀b' o' v,g.m b' o'=some v→(w.putObj b o).cell? ⟨b',o',none⟩=some v:=by
 intro b' o' v hv;by_cases hbb:b'=b
 ·subst hbb;rw[hg]at hv;cases hv
 ·rw[World.cell?_of_block (a:=⟨b',o',none⟩) (World.putObj_heap_other hbb)];exact hag b' o' v hv
theorem OD {g0:Operand} {ps0:Array Tmp} {asg0 body0:Code} {q:Opd} {ps:List Nat} {asg body:AC} (hk:Cv P GL N (.rangeFunc g0 ps0 asg0 body0) (.rangeF q ps asg body)=true)
  {Q:AExit→St→Prop} {g:Gh} {w:World} {μ:List Nat} {s:St} {a:Act} {O:Nat→Prop} (hg:Gs GL N g w μ s a O) (h:awp P GL (.rangeF q ps asg body) Q s):
  (Code.rangeFunc g0 ps0 asg0 body0).wpIn (WF none) 0 P (PostM GL N Q g w μ a O) a w:=by
 simp only[Cv,AT1,beq_iff_eq]at hk;obtain⟨⟨⟨⟨⟨⟨k1,k2⟩,k3⟩,k4⟩,k5⟩,k6⟩,k7⟩:=hk;obtain⟨fid,caps,rets,h',tag,hf,⟨hok,hsp⟩,hrow,hend⟩:=h;refine wpIn_rangeFunc λfn _=>?_;obtain⟨cvs,hcv,hcr,hct⟩:=Hy ((hg.gd P).ev k1) hf;have hsz1:(w.alloc (.deferred (some []))).heap.size=w.heap.size+1:=by simp
 have hsz2:∀lp,((w.alloc (.deferred (some []))).alloc (.loop lp)).heap.size=w.heap.size+2:=λlp=>by simp
 have i1:Inv g (w.alloc (.deferred (some []))) μ (AH s.e) (λn=>a.tmps.getD n undef) s.h O:=hg.inv.chg (Bj _ g w _) (Ct hg.inv.agree _);have hμlt:∀b,b∈μ→b <w.heap.size:=λb hb=>hg.inv.mem_lt hb;have i2:Inv g (w.alloc (.deferred (some []))) μ (AH s.e) (λn=>a.tmps.getD n undef) s.h (λb=>O b∨b=w.heap.size):=by
  refine i1.addO (by omega) (λhm=>by have:=hμlt _ hm;omega) λp hp=>?_;have hp':blk (AH s.e) (λn=>a.tmps.getD n undef) s.h w μ p=some w.heap.size:=by
   cases p with
   |tmp n k=>exact hp
   |cell r k=>
    simp only[blk]at hp ⊢;have e2:A0 (w.alloc (.deferred (some []))) μ r k=A0 w μ r k:=by
     simp only[A0];cases hm:μ[r]? with
     |none=>rfl
     |some b'=>
      simp only[AUX];rw[World.cell?_alloc_lt w _ ⟨b',k,none⟩ (hμlt b' (AT3 hm))]
    rw[e2]at hp;exact hp
  have:=hg.inv.blk_lt hp';omega
 let lp:Loop:={state:= .ready,pending:=none,fn,tmps:=a.tmps,params:=ps0,assign:=asg0,body:=body0,defers:=w.heap.size}
 have hpre:μ <+: μ++[(w.alloc (.deferred (some []))).heap.size]:=AUz _ _;have hloop:LoopP P GL .ready (cpE s.e) ps asg body g (μ++[(w.alloc (.deferred (some []))).heap.size]) (.loop lp):=by
  refine⟨lp,N,rfl,by rw[←k2],hg.sz,λn w'=>⟨?_,λk=>?_⟩,k6,k7,k4,k5,λp hp=>by simpa using AUI.1 k3 p hp,rfl,rfl⟩
  ·rw[KW];refine Wd (w:=w) ?_;exact(hg.inv.rep n).copy.chg (M:=λ_=>True) (Chg.refl _ _ _) hpre λk b hb=>by rw[DK]at hb;cases hb
  ·rw[KW];exact DK _ _ _
 have i3:=i2.newAny (An P GL .ready (cpE s.e) ps asg body) (.loop lp) ⟨.loop lp,heap_alloc_new _ _,hloop,λo=>Gh.lt_of i2.agree (AT6 _) o⟩ (λk ds d h=>by cases h);have i4:=i3.call;have hμr:(μ++[(w.alloc (.deferred (some []))).heap.size])[s.h.length]?=some (w.heap.size+1):=by rw[←hg.inv.len,hsz1];simp
 have hcr':All2 (RepG g ((w.alloc (.deferred (some []))).alloc (.loop lp)) (μ++[(w.alloc (.deferred (some []))).heap.size])) caps cvs:=by
  refine⟨hcr.1,λi x v hx hv=>?_⟩;have hch:Chg (λ_=>False) g w g ((w.alloc (.deferred (some []))).alloc (.loop lp)):=(Bj _ g w _).trans (Bj _ g _ _);exact(hcr.2 i x v hx hv).chg hch hpre λb hb=>by rw[hct i x v hx hv]at hb;cases hb
 have hcall:=hsp g _ _ (.func (.yield (w.heap.size+1)) #[] #[]::cvs) _ i4 hg.glob (.cons ⟨w.heap.size+1,hμr,rfl⟩ hcr') (λi d v hd hv=>by
  cases i with
  |zero=>simp at hd hv;subst hd;rfl
  |succ i=>exact hct i d v (by simpa using hd) (by simpa using hv))
 have hinvoke:(invoke (.fn (.func fid) cvs.toArray) #[.func (.yield (w.heap.size+1)) #[] #[]]).run P ((w.alloc (.deferred (some []))).alloc (.loop lp))=
   .ok (.enter fid (Value.func (.yield (w.heap.size+1)) #[] #[]::cvs).toArray) ((w.alloc (.deferred (some []))).alloc (.loop lp)):=by
  unfold okF at hok;split at hok
  ·rename_i fn hfn;simp only[AT1,AUw]at hok;have h1:¬fn.body=none:=by cases hb:fn.body<;>simp_all
   have h3:¬fn.name= "runtime.NumGoroutine" :=by simpa using hok.2
   have h2:(#[Value.func (.yield (w.heap.size+1)) #[] #[]]++cvs.toArray)=(Value.func (.yield (w.heap.size+1)) #[] #[]::cvs).toArray:=by
    rw[←AUu];simp
   simp[invoke,callFunc,hfn,h3,h1,h2]
  ·cases hok
 have hres:(resolve a.eval (rangeCall g0 (w.heap.size+1)) 0).run P ((w.alloc (.deferred (some []))).alloc (.loop lp))=
   .ok {target:= .fn (.func fid) cvs.toArray,args:= #[.func (.yield (w.heap.size+1)) #[] #[]]} ((w.alloc (.deferred (some []))).alloc (.loop lp)):=by
  have hcv':a.eval g0= .func (.func fid) #[] cvs.toArray:=hcv;have he:∀v,a.eval (.const v)=v:=λ_=>rfl;simp[resolve,rangeCall,hcv',Deferred.ofValue,he]
 refine⟨w.heap.size+1,[WM w.heap.size],(w.alloc (.deferred (some []))).alloc (.loop lp),_,_,fid,_,_,run_enterLoop_outer ..,hres,λ_ _=>trivial,hinvoke,(λh=>by simp[WF,Fence.wide]at h),EX ?_⟩;refine hcall.mono ?_;rintro e w3 ⟨v,g',μ',rfl,hinvR,hch,hμ⟩;have hinv:=hinvR.leave;have hb3:μ'[s.h.length]?=some (w.heap.size+1):=EA hμ hμr;obtain⟨o,ho,⟨lp',N',rfl,l1,l2,l3,l4,l5,l6,l7,l8,htag⟩,hgn⟩:=hinv.rows s.h.length _ _ hrow hb3;have hbusy:tag≠ .busy:=by rintro rfl;exact hend
 have hstate:lp'.state≠ .busy:=by
  cases tag with
  |ready=>intro h;rw[htag.1]at h;cases h
  |busy=>exact absurd rfl hbusy
  |done e=>cases e<;>exact htag.1
 have i5:=i3.ret hinv hch hμ;have i6:=i5.setAny hrow hb3 .dead (Dh g') (FG (o:= .loop {lp' with state:= .exhausted}) hgn i5.agree) (show _ <_ by rw[World.putObj_size];exact BC ho) (λk ds d h=>by cases h);have hgs:Gs GL N g' (w3.putObj (w.heap.size+1) (.loop {lp' with state:= .exhausted})) μ' ⟨s.e,h'.set s.h.length .dead⟩ {a with defers:=[WM w.heap.size]++a.defers} (λb=>O b∨b=w.heap.size):=
  ⟨i6,hg.glob.mono hch.le,hg.sz⟩
 have hOlt:∀b,O b→b <w.heap.size:=hg.inv.olt;have hc1:Chg (λb=>¬O b) g w g ((w.alloc (.deferred (some []))).alloc (.loop lp)):=(Bj _ g w _).trans (Bj _ g _ _);have hc2:Chg (λb=>¬O b) g ((w.alloc (.deferred (some []))).alloc (.loop lp)) g' w3:=hch.mono λb h hb=>h (.inl (.inl hb));have hc3:Chg (λb=>¬O b) g' w3 g' (w3.putObj (w.heap.size+1) (.loop {lp' with state:= .exhausted})):=(Dh g').mono λb h hb=>by subst h;have:=hOlt _ hb;omega
 have hmarks:Marks (λb=>O b∨b=w.heap.size) w (w3.putObj (w.heap.size+1) (.loop {lp' with state:= .exhausted})) a.defers ([WM w.heap.size]++a.defers):=by
  refine⟨[w.heap.size],rfl,by simp,λb hb=>?_⟩;simp only[AUC]at hb;subst hb;refine⟨.inr rfl,AT6 _,?_⟩;rw[World.putObj_heap_other (by omega),hch.heap w.heap.size (by rw[hsz2];omega) (λh=>h (.inl (.inr rfl)))];have e1:((w.alloc (.deferred (some []))).alloc (.loop lp)).heap[w.heap.size]?=(w.alloc (.deferred (some []))).heap[w.heap.size]?:=
   (Bj (λ_=>False) g (w.alloc (.deferred (some []))) (.loop lp)).heap w.heap.size (by omega) (λh=>h)
  rw[e1];exact heap_alloc_new _ _
 have fin:∀e,Q e ⟨s.e,h'.set s.h.length .dead⟩→AfterM GL N (Q e) g w μ a O {a with defers:=[WM w.heap.size]++a.defers} (w3.putObj (w.heap.size+1) (.loop {lp' with state:= .exhausted})):=λe he=>
  ⟨_,g',μ',_,he,hgs,λb h=> .inl h,hc1.trans (hc2.trans hc3),hpre.trans hμ,hmarks⟩
 refine⟨lp'.pending,_,run_endLoop ho hstate,?_⟩;generalize w3.putObj (w.heap.size+1) (.loop {lp' with state:= .exhausted})=w4 at fin ⊢;cases tag with
 |ready=>rw[htag.2];exact⟨.normal,trivial,fin _ hend⟩
 |busy=>exact absurd rfl hbusy
 |done e=>
  cases e with
  |none=>rw[htag.2];exact wpIn_ret ⟨.ret,trivial,fin _ hend⟩
  |some i=>rw[htag.2];exact wpIn_exit ⟨.exit i,rfl,fin _ hend⟩
end
section
variable {P:Program} {GL:AX} {N:Nat} {r:Option Nat}
theorem Cf:∀(ac:AC) {c:Code},Cv P GL N c ac=true→(r=none∨ac.flat=true)→∀ {Q:AExit→St→Prop} {g:Gh} {w:World} {μ:List Nat} {s:St} {a:Act} {O:Nat→Prop},
  Gs GL N g w μ s a O→awp P GL ac Q s→c.wpIn (WF r) 0 P (PostM GL N Q g w μ a O) a w
 | .skip,c,hk,hr,Q,g,w,μ,s,a,O,hg,h=>by
  cases c<;>simp[Cv]at hk
  exact wpIn_skip ⟨.normal,trivial,s,g,μ,O,h,hg,λ_ h=>h,Chg.refl _ _ _,AT8 _,.nil rfl⟩
 | .reg is keep,c,hk,hr,Q,g,w,μ,s,a,O,hg,h=>by
  cases c<;>(try simp only[Cv,AUF]at hk)
  rename_i id ops dr;cases dr with
  |true=>simp[Cv]at hk
  |false=>
  simp only[Cv]at hk;refine wpIn_region (IR _ _ hk hg h λa' w' h2=>?_);obtain⟨s',g',μ',hq,hgs,hch,hμ,hd⟩:=h2;exact⟨.normal,trivial,_,g',μ',O,hq,hgs.norm keep,λ_ h=>h,hch,hμ,.nil hd⟩
 | .regD is keep clos,c,hk,hr,Q,g,w,μ,s,a,O,hg,h=>by
  cases c<;>(try simp only[Cv,AUF]at hk)
  rename_i id ops dr;cases dr with
  |false=>simp[Cv]at hk
  |true=>
  simp only[Cv,AT1]at hk;refine wpIn_region_any hk.2 (Pa hk.1.1 hk.1.2 (K:=λs'=>Q .normal ⟨BR s'.e keep,s'.h⟩) ?_ hg.drawn h λa' w' h2=>?_)
  ·intro s1 s2 he h;rw[←F9 he.1,←he.2];exact h
  ·obtain⟨s',g',μ',hq,hgs,hch,hμ,hd⟩:=h2;exact⟨.normal,trivial,_,g',μ',O,hq,hgs.norm keep,λ_ h=>h,(Gn g w _ _).trans hch,hμ,.nil hd⟩
 | .regA is keep clos t,c,hk,hr,Q,g,w,μ,s,a,O,hg,h=>by
  cases c<;>(try simp only[Cv,AUF]at hk)
  rename_i id ops dr;cases dr with
  |false=>simp[Cv]at hk
  |true=>
  simp only[Cv,AT1]at hk;refine wpIn_region_any hk.2 (Pb hk.1.1.1.1 hk.1.1.1.2 hk.1.1.2 hk.1.2 (K:=λs'=>∃s2,PR s.h.length s' s2∧Q .normal ⟨BR s2.e keep,s2.h⟩) ?_ hg.drawn h λa' w' h2=>?_)
  ·rintro s1 s2 he ⟨s3,hr,hq⟩;rcases hr with rfl|⟨π,hp,ho,hf,hh⟩
   ·exact⟨s2,.inl rfl,by rw[←F9 he.1,←he.2];exact hq⟩
   ·exact⟨s3,.inr ⟨π,by rw[←he.2];exact hp,by rw[←he.2];exact ho,λn=>by rw[←he.1];exact hf n,by rw[←he.2];exact hh⟩,hq⟩
  ·obtain⟨s',g',μ',⟨s2,hr,hq⟩,hgs,hch,hμ,hd⟩:=h2;obtain⟨μ2,hgs2,hpre⟩:=hgs.ren hr;exact⟨.normal,trivial,_,g',μ2,O,hq,hgs2.norm keep,λ_ h=>h,(Gn g w _ _).trans hch,hpre μ (by rw[hg.inv.len];exact AT6 _) hμ,.nil hd⟩
 | .regV is keep clos,c,hk,hr,Q,g,w,μ,s,a,O,hg,h=>by
  cases c<;>(try simp only[Cv,AUF]at hk)
  rename_i id ops dr;cases dr with
  |false=>simp[Cv]at hk
  |true=>
  simp only[Cv,AT1]at hk;refine wpIn_region_any hk.2 (PZ hk.1.1 hk.1.2 (K:=λs'=>Q .normal ⟨BR s'.e keep,s'.h⟩) hg.drawn h λa' w' h2=>?_);obtain⟨s',g',μ',hq,hgs,hch,hμ,hd⟩:=h2;exact⟨.normal,trivial,_,g',μ',O,hq,hgs.norm keep,λ_ h=>h,(Gn g w _ _).trans hch,hμ,.nil hd⟩
 | .seq x y,c,hk,hr,Q,g,w,μ,s,a,O,hg,h=>by
  cases c<;>simp only[Cv,AUF,AT1]at hk
  have hr1:r=none∨x.flat=true:=hr.imp_right λh=>by simp only[AC.flat,AT1]at h;exact h.1
  have hr2:r=none∨y.flat=true:=hr.imp_right λh=>by simp only[AC.flat,AT1]at h;exact h.2
  refine wpIn_seq (wpIn_mono (Cf x hk.1 hr1 hg h) ?_);rintro e a' w' ⟨e1,he,s',g',μ',O',hq,hgs,hO,hch,hμ,hd⟩;cases e1 with
  |normal=>
   cases e<;>simp only[Fy]at he
   exact wpIn_mono (Cf y hk.2 hr2 hgs hq) λe2 a2 w2 h2=>h2.trans hO hch hμ hd
  |exit i=>
   cases e<;>simp only[Fy]at he
   subst he;exact⟨.exit i,rfl,s',g',μ',O',hq,hgs,hO,hch,hμ,hd⟩
  |ret=>
   cases e<;>simp only[Fy]at he
   exact⟨.ret,trivial,s',g',μ',O',hq,hgs,hO,hch,hμ,hd⟩
 | .cond x y z,c,hk,hr,Q,g,w,μ,s,a,O,hg,h=>by
  cases c<;>simp only[Cv,AUF,AT1]at hk
  simp only[awp]at h;have hr1:r=none∨y.flat=true:=hr.imp_right λh=>by simp only[AC.flat,AT1]at h;exact h.1
  have hr2:r=none∨z.flat=true:=hr.imp_right λh=>by simp only[AC.flat,AT1]at h;exact h.2
  have hrx:=(hg.gd P).ev hk.1.1;split at h
  ·rename_i t ht;rw[ht]at hrx;refine wpIn_cond (Ez hrx) ?_;cases t with
   |true=>exact Cf y hk.1.2 hr1 hg h
   |false=>exact Cf z hk.2 hr2 hg h
  ·exact h.elim
 | .block id x,c,hk,hr,Q,g,w,μ,s,a,O,hg,h=>by
  cases c<;>simp only[Cv,AUF,AT1,beq_iff_eq]at hk
  obtain⟨rfl,hk⟩:=hk;refine wpIn_block (wpIn_mono (Cf x hk hr hg h) ?_);rintro e a' w' ⟨e1,he,s',g',μ',O',hq,hgs,hO,hch,hμ,hd⟩;cases e1 with
  |normal=>
   cases e<;>simp only[Fy]at he
   exact⟨.normal,trivial,s',g',μ',O',hq,hgs,hO,hch,hμ,hd⟩
  |exit i=>
   cases e<;>simp only[Fy]at he
   subst he;simp only[Exit.inBlock];split
   ·rename_i hi;simp only[hi,if_true]at hq;exact⟨.normal,trivial,s',g',μ',O',hq,hgs,hO,hch,hμ,hd⟩
   ·rename_i hi;simp only[hi,if_false]at hq;exact⟨.exit i,rfl,s',g',μ',O',hq,hgs,hO,hch,hμ,hd⟩
  |ret=>
   cases e<;>simp only[Fy]at he
   exact⟨.ret,trivial,s',g',μ',O',hq,hgs,hO,hch,hμ,hd⟩
 | .loop x,c,hk,hr,Q,g,w,μ,s,a,O,hg,h=>by
  cases c<;>simp only[Cv,AUF]at hk
  obtain⟨I,⟨m,hm⟩,hround⟩:=h;refine K3 (λm a' w'=>∃s' g' μ' O',I m s'∧Gs GL N g' w' μ' s' a' O'∧(∀b,O b→O' b)∧Chg (λb=>¬O b) g w g' w'∧μ <+: μ'∧Marks O' w w' a.defers a'.defers) ?_ m a w ⟨s,g,μ,O,hm,hg,λ_ h=>h,Chg.refl _ _ _,AT8 _,.nil rfl⟩;rintro m a1 w1 ⟨s1,g1,μ1,O1,hI,hgs1,hO1,hch1,hμ1,hd1⟩;refine wpIn_mono (Cf x hk hr hgs1 (hround m s1 hI)) ?_;rintro e a' w' ⟨e1,he,s',g',μ',O',hq,hgs,hO,hch,hμ,hd⟩;cases e1 with
  |normal=>
   cases e<;>simp only[Fy]at he
   obtain⟨m',hlt,hI'⟩:=hq;exact⟨m',hlt,s',g',μ',O',hI',hgs,λb hb=>hO b (hO1 b hb),hch1.trans (hch.mono λb h hb=>h (hO1 b hb)),hμ1.trans hμ,hd1.trans hch1.size hO hch hd⟩
  |exit i=>
   cases e<;>simp only[Fy]at he
   subst he;exact⟨.exit i,rfl,s',g',μ',O',hq,hgs,λb hb=>hO b (hO1 b hb),hch1.trans (hch.mono λb h hb=>h (hO1 b hb)),hμ1.trans hμ,hd1.trans hch1.size hO hch hd⟩
  |ret=>
   cases e<;>simp only[Fy]at he
   exact⟨.ret,trivial,s',g',μ',O',hq,hgs,λb hb=>hO b (hO1 b hb),hch1.trans (hch.mono λb h hb=>h (hO1 b hb)),hμ1.trans hμ,hd1.trans hch1.size hO hch hd⟩
 | .exit id,c,hk,hr,Q,g,w,μ,s,a,O,hg,h=>by
  cases c<;>simp[Cv]at hk
  subst hk;exact wpIn_exit ⟨.exit _,rfl,s,g,μ,O,h,hg,λ_ h=>h,Chg.refl _ _ _,AT8 _,.nil rfl⟩
 | .ret,c,hk,hr,Q,g,w,μ,s,a,O,hg,h=>by
  cases c<;>simp[Cv]at hk
  exact wpIn_ret ⟨.ret,trivial,s,g,μ,O,h,hg,λ_ h=>h,Chg.refl _ _ _,AT8 _,.nil rfl⟩
 | .never,c,hk,hr,Q,g,w,μ,s,a,O,hg,h=>h.elim
 | .rangeF q ps asg body,c,hk,hr,Q,g,w,μ,s,a,O,hg,h=>by
  have hrn:r=none:=by
   rcases hr with h|h
   ·exact h
   ·simp[AC.flat]at h
  subst hrn;cases c<;>(try (simp only[Cv,AUF]at hk;done))
  exact OD hk hg h
def Fo (e:Env) (ps:List Nat) (args:List D):Env:=(ps.zip args).foldl (λe p=>p::e) e
def CN (P:Program) (GL:AX) (e0:Env) (ps:List Nat) (asg body:AC) (rr:Nat):AExit→List Row→Bool→List Row→Prop
 | .normal,h,b,h'=>b=true∧h'=h.set rr (An P GL .ready e0 ps asg body)
 | .ret,h,b,h'=>b=false∧h'=h.set rr (An P GL (.done none) e0 ps asg body)
 | .exit i,h,b,h'=>b=false∧h'=h.set rr (An P GL (.done (some i)) e0 ps asg body)
abbrev AEB (g:Gh) (w:World) (μ:List Nat) (e:Env) (ts:Array Value):Prop:=∀n,RepD g w μ (AH e n) (ts.getD n undef)∧∀k,Ab (AH e n) (ts.getD n undef) k=none
theorem J8 {g:Gh} {w:World} {μ:List Nat} {N:Nat}:∀ {ps:List Nat} {args:List D} {us:List Value} {e:Env} {ts:Array Value},args.length=ps.length→(∀p∈ps,p <N)→All2 (RepG g w μ) args us→Tame args us→ts.size=N→
  AEB g w μ e ts→AEB g w μ (Fo e ps args) ((ps.zip us).foldl (λt p=>t.setIfInBounds p.1 p.2) ts)∧((ps.zip us).foldl (λt p=>t.setIfInBounds p.1 p.2) ts).size=N
 |[],args,us,e,ts,_,_,_,_,hs,hg=>by simpa[Fo]using ⟨hg,hs⟩
 |p::ps,[],us,e,ts,hl,_,_,_,_,_=>by simp at hl
 |p::ps,a::args,[],e,ts,_,_,ha,_,_,_=>by have:=ha.1;simp at this
 |p::ps,a::args,u::us,e,ts,hl,hp,ha,ht,hs,hg=>by
  rw[All2.cons_iff]at ha;have:=J8 (ps:=ps) (args:=args) (us:=us) (e:=(p,a)::e) (ts:=ts.setIfInBounds p u) (by simpa using hl) (λq hq=>hp q (by simp[hq])) ha.2
   (λi d v hd hv=>ht (i+1) d v (by simpa using hd) (by simpa using hv)) (by simpa using hs) (λn=>by
    simp only[AH];by_cases h:p=n
    ·subst h;have hlt:p <ts.size:=hs▸hp p (by simp);have e1:(ts.setIfInBounds p u).getD p undef=u:=by simp[AUL,hlt]
     rw[if_pos rfl,e1];exact⟨ha.1.toD,E2 ha.1 (ht 0 a u rfl rfl)⟩
    ·have e1:(ts.setIfInBounds p u).getD n undef=ts.getD n undef:=by simp[AUL,AUf,h]
     rw[if_neg h,e1];exact hg n)
  exact this
theorem Cn {rr:Nat} {e0:Env} {ps:List Nat} {asg body:AC} {args:List D} {h h':List Row} {b:Bool} (hrow:h[rr]?=some (An P GL .ready e0 ps asg body)) (hl:args.length=ps.length)
  (hw:awp P GL asg (λe s=>e= .normal∧s.h[rr]?=some (An P GL .ready e0 ps asg body)∧
   awp P GL body (λe s'=>s'.h[rr]?=some (An P GL .busy e0 ps asg body)∧CN P GL e0 ps asg body rr e s'.h b h') ⟨s.e,s.h.set rr (An P GL .busy e0 ps asg body)⟩) ⟨Fo e0 ps args,h⟩):
  YSp P GL rr args h b h':=by
 intro g w μ us O hinv hgl hall htame bl hbl;obtain⟨o,ho,⟨lp,N,rfl,l1,l2,l3,l4,l5,l6,l7,l8,htag⟩,hgn⟩:=hinv.rows rr _ bl hrow hbl;have hlen:us.length=args.length:=hall.1;have hsz:us.toArray.size=lp.params.size:=by rw[l1];simp[hlen,hl]
 refine⟨_,_,_,_,run_yield ho hsz,?_⟩;obtain⟨hgood,hsz2⟩:=J8 hl l8 hall htame l2 λn=>l3 n w;have e1:(lp.params.zip us.toArray).foldl (λtmps x=>match x with|(t,a)=>tmps.setIfInBounds t a) lp.tmps=(ps.zip us).foldl (λt p=>t.setIfInBounds p.1 p.2) lp.tmps:=by
  rw[l1,←Array.foldl_toList];simp
 refine roundIn_of_wpIn trivial ?_;rw[e1];generalize (ps.zip us).foldl (λt p=>t.setIfInBounds p.1 p.2) lp.tmps=ts at hgood hsz2;have hgs:Gs GL N g w μ ⟨Fo e0 ps args,h⟩ {tmps:=ts,defers:=[]} O:=⟨hinv.enter (λn=>(hgood n).1) (λn=>(hgood n).2),hgl,hsz2⟩;refine wpIn_mono (Cf (r:=some bl) asg l4 (.inr l6) hgs hw) ?_;rintro e a1 w1 ⟨ee,he,s1,g1,μ1,O1,⟨rfl,hrow1,hw1⟩,hgs1,hO1,hch1,hμ1,_⟩;cases e<;>simp only[Fy]at he
 have hbl1:μ1[rr]?=some bl:=EA hμ1 hbl;obtain⟨o1,ho1,⟨lp1,N1,rfl,j1,j2,j3,j4,j5,j6,j7,j8,htag1⟩,hgn1⟩:=hgs1.inv.rows rr _ bl hrow1 hbl1;refine⟨_,run_beginRound ho1 htag1.1,?_⟩;have i2:=hgs1.inv.setAny hrow1 hbl1 (An P GL .busy e0 ps asg body) (Dh g1) (FG (o:= .loop {lp1 with state:= .busy}) hgn1 hgs1.inv.agree)
  ⟨_,World.putObj_heap_same (BC ho1),⟨_,N1,rfl,j1,j2,j3,j4,j5,j6,j7,j8,rfl⟩,hgn1⟩ (λk ds d h=>by cases h)
 have hgs2:Gs GL N g1 (w1.putObj bl (.loop {lp1 with state:= .busy})) μ1 ⟨s1.e,s1.h.set rr (An P GL .busy e0 ps asg body)⟩ a1 O1:=⟨i2,hgs1.glob,hgs1.sz⟩;refine wpIn_mono (Cf (r:=some bl) body l5 (.inr l7) hgs2 hw1) ?_;rintro e a3 w3 ⟨ee,he,s3,g3,μ3,O3,⟨hrow3,hend⟩,hgs3,hO3,hch3,hμ3,_⟩;have hbl3:μ3[rr]?=some bl:=EA hμ3 hbl1;obtain⟨o3,ho3,⟨lp3,N3,rfl,m1,m2,m3,m4,m5,m6,m7,m8,htag3⟩,hgn3⟩:=hgs3.inv.rows rr _ bl hrow3 hbl3;have hnO:¬O bl:=hinv.mo bl (AT3 hbl);have fin:∀(jump:Option Code) (tag:Tag),AEA tag {lp3 with state:=if jump.isNone then .ready else .done,pending:=jump}→b=jump.isNone→h'=s3.h.set rr (An P GL tag e0 ps asg body)→
   ∃v w',(Instr.endRound bl jump).run P w3= .ok v w'∧∃g' μ',Ending.returned v= .returned (.bool b)∧Inv g' w' μ' I8 LF h' O∧Chg (λb=>¬O b) g w g' w'∧μ <+: μ':=by
  intro jump tag htg hb hh;have i4:=hgs3.inv.setAny hrow3 hbl3 (An P GL tag e0 ps asg body) (Dh g3) (FG (o:= .loop {lp3 with state:=if jump.isNone then .ready else .done,pending:=jump}) hgn3 hgs3.inv.agree)
   ⟨_,World.putObj_heap_same (BC ho3),⟨_,N3,rfl,m1,m2,m3,m4,m5,m6,m7,m8,htg⟩,hgn3⟩ (λk ds d h=>by cases h)
  refine⟨_,_,run_endRound jump ho3,g3,μ3,by rw[hb],?_,?_,hμ1.trans (hμ3)⟩
  ·rw[hh];exact(i4.leave).subO λb hb=>hO3 b (hO1 b hb)
  ·have hm:∀x,x=bl→¬O x:=λx h hb=>hnO (h▸hb);exact hch1.trans (Chg.trans ((Dh g1).mono hm) (Chg.trans (hch3.mono λb h hb=>h (hO1 b hb)) ((Dh g3).mono hm)))
 cases ee with
 |normal=>
  cases e<;>simp only[Fy]at he
  exact fin none .ready ⟨rfl,rfl⟩ hend.1 hend.2
 |exit i=>
  cases e<;>simp only[Fy]at he
  subst he;exact fin (some (.exit i)) (.done (some i)) ⟨by simp,rfl⟩ hend.1 hend.2
 |ret=>
  cases e<;>simp only[Fy]at he
  exact fin (some .ret) (.done none) ⟨by simp,rfl⟩ hend.1 hend.2
end
inductive AR where
 |t (n:Nat)
 |c (n sz:Nat) (ag:Bool)
def AR.val (s:St):AR→Option V
 | .t n=>(AH s.e n).toV
 | .c n sz ag=>((PI.load (.t n false) sz ag).val s.e s.h).bind D.toV
def CB (s:St):List AR→Option (List V)
 |[]=>some []
 |r::rs=>match r.val s,CB s rs with
  |some x,some xs=>some (x::xs)
  |_,_=>none
def AY (args:List V):Env:=args.zipIdx.map λp=>(p.2,.v p.1)
def D.one?:D→Option D
 | .tup _=>none
 |d=>some d
def D.keep:D→D
 | .own e s xs=> .own e s xs
 |d=>d.arg
def AR.d (s:St):AR→Option D
 | .t n=>some (AH s.e n).keep
 | .c n sz ag=>((PI.load (.t n false) sz ag).val s.e s.h).bind λd=>d.arg.one?
def De (s:St):List AR→Option (List D)
 |[]=>some []
 |r::rs=>match r.d s,De s rs with
  |some x,some xs=>some (x::xs)
  |_,_=>none
def AS (args:List D):Env:=args.zipIdx.map λp=>(p.2,p.1)
def It (P:Program):ResultVar→AR→Bool
 | .tmp t,.t n=>t==n
 | .cell a T,.c n sz ag=>a==n&&BK P T sz&&GV P T ag&&(ag||sz==1)
 |_,_=>false
def D5:List AR→List Nat
 |[]=>[]
 | .t n::rs=>n::D5 rs
 | .c _ _ _::rs=>D5 rs
def DO (P:Program) (GL:AX) (f n:Nat) (ac:AC) (rs:List AR):Bool:=
 match P.funcs[f]? with
 |some fn=> !(fn.name== "runtime.NumGoroutine")&&(match fn.body with|some c=>Cv P GL fn.ntmps c ac|none=>false)&&Aj (It P) fn.results.toList rs&&decide (n≤fn.ntmps)&&decide (D5 rs).Nodup
 |none=>false
def Kx (tmps:Array Value):ResultVar→Sem Value
 | .tmp t=>pure (tmps.getD t undef)
 | .cell a t=>do loadVar t (←asAddr (tmps.getD a undef))
theorem KB (fn:Func) (tmps:Array Value):results fn tmps=(do
  let vs ←fn.results.mapM (Kx tmps)
  pure (if h:vs.size=1 then vs[0] else .tuple vs)):=by
 unfold results
 congr 1
section
variable {P:Program} {GL:AX}
theorem Fq:∀(args:List V) (k n:Nat),AH ((args.zipIdx k).map λp=>(p.2,D.v p.1)) n=if k≤n then ((args[n-k]?).map D.v).getD .any else .any
 |[],k,n=>by simp[AH]
 |x::xs,k,n=>by
  simp only[AWH,AUD,AH];by_cases h:k=n
  ·subst h;simp
  ·rw[if_neg h,Fq xs (k+1) n];by_cases h2:k+1≤n
   ·rw[if_pos h2,if_pos (by omega),show n-k=(n-(k+1))+1 by omega,AVH]
   ·rw[if_neg h2,if_neg (by omega)]
theorem HL (args:List V) (n:Nat):AH (AY args) n=((args[n]?).map D.v).getD .any:=by
 have:=Fq args 0 n;simpa[AY]using this
theorem AI3 {g:Gh} {w:World} {μ:List Nat} {s:St} {a:Act} {O:Nat→Prop} {N:Nat} (hg:Gs GL N g w μ s a O) {rv:ResultVar} {r:AR} (hk:It P rv r=true) {x:V} (hx:r.val s=some x):
  ∃v,(Kx a.tmps rv).run P w= .ok v w∧RepV g x v:=by
 cases rv with
 |tmp t=>
  cases r with
  |t n=>
   have:t=n:=by simpa[It]using hk
   subst this;exact⟨_,rfl,CF (hg.inv.rep t) hx⟩
  |c n sz ag=>simp[It]at hk
 |cell b t=>
  cases r with
  |t n=>simp[It]at hk
  |c n sz ag=>
   simp only[It,AT1,beq_iff_eq]at hk;obtain⟨⟨⟨rfl,hs⟩,hag⟩,h1⟩:=hk;simp only[AR.val,AWk]at hx;obtain⟨d,hd,hdx⟩:=hx;have:=MH (P:=P) (GL:=GL) (a:= .tmp b) (a':= .t b false) (t:=t) (by simp[oe]) hs hag h1 (hg.gd P) hd
    {(default:Oper)with op:= .load t (.tmp b)} rfl
   obtain⟨v,hrun,hrep,_⟩:=this;refine⟨v,?_,CF hrep hdx⟩;have hev:a.eval (.tmp b)=a.tmps.getD b undef:=rfl;simp only[execOp,Instr.loadAt,hev,Sem.run_bind,Sem.run_map]at hrun;simp only[Kx,Sem.run_bind];cases hp:a.tmps.getD b undef with
   |pointer p=>
    cases p with
    |none=>simp[hp,Instr.sureAddr]at hrun
    |some p=>
     simp only[hp,Instr.sureAddr,Sem.run_pure,Result.andThen_ok,asAddr]at hrun ⊢;cases hl:(loadVar t p).run P w with
     |ok v' w'=>simp[hl]at hrun;obtain⟨rfl,rfl⟩:=hrun;rfl
     |halt h w'=>simp[hl]at hrun
   |_=>simp[hp,Instr.sureAddr]at hrun
theorem JE {g:Gh} {w:World} {μ:List Nat} {s:St} {a:Act} {O:Nat→Prop} {N:Nat} (hg:Gs GL N g w μ s a O):∀ {rvs:List ResultVar} {rs:List AR} {xs:List V},Aj (It P) rvs rs=true→CB s rs=some xs→
  ∃vs:List Value,(rvs.mapM (Kx a.tmps)).run P w= .ok vs w∧All2 (RepV g) xs vs
 |[],[],xs,_,h=>by
  simp only[CB,AT0]at h;subst h;exact⟨[],rfl,.nil⟩
 |rv::rvs,r::rs,xs,hk,h=>by
  simp only[Aj,AT1]at hk;simp only[CB]at h;split at h
  ·rename_i y ys hy hys;simp only[AT0]at h;subst h;obtain⟨v,h1,h2⟩:=AI3 hg hk.1 hy;obtain⟨vs,h3,h4⟩:=JE hg hk.2 hys;refine⟨v::vs,?_,.cons h2 h4⟩;rw[List.mapM_cons,Sem.run_bind,h1,Result.andThen_ok,Sem.run_bind,h3];rfl
  ·cases h
 |[],_::_,_,hk,_=>by simp[Aj]at hk
 |_::_,[],_,hk,_=>by simp[Aj]at hk
theorem uh {g:Gh} {w:World} {xs:List V} {vs:List Value} (h:All2 (RepV g) xs vs):RepD g w [] (Hh xs) (if h:vs.toArray.size=1 then vs.toArray[0] else .tuple vs.toArray):=by
 unfold Hh;split
 ·rename_i x;have hl:=h.1
  match vs,hl with
  |[v],_=>
   simp only[AVT,AUO,AVA,dite_true];exact(All2.cons_iff.1 h).1
 ·rename_i hne;have hl:¬vs.toArray.size=1:=by
   intro h1;have:xs.length=1:=by rw[←h.1];simpa using h1
   match xs,this with
   |[x],_=>exact hne x rfl
  rw[dif_neg hl];exact⟨vs,rfl,by simp[h.1],λi x v hx hv=>by
   simp only[AUG,AUA]at hx;obtain⟨y,hy,rfl⟩:=hx;exact h.2 i y v hy hv⟩
theorem Inv.chgO {g:Gh} {w:World} {μ:List Nat} {t:Nat→D} {u:Nat→Value} {h:List Row} {O:Nat→Prop} (hi:Inv g w μ t u h O) {M:Nat→Prop} {g':Gh} {w':World} (hc:Chg M g w g' w') (hM:∀b,M b→O b)
  (hag:∀b o v,g'.m b o=some v→w'.cell? ⟨b,o,none⟩=some v):Inv g' w' μ t u h O:=by
 have hcellU:∀r k,A0 w' μ r k=A0 w μ r k:=by
  intro r k;simp only[A0];cases hm:μ[r]? with
  |none=>rfl
  |some b=>
   have hbm:=AT3 hm;simp only[AUX];rw[World.cell?_of_block (a:=⟨b,k,none⟩) (hc.heap b (hi.mem_lt hbm) (λh=>hi.mo b hbm (hM b h)))]
 refine hi.upd hc hag (λn=>DY hi hc (AT8 μ) n λk b' hb' h=>(hi.sep _ b' hb').2 (hM b' h)) hi.len
  (λr row b hr hb=>hi.rowChg hc (AT8 μ) hr hb (λh=>hi.mo b (AT3 hb) (hM b h)) (λp b' hp h=>absurd (hM b' h) (hi.sep p b' hp).2)) hi.nod (λb hb=> .inl hb)
  (λp=>some p) (λp q r hp hq=>by simp at hp hq;rw[hp,hq]) (.tmp 0 0) ?_
 intro p b hp;cases p with
 |tmp m j=>exact .inl ⟨.tmp m j,rfl,hp⟩
 |cell r k=>simp only[blk,hcellU]at hp;exact .inl ⟨.cell r k,rfl,hp⟩
theorem Hs {F:Fence} {n:Nat} {fn:Func} {tmps:Array Value} {R:Ending→World→Prop}:∀(ms:List Nat) {w:World},ms.Nodup→(∀b∈ms,w.heap[b]?=some (.deferred (some [])))→
  (∀w':World,w'.heap.size=w.heap.size→w'.os=w.os→w'.output=w.output→(∀b,b∉ms→w'.heap[b]?=w.heap[b]?)→∃v,(results fn tmps).run P w'= .ok v w'∧R (.returned v) w')→LeavesInM F n P fn tmps R (ms.map WM) .returning w
 |[],w,_,_,h=>h w rfl rfl rfl λ_ _=>rfl
 |b::ms,w,hn,hd,h=>by
  rw[AVb]at hn;refine⟨by simp,.inl ⟨b,_,rfl,run_takeDeferred (hd b (by simp)),?_⟩⟩;refine Hs ms hn.2 (λb' hb'=>?_) λw' hs ho hu hw=>h w' (hs.trans World.putObj_size) ho hu λb' hb'=>?_
  ·rw[World.putObj_heap_other (λ(h:b'=b)=>hn.1 (h▸hb'))];exact hd b' (by simp[hb'])
  ·simp only[AT7,not_or]at hb';rw[hw b' hb'.2,World.putObj_heap_other hb'.1]
theorem PK {F:Fence} {n:Nat} {fn:Func} {N:Nat} {g:Gh} {w:World} {μ:List Nat} {a:Act} {O:Nat→Prop} {Q:St→Prop} {R:Ending→World→Prop} {a':Act} {w1:World} (hd:a.defers=[]) (hOlt:∀b,O b→b <w.heap.size)
  (h:AfterM GL N Q g w μ a O a' w1) (hR:∀s' g' μ' w',Q s'→Gs GL N g' w' μ' s' a' O→Chg (λb=>¬O b) g w g' w'→μ <+: μ'→∃v,(results fn a'.tmps).run P w'= .ok v w'∧R (.returned v) w'):
  LeavesInM F n P fn a'.tmps R a'.defers .returning w1:=by
 obtain⟨s',g',μ',O',hq,hg,hO,hc,hμ,ms,hms,hnd,hp⟩:=h;rw[hms,hd,AUq];have hnone:∀b∈ms,∀o,g'.m b o=none:=by
  intro b hb o;cases hx:g'.m b o with
  |none=>rfl
  |some v=>
   have:=hg.inv.agree b o v hx;simp[World.cell?,(hp b hb).2.2]at this
 have hnO:∀b∈ms,¬O b∨False:=λb hb=> .inl λho=>by
  have h1:=(hp b hb).2.1;have h3:=hOlt b ho;omega
 refine Hs ms hnd (λb hb=>(hp b hb).2.2) λw' hs ho hu hw=>?_;have hc2:Chg (λb=>b∈ms) g' w1 g' w':=⟨Gh.le.refl _,by omega,λb _ hb=>hw b hb,λ_ _ _ _=>rfl,ho,hu⟩;have hag:∀b o v,g'.m b o=some v→w'.cell? ⟨b,o,none⟩=some v:=by
  intro b o v hv;by_cases hb:b∈ms
  ·rw[hnone b hb]at hv;cases hv
  ·rw[World.cell?_of_block (a:=⟨b,o,none⟩) (hw b hb)];exact hg.inv.agree b o v hv
 have hinv:=(hg.inv.chgO hc2 (λb hb=>(hp b hb).1) hag).subO hO;exact hR s' g' μ' w' hq ⟨hinv,hg.glob,hg.sz⟩ (hc.trans (hc2.mono λb hb ho=>(hnO b hb).elim (λh=>h ho) id)) hμ
theorem AK {f n:Nat} {ac:AC} {rs:List AR} {args rets:List V} (hk:DO P GL f n ac rs=true) (hn:args.length=n)
  (h:awp P GL ac (λe s=>(match e with| .exit _=>False|_=>True)∧CB s rs=some rets) ⟨AY args,[]⟩):PSp P GL f args rets:=by
 unfold DO at hk;split at hk
 ·rename_i fn hfn;simp only[AT1]at hk;obtain⟨⟨⟨⟨hnm,hbody⟩,hres⟩,hnn⟩,_⟩:=hk;have hnt:args.length≤fn.ntmps:=by rw[hn];simpa using hnn
  split at hbody
  ·rename_i c hc;refine⟨by simp[okF,hfn,hc,hnm],λg w us hag hgl hall=>(callsIn_wide (n:=0)).1 ?_⟩;have hlen:us.length=args.length:=hall.1;refine callsIn_of_wp_marks hfn hc trivial ?_ rfl;have hinv:Gs GL fn.ntmps g w [] ⟨AY args,[]⟩ {tmps:=us.toArray++Array.replicate (fn.ntmps-us.toArray.size) undef,defers:=[]} (λb=>b <w.heap.size):=by
    refine⟨⟨hag,λb hb=>hb,λn=>?_,rfl,λr row b hr=>by simp at hr,λr r' b hr=>by simp at hr,λb hb=>by simp at hb,λp q b hp=>?_,λp b hp=>?_⟩,hgl,by simp;omega⟩
    ·simp only[HL];cases hx:args[n]? with
     |none=>simp[RepD,RepG,RepE]
     |some x=>
      obtain⟨v,hv,hr⟩:=hall.get hx;have hlt:=(AT4.1 hv).1;have:(us.toArray++Array.replicate (fn.ntmps-us.toArray.size) undef).getD n undef=v:=by
       simp[Array.getElem?_append,hlt];exact(AT4.1 hv).2
      simp only[AUU,AUH,this];exact hr
    ·exfalso;cases p with
     |tmp n k=>
      simp only[blk,HL]at hp;cases hx:args[n]?<;>simp only[hx,Option.map_none,AUU,Option.getD_none,AUH]at hp<;>cases k<;>simp[Ab,AZ]at hp
     |cell r k=>simp[blk,Av,AZ]at hp
    ·exfalso;cases p with
     |tmp n k=>
      simp only[blk,HL]at hp;cases hx:args[n]?<;>simp only[hx,Option.map_none,AUU,Option.getD_none,AUH]at hp<;>cases k<;>simp[Ab,AZ]at hp
     |cell r k=>simp[blk,Av,AZ]at hp
   refine wpIn_mono (Cf (r:=none) ac hbody (.inl rfl) hinv h) ?_;rintro e a' w1 ⟨e1,he,haft⟩;have fin:(match e1 with| .exit _=>False|_=>True)→LeavesInM (WF none) 0 P fn a'.tmps (λe w'=>∃v g',e= .returned v∧RepD g' w' [] (Hh rets) v∧Chg (λ_=>False) g w g' w'∧V5 g' w') a'.defers .returning w1:=by
    intro _;refine PK rfl (λb hb=>hb) haft ?_;rintro s' g' μ' w' ⟨_,hrv⟩ hgs hch _;obtain⟨vs,hrun,hrep⟩:=JE hgs hres hrv;have hresult:(results fn a'.tmps).run P w'= .ok (if h:vs.toArray.size=1 then vs.toArray[0] else .tuple vs.toArray) w':=by
     rw[KB,Array.mapM_eq_mapM_toList];simp only[Sem.run_bind,Sem.run_map];rw[hrun];rfl
    have hch':Chg (λ_=>False) g w g' w':=⟨hch.le,hch.size,λb hb _=>hch.heap b hb (λh=>h hb),λb hb _=>hch.gh b hb (λh=>h hb),hch.os,hch.out⟩;exact⟨_,hresult,_,g',rfl,uh hrep,hch',hgs.inv.agree⟩
   cases e1 with
   |normal=>cases e<;>simp only[Fy]at he;exact fin trivial
   |exit i=>obtain⟨_,_,_,_,⟨hnx,_⟩,_⟩:=haft;exact hnx.elim
   |ret=>cases e<;>simp only[Fy]at he;exact fin trivial
  ·cases hbody
 ·cases hk
theorem E6:∀(args:List D) (k n:Nat),AH ((args.zipIdx k).map λp=>(p.2,p.1)) n=if k≤n then (args[n-k]?).getD .any else .any
 |[],k,n=>by simp[AH]
 |x::xs,k,n=>by
  simp only[AWH,AUD,AH];by_cases h:k=n
  ·subst h;simp
  ·rw[if_neg h,E6 xs (k+1) n];by_cases h2:k+1≤n
   ·rw[if_pos h2,if_pos (by omega),show n-k=(n-(k+1))+1 by omega,AVH]
   ·rw[if_neg h2,if_neg (by omega)]
theorem Oh (args:List D) (n:Nat):AH (AS args) n=(args[n]?).getD .any:=by
 have:=E6 args 0 n;simpa[AS]using this
theorem Xd {g:Gh} {w:World} {μ:List Nat} {d:D} {u:Value} (h:RepD g w μ d u):RepG g w μ d.keep u:=by
 have:=h.arg;cases d<;>first
  |exact h
  |exact this
theorem Xe (d:D) (u:Value) (b:Nat) (h:AZ d.keep u=some b):Ab d u 0=some b:=by
 cases d<;>first
  |(simp only[D.keep]at h;rw[KK]at h;cases h;done)
  |exact h
theorem wn {g:Gh} {w:World} {μ:List Nat} {s:St} {a:Act} {O:Nat→Prop} {N:Nat} (hg:Gs GL N g w μ s a O) {rv:ResultVar} {r:AR} (hk:It P rv r=true) {x:D} (hx:r.d s=some x):
  ∃v,(Kx a.tmps rv).run P w= .ok v w∧RepG g w μ x v∧∀b,AZ x v=some b→∃n,r= .t n∧Ab (AH s.e n) (a.tmps.getD n undef) 0=some b:=by
 cases rv with
 |tmp t=>
  cases r with
  |t n=>
   have:t=n:=by simpa[It]using hk
   subst this;simp only[AR.d,AT0]at hx;subst hx;exact⟨_,rfl,Xd (hg.inv.rep t),λb hb=>⟨t,rfl,Xe _ _ _ hb⟩⟩
  |c n sz ag=>simp[It]at hk
 |cell b t=>
  cases r with
  |t n=>simp[It]at hk
  |c n sz ag=>
   simp only[It,AT1,beq_iff_eq]at hk;obtain⟨⟨⟨rfl,hs⟩,hag⟩,h1⟩:=hk;simp only[AR.d,AWk]at hx;obtain⟨d,hd,hdx⟩:=hx;have hxe:d.arg=x:=by
    cases hq:d.arg<;>rw[hq]at hdx<;>simp[D.one?]at hdx<;>exact hdx
   subst hxe;have:=MH (P:=P) (GL:=GL) (a:= .tmp b) (a':= .t b false) (t:=t) (by simp[oe]) hs hag h1 (hg.gd P) hd
    {(default:Oper)with op:= .load t (.tmp b)} rfl
   obtain⟨v,hrun,hrep,_⟩:=this;refine⟨v,?_,hrep.arg,λb' hb'=>by rw[KK]at hb';cases hb'⟩;have hev:a.eval (.tmp b)=a.tmps.getD b undef:=rfl;simp only[execOp,Instr.loadAt,hev,Sem.run_bind,Sem.run_map]at hrun;simp only[Kx,Sem.run_bind];cases hp:a.tmps.getD b undef with
   |pointer p=>
    cases p with
    |none=>simp[hp,Instr.sureAddr]at hrun
    |some p=>
     simp only[hp,Instr.sureAddr,Sem.run_pure,Result.andThen_ok,asAddr]at hrun ⊢;cases hl:(loadVar t p).run P w with
     |ok v' w'=>simp[hl]at hrun;obtain⟨rfl,rfl⟩:=hrun;rfl
     |halt h w'=>simp[hl]at hrun
   |_=>simp[hp,Instr.sureAddr]at hrun
theorem Hi {g:Gh} {w:World} {μ:List Nat} {s:St} {a:Act} {O:Nat→Prop} {N:Nat} (hg:Gs GL N g w μ s a O):∀ {rvs:List ResultVar} {rs:List AR} {xs:List D},Aj (It P) rvs rs=true→De s rs=some xs→
  ∃vs:List Value,(rvs.mapM (Kx a.tmps)).run P w= .ok vs w∧All2 (RepG g w μ) xs vs∧∀(k:Nat) d v b,xs[k]?=some d→vs[k]?=some v→AZ d v=some b→∃n,rs[k]?=some (.t n)∧Ab (AH s.e n) (a.tmps.getD n undef) 0=some b
 |[],[],xs,_,h=>by
  simp only[De,AT0]at h;subst h;exact⟨[],rfl,.nil,λi d v b h=>by simp at h⟩
 |rv::rvs,r::rs,xs,hk,h=>by
  simp only[Aj,AT1]at hk;simp only[De]at h;split at h
  ·rename_i y ys hy hys;simp only[AT0]at h;subst h;obtain⟨v,h1,h2,h2'⟩:=wn hg hk.1 hy;obtain⟨vs,h3,h4,h4'⟩:=Hi hg hk.2 hys;refine⟨v::vs,?_,.cons h2 h4,λi d u b hd hu hb=>?_⟩
   ·rw[List.mapM_cons,Sem.run_bind,h1,Result.andThen_ok,Sem.run_bind,h3];rfl
   ·cases i with
    |zero=>
     simp at hd hu;subst hd;subst hu;obtain⟨n,rfl,h⟩:=h2' b hb;exact⟨n,rfl,h⟩
    |succ i=>exact h4' i d u b (by simpa using hd) (by simpa using hu) hb
  ·cases h
 |[],_::_,_,hk,_=>by simp[Aj]at hk
 |_::_,[],_,hk,_=>by simp[Aj]at hk
theorem XI {g:Gh} {w:World} {μ:List Nat} {xs:List D} {vs:List Value} (h:All2 (RepG g w μ) xs vs):
  RepD g w μ (Ba xs) (if h:vs.toArray.size=1 then vs.toArray[0] else .tuple vs.toArray)∧
   ∀k b,Ab (Ba xs) (if h:vs.toArray.size=1 then vs.toArray[0] else .tuple vs.toArray) k=some b→∃d v,xs[k]?=some d∧vs[k]?=some v∧AZ d v=some b:=by
 unfold Ba;split
 ·rename_i x;have hl:=h.1
  match vs,hl with
  |[v],_=>
   simp only[AVT,AUO,AVA,dite_true];have hx:=(All2.cons_iff.1 h).1;refine⟨hx.toD,λk b hb=>?_⟩;have hnt:∀ds,x≠ .tup ds:=λds he=>by subst he;exact hx.elim
   cases k with
   |zero=>
    refine⟨x,v,rfl,rfl,?_⟩;cases x<;>first
     |exact hb
     |exact absurd rfl (hnt _)
   |succ k=>
    exfalso;cases x<;>first
     |(simp[Ab]at hb;done)
     |exact absurd rfl (hnt _)
 ·rename_i hne;have hl:¬vs.toArray.size=1:=by
   intro h1;have:xs.length=1:=by rw[←h.1];simpa using h1
   match xs,this with
   |[x],_=>exact hne x rfl
  rw[dif_neg hl];refine⟨⟨vs,rfl,h⟩,λk b hb=>?_⟩;simp only[Ab,AVm]at hb;cases hx:xs[k]? with
  |none=>simp[hx,AZ]at hb
  |some x=>
   obtain⟨v,hv,_⟩:=h.get hx;simp only[hx,hv,AUH]at hb;exact⟨x,v,rfl,hv,hb⟩
theorem Fm:∀ {rs:List AR} {k n:Nat},rs[k]?=some (.t n)→n∈D5 rs
 |[],k,n,h=>by simp at h
 | .t m::rs,0,n,h=>by simp at h;simp[D5,h]
 | .t m::rs,k+1,n,h=>by simp only[D5,AT7];exact .inr (Fm (rs:=rs) (k:=k) (by simpa using h))
 | .c _ _ _::rs,0,n,h=>by simp at h
 | .c _ _ _::rs,k+1,n,h=>by simp only[D5];exact Fm (rs:=rs) (k:=k) (by simpa using h)
theorem HW:∀ {rs:List AR},(D5 rs).Nodup→∀ {k k' n:Nat},rs[k]?=some (.t n)→rs[k']?=some (.t n)→k=k'
 |[],_,k,k',n,h,_=>by simp at h
 | .t m::rs,hd,k,k',n,h,h'=>by
  simp only[D5,AVb]at hd;cases k with
  |zero=>cases k' with
   |zero=>rfl
   |succ k'=>
    simp at h;subst h;exact absurd (Fm (rs:=rs) (k:=k') (by simpa using h')) hd.1
  |succ k=>cases k' with
   |zero=>
    simp at h';subst h';exact absurd (Fm (rs:=rs) (k:=k) (by simpa using h)) hd.1
   |succ k'=>rw[HW hd.2 (k:=k) (k':=k') (by simpa using h) (by simpa using h')]
 | .c _ _ _::rs,hd,k,k',n,h,h'=>by
  simp only[D5]at hd;cases k with
  |zero=>simp at h
  |succ k=>cases k' with
   |zero=>simp at h'
   |succ k'=>rw[HW hd (k:=k) (k':=k') (by simpa using h) (by simpa using h')]
theorem ug {g:Gh} {w:World} {μ:List Nat} {t:Nat→D} {u:Nat→Value} {h:List Row} {O:Nat→Prop} (hi:Inv g w μ t u h O) {rs:List AR} (hnd:(D5 rs).Nodup) {x:D} {v:Value} (hx:RepD g w μ x v)
  (ho:∀k b,Ab x v k=some b→∃n,rs[k]?=some (.t n)∧Ab (t n) (u n) 0=some b):Inv g w μ (at0 .any x) (at0 (.bool false) v) h O:=by
 refine hi.upd (Chg.refl (λ_=>False) g w) hi.agree (λn=>?_) hi.len hi.rows hi.nod (λb hb=> .inl hb)
  (λp=>match p with| .tmp 0 k=>(match rs[k]? with|some (.t n)=>some (.tmp n 0)|_=>none)| .tmp (_+1) _=>none| .cell r k=>some (.cell r k)) ?_ (.tmp 0 0) ?_
 ·simp only[at0];split
  ·exact hx
  ·trivial
 ·intro p q z hp hq;cases p with
  |tmp n k=>
   cases n with
   |succ n=>cases hp
   |zero=>
    simp only at hp;split at hp
    ·rename_i n hn;simp only[AT0]at hp;subst hp;cases q with
     |tmp n' k'=>
      cases n' with
      |succ n'=>cases hq
      |zero=>
       simp only at hq;split at hq
       ·rename_i n' hn';simp only[AT0,Pl.tmp.injEq,and_true]at hq;subst hq;rw[HW hnd hn hn']
       ·cases hq
     |cell r k'=>simp at hq
    ·cases hp
  |cell r k=>
   simp only[AT0]at hp;subst hp;cases q with
   |tmp n' k'=>
    cases n' with
    |succ n'=>cases hq
    |zero=>
     simp only at hq;split at hq
     ·simp at hq
     ·cases hq
   |cell r' k'=>simpa[eq_comm]using hq
 ·intro p b hb;refine .inl ?_;cases p with
  |tmp n k=>
   cases n with
   |succ n=>simp only[blk,at0]at hb;cases k<;>simp[Ab,AZ]at hb
   |zero=>
    have hb':Ab x v k=some b:=by simpa[blk,at0]using hb
    obtain⟨n,hn,hbn⟩:=ho k b hb';exact⟨.tmp n 0,by simp only[hn],hbn⟩
  |cell r k=>exact⟨.cell r k,rfl,hb⟩
theorem Kh {f n:Nat} {ac:AC} {rs:List AR} {args rets:List D} {h h':List Row} (hk:DO P GL f n ac rs=true) (hn:args.length=n)
  (hw:awp P GL ac (λe s=>(match e with| .exit _=>False|_=>True)∧∃y,De s rs=some y∧∀g w μ v O,Inv g w μ (at0 .any (Ba y)) (at0 (.bool false) v) s.h O→
   ∃μ2,(∀μ0:List Nat,μ0.length=h.length→μ0 <+: μ→μ0 <+: μ2)∧Inv g w μ2 (at0 .any (Ba rets)) (at0 (.bool false) v) h' O) ⟨AS args,h⟩):
  okF P f=true∧∀(g:Gh) (w:World) (μ:List Nat) (us:List Value) (O:Nat→Prop),us.length=args.length→Inv g w μ (atL .any args) (atL undef us) h O→GlobOK GL g→
  Calls P f us.toArray w λe w'=>∃v g' μ',e= .returned v∧Inv g' w' μ' (at0 .any (Ba rets)) (at0 (.bool false) v) h' O∧Chg (λb=>¬O b) g w g' w'∧μ <+: μ':=by
 unfold DO at hk;split at hk
 ·rename_i fn hfn;simp only[AT1]at hk;obtain⟨⟨⟨⟨hnm,hbody⟩,hres⟩,hnn⟩,hndp⟩:=hk;have hndp:(D5 rs).Nodup:=by simpa using hndp
  have hnt:args.length≤fn.ntmps:=by rw[hn];simpa using hnn
  split at hbody
  ·rename_i c hc;refine⟨by simp[okF,hfn,hc,hnm],λg w μ us O hlen hinv0 hgl=>(callsIn_wide (n:=0)).1 ?_⟩;refine callsIn_of_wp_marks hfn hc trivial ?_ rfl;have hu:(λn=>(us.toArray++Array.replicate (fn.ntmps-us.toArray.size) undef).getD n undef)=atL undef us:=by
    funext n
    by_cases hlt:n <us.length
    ·simp[atL,Array.getElem?_append,hlt]
    ·have e2:(us.toArray++Array.replicate (fn.ntmps-us.toArray.size) undef)[n]?.getD undef=undef:=by
      rw[Array.getElem?_append_right (by simpa using hlt),Array.getElem?_replicate];split<;>rfl
     have e3:atL undef us n=undef:=by simp[atL,AUW (Nat.le_of_not_lt hlt)]
     rw[e3,AUL];exact e2
   have hinv:Gs GL fn.ntmps g w μ ⟨AS args,h⟩ {tmps:=us.toArray++Array.replicate (fn.ntmps-us.toArray.size) undef,defers:=[]} O:=by
    refine⟨?_,hgl,by simp;omega⟩;show Inv g w μ (AH (AS args)) (λn=>(us.toArray++Array.replicate (fn.ntmps-us.toArray.size) undef).getD n undef) h O;rw[hu,show AH (AS args)=atL .any args from funext (Oh args)];exact hinv0
   refine wpIn_mono (Cf (r:=none) ac hbody (.inl rfl) hinv hw) ?_;rintro e a' w1 ⟨e1,he,haft⟩;have fin:(match e1 with| .exit _=>False|_=>True)→LeavesInM (WF none) 0 P fn a'.tmps (λe w'=>∃v g' μ',e= .returned v∧Inv g' w' μ' (at0 .any (Ba rets)) (at0 (.bool false) v) h' O∧Chg (λb=>¬O b) g w g' w'∧μ <+: μ') a'.defers .returning w1:=by
    intro _;refine PK rfl hinv.inv.olt haft ?_;rintro s' g' μ' w' ⟨_,y,hrv,hweak⟩ hgs hch hμ;obtain⟨vs,hrun,hrep,hown⟩:=Hi hgs hres hrv;have hresult:(results fn a'.tmps).run P w'= .ok (if h:vs.toArray.size=1 then vs.toArray[0] else .tuple vs.toArray) w':=by
     rw[KB,Array.mapM_eq_mapM_toList];simp only[Sem.run_bind,Sem.run_map];rw[hrun];rfl
    obtain⟨r1,r2⟩:=XI hrep;have hret:=ug hgs.inv hndp r1 (λk b hb=>by
     obtain⟨d,v,hd,hv,ho⟩:=r2 k b hb;exact hown k d v b hd hv ho)
    obtain⟨μ2,hμ2,hinv2⟩:=hweak _ _ _ _ _ hret;exact⟨_,hresult,_,g',μ2,rfl,hinv2,hch,hμ2 μ hinv0.len hμ⟩
   cases e1 with
   |normal=>cases e<;>simp only[Fy]at he;exact fin trivial
   |exit i=>obtain⟨_,_,_,_,⟨hnx,_⟩,_⟩:=haft;exact hnx.elim
   |ret=>cases e<;>simp only[Fy]at he;exact fin trivial
  ·cases hbody
 ·cases hk
end
attribute [simp] Da BF AI.step AI.dst Bh Opd.ev Opd.clear AH D.copy PI.val V.bin D.isNil D.isNilP Jf D.cells? EU D4 D.isCap D.toRow HC EN BR D.toV D.v? D.vs? CB AR.val V.part D.part V.getI Hh
section
variable {P:Program} {GL:AX}
@[simp] theorem AIz (K:St→Prop) (s:St):BE P GL [] K s=K s:=rfl
@[simp] theorem wk (i:AI) (rest:List GI) (K:St→Prop) (s:St):BE P GL (⟨none,i⟩::rest) K s=Da P GL i (BE P GL rest K) s:=rfl
@[simp] theorem wl (t:Nat) (want:Bool) (i:AI) (rest:List GI) (K:St→Prop) (s:St):BE P GL (⟨some (t,want),i⟩::rest) K s=
  match AH s.e t with
  | .v (.bool b)=>if b=want then Da P GL i (BE P GL rest K) s else BE P GL rest K ⟨Bh s.e i.dst (.tup []),s.h⟩
  | .tup []=>BE P GL rest K ⟨Bh s.e i.dst (.tup []),s.h⟩
  |_=>False:=rfl
def Lw (P:Program) (GL:AX) (i:AI) (K:St→Prop) (s:St):Prop:=
 match i with
 | .call d f args=>∃fid caps vs rets,(f.ev s.e).toV=some (.func fid caps)∧HC s.e args=some vs∧PSp P GL fid (vs++caps) rets∧K ⟨Bh s.e d (Hh rets),s.h⟩
 | .callF d f args=>BF P GL d f args K s
 | .callC d f args=>BF P GL d f args (λs'=>(∃t,s'.h=s.h++t)∧K s') s
 | .callO d f q args=>∃fid rets,Db (f.ev s.e)=some (fid,[])∧OSp P GL fid (q.ev s.e::As s.e args) rets∧K ⟨Bh (q.clear s.e) d (Ba rets),s.h⟩
 |i=>match i.step s with
  |some s'=>K s'
  |none=>False
def IS (P:Program) (GL:AX) (ops:List GI) (K:St→Prop) (s:St):Prop:=∃s',K6 P GL ops s s'∧K s'
theorem Ow {d:Option Nat} {f:Opd} {args:List Opd} {K:St→Prop} {s:St} (h:BF P GL d f args K s):∃rets h',E8 P GL (f.ev s.e) (As s.e args) s.h rets h'∧K ⟨Bh s.e d (Ba rets),h'⟩:=by
 unfold BF at h;split at h
 ·rename_i r hf;obtain⟨b,h',hy,hK⟩:=h;exact⟨[.v (.bool b)],h',by simp only[E8,hf];exact⟨b,hy,rfl⟩,hK⟩
 ·rename_i fid fs hf;obtain⟨rets,h',hs,hK⟩:=h;exact⟨rets,h',by simp only[E8,hf];exact hs,hK⟩
 ·rename_i h1 h2;split at h
  ·rename_i fid caps hf;obtain⟨rets,h',hs,hK⟩:=h;refine⟨rets,h',?_,hK⟩;unfold E8;split
   ·rename_i r hr;exact absurd hr (h1 r)
   ·rename_i a b hr;exact absurd hr (h2 a b)
   ·exact⟨fid,caps,hf,hs⟩
  ·exact h.elim
theorem LL {i:AI} {K:St→Prop} {s:St}:(∃s1,JB P GL i s s1∧K s1)↔Lw P GL i K s:=by
 constructor
 ·rintro⟨s1,h|⟨d,f,args,fid,caps,vs,rets,rfl,hf,hv,hp,rfl⟩|⟨d,f,args,rets,h',hi,hc,rfl⟩|⟨d,f,q,args,fid,rets,rfl,hf,hp,rfl⟩,hK⟩
  ·unfold Lw;split
   ·cases h
   ·cases h
   ·cases h
   ·cases h
   ·rw[h];exact hK
  ·exact⟨fid,caps,vs,rets,hf,hv,hp,hK⟩
  ·have key:∀K:St→Prop,K ⟨Bh s.e d (Ba rets),h'⟩→BF P GL d f args K s:=by
    intro K hK;simp only[BF];unfold E8 at hc;split at hc
    ·rename_i r hf;obtain⟨b,hy,rfl⟩:=hc
     first|(rw[hf];exact⟨b,h',hy,hK⟩)|exact⟨b,h',hy,hK⟩
    ·rename_i fid fs hf
     first|(rw[hf];exact⟨rets,h',hc,hK⟩)|exact⟨rets,h',hc,hK⟩
    ·rename_i h1 h2;obtain⟨fid,caps,hf,hs⟩:=hc
     first
      |(simp only[hf];exact⟨rets,h',hs,hK⟩)
      |(split
        ·rename_i r hr;exact absurd hr (h1 r)
        ·rename_i a b hr;exact absurd hr (h2 a b)
        ·simp only[hf];exact⟨rets,h',hs,hK⟩)
   rcases hi with rfl|⟨rfl,ht⟩
   ·exact key K hK
   ·exact key (λs'=>(∃t,s'.h=s.h++t)∧K s') ⟨ht,hK⟩
  ·exact⟨fid,rets,hf,hp,hK⟩
 ·intro h;unfold Lw at h;split at h
  ·rename_i d f args;obtain⟨fid,caps,vs,rets,hf,hv,hp,hK⟩:=h;exact⟨_,.inr (.inl ⟨d,f,args,fid,caps,vs,rets,rfl,hf,hv,hp,rfl⟩),hK⟩
  ·rename_i d f args;obtain⟨rets,h',hc,hK⟩:=Ow h;exact⟨_,.inr (.inr (.inl ⟨d,f,args,rets,h',.inl rfl,hc,rfl⟩)),hK⟩
  ·rename_i d f args;obtain⟨rets,h',hc,hq⟩:=Ow (K:=λs'=>(∃t,s'.h=s.h++t)∧K s') h;obtain⟨ht,hK⟩:=hq;exact⟨_,.inr (.inr (.inl ⟨d,f,args,rets,h',.inr ⟨rfl,ht⟩,hc,rfl⟩)),hK⟩
  ·rename_i d f q args;obtain⟨fid,rets,hf,hp,hK⟩:=h;exact⟨_,.inr (.inr (.inr ⟨d,f,q,args,fid,rets,rfl,hf,hp,rfl⟩)),hK⟩
  ·split at h
   ·rename_i s' hs;exact⟨s',.inl hs,h⟩
   ·exact h.elim
@[simp] theorem AO8 (K:St→Prop) (s:St):IS P GL [] K s↔K s:=⟨λ⟨_,h,hK⟩=>by cases h;exact hK,λh=>⟨s,rfl,h⟩⟩
@[simp] theorem AI0 (i:AI) (rest:List GI) (K:St→Prop) (s:St):IS P GL (⟨none,i⟩::rest) K s↔Lw P GL i (IS P GL rest K) s:=by
 rw[←LL]
 constructor
 ·rintro⟨t,⟨s1,h1,h2⟩,hK⟩;exact⟨s1,h1,t,h2,hK⟩
 ·rintro⟨s1,h1,t,h2,hK⟩;exact⟨t,⟨s1,h1,h2⟩,hK⟩
@[simp] theorem AI1 (t:Nat) (want:Bool) (i:AI) (rest:List GI) (K:St→Prop) (s:St):IS P GL (⟨some (t,want),i⟩::rest) K s↔
  match AH s.e t with
  | .v (.bool b)=>if b=want then Lw P GL i (IS P GL rest K) s else IS P GL rest K ⟨Bh s.e i.dst (.tup []),s.h⟩
  | .tup []=>IS P GL rest K ⟨Bh s.e i.dst (.tup []),s.h⟩
  |_=>False:=by
 have h0:IS P GL (⟨some (t,want),i⟩::rest) K s↔∃s1,BD P GL ⟨some (t,want),i⟩ s s1∧IS P GL rest K s1:=by
  constructor
  ·rintro⟨t,⟨s1,h1,h2⟩,hK⟩;exact⟨s1,h1,t,h2,hK⟩
  ·rintro⟨s1,h1,t,h2,hK⟩;exact⟨t,⟨s1,h1,h2⟩,hK⟩
 rw[h0];simp only[BD];cases hf:AH s.e t with
 |v x=>
  cases x with
  |bool b=>
   simp only[];by_cases hw:b=want
   ·simp only[hw,if_true];exact LL
   ·simp only[hw,if_false];exact⟨λ⟨_,h1,h2⟩=>h1▸h2,λh=>⟨_,rfl,h⟩⟩
  |_=>simp only[];exact⟨λ⟨_,h1,_⟩=>h1,λh=>h.elim⟩
 |tup ds=>
  cases ds with
  |nil=>simp only[];exact⟨λ⟨_,h1,h2⟩=>h1▸h2,λh=>⟨_,rfl,h⟩⟩
  |cons d ds=>simp only[];exact⟨λ⟨_,h1,_⟩=>h1,λh=>h.elim⟩
 |_=>simp only[];exact⟨λ⟨_,h1,_⟩=>h1,λh=>h.elim⟩
attribute [simp] Lw
theorem AW (ops:List GI) (keep:List Nat) (cl:List (List Nat)) (Q:AExit→St→Prop) (s:St):awp P GL (.regD ops keep cl) Q s=IS P GL ops (λs'=>Q .normal ⟨BR s'.e keep,s'.h⟩) s:=rfl
theorem BO (ops:List GI) (keep:List Nat) (cl:List (List Nat)) (t:AT) (Q:AExit→St→Prop) (s:St):awp P GL (.regA ops keep cl t) Q s=t.ok P GL ops (λs'=>∃s2,PR s.h.length s' s2∧Q .normal ⟨BR s2.e keep,s2.h⟩) s:=rfl
@[simp] theorem AJD (is:List GI) (K:St→Prop) (s:St):AT.done.ok P GL is K s=K s:=rfl
@[simp] theorem AJA (is:List GI) (i:Nat) (t:AT) (K:St→Prop) (s:St):(AT.take i t).ok P GL is K s↔IS P GL [is.getD i default] (t.ok P GL is K) s:=
 ⟨λ⟨s1,h1,h2⟩=>⟨s1,⟨s1,h1,rfl⟩,h2⟩,λ⟨s1,⟨s2,h1,h2⟩,h3⟩=>by cases h2;exact⟨_,h1,h3⟩⟩
@[simp] theorem AJB (is:List GI) (c:AT) (K:St→Prop) (s:St):(AT.pick c).ok P GL is K s=c.ok P GL is K s:=rfl
@[simp] theorem AO9 (is:List GI) (i:Nat) (t r:AT) (K:St→Prop) (s:St):(AT.alt i t r).ok P GL is K s↔IS P GL [is.getD i default] (t.ok P GL is K) s∧r.ok P GL is K s:=
 ⟨λ⟨⟨s1,h1,h2⟩,h⟩=>⟨⟨s1,⟨s1,h1,rfl⟩,h2⟩,h⟩,λ⟨⟨s1,⟨s2,h1,h2⟩,h3⟩,h⟩=>by cases h2;exact⟨⟨_,h1,h3⟩,h⟩⟩
@[simp] theorem AJC (is:List GI) (K:St→Prop) (s:St):AT.none.ok P GL is K s=True:=rfl
theorem BG {is:List GI} (t:AT):∀ {K K':St→Prop} {s:St},(∀s,K s→K' s)→t.ok P GL is K s→t.ok P GL is K' s:=by
 induction t with
 |done=>intro K K' s hk h;exact hk _ h
 |take i t ih=>rintro K K' s hk ⟨s1,h1,h2⟩;exact⟨s1,h1,ih hk h2⟩
 |pick c ih=>intro K K' s hk h;exact ih (s:=s) hk h
 |alt i t r iht ihr=>rintro K K' s hk ⟨⟨s1,h1,h2⟩,h⟩;exact⟨⟨s1,h1,iht hk h2⟩,ihr hk h⟩
 |none=>intro K K' s hk h;trivial
theorem AA (ops:List GI) (keep:List Nat) (Q:AExit→St→Prop) (s:St):awp P GL (.reg ops keep) Q s=BE P GL ops (λs'=>Q .normal ⟨BR s'.e keep,s'.h⟩) s:=rfl
theorem AB (a b:AC) (Q:AExit→St→Prop) (s:St):awp P GL (.seq a b) Q s=awp P GL a (λe s'=>match e with| .normal=>awp P GL b Q s'|e=>Q e s') s:=rfl
theorem AE (x:Opd) (a b:AC) (Q:AExit→St→Prop) (s:St):awp P GL (.cond x a b) Q s=match x.ev s.e with| .v (.bool t)=>if t then awp P GL a Q s else awp P GL b Q s|_=>False:=rfl
theorem AG (id:Nat) (c:AC) (Q:AExit→St→Prop) (s:St):awp P GL (.block id c) Q s=awp P GL c (λe s'=>match e with| .exit id'=>if id'=id then Q .normal s' else Q (.exit id') s'|e=>Q e s') s:=rfl
theorem AD (Q:AExit→St→Prop) (s:St):awp P GL .skip Q s=Q .normal s:=rfl
theorem AM (id:Nat) (Q:AExit→St→Prop) (s:St):awp P GL (.exit id) Q s=Q (.exit id) s:=rfl
theorem AF (Q:AExit→St→Prop) (s:St):awp P GL .ret Q s=Q .ret s:=rfl
theorem Kw (q:Opd) (ps:List Nat) (asg body:AC) (Q:AExit→St→Prop) (s:St):awp P GL (.rangeF q ps asg body) Q s=
  ∃fid caps rets h' tag,Db (q.ev s.e)=some (fid,caps)∧FSp P GL fid (.yld s.h.length::caps) (s.h++[An P GL .ready (cpE s.e) ps asg body]) rets h'∧
   h'[s.h.length]?=some (An P GL tag (cpE s.e) ps asg body)∧Bo Q ⟨s.e,h'.set s.h.length .dead⟩ tag:=rfl
theorem uH (ops:List GI) (keep:List Nat) (cl:List (List Nat)) (Q:AExit→St→Prop) (s:St):awp P GL (.regV ops keep cl) Q s=LG P GL ops cl (λs'=>Q .normal ⟨BR s'.e keep,s'.h⟩) ops.length (List.range ops.length) s:=rfl
theorem Lx {i:AI} {K K':St→Prop} {s:St} (hk:∀s,K s→K' s) (h:Da P GL i K s):Da P GL i K' s:=by
 have hcall:∀ {d f args},BF P GL d f args K s→BF P GL d f args K' s:=by
  intro d f args h;unfold BF at h ⊢;split at h
  ·obtain⟨a,b,h1,h3⟩:=h;exact⟨a,b,h1,hk _ h3⟩
  ·obtain⟨a,b,h1,h3⟩:=h;exact⟨a,b,h1,hk _ h3⟩
  ·split at h
   ·obtain⟨a,b,h1,h3⟩:=h;exact⟨a,b,h1,hk _ h3⟩
   ·exact h
 unfold Da at h ⊢;split at h
 ·exact hcall h
 ·exact hcall h
 ·exact hcall h
 ·obtain⟨a,b,h1,h2,h3⟩:=h;exact⟨a,b,h1,h2,hk _ h3⟩
 ·split at h
  ·exact⟨h.1,h.2.1,λb=>hk _ (h.2.2 b)⟩
  ·exact h
 ·obtain⟨a,b,c,h1,h2,h3⟩:=h;exact⟨a,b,c,h1,h2,hk _ h3⟩
 ·split at h
  ·refine⟨h.1,h.2.1,?_⟩;have h:=h.2.2;split at h
   ·rename_i hy;rw[if_pos hy];exact hk _ h
   ·rename_i hy;rw[if_neg hy];exact λk=>hk _ (h k)
  ·exact h
 ·split at h
  ·exact hk _ h
  ·split at h
   ·obtain⟨h0,xs,h1,h2,h3,h4⟩:=h;exact⟨h0,xs,h1,h2,h3,hk _ h4⟩
   ·exact h
  ·exact h
 ·split at h
  ·exact⟨hk _ h.1,hk _ h.2⟩
  ·exact⟨hk _ h.1,hk _ h.2⟩
  ·exact hk _ h
  ·exact h
 ·split at h
  ·exact hk _ h
  ·exact h
theorem I7 {x:GI} {K K':St→Prop} {s:St} (hk:∀s,K s→K' s) (h:Dc P GL x K s):Dc P GL x K' s:=by
 unfold Dc at h ⊢;split at h
 ·exact Lx hk h
 ·split at h
  ·split at h
   ·rename_i hw;rw[if_pos hw];exact Lx hk h
   ·rename_i hw;rw[if_neg hw];exact hk _ h
  ·exact hk _ h
  ·exact h
theorem JX:∀ {ops:List GI} {K K':St→Prop} {s:St},(∀s,K s→K' s)→BE P GL ops K s→BE P GL ops K' s
 |[],_,_,_,hk,h=>hk _ h
 |x::rest,_,_,_,hk,h=>I7 (λs h=>JX hk h) h
theorem Lz {is:List GI} {cl:List (List Nat)}:∀(n:Nat) {rem:List Nat} {K K':St→Prop} {s:St},(∀s,K s→K' s)→LG P GL is cl K n rem s→LG P GL is cl K' n rem s
 |0,_,_,_,s,hk,h=>hk s h
 |n+1,rem,_,_,s,hk,h=>λi hi hj=>I7 (λs h=>Lz n hk h) (h i hi hj)
theorem Ag:∀(c:AC) {Q Q':AExit→St→Prop} {s:St},(∀e s,Q e s→Q' e s)→awp P GL c Q s→awp P GL c Q' s:=by
 intro c;induction c with
 |skip=>intro Q Q' s hq h;exact hq _ _ h
 |reg ops keep=>intro Q Q' s hq h;exact JX (λs h=>hq _ _ h) h
 |regA ops keep cl t=>intro Q Q' s hq h;exact BG t (λs ⟨s2,h1,h2⟩=>⟨s2,h1,hq _ _ h2⟩) h
 |regV ops keep cl=>intro Q Q' s hq h;exact Lz _ (λs h=>hq _ _ h) h
 |regD ops keep cl=>rintro Q Q' s hq ⟨t,h1,h2⟩;exact⟨t,h1,hq _ _ h2⟩
 |seq a b iha ihb=>
  intro Q Q' s hq h;refine iha ?_ h;intro e s h;cases e with
  |normal=>exact ihb hq h
  |exit i=>exact hq _ _ h
  |ret=>exact hq _ _ h
 |cond x a b iha ihb=>
  intro Q Q' s hq h;simp only[awp]at h ⊢;split at h
  ·rename_i t ht;cases t with
   |true=>exact iha hq h
   |false=>exact ihb hq h
  ·exact h
 |block id c ih=>
  intro Q Q' s hq h;refine ih ?_ h;intro e s h;cases e with
  |exit i=>simp only at h ⊢;split at h<;>rename_i hi<;>simp only[hi,if_true,if_false]<;>exact hq _ _ h
  |normal=>exact hq _ _ h
  |ret=>exact hq _ _ h
 |loop c ih=>
  intro Q Q' s hq h;obtain⟨I,h0,h⟩:=h;refine⟨I,h0,λm s hi=>ih ?_ (h m s hi)⟩;intro e s h;cases e with
  |normal=>exact h
  |exit i=>exact hq _ _ h
  |ret=>exact hq _ _ h
 |exit id=>intro Q Q' s hq h;exact hq _ _ h
 |ret=>intro Q Q' s hq h;exact hq _ _ h
 |never=>intro Q Q' s hq h;exact h
 |rangeF q ps asg body _ _=>
  rintro Q Q' s hq ⟨fid,caps,rets,h',tag,h1,h2,h3,h4⟩;refine⟨fid,caps,rets,h',tag,h1,h2,h3,?_⟩;cases tag with
  |ready=>exact hq _ _ h4
  |busy=>exact h4
  |done e=>cases e<;>exact hq _ _ h4
theorem Oe {f n:Nat} {ac:AC} {rs:List AR} {args rets:List D} {h h':List Row} (hk:DO P GL f n ac rs=true) (hn:args.length=n)
  (hw:awp P GL ac (λe s=>(match e with| .exit _=>False|_=>True)∧∃y,De s rs=some y∧∀g w μ t u O,Inv g w μ t u s.h O→y=rets∧Inv g w μ t u h' O) ⟨AS args,h⟩):FSp P GL f args h rets h':=by
 obtain⟨h1,h2⟩:=Kh (rets:=rets) (h':=h') hk hn (Ag ac (λe s=>by
  rintro⟨h1,y,h2,h3⟩;exact⟨h1,y,h2,λg w μ v O hi=>⟨μ,λ_ _ h=>h,by obtain⟨rfl,h4⟩:=h3 _ _ _ _ _ _ hi;exact h4⟩⟩) hw)
 refine⟨h1,λg w μ us O hinv hgl hall htame=>h2 g w μ us O hall.1 (hinv.enter (λn=>?_) (λn k=>?_)) hgl⟩
 ·simp only[atL];cases hx:args[n]? with
  |none=>simp[RepD,RepG,RepE]
  |some x=>
   obtain⟨v,hv,hr⟩:=hall.get hx;rw[hv];exact hr.toD
 ·simp only[atL];cases hx:args[n]? with
  |none=>cases k<;>simp[Ab,AZ]
  |some x=>
   obtain⟨v,hv,hr⟩:=hall.get hx;rw[hv];exact E2 hr (htame n x v hx hv) k
theorem AV {f n:Nat} {ac:AC} {rs:List AR} {args rets:List D} {h h':List Row} (hk:DO P GL f n ac rs=true) (hn:args.length=n)
  (hw:awp P GL ac (λe s=>(match e with| .exit _=>False|_=>True)∧De s rs=some rets∧s.h=h') ⟨AS args,h⟩):FSp P GL f args h rets h':=by
 refine Oe hk hn ?_;have hm:∀e s,((match e with|AExit.exit _=>False|_=>True)∧De s rs=some rets∧s.h=h')→((match e with|AExit.exit _=>False|_=>True)∧∃y,De s rs=some y∧∀g w μ t u O,Inv g w μ t u s.h O→y=rets∧Inv g w μ t u h' O):=by
  rintro e s ⟨h1,h2,rfl⟩;exact⟨h1,rets,h2,λ_ _ _ _ _ _ hi=>⟨rfl,hi⟩⟩
 exact Ag ac hm hw
theorem HV {c:AC} {Q:AExit→St→Prop} {s s0:St} {e0:AExit} (h:awp P GL c (λe s=>e=e0∧s=s0) s) (hq:Q e0 s0):awp P GL c Q s:=
 Ag c (λe s h=>by obtain⟨rfl,rfl⟩:=h;exact hq) h
theorem Np {c:AC} {Q:AExit→St→Prop} (n:Nat) (S:Nat→St)
  (h:∀k,k≤n→awp P GL c (λe s'=>match e with| .normal=>k <n∧s'=S (k+1)|e=>Q e s') (S k)) (k:Nat) (hk:k≤n):awp P GL (.loop c) Q (S k):=by
 refine⟨λm s=>∃k,k≤n∧m=n-k∧s=S k,⟨n-k,k,hk,rfl,rfl⟩,?_⟩;rintro m s ⟨k,hk,rfl,rfl⟩;refine Ag c ?_ (h k hk);intro e s' h;cases e with
 |normal=>obtain⟨hlt,rfl⟩:=h;exact⟨n-(k+1),by omega,k+1,hlt,rfl,rfl⟩
 |exit i=>exact h
 |ret=>exact h
end
abbrev GLx:AX:=[(0,[.int .i64 12,.int .i64 0])]
def ALn:List GI:=[⟨none,.mv 4 (.c (.v (.int .i64 0)))⟩]
def ALm:List GI:=[⟨none,.mv 6 (.t 0 false)⟩,⟨none,.p 7 (.alen (.t 6 false))⟩,⟨none,.mv 8 (.c (.v (.int .i64 0)))⟩]
def vO:List GI:=[⟨none,.p 9 (.bin .lss (.t 8 false) (.t 7 false))⟩]
def AFW:List GI:=[⟨none,.mv 10 (.t 8 false)⟩,⟨none,.mv 5 (.t 10 false)⟩]
def AFV (s:Nat) (g:Bool):List GI:=[⟨none,.mv 11 (.t 1 false)⟩,⟨none,.mv 12 (.t 0 false)⟩,⟨none,.mv 13 (.t 5 false)⟩,⟨none,.p 14 (.iaddr (.t 12 false) (.t 13 false) s)⟩,⟨none,.p 15 (.load (.t 14 false) s g)⟩,⟨none,.call (some 16) (.t 11 false) [(.t 15 false)]⟩]
def AFU:List GI:=[⟨none,.mv 17 (.t 5 false)⟩,⟨none,.mv 4 (.t 17 false)⟩]
def AFT:List GI:=[⟨none,.p 18 (.bin .add (.t 8 false) (.c (.v (.int .i64 1))))⟩,⟨none,.mv 8 (.t 18 false)⟩]
def ALl:List GI:=[⟨none,.mv 4 (.c (.v (.int .i64 (-1))))⟩]
def Wg (s:Nat) (g:Bool):AC:=(.seq (.reg vO [0,1,7,8,9]) (.seq (.cond (.t 9 false) .skip (.exit 0)) (.seq (.block 1 (.seq (.reg AFW [0,1,5,7,8]) (.seq (.reg (AFV s g) [0,1,5,7,8,16]) (.cond (.t 16 false) (.seq (.reg AFU [4]) .ret) .skip)))) (.reg AFT [0,1,7,8]))))
def cI (s:Nat) (g:Bool):AC:=(.seq (.reg ALn [0,1]) (.seq (.seq (.reg ALm [0,1,7,8]) (.block 0 (.loop (Wg s g)))) (.seq (.reg ALl [4]) .ret)))
def cIR:List AR:=[.t 4]
def ALk:List GI:=[⟨none,.mv 4 (.c (.v (.bool false)))⟩]
def ALj (f:Nat):List GI:=[⟨none,.mv 5 (.t 0 true)⟩,⟨none,.mv 6 (.t 1 false)⟩,⟨none,.call (some 7) (.c (.v (.func f []))) [(.t 5 false),(.t 6 false)]⟩,⟨none,.p 8 (.bin .geq (.t 7 false) (.c (.v (.int .i64 0))))⟩,⟨none,.mv 4 (.t 8 false)⟩]
def cJ (f:Nat):AC:=(.seq (.reg ALk [0,1]) (.seq (.reg (ALj f) [4]) .ret))
abbrev xz:D:= .v (.int .i64 0)
def xK (l:List (List Nat)):List (List Nat):=l.foldl (λa p=>a++[(List.range a.length).filter λj=>p.any λq=>q==j||(a.getD q []).contains j]) []
abbrev xt (n:Nat):Opd:= .t n false
abbrev xu (n:Nat):Opd:= .t n true
abbrev xi (n:Int):Opd:= .c (.v (.int .i64 n))
abbrev xj (n:Int):Opd:= .c (.v (.int .u64 n))
abbrev xf (f:Nat):Opd:= .c (.v (.func f []))
abbrev xy (b:Bool):Opd:= .c (.v (.bool b))
abbrev xo (a:AI):GI:=⟨none,a⟩
abbrev xp (d:Nat) (i:PI):GI:=⟨none,.p d i⟩
abbrev xg (n:Nat) (b:Bool) (a:AI):GI:=⟨some (n,b),a⟩
abbrev xm (d n:Nat):GI:=⟨none,.mv d (.t n false)⟩
abbrev xn (d n:Nat):GI:=⟨none,.mv d (.t n true)⟩
abbrev xv (d:Nat) (n:Int):GI:=⟨none,.mv d (.c (.v (.int .i64 n)))⟩
abbrev xw (d:Nat) (b:Bool):GI:=⟨none,.mv d (.c (.v (.bool b)))⟩
abbrev xc (d f:Nat) (l:List Opd):GI:=⟨none,.call (some d) (.c (.v (.func f []))) l⟩
abbrev x0 (d f:Nat):GI:=⟨none,.call (some d) (.c (.v (.func f []))) []⟩
abbrev x1 (d f a:Nat):GI:=⟨none,.call (some d) (.c (.v (.func f []))) [.t a false]⟩
abbrev x2 (d f a b:Nat):GI:=⟨none,.call (some d) (.c (.v (.func f []))) [.t a false,.t b false]⟩
abbrev x3 (d f a b c:Nat):GI:=⟨none,.call (some d) (.c (.v (.func f []))) [.t a false,.t b false,.t c false]⟩
abbrev xb (d:Nat) (o:BinOp) (a b:Opd):GI:=⟨none,.p d (.bin o a b)⟩
abbrev xB (d:Nat) (o:BinOp) (a b:Nat):GI:=⟨none,.p d (.bin o (.t a false) (.t b false))⟩
abbrev xC (d:Nat) (o:BinOp) (a:Nat) (k:Int):GI:=⟨none,.p d (.bin o (.t a false) (.c (.v (.int .i64 k))))⟩
abbrev xl (d n k:Nat):GI:=⟨none,.p d (.load (.t n false) k false)⟩
abbrev xL (d n k:Nat):GI:=⟨none,.p d (.load (.t n false) k true)⟩
abbrev xe (d n i:Nat):GI:=⟨none,.p d (.ext (.t n false) i)⟩
abbrev xa (d n k m:Nat):GI:=⟨none,.p d (.faddr (.t n false) k m)⟩
abbrev xA (d n:Nat):GI:=⟨none,.p d (.alen (.t n false))⟩
abbrev xI (d n m k:Nat):GI:=⟨none,.p d (.iaddr (.t n false) (.t m false) k)⟩
abbrev xO (d n m:Nat):GI:=⟨none,.p d (.pick (.t n false) (.c (.v (.bool true))) (.t m false))⟩
abbrev xN (d n m:Nat):GI:=⟨none,.p d (.pick (.t n false) (.t m false) (.c (.v (.bool false))))⟩
abbrev xT (d n:Nat):GI:=⟨none,.p d (.not (.t n false))⟩
abbrev xZ (d n:Nat):GI:=⟨none,.p d (.nilc (.t n false))⟩
abbrev xs (n m k:Nat):GI:=⟨none,.store (.t n false) (.t m false) k⟩
abbrev xx (d n:Nat):GI:=⟨none,.box d (.t n false)⟩
abbrev xG (n:Nat) (b:Bool) (a:GI):GI:=⟨some (n,b),a.i⟩
abbrev xH (n:Nat) (a:GI):GI:=⟨some (n,true),a.i⟩
abbrev xF (n:Nat) (a:GI):GI:=⟨some (n,false),a.i⟩
abbrev xr (d e s:Nat):GI:=⟨none,.mv d (.c (.own e s []))⟩
abbrev xq (d f:Nat) (l:List Opd):GI:=⟨none,.callF (some d) (.c (.v (.func f []))) l⟩
abbrev xV (a v b:Nat):List GI:=[xm a v,xC b .add a 1,xm v b]
abbrev xW (b v:Nat):List GI:=[xC b .add v 1,xm v b]
abbrev xD (n k:Nat):AC:= .cond (.t n false) .skip (.exit k)
abbrev xS (l:List GI) (k:List Nat) (c:AC):AC:= .seq (.reg l k) c
abbrev xQ (l:List GI) (k:List Nat) (n:Nat) (a b:AC):AC:= .seq (.seq (.reg l k) (.cond (.t n false) a .skip)) b
abbrev xE (l:List GI) (k:List Nat):AC:= .seq (.reg l k) .ret
noncomputable abbrev AU (f n:Nat) (c:AC) (r:List AR):Bool:=DO Go.Proofs.Tryz.prog GLx f n c r
abbrev PX:=PSp Go.Proofs.Tryz.prog GLx
abbrev FX:=FSp Go.Proofs.Tryz.prog GLx
abbrev tq0:AT:=.take 18 (.take 19 (.take 20 (.take 21 .done)))
abbrev tq1:AT:=.take 9 (.take 10 (.take 11 (.take 12 (.take 14 (.take 15 (.take 16 (.pick (.alt 13 (.take 17 tq0) (.alt 17 (.take 13 tq0) .none)))))))))
abbrev tq2:AT:=.take 8 (.take 9 .done)
abbrev tq3:AT:=.take 3 (.take 4 .done)
abbrev tq4:AT:=.take 15 .done
abbrev tq5:AT:=.take 14 tq4
abbrev tq6:AT:=.take 13 tq5
abbrev tq7:AT:=.take 11 (.take 12 tq6)
abbrev tq8:AT:=.take 10 tq7
abbrev tq9:AT:=.take 8 tq8
abbrev tq10:AT:=.pick (.alt 8 (.take 9 tq8) (.alt 9 tq9 .none))
abbrev tq11:AT:=.take 5 (.take 6 tq9)
abbrev tq12:AT:=.pick (.alt 5 (.take 6 tq10) (.alt 9 tq11 .none))
abbrev tq13:AT:=.pick (.alt 5 (.take 6 (.take 7 tq9)) (.alt 7 tq11 .none))
abbrev tq14:AT:=.pick (.alt 5 (.take 6 (.take 7 tq10)) (.alt 7 tq12 (.alt 9 tq13 .none)))
abbrev tq15:AT:=.take 3 tq11
abbrev tq16:AT:=.pick (.alt 3 tq12 (.alt 9 tq15 .none))
abbrev tq17:AT:=.pick (.alt 3 tq13 (.alt 7 tq15 .none))
abbrev tq18:AT:=.pick (.alt 3 tq14 (.alt 7 tq16 (.alt 9 tq17 .none)))
abbrev tq19:AT:=.pick (.alt 3 (.take 4 tq11) (.alt 4 tq15 .none))
abbrev tq20:AT:=.pick (.alt 3 (.take 4 tq12) (.alt 4 tq16 (.alt 9 tq19 .none)))
abbrev tq21:AT:=.pick (.alt 3 (.take 4 tq13) (.alt 4 tq17 (.alt 7 tq19 .none)))
abbrev tq22:AT:=.pick (.alt 1 tq8 (.alt 10 (.take 1 tq7) .none))
abbrev tq23:AT:=.pick (.alt 1 tq9 (.alt 8 tq22 .none))
abbrev tq24:AT:=.pick (.alt 1 tq10 (.alt 8 (.take 9 tq22) (.alt 9 tq23 .none)))
abbrev tq25:AT:=.pick (.alt 1 tq11 (.alt 5 (.take 6 tq23) .none))
abbrev tq26:AT:=.pick (.alt 1 tq12 (.alt 5 (.take 6 tq24) (.alt 9 tq25 .none)))
abbrev tq27:AT:=.pick (.alt 1 tq13 (.alt 5 (.take 6 (.take 7 tq23)) (.alt 7 tq25 .none)))
abbrev tq28:AT:=.pick (.alt 1 tq14 (.alt 5 (.take 6 (.take 7 tq24)) (.alt 7 tq26 (.alt 9 tq27 .none))))
abbrev tq29:AT:=.pick (.alt 1 tq15 (.alt 3 tq25 .none))
abbrev tq30:AT:=.pick (.alt 1 tq16 (.alt 3 tq26 (.alt 9 tq29 .none)))
abbrev tq31:AT:=.pick (.alt 1 tq17 (.alt 3 tq27 (.alt 7 tq29 .none)))
abbrev tq32:AT:=.pick (.alt 1 tq19 (.alt 3 (.take 4 tq25) (.alt 4 tq29 .none)))
abbrev tq33:AT:=.take 8 (.take 9 (.take 10 (.take 11 (.take 12 (.take 13 .done)))))
abbrev tq34:AT:=.take 7 tq33
abbrev tq35:AT:=.take 5 tq34
abbrev tq36:AT:=.pick (.alt 5 (.take 6 tq34) (.alt 6 tq35 .none))
abbrev tq37:AT:=.take 3 tq35
abbrev tq38:AT:=.pick (.alt 3 tq36 (.alt 6 tq37 .none))
abbrev tq39:AT:=.pick (.alt 3 (.take 4 tq35) (.alt 4 tq37 .none))
abbrev tq40:AT:=.pick (.alt 1 tq34 (.alt 7 (.take 1 tq33) .none))
abbrev tq41:AT:=.pick (.alt 1 tq35 (.alt 5 tq40 .none))
abbrev tq42:AT:=.pick (.alt 1 tq36 (.alt 5 (.take 6 tq40) (.alt 6 tq41 .none)))
abbrev tq43:AT:=.pick (.alt 1 tq37 (.alt 3 tq41 .none))
abbrev tq44:AT:=.take 14 .done
abbrev tq45:AT:=.take 13 tq44
abbrev tq46:AT:=.take 12 tq45
abbrev tq47:AT:=.take 10 (.take 11 tq46)
abbrev tq48:AT:=.take 9 tq47
abbrev tq49:AT:=.take 7 tq48
abbrev tq50:AT:=.pick (.alt 7 (.take 8 tq48) (.alt 8 tq49 .none))
abbrev tq51:AT:=.take 5 tq49
abbrev tq52:AT:=.pick (.alt 5 tq50 (.alt 8 tq51 .none))
abbrev tq53:AT:=.pick (.alt 5 (.take 6 tq49) (.alt 6 tq51 .none))
abbrev tq54:AT:=.pick (.alt 5 (.take 6 tq50) (.alt 6 tq52 (.alt 8 tq53 .none)))
abbrev tq55:AT:=.take 3 tq51
abbrev tq56:AT:=.pick (.alt 3 tq52 (.alt 8 tq55 .none))
abbrev tq57:AT:=.pick (.alt 3 tq53 (.alt 6 tq55 .none))
abbrev tq58:AT:=.pick (.alt 3 tq54 (.alt 6 tq56 (.alt 8 tq57 .none)))
abbrev tq59:AT:=.pick (.alt 3 (.take 4 tq51) (.alt 4 tq55 .none))
abbrev tq60:AT:=.pick (.alt 3 (.take 4 tq52) (.alt 4 tq56 (.alt 8 tq59 .none)))
abbrev tq61:AT:=.pick (.alt 3 (.take 4 tq53) (.alt 4 tq57 (.alt 6 tq59 .none)))
abbrev tq62:AT:=.pick (.alt 1 tq48 (.alt 9 (.take 1 tq47) .none))
abbrev tq63:AT:=.pick (.alt 1 tq49 (.alt 7 tq62 .none))
abbrev tq64:AT:=.pick (.alt 1 tq50 (.alt 7 (.take 8 tq62) (.alt 8 tq63 .none)))
abbrev tq65:AT:=.pick (.alt 1 tq51 (.alt 5 tq63 .none))
abbrev tq66:AT:=.pick (.alt 1 tq52 (.alt 5 tq64 (.alt 8 tq65 .none)))
abbrev tq67:AT:=.pick (.alt 1 tq53 (.alt 5 (.take 6 tq63) (.alt 6 tq65 .none)))
abbrev tq68:AT:=.pick (.alt 1 tq54 (.alt 5 (.take 6 tq64) (.alt 6 tq66 (.alt 8 tq67 .none))))
abbrev tq69:AT:=.pick (.alt 1 tq55 (.alt 3 tq65 .none))
abbrev tq70:AT:=.pick (.alt 1 tq56 (.alt 3 tq66 (.alt 8 tq69 .none)))
abbrev tq71:AT:=.pick (.alt 1 tq57 (.alt 3 tq67 (.alt 6 tq69 .none)))
abbrev tq72:AT:=.pick (.alt 1 tq59 (.alt 3 (.take 4 tq65) (.alt 4 tq69 .none)))
abbrev tq73:AT:=.take 8 .done
abbrev tq74:AT:=.take 5 (.take 6 tq73)
abbrev tq75:AT:=.pick (.alt 5 (.take 6 (.take 7 tq73)) (.alt 7 tq74 .none))
abbrev tq76:AT:=.take 3 tq74
abbrev tq77:AT:=.pick (.alt 3 tq75 (.alt 7 tq76 .none))
abbrev tq78:AT:=.pick (.alt 3 (.take 4 tq74) (.alt 4 tq76 .none))
abbrev tq79:AT:=.pick (.alt 3 (.take 4 tq75) (.alt 4 tq77 (.alt 7 tq78 .none)))
abbrev tq80:AT:=.take 1 tq76
abbrev tq81:AT:=.pick (.alt 1 tq77 (.alt 7 tq80 .none))
abbrev tq82:AT:=.pick (.alt 1 tq78 (.alt 4 tq80 .none))
abbrev tq83:AT:=.pick (.alt 1 (.take 2 tq76) (.alt 2 tq80 .none))
abbrev tq84:AT:=.take 12 tq5
abbrev tq85:AT:=.pick (.alt 12 tq6 (.alt 13 tq84 .none))
abbrev tq86:AT:=.take 11 tq4
abbrev tq87:AT:=.pick (.alt 11 tq5 (.alt 14 tq86 .none))
abbrev tq88:AT:=.pick (.alt 11 tq6 (.alt 13 tq87 .none))
abbrev tq89:AT:=.pick (.alt 11 tq84 (.alt 12 tq87 .none))
abbrev tq90:AT:=.pick (.alt 11 tq85 (.alt 12 tq88 (.alt 13 tq89 .none)))
abbrev tq91:AT:=.take 9 (.take 10 tq86)
abbrev tq92:AT:=.pick (.alt 9 (.take 10 tq87) (.alt 14 tq91 .none))
abbrev tq93:AT:=.pick (.alt 9 (.take 10 tq88) (.alt 13 tq92 .none))
abbrev tq94:AT:=.pick (.alt 9 (.take 10 tq89) (.alt 12 tq92 .none))
abbrev tq95:AT:=.pick (.alt 9 (.take 10 tq90) (.alt 12 tq93 (.alt 13 tq94 .none)))
abbrev tq96:AT:=.pick (.alt 6 (.take 7 (.take 8 tq92)) (.alt 14 (.take 6 (.take 7 (.take 8 tq91))) .none))
abbrev tq97:AT:=.pick (.alt 6 (.take 7 (.take 8 tq93)) (.alt 13 tq96 .none))
abbrev tq98:AT:=.pick (.alt 6 (.take 7 (.take 8 tq94)) (.alt 12 tq96 .none))
abbrev tq99:AT:=.take 5 tq5
abbrev tq100:AT:=.pick (.alt 5 tq6 (.alt 13 tq99 .none))
abbrev tq101:AT:=.pick (.alt 5 tq84 (.alt 12 tq99 .none))
abbrev tq102:AT:=.pick (.alt 5 tq87 (.alt 11 tq99 .none))
abbrev tq103:AT:=.pick (.alt 5 tq88 (.alt 11 tq100 (.alt 13 tq102 .none)))
abbrev tq104:AT:=.pick (.alt 5 tq89 (.alt 11 tq101 (.alt 12 tq102 .none)))
abbrev tq105:AT:=.pick (.alt 5 tq92 (.alt 9 (.take 10 tq102) .none))
abbrev tq106:AT:=.pick (.alt 5 tq93 (.alt 9 (.take 10 tq103) (.alt 13 tq105 .none)))
abbrev tq107:AT:=.pick (.alt 5 tq94 (.alt 9 (.take 10 tq104) (.alt 12 tq105 .none)))
abbrev tq108:AT:=.pick (.alt 5 tq96 (.alt 6 (.take 7 (.take 8 tq105)) .none))
abbrev tq109:AT:=.take 7 .done
abbrev tq110:AT:=.take 6 tq109
abbrev tq111:AT:=.take 5 tq110
abbrev tq112:AT:=.take 0 (.take 1 (.take 3 (.take 4 (.take 2 tq111))))
abbrev tq113:AT:=.take 17 .done
abbrev tq114:AT:=.take 14 (.take 15 (.take 16 tq113))
abbrev tq115:AT:=.take 13 tq114
abbrev tq116:AT:=.take 7 (.take 8 tq114)
abbrev tq117:AT:=.take 4 tq110
abbrev tq118:AT:=.pick (.alt 3 tq110 (.alt 6 (.take 3 tq109) .none))
abbrev tq119:AT:=.take 16 .done
abbrev tq120:AT:=.take 14 (.take 15 tq119)
abbrev tq121:AT:=.take 14 tq119
abbrev tq122:AT:=.take 11 (.take 12 (.take 13 tq121))
abbrev tq123:AT:=.take 4 (.take 5 (.take 6 .done))
abbrev tq124:AT:=.take 11 tq45
abbrev tq125:AT:=.take 10 (.pick (.alt 11 tq46 (.alt 12 tq124 .none)))
abbrev tq126:AT:=.take 10 tq46
abbrev tq127:AT:=.take 10 tq45
abbrev tq128:AT:=.take 10 tq44
abbrev tq129:AT:=.take 8 (.take 9 tq128)
abbrev tq130:AT:=.pick (.alt 8 (.take 9 tq127) (.alt 13 tq129 .none))
abbrev tq131:AT:=.pick (.alt 8 (.take 9 tq126) (.alt 12 tq130 .none))
abbrev tq132:AT:=.take 10 tq124
abbrev tq133:AT:=.pick (.alt 8 (.take 9 tq132) (.alt 11 tq130 .none))
abbrev tq134:AT:=.pick (.alt 6 tq127 (.alt 13 (.take 6 tq128) .none))
abbrev tq135:AT:=.pick (.alt 6 tq126 (.alt 12 tq134 .none))
abbrev tq136:AT:=.pick (.alt 6 tq132 (.alt 11 tq134 .none))
abbrev tq137:AT:=.pick (.alt 6 tq130 (.alt 8 (.take 9 tq134) (.alt 13 (.take 6 tq129) .none)))
abbrev tq138:AT:=.take 3 .done
abbrev tq139:AT:=.take 11 (.take 12 .done)
abbrev tq140:AT:=.take 12 tq44
abbrev tq141:AT:=.take 11 tq140
abbrev tq142:AT:=.pick (.alt 11 tq46 (.alt 13 tq141 .none))
abbrev tq143:AT:=.take 7 tq140
abbrev tq144:AT:=.pick (.alt 7 tq46 (.alt 13 tq143 .none))
abbrev tq145:AT:=.pick (.alt 7 tq141 (.alt 11 tq143 .none))
abbrev tq146:AT:=.take 3 tq140
abbrev tq147:AT:=.pick (.alt 3 tq46 (.alt 13 tq146 .none))
abbrev tq148:AT:=.pick (.alt 3 tq141 (.alt 11 tq146 .none))
abbrev tq149:AT:=.pick (.alt 3 tq143 (.alt 7 tq146 .none))
abbrev tq150:AT:=.take 18 (.take 19 .done)
abbrev zl0:List D:=[xz,xz,xz,.own 130 5 [],.own 131 4 [],.own 3 1 [],.own 135 3 [],.own 137 4 []]
abbrev zl1:List D:=[xz,xz,xz,.own 130 5 [],.own 88 4 [],.own 3 1 [],.own 246 3 [],.own 247 4 []]
abbrev zl2:List D:=[xz,xz,xz,.nil 130 5,.nil 88 4,.nil 3 1,.nil 246 3,.nil 247 4]
abbrev zl3:List D:=[xz,xz,xz,xz,.own 3 1 [],.own 171 3 [],.own 58 3 [],.own 74 8 [],.own 76 2 [],.own 3 1 [],.own 47 1 [],.own 47 1 [],.own 5 1 []]
abbrev zl4:List D:=[xz,xz,xz,xz,.v (.int .u64 0),.v (.int .u64 0),xz,.v (.int .u64 0)]
abbrev zl5:List D:=[.own 3 1 [],xz,xz,.own 368 8 [],.own 84 4 []]
abbrev zl6:List D:=[xz,xz,.own 368 8 [],.own 84 4 []]
abbrev zl7:List D:=[xz,xz]
abbrev zl8:List D:=[xz,xz,xz,xz]
abbrev zl9:List D:=[xz,xz,xz]
abbrev zl10:List D:=[.v (.int .u64 0),.v (.bool false)]
abbrev zl11:List D:=[xz,xz,xz,xz,.nil 3 1,.nil 171 3,.nil 58 3,.nil 74 8,.nil 76 2,.nil 3 1,.nil 47 1,.nil 47 1,.nil 5 1]
abbrev zl12:List D:=[.own 47 1 [],.own 47 1 [],.own 5 1 []]
abbrev zl13:List D:=[xz,xz,.nil 368 8,.nil 84 4]
abbrev zl14:List D:=[.nil 3 1,xz,xz,.nil 368 8,.nil 84 4]
abbrev zl15:List D:=[xz,xz,xz,xz,.v (.bool false),.v (.bool false),.v (.bool false),.v (.bool false)]
abbrev zl16:List D:=[xz,xz,xz,.v (.bool false)]
abbrev zl17:List D:=[.own 3 1 [],.own 171 3 [],.own 58 3 []]
attribute [simp] xz xt xu xi xj xf xy xo xp xg xm xn xv xw xc x0 x1 x2 x3 xb xB xC xl xL xe xa xA xI xO xN xT xZ xs xx xG xH xF xr xq xV xW xD xS xQ xE tq0 tq1 tq2 tq3 tq4 tq5 tq6 tq7 tq8 tq9 tq10 tq11 tq12 tq13 tq14 tq15 tq16 tq17 tq18 tq19 tq20 tq21 tq22 tq23 tq24 tq25 tq26 tq27 tq28 tq29 tq30 tq31 tq32 tq33 tq34 tq35 tq36 tq37 tq38 tq39 tq40 tq41 tq42 tq43 tq44 tq45 tq46 tq47 tq48 tq49 tq50 tq51 tq52 tq53 tq54 tq55 tq56 tq57 tq58 tq59 tq60 tq61 tq62 tq63 tq64 tq65 tq66 tq67 tq68 tq69 tq70 tq71 tq72 tq73 tq74 tq75 tq76 tq77 tq78 tq79 tq80 tq81 tq82 tq83 tq84 tq85 tq86 tq87 tq88 tq89 tq90 tq91 tq92 tq93 tq94 tq95 tq96 tq97 tq98 tq99 tq100 tq101 tq102 tq103 tq104 tq105 tq106 tq107 tq108 tq109 tq110 tq111 tq112 tq113 tq114 tq115 tq116 tq117 tq118 tq119 tq120 tq121 tq122 tq123 tq124 tq125 tq126 tq127 tq128 tq129 tq130 tq131 tq132 tq133 tq134 tq135 tq136 tq137 tq138 tq139 tq140 tq141 tq142 tq143 tq144 tq145 tq146 tq147 tq148 tq149 tq150 zl0 zl1 zl2 zl3 zl4 zl5 zl6 zl7 zl8 zl9 zl10 zl11 zl12 zl13 zl14 zl15 zl16 zl17
def AL (k:IntKind) (xs:List Int):V:= .list (xs.map (.int k))
def le8 (bs:List Int):Int:=bs.foldr (λb w=>256*w+b) 0
def BH (bs:List Int):List Int:=(List.range ((bs.length+7)/8)).map λk=>le8 ((bs.drop (8*k)).take 8)
theorem AJ {a:Int} (h1: -9223372036854775808≤a:=by omega) (h2:a <9223372036854775808:=by omega):IntKind.i64.wrap a=a:=by
 unfold IntKind.wrap;simp only[IntKind.bits,IntKind.signed];have e1:((2:Int)^64)=18446744073709551616:=by decide
 have e2:((2:Int)^(64-1))=9223372036854775808:=by decide
 simp only[e1,e2,AUh,decide_eq_true_eq,ge_iff_le];split<;>omega
theorem Bm {a:Int} (h1:0≤a) (h2:a <18446744073709551616):IntKind.u64.wrap a=a:=by
 unfold IntKind.wrap;simp only[IntKind.bits,IntKind.signed];have e1:((2:Int)^64)=18446744073709551616:=by decide
 simp only[e1,AV5,AUF,if_false];omega
theorem TQ {a b:Nat} (h:a≤b):(256:Int)^a≤256^b:=by
 have:=AV6 (n:=256) (by decide) h;have h2:((256^a:Nat):Int)≤((256^b:Nat):Int):=Int.ofNat_le.2 this;rw[AWS,AWS]at h2;exact h2
theorem LY:∀(l:List Int),(∀b∈l,0≤b∧b <256)→0≤le8 l∧le8 l <256^l.length
 |[],_=>by simp[le8]
 |b::l,h=>by
  obtain⟨h1,h2⟩:=LY l λx hx=>h x (by simp[hx]);obtain⟨h3,h4⟩:=h b (by simp);have e:le8 (b::l)=256*le8 l+b:=rfl;rw[e,AUO,AU2];omega
theorem OR (bs:List Int) (hb:∀b∈bs,0≤b∧b <256) (a j:Nat) (hj:j≤8):0≤le8 ((bs.drop a).take j)∧le8 ((bs.drop a).take j) <256^j:=by
 obtain⟨h1,h2⟩:=LY ((bs.drop a).take j) λb h=>hb b (AVk (AUi h));refine⟨h1,Int.lt_of_lt_of_le h2 ?_⟩;exact TQ (by simp;omega)
def AED (a b:Int):Int:=IntKind.u64.wrap ((a%2^IntKind.u64.bits).toNat ^^^ (b%2^IntKind.u64.bits).toNat:Nat)
def Fv (a b:Int):Int:=AED (IntKind.u64.wrap (AED a b*11400714819323198485)) (IntKind.u64.wrap (AED a b*11400714819323198485)/4294967296)
def i64 (n:Int):Prop:= -9223372036854775808≤n∧n <9223372036854775808
def u64 (n:Int):Prop:=0≤n∧n <18446744073709551616
def DQ:Nat→Int→List Int
 |0,n=>[n]
 |k+1,n=>if n <128 then [n] else (128+n%128)::DQ k (n/128)
def HB (n:Int):List Int:=DQ 9 n
def IW (n:Int):Int:=if n <0 then 2*(-(n+1))+1 else 2*n
def Af (n:Int):List Int:=HB (IW n)
def BN (b:List Int):List Int:=HB b.length++b
def BJ (l:List Int):List Int:=HB l.length++l.flatMap Af
theorem HX {n:Int} (h:i64 n):u64 (IW n):=by
 unfold IW u64;unfold i64 at h;split<;>omega
theorem IX:∀(k:Nat) (n:Int),(DQ k n).length≤k+1
 |0,n=>by simp[DQ]
 |k+1,n=>by
  simp only[DQ];split
  ·simp
  ·have:=IX k (n/128);simp;omega
theorem DP (n:Int):(HB n).length≤10:=IX 9 n
theorem Am (n:Int):(Af n).length≤10:=DP _
theorem Ce:∀l:List Int,(l.flatMap Af).length≤10*l.length
 |[]=>by simp
 |x::l=>by
  have:=Am x;have:=Ce l;simp only[AUN,AT5,AUO];omega
def wr (xs:List Int):Row:= .cells [.own 5 1 (xs.map (.int .u8))]
theorem uT {a:Int} (h1:0≤a) (h2:a <256):IntKind.u8.wrap a=a:=by
 unfold IntKind.wrap;simp only[IntKind.bits,IntKind.signed];have e1:((2:Int)^8)=256:=by decide
 simp only[e1,AV5,AUF,if_false];omega
theorem F0 (a:Int):IntKind.u8.wrap a=a%256:=by
 unfold IntKind.wrap;simp only[IntKind.bits,IntKind.signed];have e1:((2:Int)^8)=256:=by decide
 simp only[e1,AV5,AUF,if_false]
theorem FA (a:Int):IntKind.u64.wrap a=a%18446744073709551616:=by
 unfold IntKind.wrap;simp only[IntKind.bits,IntKind.signed];have e1:((2:Int)^64)=18446744073709551616:=by decide
 simp only[e1,AV5,AUF,if_false]
theorem AJ1 (m:Nat) (h:m <256):m ||| 128=128+m%128:=by
 have key:∀m:Fin 256,m.val ||| 128=128+m.val%128:=by decide+kernel
 exact key ⟨m,h⟩
theorem Nt (m:Nat) (h:m <2^64):m ^^^ (2^64-1)=2^64-1-m:=by
 rw[Nat.xor_comm];apply Nat.eq_of_testBit_eq;intro i;rw[Nat.testBit_xor,Nat.testBit_two_pow_sub_one];have:(2^64-1-m)=2^64-(m+1):=by omega
 rw[this,Nat.testBit_two_pow_sub_succ h];cases hb:m.testBit i<;>by_cases hi:i <64<;>simp[hi]
 rw[Nat.testBit_lt_two_pow (AVz h (AV6 (by decide) (by omega)))]at hb;cases hb
open Go.Proofs Go.Shelf Go.Maps
def rnK:Ren:=⟨λ|8=>298|10=>300|11=>326|n=>n,λ|0=>0|4=>4|23=>138|24=>22|26=>3|28=>352|33=>248|3=>62|n=>n,λn=>n⟩
theorem ARH:SlLaysZI.n8 Tryz.prog rnK where
 mixed:=by kernel_rfl
 f8:=⟨Tryz.f298.name,by kernel_rfl,Tryz.func298.trans (congrArg some (by kernel_rfl))⟩
 f11:=⟨Tryz.f326.name,by kernel_rfl,Tryz.func326.trans (congrArg some (by kernel_rfl))⟩
 t0:=Tryz.underlying0
 a0:=Tryz.isAgg0
 z0:=Tryz.sizeOf0
 v0:=Tryz.zeroValue0
 t24:=Tryz.underlying22
 a24:=Tryz.isAgg22
 z24:=Tryz.sizeOf22
 v24:=Tryz.zeroValue22
 t26:=Tryz.underlying3
 a26:=Tryz.isAgg3
 z26:=Tryz.sizeOf3
 v26:=Tryz.zeroValue3
 t28:=Tryz.underlying352
 a28:=Tryz.isAgg352
 z28:=Tryz.sizeOf352
 v28:=Tryz.zeroValue352
 i26:=by kernel_rfl
theorem yK:SlLaysZI.n10 Tryz.prog rnK where
 mixed:=by kernel_rfl
 f10:=⟨Tryz.f300.name,by kernel_rfl,Tryz.func300.trans (congrArg some (by kernel_rfl))⟩
 t0:=Tryz.underlying0
 a0:=Tryz.isAgg0
 z0:=Tryz.sizeOf0
 v0:=Tryz.zeroValue0
 t4:=Tryz.underlying4
 a4:=Tryz.isAgg4
 z4:=Tryz.sizeOf4
 v4:=Tryz.zeroValue4
 t23:=Tryz.underlying138
 a23:=Tryz.isAgg138
 z23:=Tryz.sizeOf138
 v23:=Tryz.zeroValue138
 t26:=Tryz.underlying3
 a26:=Tryz.isAgg3
 z26:=Tryz.sizeOf3
 v26:=Tryz.zeroValue3
 t33:=Tryz.underlying248
 a33:=Tryz.isAgg248
 z33:=Tryz.sizeOf248
 v33:=Tryz.zeroValue248
def RK:Value→Option (DataW Unit×List MemPlace):=λ_=>some (.nil,[])
theorem AJY {h:List Row} {r m:Nat} {es:List (V×V)} {st:List Nat} {ck:Nat} {ks:List Int}
  (hr:h[r]?=some (.cells [.mref m])) (hm:h[m]?=some (.map es st ck)) (he:es.map (·.1)=ks.map (.int .i64)) (h1:ks.length≤1) (hw:∀k∈ks,i64 k):
  FX 298 [.func 300 [.ref r 0]] h [.own 3 1 (ks.map (.int .i64))] h:=by
 refine⟨by kernel_rfl,λg w μ us O hinv hgl hall htame=>?_⟩;obtain⟨hlen,Bc⟩:=hall;obtain⟨u,rfl⟩:∃u,us=[u]:=by
  match us,hlen with
  |[u],_=>exact⟨u,rfl⟩
 have hu:RepE g w μ (.func 300 [.ref r 0]) u:=Bc 0 _ u rfl rfl;obtain⟨vs,rfl,hvs⟩:=hu;obtain⟨c,rfl⟩:∃c,vs=[c]:=by
  match vs,hvs.1 with
  |[c],_=>exact⟨c,rfl⟩
 have hc:RepC g μ (.ref r 0) c:=hvs.2 0 _ c rfl rfl;obtain⟨br,hbr,rfl⟩:=hc;obtain⟨rs,T,hb,ha,h1c,hno⟩:=hinv.rows r _ br hr hbr;obtain⟨x,rfl⟩:∃x,rs=[x]:=by
  match rs,ha.1 with
  |[x],_=>exact⟨x,rfl⟩
 have hx:RepE g w μ (.mref m) x:=ha.2 0 _ x rfl rfl;obtain⟨bm,hbm,rfl⟩:=hx;obtain⟨ents,hmb,hst,hborn,hal,hno2⟩:=hinv.rows m _ bm hm hbm;have hel:ents.toList.length=ks.length:=by
  have e1:=congrArg List.length he;simp only[AUM]at e1;rw[hal.1,e1]
 have hkey:∀(i:Nat) (y:MapEntry),ents.toList[i]?=some y→∃k,ks[i]?=some k∧y.key= .int .i64 k:=by
  intro i y hy;have hi:i <ents.toList.length:=(AT4.1 hy).1;obtain⟨kv,hkv⟩:∃kv,es[i]?=some kv:=⟨_,AT2 (by rw[←hal.1];exact hi)⟩;have h2:=(hal.2 i kv y hkv hy).1;have h3:(es.map (·.1))[i]?=some kv.1:=by simp[hkv]
  rw[he]at h3;simp only[AUG,AUA]at h3;obtain⟨k,hk,hk2⟩:=h3;refine⟨k,hk,?_⟩;rw[←hk2]at h2;generalize y.key=yk at h2 ⊢;cases h2;rfl
 have hkl:∀k∈ks,keyOf Tryz.prog 3 (.int .i64 k)=some (.int .i64 k):=by
  intro k hk;have h2:=hw k hk;simp only[i64]at h2;have h3:(Lit.int .i64 k).wf=true:=by
   simp only[Lit.wf,AT1,decide_eq_true_eq,IntKind.min,IntKind.max,IntKind.signed,IntKind.bits];simp;omega
  simp[keyOf,mapKey,Tryz.underlying3,h3]
 have hrd:∀(i:Nat) (y:MapEntry),ents.toList[i]?=some y→∃k,ks[i]?=some k∧Go.WideElems.rd Tryz.prog 3 RK y=some (.int .i64 k,.nil):=by
  intro i y hy;obtain⟨k,hk,hy2⟩:=hkey i y hy;refine⟨k,hk,?_⟩;simp[Go.WideElems.rd,hy2,hkl k (AT3 hk),RK]
 have hown:w.ownsMap Tryz.prog 3 RK bm 1 (.map ((ents.toList.map (Go.WideElems.rg Tryz.prog 3 RK)).foldr DataW.insert [])):=by
  refine⟨ents,ck,hmb,⟨?_,hst,?_⟩,?_,rfl⟩
  ·have:ents.size≤1:=by rw[←AV1,hel];exact h1
   exact AUk this (by decide)
  ·intro y hy;obtain⟨i,hi⟩:=AVW.1 hy;obtain⟨k,_,hk⟩:=hrd i y hi;exact⟨_,hk⟩
  ·rw[←AV1,hel];exact h1
 have hik:intKeys (.map ((ents.toList.map (Go.WideElems.rg Tryz.prog 3 RK)).foldr DataW.insert []):DataW Unit)=ks∧Maps.size (.map ((ents.toList.map (Go.WideElems.rg Tryz.prog 3 RK)).foldr DataW.insert []):DataW Unit)=ks.length:=by
  generalize ents.toList=el at hel hrd
  match ks,el,h1,hel with
  |[],[],_,_=>exact⟨rfl,rfl⟩
  |[k],[y],_,_=>
   obtain⟨k',hk',hk⟩:=hrd 0 y rfl;simp at hk';subst hk';simp[Go.WideElems.rg,hk,intKeys,Maps.size,DataW.insert,intOf]
 have hlt:br <w.heap.size:=BC hb;have hseq:=AnyZI.keys_gives yK Fence.wide 2 trivial rfl (by omega) br bm 1 _ w hlt (by simp[World.cell?,hb]) hown;have cS:=AnyZI.collect_in ARH Fence.wide 4 trivial trivial rfl (by omega) 300 #[.pointer (some ⟨br,0,none⟩)] trivial (enters_of Tryz.func300 (by kernel_rfl) rfl) _ _ (by rw[hik.2];exact AUk h1 (by decide)) (by rw[hik.2];omega) w hseq;refine(callsIn_wide.1 cS).mono ?_;rintro e w' ⟨v,ss,rfl,hS,hrow,hnil,hbel⟩;rw[hik.1]at hS;have hss:ss=ks:=by
  match ks,h1 with
  |[],_=>exact List.perm_nil.1 hS
  |[k],_=>exact List.perm_singleton.1 hS
 subst hss;rcases hrow with ⟨hl2,⟨rfl,hz⟩|⟨gb,cap,cur,rfl,hbase,hgb,r1,r2,r3,r4⟩⟩
 ·obtain rfl:ss=[]:=AUg hz;have hc:Chg (λ_=>False) g w g w':=⟨Gh.le.refl g,hbel.size,λb hb _=>hbel.block b hb,λb hb _ o=>rfl,hbel.os,hbel.output⟩;have hag:∀b o v,g.m b o=some v→w'.cell? ⟨b,o,none⟩=some v:=by
   intro b o v hv;have h2:=hinv.agree b o v hv;have h3:b <w.heap.size:=by
    rcases AUS b w.heap.size with h'|h'
    ·exact h'
    ·simp[World.cell?,AVP h']at h2
   rw[World.cell?_of_block (a:=⟨b,o,none⟩) (hbel.block b h3)];exact h2
  exact⟨_,g,μ,rfl,hinv.newOwn (d:=0) hc hag (.inl ⟨none,rfl,rfl,by simp⟩) (by simp[AZ]),hc.mono λ_ h=>h.elim,AT8 _⟩
 ·obtain⟨k,rfl⟩:∃k,ss=[k]:=by
   match ss,h1 with
   |[k],_=>exact⟨k,rfl⟩
   |[],_=>simp at hnil
  have hnone:∀b,w.heap.size≤b→∀o,g.m b o=none:=by
   intro b hb2 o;cases h4:g.m b o with
   |none=>rfl
   |some v=>
    have h2:=hinv.agree b o v h4;simp[World.cell?,AVP hb2]at h2
  let g':Gh:=⟨λb o=>if b=gb then (if o=0 then some (.int .i64 k) else none) else g.m b o⟩
  have hc:Chg (λ_=>False) g w g' w':=by
   refine⟨λb o v hv=>?_,hbel.size,λb hb _=>hbel.block b hb,λb hb _ o=>?_,hbel.os,hbel.output⟩
   ·by_cases hbg:b=gb
    ·subst hbg;rw[hnone b hbase]at hv;cases hv
    ·simpa[g',hbg]using hv
   ·have hbg:b≠gb:=by omega
    simp[g',hbg]
  have hcur:cur[0]?=some (.int .i64 k):=by
   have h2:(cur.toList.take 1)[0]?=some (.int .i64 k):=by
    simp only[AWK,Nat.mul_one]at r4;rw[r4];rfl
   rw[List.getElem?_take_of_lt (by omega)]at h2;rw[←AUl];exact h2
  have hag:∀b o v,g'.m b o=some v→w'.cell? ⟨b,o,none⟩=some v:=by
   intro b o v hv;by_cases hbg:b=gb
   ·subst hbg;simp only[g',if_true]at hv;split at hv
    ·rename_i ho;subst ho;simp only[AT0]at hv;subst hv;simp[World.cell?,hgb,hcur]
    ·cases hv
   ·simp only[g',hbg,if_false]at hv;have h2:=hinv.agree b o v hv;have h3:b <w.heap.size:=by
     rcases AUS b w.heap.size with h'|h'
     ·exact h'
     ·simp[World.cell?,AVP h']at h2
    rw[World.cell?_of_block (a:=⟨b,o,none⟩) (hbel.block b h3)];exact h2
  have hcap:0 <cap:=by
   have:1≤cap:=by simpa using r1
   omega
  refine⟨_,g',μ,rfl,hinv.newOwn (d:=0) hc hag (.inr ⟨gb,cap,cur,λ_=> .int .i64 k,rfl,hcap,hgb,by simpa using r1,by simpa using r3,?_,?_,?_⟩) ?_,hc.mono λ_ h=>h.elim,AT8 _⟩
  ·intro i x hx
   match i with
   |0=>simp at hx;subst hx;exact .int _ _
   |i+1=>simp at hx
  ·intro i hi;obtain rfl:i=0:=by simpa using hi
   refine⟨rfl,λj v hv=>?_⟩
   match j with
   |0=>simp[Value.cells]at hv;subst hv;simp[g']
   |j+1=>simp[Value.cells]at hv
  ·intro o ho;have:o≠0:=by simp at ho;omega
   simp[g',this]
  ·intro b hb2;simp only[AZ]at hb2;split at hb2
   ·cases hb2
   ·simp only[AT0]at hb2;rw[←hb2];exact hbase
mutual
def V.beq:V→V→Bool
 | .int k n,.int k' n'=>decide (k=k')&&decide (n=n')
 | .bool b,.bool b'=>b==b'
 | .str s,.str s'=>decide (s=s')
 | .list xs,.list ys=>V.beqs xs ys
 | .agg xs,.agg ys=>V.beqs xs ys
 | .ptr xs,.ptr ys=>V.beqs xs ys
 | .nilp,.nilp=>true
 | .func f cs,.func g ds=>f==g&&V.beqs cs ds
 | .nilf,.nilf=>true
 | .nilm,.nilm=>true
 |_,_=>false
def V.beqs:List V→List V→Bool
 |[],[]=>true
 |x::xs,y::ys=>V.beq x y&&V.beqs xs ys
 |_,_=>false
end
mutual
theorem V.beq_eq:∀ {x y:V},V.beq x y=true→x=y
 | .int k n,y,h=>by cases y<;>simp_all [V.beq]
 | .bool b,y,h=>by cases y<;>simp_all [V.beq]
 | .str s,y,h=>by cases y<;>simp_all [V.beq]
 | .list xs,y,h=>by cases y<;>simp only[V.beq,AUF]at h;rw[V.beqs_eq h]
 | .agg xs,y,h=>by cases y<;>simp only[V.beq,AUF]at h;rw[V.beqs_eq h]
 | .ptr xs,y,h=>by cases y<;>simp only[V.beq,AUF]at h;rw[V.beqs_eq h]
 | .nilp,y,h=>by cases y<;>simp_all [V.beq]
 | .func f cs,y,h=>by
  cases y<;>simp only[V.beq,AUF,AT1,beq_iff_eq]at h
  rw[h.1,V.beqs_eq h.2]
 | .nilf,y,h=>by cases y<;>simp_all [V.beq]
 | .nilm,y,h=>by cases y<;>simp_all [V.beq]
theorem V.beqs_eq:∀ {xs ys:List V},V.beqs xs ys=true→xs=ys
 |[],ys,h=>by cases ys<;>simp_all [V.beqs]
 |x::xs,ys,h=>by
  cases ys with
  |nil=>simp[V.beqs]at h
  |cons y ys=>
   simp only[V.beqs,AT1]at h;rw[V.beq_eq h.1,V.beqs_eq h.2]
end
mutual
def D.beq:D→D→Bool
 | .v x,.v y=>V.beq x y
 | .any,.any=>true
 | .nil e s,.nil e' s'=>e==e'&&s==s'
 | .own e s xs,.own e' s' ys=>e==e'&&s==s'&&V.beqs xs ys
 | .agg ds,.agg es=>D.beqs ds es
 | .tup ds,.tup es=>D.beqs ds es
 | .ref r o,.ref r' o'=>r==r'&&o==o'
 | .sref r n,.sref r' n'=>r==r'&&n==n'
 | .mref r,.mref r'=>r==r'
 | .func f cs,.func g ds=>f==g&&D.beqs cs ds
 | .meth f cs,.meth g ds=>f==g&&D.beqs cs ds
 | .yld r,.yld r'=>r==r'
 |_,_=>false
def D.beqs:List D→List D→Bool
 |[],[]=>true
 |x::xs,y::ys=>D.beq x y&&D.beqs xs ys
 |_,_=>false
end
mutual
theorem D.beq_eq:∀ {x y:D},D.beq x y=true→x=y
 | .v x,y,h=>by cases y<;>simp only[D.beq,AUF]at h;rw[V.beq_eq h]
 | .any,y,h=>by cases y<;>simp_all [D.beq]
 | .nil e s,y,h=>by cases y<;>simp_all [D.beq]
 | .own e s xs,y,h=>by
  cases y<;>simp only[D.beq,AUF,AT1,beq_iff_eq]at h
  rw[h.1.1,h.1.2,V.beqs_eq h.2]
 | .agg ds,y,h=>by cases y<;>simp only[D.beq,AUF]at h;rw[D.beqs_eq h]
 | .tup ds,y,h=>by cases y<;>simp only[D.beq,AUF]at h;rw[D.beqs_eq h]
 | .ref r o,y,h=>by cases y<;>simp_all [D.beq]
 | .sref r n,y,h=>by cases y<;>simp_all [D.beq]
 | .mref r,y,h=>by cases y<;>simp_all [D.beq]
 | .func f cs,y,h=>by
  cases y<;>simp only[D.beq,AUF,AT1,beq_iff_eq]at h
  rw[h.1,D.beqs_eq h.2]
 | .meth f cs,y,h=>by
  cases y<;>simp only[D.beq,AUF,AT1,beq_iff_eq]at h
  rw[h.1,D.beqs_eq h.2]
 | .yld r,y,h=>by cases y<;>simp_all [D.beq]
 | .pend b e s xs,y,h=>by simp[D.beq]at h
 | .pptr b s n,y,h=>by simp[D.beq]at h
theorem D.beqs_eq:∀ {xs ys:List D},D.beqs xs ys=true→xs=ys
 |[],ys,h=>by cases ys<;>simp_all [D.beqs]
 |x::xs,ys,h=>by
  cases ys with
  |nil=>simp[D.beqs]at h
  |cons y ys=>
   simp only[D.beqs,AT1]at h;rw[D.beq_eq h.1,D.beqs_eq h.2]
end
def Jh {α:Type} (f:α→α→Bool):List α→List α→Bool
 |[],[]=>true
 |x::xs,y::ys=>f x y&&Jh f xs ys
 |_,_=>false
theorem Jx {α:Type} {f:α→α→Bool} (hf:∀x y,f x y=true→x=y):∀ {xs ys:List α},Jh f xs ys=true→xs=ys
 |[],ys,h=>by cases ys<;>simp_all [Jh]
 |x::xs,ys,h=>by
  cases ys with
  |nil=>simp[Jh]at h
  |cons y ys=>
   simp only[Jh,AT1]at h;rw[hf _ _ h.1,Jx hf h.2]
def Row.beq:Row→Row→Bool
 | .cells ds,.cells es=>D.beqs ds es
 | .map es bs ck,.map fs cs dk=>Jh (λp q=>V.beq p.1 q.1&&V.beq p.2 q.2) es fs&&Jh (λa b:Nat=>a==b) bs cs&&ck==dk
 | .dead,.dead=>true
 |_,_=>false
theorem Row.beq_eq {x y:Row} (h:Row.beq x y=true):x=y:=by
 cases x<;>cases y<;>simp only[Row.beq,AUF]at h
 ·rw[D.beqs_eq h]
 ·simp only[AT1,beq_iff_eq]at h;rw[Jx (λp q h=>by
   simp only[AT1]at h;exact AVK (V.beq_eq h.1) (V.beq_eq h.2)) h.1.1,Jx (λa b h=>by simpa using h) h.1.2,h.2]
 ·rfl
mutual
def D.lt (n:Nat):D→Bool
 | .ref r _=>decide (r <n)
 | .sref r _=>decide (r <n)
 | .mref r=>decide (r <n)
 | .yld r=>decide (r <n)
 | .agg ds=>D.lts n ds
 | .tup ds=>D.lts n ds
 | .func _ ds=>D.lts n ds
 | .meth _ ds=>D.lts n ds
 |_=>true
def D.lts (n:Nat):List D→Bool
 |[]=>true
 |d::ds=>D.lt n d&&D.lts n ds
end
def Row.lt (n:Nat):Row→Bool
 | .cells ds=>D.lts n ds
 |_=>true
def K9 (n:Nat) (h:List Row):List Row:=h.take n++List.replicate (h.length-n) .dead
theorem OU (n:Nat) (h:List Row):(K9 n h).length=h.length:=by simp[K9];omega
theorem GB (n:Nat) (h:List Row) (r:Nat):(K9 n h)[r]?=if r <n then h[r]? else if r <h.length then some .dead else none:=by
 simp only[K9];by_cases h1:r <n
 ·rw[if_pos h1];by_cases h2:r <h.length
  ·rw[AUQ (by simp;omega),AUV,if_pos h1]
  ·rw[AUW (by simp;omega),AUW (by omega)]
 ·rw[if_neg h1];by_cases h2:r <h.length
  ·rw[if_pos h2,AUa (by simp;omega),List.getElem?_replicate,if_pos (by simp;omega)]
  ·rw[if_neg h2,AUW (by simp;omega)]
theorem Inv.kill {g:Gh} {w:World} {μ:List Nat} {t:Nat→D} {u:Nat→Value} {h:List Row} {O:Nat→Prop} (hi:Inv g w μ t u h O) (n:Nat):Inv g w μ t u (Go.Va.K9 n h) O:=by
 have hcell:∀r k v b,AZ (Av (Go.Va.K9 n h) r k) v=some b→AZ (Av h r k) v=some b:=by
  intro r k v b hb;simp only[Av,GB]at hb ⊢;by_cases h1:r <n
  ·simp only[h1,if_true]at hb;exact hb
  ·simp only[h1,if_false]at hb;by_cases h2:r <h.length
   ·simp[h2,AZ]at hb
   ·simp[h2,AZ]at hb
 have hblk:∀p b,blk t u (Go.Va.K9 n h) w μ p=some b→blk t u h w μ p=some b:=by
  intro p b hp;cases p with
  |tmp m k=>exact hp
  |cell r k=>exact hcell r k _ b hp
 refine⟨hi.agree,hi.olt,hi.rep,by rw[OU];exact hi.len,?_,hi.nod,hi.mo,λp q b hp hq=>hi.uniq p q b (hblk p b hp) (hblk q b hq),λp b hp=>hi.sep p b (hblk p b hp)⟩;intro r row b hr hb;rw[GB]at hr;by_cases h1:r <n
 ·rw[if_pos h1]at hr;exact hi.rows r row b hr hb
 ·rw[if_neg h1]at hr;by_cases h2:r <h.length
  ·rw[if_pos h2]at hr;simp only[AT0]at hr;subst hr;exact(hi.rows r _ b (AT2 h2) hb).lt
  ·rw[if_neg h2]at hr;cases hr
theorem FSp.kill {P:Program} {GL:AX} {f:Nat} {args rets:List D} {h h':List Row} (hf:FSp P GL f args h rets h') (n:Nat):FSp P GL f args h rets (Go.Va.K9 n h'):=by
 refine⟨hf.1,λg w μ us O hinv hgl hall htame=>(hf.2 g w μ us O hinv hgl hall htame).mono ?_⟩;rintro e w' ⟨v,g',μ',rfl,h3,h4⟩;exact⟨v,g',μ',rfl,h3.kill n,h4⟩
structure LD where
 e:Env
 ps:List Nat
 asg:AC
 body:AC
abbrev Lp:=List (Nat×Tag×LD)
def Lp.get:Lp→Nat→Option (Tag×LD)
 |[],_=>none
 |x::t,r=>if x.1=r then some x.2 else Lp.get t r
def Lp.tag:Lp→Nat→Tag→Lp
 |[],_,_=>[]
 |x::t,r,g=>if x.1=r then (r,g,x.2.2)::t else x::Lp.tag t r g
def Tag.beq:Tag→Tag→Bool
 | .ready,.ready=>true
 | .busy,.busy=>true
 | .done none,.done none=>true
 | .done (some i),.done (some j)=>i==j
 |_,_=>false
theorem Tag.beq_eq {x y:Tag} (h:Tag.beq x y=true):x=y:=by
 unfold Tag.beq at h;split at h<;>simp_all
def Lp.beq:Lp→Lp→Bool
 |[],[]=>true
 |x::t,y::u=>x.1==y.1&&Tag.beq x.2.1 y.2.1&&Lp.beq t u
 |_,_=>false
structure ES where
 e:Env
 h:List Row
 t:Lp
section
variable (P:Program) (GL:AX)
def Lp.ins:Lp→List Row→List Row
 |[],h=>h
 |x::t,h=>(Lp.ins t h).set x.1 (An P GL x.2.1 x.2.2.e x.2.2.ps x.2.2.asg x.2.2.body)
end
def Lp.has (t:Lp) (r:Nat):Prop:=r∈t.map (·.1)
structure OKT (t:Lp) (h:List Row):Prop where
 dead:∀r,t.has r→h[r]?=some .dead
 nod:(t.map (·.1)).Nodup
def Lp.kin:Lp→Lp→Prop
 |[],[]=>True
 |x::t,y::u=>x.1=y.1∧x.2.2=y.2.2∧Lp.kin t u
 |_,_=>False
theorem Lp.kin.refl:∀t:Lp,t.kin t
 |[]=>trivial
 |x::t=>⟨rfl,rfl,Lp.kin.refl t⟩
theorem Lp.kin.trans:∀ {a b c:Lp},a.kin b→b.kin c→a.kin c
 |[],[],[],_,_=>trivial
 |x::a,y::b,z::c,h,h'=>⟨h.1.trans h'.1,h.2.1.trans h'.2.1,Lp.kin.trans h.2.2 h'.2.2⟩
 |[],[],_::_,_,h=>h.elim
 |[],_::_,_,h,_=>h.elim
 |_::_,[],_,h,_=>h.elim
 |_::_,_::_,[],_,h=>h.elim
theorem Lp.kin.map:∀ {a b:Lp},a.kin b→a.map (·.1)=b.map (·.1)
 |[],[],_=>rfl
 |x::a,y::b,h=>by simp only[AUD,h.1,Lp.kin.map h.2.2]
 |[],_::_,h=>h.elim
 |_::_,[],h=>h.elim
theorem Lp.kin_tag:∀(t:Lp) (r:Nat) (g:Tag),t.kin (t.tag r g)
 |[],_,_=>trivial
 |x::t,r,g=>by
  simp only[Lp.tag];split
  ·rename_i h;exact⟨h,rfl,Lp.kin.refl t⟩
  ·exact⟨rfl,rfl,Lp.kin_tag t r g⟩
theorem Lp.beq_eq:∀ {a t u:Lp},a.kin t→a.kin u→Lp.beq t u=true→t=u
 |[],[],[],_,_,_=>rfl
 |x::a,y::t,z::u,h,h',hb=>by
  simp only[Lp.beq,AT1,beq_iff_eq]at hb;have h1:=Tag.beq_eq hb.1.2;have h2:=Lp.beq_eq h.2.2 h'.2.2 hb.2;have h3:y=z:=AVK hb.1.1 (AVK h1 (h.2.1.symm.trans h'.2.1));rw[h2,h3]
 |[],[],_::_,_,h,_=>h.elim
 |[],_::_,_,h,_,_=>h.elim
 |_::_,[],_,h,_,_=>h.elim
 |_::_,_::_,[],_,h,_=>h.elim
section
variable {P:Program} {GL:AX}
theorem Ck:∀(t:Lp) (h:List Row),(t.ins P GL h).length=h.length
 |[],h=>rfl
 |x::t,h=>by simp only[Lp.ins,AUt,Ck t h]
theorem MK:∀(t:Lp) {h:List Row} {r:Nat},¬t.has r→(t.ins P GL h)[r]?=h[r]?
 |[],h,r,_=>rfl
 |x::t,h,r,hn=>by
  simp only[Lp.has,AUD,AT7,not_or]at hn;simp only[Lp.ins];rw[AUJ (Ne.symm hn.1)];exact MK t hn.2
theorem Hv:∀(t:Lp) {h:List Row} {r:Nat} {g:Tag} {l:LD},r <h.length→t.get r=some (g,l)→(t.ins P GL h)[r]?=some (An P GL g l.e l.ps l.asg l.body)
 |[],h,r,g,l,_,hg=>by simp[Lp.get]at hg
 |x::t,h,r,g,l,hl,hg=>by
  simp only[Lp.get]at hg;simp only[Lp.ins];by_cases hx:x.1=r
  ·simp only[hx,if_true,AT0]at hg;rw[hx,AUY (by rw[Ck];exact hl),hg]
  ·simp only[hx,if_false]at hg;rw[AUJ hx];exact Hv t hl hg
theorem TR:∀(t:Lp) {h:List Row} {r:Nat} (x:Row),¬t.has r→t.ins P GL (h.set r x)=(t.ins P GL h).set r x
 |[],h,r,x,_=>rfl
 |y::t,h,r,x,hn=>by
  simp only[Lp.has,AUD,AT7,not_or]at hn;simp only[Lp.ins,TR t x hn.2];rw[List.set_comm _ _ hn.1]
theorem KT:∀(t:Lp) {h:List Row} (x:Row),(∀r,t.has r→r <h.length)→t.ins P GL (h++[x])=t.ins P GL h++[x]
 |[],h,x,_=>rfl
 |y::t,h,x,hn=>by
  simp only[Lp.ins];rw[KT t x λr hr=>hn r (by simp only[Lp.has,AUD,AT7];exact .inr hr)];rw[AVc _ _ (by rw[Ck];exact hn y.1 (by simp[Lp.has]))]
theorem GC:∀(t:Lp) {h:List Row} (l:List Row),(∀r,t.has r→r <h.length)→t.ins P GL (h++l)=t.ins P GL h++l
 |[],h,l,_=>rfl
 |y::t,h,l,hn=>by
  simp only[Lp.ins];rw[GC t l λr hr=>hn r (by simp only[Lp.has,AUD,AT7];exact .inr hr)];rw[AVc _ _ (by rw[Ck];exact hn y.1 (by simp[Lp.has]))]
theorem Jp:∀(t:Lp) {r:Nat} {x:Tag×LD},t.get r=some x→t.has r
 |[],r,x,h=>by simp[Lp.get]at h
 |y::t,r,x,h=>by
  simp only[Lp.get]at h;simp only[Lp.has,AUD,AT7];split at h
  ·rename_i hy;exact .inl hy.symm
  ·exact .inr (Jp t h)
theorem MJ:∀(t:Lp) {h:List Row} {r:Nat} {g g':Tag} {l:LD},(t.map (·.1)).Nodup→t.get r=some (g,l)→(t.tag r g').ins P GL h=(t.ins P GL h).set r (An P GL g' l.e l.ps l.asg l.body)
 |[],h,r,g,g',l,_,hg=>by simp[Lp.get]at hg
 |x::t,h,r,g,g',l,hn,hg=>by
  simp only[AUD,AVb]at hn;simp only[Lp.get]at hg;simp only[Lp.tag,Lp.ins];by_cases hx:x.1=r
  ·simp only[hx,if_true,AT0]at hg;simp only[hx,if_true,Lp.ins,AVB,hg]
  ·simp only[hx,if_false]at hg;simp only[hx,if_false,Lp.ins];rw[MJ t hn.2 hg,List.set_comm _ _ (Ne.symm hx)]
theorem MM:∀ {t u:Lp} {r:Nat} {g g':Tag} {l l':LD},t.kin u→t.get r=some (g,l)→u.get r=some (g',l')→l=l'
 |[],[],r,g,g',l,l',_,h,_=>by simp[Lp.get]at h
 |x::t,y::u,r,g,g',l,l',hk,h,h'=>by
  simp only[Lp.get]at h h';by_cases hx:x.1=r
  ·rw[←hk.1]at h';simp only[hx,if_true,AT0]at h h';have:=hk.2.1;rw[h,h']at this;exact this
  ·rw[←hk.1]at h';simp only[hx,if_false]at h h';exact MM hk.2.2 h h'
 |[],_::_,_,_,_,_,_,h,_,_=>h.elim
 |_::_,[],_,_,_,_,_,h,_,_=>h.elim
theorem OKT.nothas {t:Lp} {h:List Row} (hk:OKT t h) {r:Nat} {x:Row} (hr:h[r]?=some x) (hx:x≠ .dead):¬t.has r:=λhh=>by
 rw[hk.dead r hh]at hr;simp only[AT0]at hr;exact hx hr.symm
theorem OKT.get {t:Lp} {h:List Row} (hk:OKT t h) {r:Nat} {x:Row} (hr:h[r]?=some x) (hx:x≠ .dead):(t.ins P GL h)[r]?=some x:=by
 rw[MK t (hk.nothas hr hx)];exact hr
theorem OKT.set {t:Lp} {h:List Row} (hk:OKT t h) {r:Nat} {x y:Row} (hr:h[r]?=some x) (hx:x≠ .dead):OKT t (h.set r y)∧t.ins P GL (h.set r y)=(t.ins P GL h).set r y:=by
 refine⟨⟨λr' hr'=>?_,hk.nod⟩,TR t y (hk.nothas hr hx)⟩;have hne:r≠r':=λhe=>hk.nothas hr hx (he▸hr');rw[AUJ hne];exact hk.dead r' hr'
theorem OKT.lt {t:Lp} {h:List Row} (hk:OKT t h) {r:Nat} (hr:t.has r):r <h.length:=(AT4.1 (hk.dead r hr)).1
theorem OKT.append {t:Lp} {h:List Row} (hk:OKT t h) (x:Row):OKT t (h++[x])∧t.ins P GL (h++[x])=t.ins P GL h++[x]:=by
 refine⟨⟨λr hr=>?_,hk.nod⟩,KT t x λr hr=>hk.lt hr⟩;rw[AUQ (hk.lt hr)];exact hk.dead r hr
theorem OKT.kin {t u:Lp} {h:List Row} (hk:OKT t h) (hu:t.kin u):OKT u h:=by
 refine⟨λr hr=>hk.dead r ?_,?_⟩
 ·simp only[Lp.has,hu.map];exact hr
 ·rw[←hu.map];exact hk.nod
theorem OKT.kill {t:Lp} {h:List Row} (hk:OKT t h) {n:Nat} (hn:∀r,t.has r→r <n):OKT t (K9 n h)∧t.ins P GL (K9 n h)=K9 n (t.ins P GL h):=by
 refine⟨⟨λr hr=>?_,hk.nod⟩,?_⟩
 ·rw[GB,if_pos (hn r hr)];exact hk.dead r hr
 ·have Bc:∀(t:Lp),(∀r,t.has r→r <n)→t.ins P GL (Go.Va.K9 n h)=Go.Va.K9 n (t.ins P GL h):=by
   intro t;induction t with
   |nil=>intro _;rfl
   |cons x t ih=>
    intro hn;have hn':∀r,Lp.has t r→r <n:=λr hr=>hn r (by simp only[Lp.has,AUD,AT7];exact .inr hr);simp only[Lp.ins,ih hn'];have hx:x.1 <n:=hn x.1 (by simp[Lp.has]);apply AUj;intro r;rw[GB,AUe,AUe,GB,OU,AUt];by_cases h1:x.1=r
    ·subst h1;simp[hx]
    ·simp[h1]
  exact Bc t hn
theorem Nv {t:Lp} {e:Env} {h:List Row} (hk:OKT t h) {i:PI} {x:D} (hv:i.val e h=some x):i.val e (t.ins P GL h)=some x:=by
 cases hkd:i.kd with
 |n=>rw[PI.val_heap (h2:=t.ins P GL h) hkd];exact hv
 |r=>
  cases i with
  |load a n ag=>
   simp only[PI.val]at hv ⊢;split at hv
   ·exact hv
   ·rename_i r off ha;split at hv
    ·rename_i ds hr;simp only[hk.get (P:=P) (GL:=GL) hr (by simp)];exact hv
    ·cases hv
   ·cases hv
  |look m k st ks zs ag ok=>
   simp only[PI.val]at hv ⊢;split at hv
   ·split at hv
    ·rename_i hok;rw[if_pos hok];split at hv
     ·rename_i z hz;split at hv
      ·exact hv
      ·rename_i r ha;split at hv
       ·rename_i es bs ck hr;simp only[hk.get (P:=P) (GL:=GL) hr (by simp)];exact hv
       ·cases hv
      ·cases hv
     ·cases hv
    ·cases hv
   ·cases hv
  |mlen m=>
   simp only[PI.val]at hv ⊢;split at hv
   ·exact hv
   ·rename_i r ha;split at hv
    ·rename_i es hr;simp only[hk.get (P:=P) (GL:=GL) hr (by simp)];exact hv
    ·cases hv
   ·cases hv
  |_=>cases hkd
 |a=>cases i<;>cases hkd
 |w=>cases i<;>cases hkd
 |t=>cases i<;>cases hkd
theorem LK {t:Lp} {e:Env} {h:List Row} (hk:OKT t h) {i:AI} {s':St} (hs:i.step ⟨e,h⟩=some s'):i.step ⟨e,t.ins P GL h⟩=some ⟨s'.e,t.ins P GL s'.h⟩∧OKT t s'.h:=by
 cases i with
 |p d i=>
  simp only[AI.step,AUA]at hs ⊢;obtain⟨x,hx,rfl⟩:=hs;exact⟨⟨x,Nv hk hx,rfl⟩,hk⟩
 |mv d x=>simp only[AI.step,AT0]at hs ⊢;subst hs;exact⟨rfl,hk⟩
 |alloc d zs=>
  simp only[AI.step,AT0]at hs ⊢;subst hs;obtain⟨h1,h2⟩:=hk.append (P:=P) (GL:=GL) (.cells zs);exact⟨by rw[h2,Ck],h1⟩
 |box d x=>
  simp only[AI.step]at hs ⊢;split at hs
  ·rename_i cs hc;simp only[AT0]at hs;subst hs;obtain⟨h1,h2⟩:=hk.append (P:=P) (GL:=GL) (.cells (cs.map D.toRow));exact⟨by rw[h2,Ck],h1⟩
  ·cases hs
 |store a x n=>
  simp only[AI.step]at hs ⊢;split at hs
  ·rename_i r off ha;split at hs
   ·rename_i ds hr;simp only[hk.get (P:=P) (GL:=GL) hr (by simp)];split at hs
    ·rename_i e' sz xs hx;split at hs
     ·rename_i m;split at hs
      ·rename_i hc;simp only[AT0]at hs;subst hs;obtain⟨h1,h2⟩:=hk.set (P:=P) (GL:=GL) (y:= .cells (ds.set off (.own e' sz xs))) hr (by simp);exact⟨by rw[if_pos hc,h2],h1⟩
      ·cases hs
     ·cases hs
    ·rename_i bb e' sz xs hx;split at hs
     ·rename_i m;split at hs
      ·rename_i hc;simp only[AT0]at hs;subst hs;obtain⟨h1,h2⟩:=hk.set (P:=P) (GL:=GL) (y:= .cells (ds.set off (.pend bb e' sz xs))) hr (by simp);exact⟨by rw[if_pos hc,h2],h1⟩
      ·cases hs
     ·cases hs
    ·rename_i hne hne2;split at hs
     ·rename_i cs hc;split at hs
      ·rename_i hc2;simp only[AT0]at hs;subst hs;obtain⟨h1,h2⟩:=hk.set (P:=P) (GL:=GL) (y:= .cells (AN ds off (cs.map D.toRow))) hr (by simp);exact⟨by simp only[hc,hc2,h2];simp[hc2],h1⟩
      ·cases hs
     ·cases hs
   ·cases hs
  ·cases hs
 |take d a=>
  simp only[AI.step]at hs ⊢;split at hs
  ·rename_i r off ha;split at hs
   ·rename_i ds hr;simp only[hk.get (P:=P) (GL:=GL) hr (by simp)];split at hs
    ·rename_i e' sz xs hx;simp only[AT0]at hs;subst hs;obtain⟨h1,h2⟩:=hk.set (P:=P) (GL:=GL) (y:= .cells (ds.set off (.v (.list xs)))) hr (by simp);exact⟨by simp only[h2],h1⟩
    ·cases hs
   ·cases hs
  ·cases hs
 |app d x y e' sz by_=>
  simp only[AI.step]at hs ⊢;split at hs
  ·split at hs
   ·rename_i hc;simp only[AT0]at hs;subst hs;exact⟨by rw[if_pos hc],hk⟩
   ·cases hs
  ·cases hs
 |appS d x y e' by_=>
  simp only[AI.step]at hs ⊢;split at hs
  ·split at hs
   ·rename_i hc;simp only[AT0]at hs;subst hs;exact⟨by rw[if_pos hc],hk⟩
   ·cases hs
  ·cases hs
 |bsl d e' sz ps=>
  simp only[AI.step]at hs ⊢;split at hs
  ·split at hs
   ·rename_i hc;rw[if_pos hc];split at hs<;>(simp only[AT0]at hs;subst hs;exact⟨rfl,hk⟩)
   ·cases hs
  ·cases hs
 |s2b d x=>
  simp only[AI.step]at hs ⊢;split at hs
  ·simp only[AT0]at hs;subst hs;exact⟨rfl,hk⟩
  ·cases hs
 |mksl d x z=>
  simp only[AI.step]at hs ⊢;split at hs
  ·rename_i k n hn;split at hs
   ·rename_i hc;simp only[AT0]at hs;subst hs;obtain⟨h1,h2⟩:=hk.append (P:=P) (GL:=GL) (.cells (List.replicate n.toNat z));exact⟨by rw[if_pos hc,h2,Ck],h1⟩
   ·cases hs
  ·cases hs
 |nilS d ne x=>cases hs
 |mkm d=>
  simp only[AI.step,AT0]at hs ⊢;subst hs;obtain⟨h1,h2⟩:=hk.append (P:=P) (GL:=GL) (.map [] [] 0);exact⟨by rw[h2,Ck],h1⟩
 |mput m k v st ks=>
  simp only[AI.step]at hs ⊢;split at hs
  ·rename_i r hm;split at hs
   ·rename_i es bs ck hr;simp only[hk.get (P:=P) (GL:=GL) hr (by simp)];split at hs
    ·rename_i kv vv hkv hvv;split at hs
     ·rename_i hko;rw[if_pos hko];split at hs
      ·simp only[AT0]at hs;subst hs;obtain⟨h1,h2⟩:=hk.set (P:=P) (GL:=GL) (y:= .map (es++[(kv,vv)]) (bs++[ck]) (ck+1)) hr (by simp);exact⟨by rw[h2],h1⟩
      ·rename_i i hi;simp only[AT0]at hs;subst hs;obtain⟨h1,h2⟩:=hk.set (P:=P) (GL:=GL) (y:= .map (es.set i (kv,vv)) bs ck) hr (by simp);exact⟨by rw[h2],h1⟩
      ·cases hs
     ·cases hs
    ·cases hs
   ·cases hs
  ·cases hs
 |ment d m k st ks=>
  simp only[AI.step]at hs ⊢;split at hs
  ·rename_i r hm;split at hs
   ·rename_i es bs ck hr;simp only[hk.get (P:=P) (GL:=GL) hr (by simp)];split at hs
    ·rename_i kv hkv;split at hs
     ·rename_i hko;rw[if_pos hko];split at hs
      ·rename_i i hi;split at hs
       ·simp only[AT0]at hs;subst hs;exact⟨rfl,hk⟩
       ·cases hs
      ·cases hs
     ·cases hs
    ·cases hs
   ·cases hs
  ·cases hs
 |mest m b v=>
  simp only[AI.step]at hs ⊢;split at hs
  ·rename_i r hm;split at hs
   ·rename_i es bs ck hr;simp only[hk.get (P:=P) (GL:=GL) hr (by simp)];split at hs
    ·rename_i kk n vv hb hv;split at hs
     ·rename_i i hi;split at hs
      ·rename_i p hp;simp only[AT0]at hs;subst hs;obtain⟨h1,h2⟩:=hk.set (P:=P) (GL:=GL) (y:= .map (es.set i (p.1,vv)) bs ck) hr (by simp);exact⟨by rw[h2],h1⟩
      ·cases hs
     ·cases hs
    ·cases hs
   ·cases hs
  ·cases hs
 |mdel d m k st ks=>
  simp only[AI.step]at hs ⊢;split at hs
  ·rename_i r hm;split at hs
   ·rename_i es bs ck hr;simp only[hk.get (P:=P) (GL:=GL) hr (by simp)];split at hs
    ·rename_i kv hkv;split at hs
     ·rename_i hko;rw[if_pos hko];split at hs
      ·simp only[AT0]at hs;subst hs;exact⟨rfl,hk⟩
      ·rename_i i hi;simp only[AT0]at hs;subst hs;obtain⟨h1,h2⟩:=hk.set (P:=P) (GL:=GL) (y:= .map (es.eraseIdx i) (bs.eraseIdx i) ck) hr (by simp);exact⟨by rw[h2],h1⟩
      ·cases hs
     ·cases hs
    ·cases hs
   ·cases hs
  ·cases hs
 |call d f args=>cases hs
 |callF d f args=>cases hs
 |callC d f args=>cases hs
 |callO d f q args=>cases hs
 |appR d x y e s b=>cases hs
 |frz d x s=>cases hs
 |callN d f args=>cases hs
 |appP d x y e s b=>cases hs
 |fin m ad p x sz=>
  simp only[AI.step]at hs ⊢;split at hs
  ·rename_i b s0 n y hp hx;split at hs
   ·rename_i b' e' s2 xs hf;split at hs
    ·rename_i hc;simp only[AT0]at hs;subst hs;exact⟨by rw[if_pos hc],hk⟩
    ·cases hs
   ·rename_i hnp;split at hs
    ·rename_i r off ha;split at hs
     ·rename_i ds hr;split at hs
      ·rename_i b' e' s2 xs hd;split at hs
       ·rename_i hc;simp only[AT0]at hs;subst hs;obtain⟨h1,h2⟩:=hk.set (P:=P) (GL:=GL) (y:= .cells (ds.set off (.own e' sz (xs++[y])))) hr (by simp);refine⟨?_,h1⟩;simp only[hk.get (P:=P) (GL:=GL) hr (by simp),hd,if_pos hc,h2]
       ·cases hs
      ·cases hs
     ·cases hs
    ·cases hs
  ·cases hs
 |mksz d x zs=>
  simp only[AI.step]at hs ⊢;split at hs
  ·rename_i k n hn;split at hs
   ·rename_i hc;simp only[AT0]at hs;subst hs;obtain⟨h1,h2⟩:=hk.append (P:=P) (GL:=GL) (.cells (List.replicate n.toNat zs).flatten);exact⟨by rw[if_pos hc,h2,Ck],h1⟩
   ·cases hs
  ·cases hs
 |cpy d x y sz=>
  simp only[AI.step]at hs ⊢;split at hs
  ·rename_i r n hx;split at hs
   ·rename_i ys hy;split at hs
    ·rename_i ds hr;simp only[hk.get (P:=P) (GL:=GL) hr (by simp)];split at hs
     ·rename_i hc;rw[if_pos hc];simp only[AT0]at hs;subst hs;obtain⟨h1,h2⟩:=hk.set (P:=P) (GL:=GL) (y:= .cells ((ys.flatMap V.cells).map .v)) hr (by simp);exact⟨by rw[h2],h1⟩
     ·cases hs
    ·cases hs
   ·cases hs
  ·cases hs
end
end Go.Va
