/- Laws that ExtractAnswers leans on, part 2. No condition of its own. -/
import Derived.OrdersIn
import Derived.Laws.Cover3
import Derived.RangeFuncRecord
import Derived.Test.YtopldfpkgbkomaaGreatDoorProg
import Derived.KernelRfl
import Derived.Test.YtopldfpkgbkomaaGreatDoorL01
set_option linter.all false
set_option maxRecDepth 100000
set_option maxHeartbeats 4000000
noncomputable section
namespace Go.Va
section
inductive AExit where
 |normal
 |exit (id:Nat)
 |ret
structure GI where
 g:Option (Nat×Bool)
 i:AI
 deriving Inhabited
def Rw (P:Program) (f:Nat):Bool:=
 match P.funcs[f]? with
 |some fn=>fn.body.isSome&& !(fn.name== "runtime.NumGoroutine")
 |none=>false
def Ij:List V→D
 |[x]=> .v x
 |xs=> .tup (xs.map .v)
def Q0 (g:Gh) (w:World):Prop:=∀b o v,g.m b o=some v→w.cell? ⟨b,o,none⟩=some v
def PSp (P:Program) (GL:Aa) (f:Nat) (args rets:List V):Prop:=
 Rw P f=true∧∀(g:Gh) (w:World) (us:List Value),Q0 g w→GlobOK GL g→All2 (RepV g) args us→
  Calls P f us.toArray w λe w'=>∃v g',e= .returned v∧RepD g' w' [] (Ij rets) v∧Chg (λ_=>False) g w g' w'∧Q0 g' w'
def WF (r:Option Nat):Fence:={Fence.wide with round:=r}
def Nk (P:Program) (GL:Aa) (r:Nat) (args:List D) (h:List Row) (b:Bool) (h':List Row):Prop:=
 ∀(g:Gh) (w:World) (μ:List Nat) (us:List Value) (O:Nat→Prop),Inv g w μ Jt L9 h O→GlobOK GL g→All2 (RepG g w μ) args us→Tame args us→∀bl,μ[r]?=some bl→
  ∃fn tmps asg body,(Instr.yield bl us.toArray).run P w= .ok (.round bl fn tmps asg body) w∧
   RoundIn (WF none) 0 P bl fn tmps asg body w λe w'=>∃g' μ',e= .returned (.bool b)∧Inv g' w' μ' Jt L9 h' O∧Chg (λb=>¬O b) g w g' w'∧μ <+: μ'
def FSp (P:Program) (GL:Aa) (f:Nat) (args:List D) (h:List Row) (rets:List D) (h':List Row):Prop:=
 Rw P f=true∧∀(g:Gh) (w:World) (μ:List Nat) (us:List Value) (O:Nat→Prop),Inv g w μ Jt L9 h O→GlobOK GL g→All2 (RepG g w μ) args us→Tame args us→
  Calls P f us.toArray w λe w'=>∃v g' μ',e= .returned v∧Inv g' w' μ' (Ge .any (BY rets)) (Ge (.bool false) v) h' O∧Chg (λb=>¬O b) g w g' w'∧μ <+: μ'
def L8 {α:Type} (z:α) (l:List α):Nat→α:=λn=>(l[n]?).getD z
def ZK (P:Program) (GL:Aa) (f:Nat) (args rets:List D):Prop:=
 Rw P f=true∧∀(g:Gh) (w:World) (μ:List Nat) (us:List Value) (O:Nat→Prop) (h:List Row),us.length=args.length→Inv g w μ (L8 .any args) (L8 undef us) h O→GlobOK GL g→
  Calls P f us.toArray w λe w'=>∃v g' μ',e= .returned v∧Inv g' w' μ' (Ge .any (BY rets)) (Ge (.bool false) v) h O∧Chg (λb=>¬O b) g w g' w'∧μ <+: μ'
def AI.dst:AI→Option Nat
 | .p d _| .mv d _| .alloc d _| .box d _| .take d _| .app d _ _ _ _ _| .appS d _ _ _ _| .bsl d _ _ _| .s2b d _| .nilS d _ _| .mkm d| .mksl d _ _| .ment d _ _ _ _=>some d
 | .mdel d _ _ _ _=>d
 | .mput _ _ _ _ _=>none
 | .mest _ _ _=>none
 | .store _ _ _=>none
 | .call d _ _=>d
 | .callF d _ _=>d
 | .callC d _ _=>d
 | .callO d _ _ _=>d
 | .appR d _ _ _ _ _| .frz d _ _=>some d
 | .mksz d _ _=>some d
 | .cpy d _ _ _=>d
 | .callN d _ _=>d
 | .appP d _ _ _ _ _=>some d
 | .fin _ _ _ _ _=>none
section
variable (P:Program) (GL:Aa)
def BX (d:Option Nat) (f:Opd) (args:List Opd) (K:St→Prop) (s:St):Prop:=
 match f.ev s.e with
 | .yld r=>∃b h',Nk P GL r (Av s.e args) s.h b h'∧K ⟨Bu s.e d (.v (.bool b)),h'⟩
 | .meth fid fs=>∃rets h',FSp P GL fid (fs++Av s.e args) s.h rets h'∧K ⟨Bu s.e d (BY rets),h'⟩
 |fd=>match DS fd with
  |some (fid,caps)=>∃rets h',FSp P GL fid (Av s.e args++caps) s.h rets h'∧K ⟨Bu s.e d (BY rets),h'⟩
  |none=>False
def DO (i:AI) (K:St→Prop) (s:St):Prop:=
 match i with
 | .call d f args=>BX P GL d f args K s
 | .callF d f args=>BX P GL d f args K s
 | .callC d f args=>BX P GL d f args K s
 | .callO d f q args=>∃fid rets,DS (f.ev s.e)=some (fid,[])∧ZK P GL fid (q.ev s.e::Av s.e args) rets∧K ⟨Bu (q.clear s.e) d (BY rets),s.h⟩
 | .appP d x y e sz by_=>match Dr e sz (x.ev s.e),(y.ev s.e).toV with
  |some xs,some (.list [z])=>z.cells.length=sz∧AU (xs.length+1) by_=true∧∀b,K ⟨(d,.pend b e sz xs)::x.clear s.e,s.h⟩
  |_,_=>False
 | .callN d f args=>∃fid rets h',DS (f.ev s.e)=some (fid,[])∧FSp P GL fid (args.map λq=>(q.ev s.e).copy) s.h rets h'∧K ⟨Bu s.e d (BY rets),h'⟩
 | .appR d x y e sz by_=>match x.ev s.e,(y.ev s.e).toV with
  | .nil _ _,some (.list ys)=>BM sz ys=true∧AU ys.length by_=true∧if ys.isEmpty=true then K ⟨(d,.nil e sz)::s.e,s.h⟩ else
    ∀k,K ⟨(d,.sref s.h.length ys.length)::s.e,s.h++[.cells ((ys.flatMap V.cells).map .v++List.replicate k .any)]⟩
  | .own e' s' [],some (.list ys)=>BM sz ys=true∧AU ys.length by_=true∧((e'=e∧s'=sz∧K ⟨(d,.own e sz ys)::x.clear s.e,s.h⟩)∨e'≠84∧if ys.isEmpty=true then K ⟨(d,.nil e sz)::s.e,s.h⟩ else
    ∀k,K ⟨(d,.sref s.h.length ys.length)::s.e,s.h++[.cells ((ys.flatMap V.cells).map .v++List.replicate k .any)]⟩)
  |_,_=>False
 | .frz d x sz=>match x.ev s.e with
  | .nil _ _=>K ⟨(d,.v (.list []))::s.e,s.h⟩
  | .sref r n=>match s.h[r]? with
   |some (.cells ds)=>0 <sz∧∃xs:List V,xs.length=n∧(∀x∈xs,x.cells.length=sz)∧D.vs? (ds.take (n*sz))=some (xs.flatMap V.cells)∧K ⟨(d,.v (.list xs))::s.e,s.h.set r .dead⟩
   |_=>False
  |_=>False
 | .nilS d ne x=>match (x.ev s.e).copy with
  | .v (.list [])| .nil _ _=>K ⟨(d,.v (.bool (true != ne)))::s.e,s.h⟩∧K ⟨(d,.v (.bool (false != ne)))::s.e,s.h⟩
  | .v (.list (_::_))=>K ⟨(d,.v (.bool (false != ne)))::s.e,s.h⟩
  |_=>False
 |i=>match i.step s with
  |some s'=>K s'
  |none=>False
def D5 (x:GI) (K:St→Prop) (s:St):Prop:=
 match x.g with
 |none=>DO P GL x.i K s
 |some (t,want)=>match AG s.e t with
  | .v (.bool b)=>if b=want then DO P GL x.i K s else K ⟨Bu s.e x.i.dst (.tup []),s.h⟩
  | .tup []=>K ⟨Bu s.e x.i.dst (.tup []),s.h⟩
  |_=>False
def Bz:List GI→(St→Prop)→St→Prop
 |[],K,s=>K s
 |x::rest,K,s=>D5 P GL x (Bz rest K) s
def Bd (e:CB):List Nat→CB
 |[]=>[]
 |n::ns=>(n,AG e n)::Bd e ns
end
def Ci (P:Program) (GL:Aa) (N:Nat) (o:Oper) (ai:AI):Bool:=
 match ai with
 | .p d i=>o.dst==some d&&decide (d <N)&&Tn P GL o.op i
 | .mv d q=>o.dst==some d&&decide (d <N)&&Qa q&&(match o.op with| .move x=>oe GL x q| .assign x=>oe GL x q|_=>false)
 | .alloc d zs=>o.dst==some d&&decide (d <N)&&(match o.op with| .alloc t=>Fx P t zs|_=>false)
 | .box d q=>o.dst==some d&&decide (d <N)&&(match o.op with| .box _ x=>oe GL x q|_=>false)
 | .store p q n=>o.dst==none&&(match o.op with| .store t p' x=>oe GL p' p&&oe GL x q&&BZ P t n|_=>false)
 | .take d p=>o.dst==some d&&decide (d <N)&&(match o.op with| .load t p'=>oe GL p' p&&FO P t (λ| .slice _=>true|_=>false)|_=>false)
 | .app d q r e s by_=>o.dst==some d&&decide (d <N)&&(match o.op with
  | .call {callee:= .builtin .append,args,argTypes}=>Gf args.toList (λx y=>oe GL x q&&oe GL y r)&&Eh q&&
    Gf argTypes.toList (λt t2=>Da P t e&&FO P t2 (λ| .slice _=>true|_=>false))&&Fd P e s by_
  |_=>false)
 | .appS d q r e by_=>o.dst==some d&&decide (d <N)&&(match o.op with
  | .call {callee:= .builtin .append,args,argTypes}=>Gf args.toList (λx y=>oe GL x q&&oe GL y r)&&Eh q&&
    Gf argTypes.toList (λt t2=>Da P t e&&FO P t2 (λ| .string=>true|_=>false))&&Fd P e 1 by_
  |_=>false)
 | .bsl d e s qs=>o.dst==some d&&decide (d <N)&&(match o.op with
  | .buildSlice t n ps=>Da P t e&&(match P.info? e with|some i=>Fd P e s i.bytes|none=>false)&&ps.toList.length==n&&decide (n*s≤2^24)&&GF GL 0 ps.toList qs
  |_=>false)
 | .s2b d q=>o.dst==some d&&decide (d <N)&&(match o.op with| .convert s t x=>FO P s (λ| .string=>true|_=>false)&&P7 P t&&oe GL x q|_=>false)
 | .mkm d=>o.dst==some d&&decide (d <N)&&(match o.op with| .makeMap _ none=>true|_=>false)
 | .mksl d q z=>o.dst==some d&&decide (d <N)&&(match o.op with
  | .makeSlice t x c=>(match x,c with| .tmp a,.tmp b=>a==b|_,_=>false)&&oe GL x q&&(match P.underlying t with|some (.slice e)=>Fx P e [z]&&BZ P e 1&&((P.info? e).map λi=>decide (i.bytes≤1048576))==some true|_=>false)
  |_=>false)
 | .mput m k v st ks=>o.dst==none&&(match o.op with| .mapUpdate t x i y=>(match P.underlying t with|some (.map kt _)=>Ek P kt st ks|_=>false)&&oe GL x m&&oe GL i k&&oe GL y v|_=>false)
 | .ment d m k st ks=>o.dst==some d&&decide (d <N)&&(match o.op with| .mapEntry t x i=>(match P.underlying t with|some (.map kt _)=>Ek P kt st ks|_=>false)&&oe GL x m&&oe GL i k|_=>false)
 | .mest m b v=>o.dst==none&&(match o.op with| .entryStore _ x i y=>oe GL x m&&oe GL i b&&oe GL y v|_=>false)
 | .mdel d m k st ks=>o.dst==d&&(match d with|some d=>decide (d <N)|none=>true)&&(match o.op with
  | .call {callee:= .builtin .delete,args,argTypes}=>Gf args.toList (λx y=>oe GL x m&&oe GL y k)&&Gf argTypes.toList (λt _=>match P.underlying t with|some (.map kt _)=>Ek P kt st ks|_=>false)
  |_=>false)
 | .nilS d ne q=>o.dst==some d&&decide (d <N)&&(match o.op with| .binOp op t x y _=>(op==if ne then .neq else .eql)&&(match y with| .const (.slice none 0 0)=>true|_=>false)&&FO P t (λ| .slice _=>true|_=>false)&&oe GL x q|_=>false)
 | .call d f args=>(match o.op with
  | .call {callee:= .value f',args:=asx,..}=>o.dst==d&&(match d with|some d=>decide (d <N)|none=>true)&&oe GL f' f&&Ao (oe GL) asx.toList args
  |_=>false)
 | .callF d f args=>(match o.op with
  | .call {callee:= .value f',args:=asx,..}=>o.dst==d&&(match d with|some d=>decide (d <N)|none=>true)&&oe GL f' f&&Ao (oe GL) asx.toList args
  |_=>false)
 | .callC d f args=>(match o.op with
  | .call {callee:= .value f',args:=asx,..}=>o.dst==d&&(match d with|some d=>decide (d <N)|none=>true)&&oe GL f' f&&Ao (oe GL) asx.toList args
  |_=>false)
 | .callO d f q args=>(match o.op with
  | .call {callee:= .value f',args:=asx,..}=>o.dst==d&&(match d with|some d=>decide (d <N)|none=>true)&&oe GL f' f&&Ao (oe GL) asx.toList (q::args)&&Eh q
  |_=>false)
 | .appR d q r e s by_=>o.dst==some d&&decide (d <N)&&(match o.op with
  | .call {callee:= .builtin .append,args,argTypes}=>Gf args.toList (λx y=>oe GL x q&&oe GL y r)&&
    Gf argTypes.toList (λt t2=>Da P t e&&FO P t2 (λ| .slice _=>true|_=>false))&&Fd P e s by_&&((P.info? e).bind (·.zero)).any (λz=>z.cells.toList.all Value.oneCell')
  |_=>false)
 | .frz d q _=>o.dst==some d&&decide (d <N)&&(match o.op with| .move x=>oe GL x q| .assign x=>oe GL x q|_=>false)
 | .appP d q r e s by_=>o.dst==some d&&decide (d <N)&&(match o.op with
  | .call {callee:= .builtin .append,args,argTypes}=>Gf args.toList (λx y=>oe GL x q&&oe GL y r)&&Eh q&&
    Gf argTypes.toList (λt t2=>Da P t e&&FO P t2 (λ| .slice _=>true|_=>false))&&Fd P e s by_
  |_=>false)
 | .fin m _ p q sz=>o.dst==none&&decide (m <N)&&(match o.op with| .store t p' x=>oe GL p' p&&oe GL x q&&BZ P t sz|_=>false)
 | .callN d f args=>(match o.op with
  | .call {callee:= .value f',args:=asx,..}=>o.dst==d&&(match d with|some d=>decide (d <N)|none=>true)&&oe GL f' f&&Ao (oe GL) asx.toList args
  |_=>false)
 | .mksz d q zs=>o.dst==some d&&decide (d <N)&&(match o.op with
  | .makeSlice t x c=>(match x,c with| .tmp a,.tmp b=>a==b|_,_=>false)&&oe GL x q&&(match P.underlying t with|some (.slice e)=>Fx P e zs&&BZ P e zs.length&&((P.info? e).map λi=>decide (i.bytes≤1048576))==some true|_=>false)
  |_=>false)
 | .cpy d q r sz=>o.dst==d&&(match d with|some d=>decide (d <N)|none=>true)&&(match o.op with
  | .call {callee:= .builtin .copy,args,argTypes}=>Gf args.toList (λx y=>oe GL x q&&oe GL y r)&&Gf argTypes.toList (λt _=>match P.underlying t with|some (.slice e)=>BZ P e sz|_=>false)
  |_=>false)
def Hy (P:Program) (GL:Aa) (N:Nat) (ops:Array Oper) (i:Nat) (x:GI):Bool:=
 match ops[i]? with
 |none=>false
 |some o=>(match o.guard,x.g with
  |none,none=>true
  |some (j,want),some (t,want')=>(ops[j]?).bind (·.dst)==some t&&want==want'&&x.i.dst==o.dst
  |_,_=>false)&&Ci P GL N o x.i
variable {w:World} {n:Nat}
theorem FH {r:Option Nat} {P:Program} {f:FuncId} {args:Array Value} {R:Ending→World→Prop} (h:Calls P f args w R):CallsIn (WF r) n P f args w R:=
 (callsIn_wide (n:=n)).2 h
theorem MZ (e:CB):∀(ns:List Nat) (n:Nat),AG (Bd e ns) n=if n∈ns then AG e n else .any
 |[],n=>by simp[Bd,AG]
 |m::ns,n=>by
  simp only[Bd,AG];by_cases h:m=n
  ·simp[h]
  ·rw[if_neg h,MZ e ns n];simp[Ne.symm h]
variable {O:Nat→Prop} {a:Act} {s:St} {μ:List Nat} {g:Gh} {o:Oper} {u v:Value} {vs:List Value} {K:St→Prop} {ds:List D} {h:List Row} {q y':Opd} {by_ f i sz:Nat} {ops:Array Oper}
section
variable {P:Program} {GL:Aa} {N:Nat} {r:Option Nat}
theorem Gs.norm (hg:Gs GL N g w μ s a O) (ns:List Nat):Gs GL N g w μ ⟨Bd s.e ns,s.h⟩ a O where
 inv:=hg.inv.weaken _ λn=>by
  rw[MZ];by_cases h:n∈ns
  ·exact .inl (by simp[h])
  ·exact .inr ⟨λv _=>by simp[h,RepD,RepG,RepE],λv k=>by simp only[h,if_false];cases k<;>simp[Af,Ac]⟩
 glob:=hg.glob
 sz:=hg.sz
theorem YQ {ai:AI} (h:Ci P GL N o ai=true) (hc:∀d f args,ai≠ .call d f args) (hc2:∀d ne x,ai≠ .nilS d ne x) (hc3:∀d f args,ai≠ .callF d f args∧ai≠ .callC d f args) (hc4:∀d f q args,ai≠ .callO d f q args) (hc5:∀d x y e s b,ai≠ .appR d x y e s b∧ai≠ .frz d x s) (hc7:∀d f args,ai≠ .callN d f args) (hc8:∀d x y e s b,ai≠ .appP d x y e s b):Dm P GL N o ai∧∀c,o.op≠ .defer c:=by
 cases ai with
 |p d i=>
  simp only[Ci,oJ,beq_iff_eq,decide_eq_true_eq]at h;refine⟨eH h.1.1 h.1.2 h.2,λc hc=>?_⟩;rw[hc]at h;simp[Tn]at h
 |mv d q=>
  simp only[Ci,oJ,beq_iff_eq,decide_eq_true_eq]at h;obtain⟨⟨⟨h1,h2⟩,h3⟩,h4⟩:=h;split at h4
  ·rename_i x hx;exact⟨WO h1 (.inl hx) h2 h4 h3,λc hc=>by rw[hx]at hc;cases hc⟩
  ·rename_i x hx;exact⟨WO h1 (.inr hx) h2 h4 h3,λc hc=>by rw[hx]at hc;cases hc⟩
  ·cases h4
 |alloc d zs=>
  simp only[Ci,oJ,beq_iff_eq,decide_eq_true_eq]at h;obtain⟨⟨h1,h2⟩,h4⟩:=h;split at h4
  ·rename_i t hx;exact⟨UH h1 hx h2 h4,λc hc=>by rw[hx]at hc;cases hc⟩
  ·cases h4
 |box d q=>
  simp only[Ci,oJ,beq_iff_eq,decide_eq_true_eq]at h;obtain⟨⟨h1,h2⟩,h4⟩:=h;split at h4
  ·rename_i t x hx;exact⟨Yt h1 hx h2 h4,λc hc=>by rw[hx]at hc;cases hc⟩
  ·cases h4
 |store p q n=>
  simp only[Ci,oJ,beq_iff_eq]at h;obtain⟨h1,h4⟩:=h;split at h4
  ·rename_i t p' x hx;simp only[oJ]at h4;exact⟨SP h1 hx h4.1.1 h4.1.2 h4.2,λc hc=>by rw[hx]at hc;cases hc⟩
  ·cases h4
 |take d p=>
  simp only[Ci,oJ,beq_iff_eq,decide_eq_true_eq]at h;obtain⟨⟨h1,h2⟩,h4⟩:=h;split at h4
  ·rename_i t p' hx;simp only[oJ]at h4;obtain⟨el,hel⟩:=E0 h4.2;exact⟨UV h1 hx h2 h4.1 hel,λc hc=>by rw[hx]at hc;cases hc⟩
  ·cases h4
 |app d q r e s by_=>
  simp only[Ci,oJ,beq_iff_eq,decide_eq_true_eq]at h;obtain⟨⟨h1,h2⟩,h4⟩:=h;split at h4
  ·rename_i asx ts hx;simp only[oJ]at h4;obtain⟨⟨⟨k1,k2⟩,k3⟩,k4⟩:=h4;obtain⟨x,y,rfl,j1⟩:=DB k1;obtain⟨t,t2,rfl,j3⟩:=DB k3;simp only[oJ]at j1 j3;obtain⟨e2,he2⟩:=E0 j3.2;exact⟨Y4 h1 hx h2 j1.1 j1.2 k2 j3.1 (e2:=e2) (by simp[Da,he2]) k4,λc hc=>by rw[hx]at hc;cases hc⟩
  ·cases h4
 |appS d q r e by_=>
  simp only[Ci,oJ,beq_iff_eq,decide_eq_true_eq]at h;obtain⟨⟨h1,h2⟩,h4⟩:=h;split at h4
  ·rename_i asx ts hx;simp only[oJ]at h4;obtain⟨⟨⟨k1,k2⟩,k3⟩,k4⟩:=h4;obtain⟨x,y,rfl,j1⟩:=DB k1;obtain⟨t,t2,rfl,j3⟩:=DB k3;simp only[oJ]at j1 j3;exact⟨Vm h1 hx h2 j1.1 j1.2 k2 j3.1 j3.2 k4,λc hc=>by rw[hx]at hc;cases hc⟩
  ·cases h4
 |bsl d e s qs=>
  simp only[Ci,oJ,beq_iff_eq,decide_eq_true_eq]at h;obtain⟨⟨h1,h2⟩,h4⟩:=h;split at h4
  ·rename_i t n ps hx;simp only[oJ,beq_iff_eq,decide_eq_true_eq]at h4;obtain⟨⟨⟨⟨k1,k2⟩,k3⟩,k4⟩,k5⟩:=h4;split at k2
   ·exact⟨Ys h1 hx h2 k1 k2 k3 k4 k5,λc hc=>by rw[hx]at hc;cases hc⟩
   ·cases k2
  ·cases h4
 |s2b d x=>
  simp only[Ci,oJ,beq_iff_eq,decide_eq_true_eq]at h;obtain⟨⟨h1,h2⟩,h4⟩:=h;split at h4
  ·rename_i s t x hx;simp only[oJ]at h4;exact⟨XD h1 hx h2 h4.2 h4.1.1 h4.1.2,λc hc=>by rw[hx]at hc;cases hc⟩
  ·cases h4
 |mkm d=>
  simp only[Ci,oJ,beq_iff_eq,decide_eq_true_eq]at h;obtain⟨⟨h1,h2⟩,h4⟩:=h;split at h4
  ·rename_i t hx;exact⟨Xm h1 hx rfl h2,λc hc=>by rw[hx]at hc;cases hc⟩
  ·cases h4
 |mksl d q z=>
  simp only[Ci,oJ,beq_iff_eq,decide_eq_true_eq]at h;obtain⟨⟨h1,h2⟩,h4⟩:=h;split at h4
  ·rename_i t x c hx;simp only[oJ]at h4;obtain⟨⟨k1,k2⟩,k3⟩:=h4;split at k1
   ·rename_i a b;have hab:b=a:=(beq_iff_eq.1 k1).symm;split at k3
    ·rename_i e hu;simp only[oJ,beq_iff_eq]at k3;exact⟨U6 h1 hx h2 (by rw[hab]) k2 hu k3.1.1 k3.1.2 k3.2,λc hc=>by rw[hx]at hc;cases hc⟩
    ·cases k3
   ·cases k1
  ·cases h4
 |mput m k v st ks=>
  simp only[Ci,oJ,beq_iff_eq]at h;obtain⟨h1,h4⟩:=h;split at h4
  ·rename_i t x i y hx;simp only[oJ]at h4;exact⟨U3 h1 hx h4.1.1.1 h4.1.1.2 h4.1.2 h4.2,λc hc=>by rw[hx]at hc;cases hc⟩
  ·cases h4
 |ment d m k st ks=>
  simp only[Ci,oJ,beq_iff_eq,decide_eq_true_eq]at h;obtain⟨⟨h1,h2⟩,h4⟩:=h;split at h4
  ·rename_i t x i hx;simp only[oJ]at h4;exact⟨U9 h1 h2 hx h4.1.1 h4.1.2 h4.2,λc hc=>by rw[hx]at hc;cases hc⟩
  ·cases h4
 |mest m b v=>
  simp only[Ci,oJ,beq_iff_eq]at h;obtain⟨h1,h4⟩:=h;split at h4
  ·rename_i t x i y hx;simp only[oJ]at h4;exact⟨U8 h1 hx h4.1.1 h4.1.2 h4.2,λc hc=>by rw[hx]at hc;cases hc⟩
  ·cases h4
 |mdel d m k st ks=>
  simp only[Ci,oJ,beq_iff_eq]at h;obtain⟨⟨h1,h2⟩,h4⟩:=h;split at h4
  ·rename_i asx ts hx;simp only[oJ]at h4;obtain⟨x,y,rfl,j1⟩:=DB h4.1;obtain⟨t,t2,rfl,j3⟩:=DB h4.2;simp only[oJ]at j1;exact⟨VA h1 (λn hn=>by subst hn;simpa using h2) hx j3 j1.1 j1.2,λc hc=>by rw[hx]at hc;cases hc⟩
  ·cases h4
 |nilS d ne x=>exact absurd rfl (hc2 d ne x)
 |call d f args=>exact absurd rfl (hc d f args)
 |callF d f args=>exact absurd rfl (hc3 d f args).1
 |callC d f args=>exact absurd rfl (hc3 d f args).2
 |callO d f q args=>exact absurd rfl (hc4 d f q args)
 |appR d x y e s b=>exact absurd rfl (hc5 d x y e s b).1
 |frz d x s=>exact absurd rfl (hc5 d x x 0 s 0).2
 |callN d f args=>exact absurd rfl (hc7 d f args)
 |appP d x y e s b=>exact absurd rfl (hc8 d x y e s b)
 |fin m ad p q sz=>
  simp only[Ci,oJ,beq_iff_eq,decide_eq_true_eq]at h;obtain⟨⟨h1,h2⟩,h4⟩:=h;split at h4
  ·rename_i t p' x hx;simp only[oJ]at h4;exact⟨YJ h1 hx h2 h4.1.1 h4.1.2 h4.2,λc hc=>by rw[hx]at hc;cases hc⟩
  ·cases h4
 |mksz d q zs=>
  simp only[Ci,oJ,beq_iff_eq,decide_eq_true_eq]at h;obtain⟨⟨h1,h2⟩,h4⟩:=h;split at h4
  ·rename_i t x c hx;simp only[oJ]at h4;obtain⟨⟨k1,k2⟩,k3⟩:=h4;split at k1
   ·rename_i a b;have hab:b=a:=(beq_iff_eq.1 k1).symm;split at k3
    ·rename_i e hu;simp only[oJ,beq_iff_eq]at k3;exact⟨U5 h1 hx h2 (by rw[hab]) k2 hu k3.1.1 k3.1.2 k3.2,λc hc=>by rw[hx]at hc;cases hc⟩
    ·cases k3
   ·cases k1
  ·cases h4
 |cpy d q r sz=>
  simp only[Ci,oJ,beq_iff_eq]at h;obtain⟨⟨h1,h2⟩,h4⟩:=h;split at h4
  ·rename_i asx ts hx;simp only[oJ]at h4;obtain⟨x,y,rfl,j1⟩:=DB h4.1;obtain⟨t,t2,rfl,j3⟩:=DB h4.2;simp only[oJ]at j1;exact⟨YU h1 (λn hn=>by subst hn;simpa using h2) hx j1.1 j1.2 j3,λc hc=>by rw[hx]at hc;cases hc⟩
  ·cases h4
def Gl:AExit→Exit→Prop
 | .normal,.normal=>True
 | .exit i,.exit j=>i=j
 | .ret,.ret=>True
 |_,_=>False
def After (GL:Aa) (N:Nat) (Q:St→Prop) (g:Gh) (w:World) (μ:List Nat) (a:Act) (O:Nat→Prop) (a':Act) (w':World):Prop:=
 ∃s' g' μ',Q s'∧Gs GL N g' w' μ' s' a' O∧Chg (λb=>¬O b) g w g' w'∧μ <+: μ'∧a'.defers=a.defers
theorem After.trans {Q:St→Prop} {g:Gh} {w:World} {μ:List Nat} {a:Act} {O:Nat→Prop} {g1:Gh} {w1:World} {μ1:List Nat} {a1:Act} {a2:Act} {w2:World}
  (hc:Chg (λb=>¬O b) g w g1 w1) (hμ:μ <+: μ1) (hd:a1.defers=a.defers) (h:After GL N Q g1 w1 μ1 a1 O a2 w2):After GL N Q g w μ a O a2 w2:=by
 obtain⟨s',g',μ',hq,hg,hc',hμ',hd'⟩:=h;exact⟨s',g',μ',hq,hg,hc.trans hc',hμ.trans hμ',hd'.trans hd⟩
theorem Bi (a:Act) (d:Option Nat) (v:Value):(a.put d v).defers=a.defers:=by cases d<;>rfl
theorem Sb {rets:List V} (h:RepD g w [] (Ij rets) v):RepD g w μ (Ij rets) v∧∀k,Af (Ij rets) v k=none:=by
 unfold Ij at h ⊢;split
 ·rename_i x;exact⟨h,λk=>Bo _ _ _⟩
 ·rename_i hne;split at h
  ·rename_i x;exact absurd rfl (hne x)
  ·obtain⟨vs,rfl,ha⟩:=h;refine⟨⟨vs,rfl,ha.1,λi x v hx hv=>?_⟩,λk=>?_⟩
   ·have:=ha.2 i x v hx hv;simp only[oX,oU]at hx;obtain⟨y,_,rfl⟩:=hx;exact this
   ·simp only[Af];cases hk:(rets.map D.v)[k]? with
    |none=>simp[Ac]
    |some d=>
     simp only[oX,oU]at hk;obtain⟨y,_,rfl⟩:=hk;simp[Ac]
theorem RD {caps:List D} (h:All2 (RepC g μ) caps vs):All2 (RepG g w μ) caps vs∧Tame caps vs:=by
 refine⟨h.imp λd v h=>?_,λi d v hd hv=>?_⟩
 ·cases d<;>first|exact h|exact h.elim
 ·have:=h.2 i d v hd hv;cases d<;>first|rfl|exact this.elim
theorem Gs.setR (h:Gs GL N g w μ s a O) {d:Nat} (hd:d <N) {x:D}
  (hi:Inv g w μ (λn=>if d=n then x else AG s.e n) (λn=>if d=n then v else a.tmps.getD n undef) s.h O):Gs GL N g w μ ⟨(d,x)::s.e,s.h⟩ (a.put (some d) v) O where
 inv:=by rw[Db v (h.sz▸hd)];exact hi
 glob:=h.glob
 sz:=by rw[BD,h.sz]
theorem FZ {ai:AI} (hc3:∀d f args,ai≠ .callF d f args∧ai≠ .callC d f args) (hc4:∀d f q args,ai≠ .callO d f q args) (hc5:∀d x y e s b,ai≠ .appR d x y e s b∧ai≠ .frz d x s) (hc7:∀d f args,ai≠ .callN d f args) (hc8:∀d x y e s b,ai≠ .appP d x y e s b) (hk:Ci P GL N o ai=true) (hg:Gs GL N g w μ s a O)
  (h:DO P GL ai K s) {next:Act→World→Prop} {Q:Exit→Act→World→Prop}
  (hn:∀s' g' w' μ' a',K s'→Gs GL N g' w' μ' s' a' O→Chg (λb=>¬O b) g w g' w'→μ <+: μ'→a'.defers=a.defers→next a' w'):o.wpIn (WF r) 0 P a w next Q:=by
 refine⟨λ_ _=>trivial,?_⟩;by_cases hc2:∃d ne x,ai= .nilS d ne x
 ·obtain⟨d,ne,q,rfl⟩:=hc2;simp only[Ci,oJ,beq_iff_eq,decide_eq_true_eq]at hk;obtain⟨⟨hdst,hdN⟩,h4⟩:=hk;split at h4
  ·rename_i op t x y s' hop;simp only[oJ]at h4;obtain⟨⟨⟨hb,hy⟩,ht⟩,hx⟩:=h4;rw[Oper.semAt_eq _ _ _ (λc hc=>by rw[hop]at hc;cases hc)];obtain⟨el,hu⟩:=E0 ht;split at hy
   ·have hr:=((hg.gd P).ev hx).copy;have fin:∀(b:Bool),(execOp a.eval o).run P w= .ok (.value (.bool b)) w→K ⟨(d,.v (.bool b))::s.e,s.h⟩→Oper.uponIn (WF r) 0 P o a next Q ((execOp a.eval o).run P w):=by
     intro b hrun hK;rw[hrun];refine hn _ g w μ _ hK ?_ (Chg.refl _ _ _) (oQ _) (Bi _ _ _);rw[hdst];exact hg.set hdN (.bool b) λk=>Bo _ _ _
    have hrun:∀(ad:Option Addr) (n c:Nat),a.eval x= .slice ad n c→(execOp a.eval o).run P w= .ok (.value (.bool (ad.isNone != ne))) w:=by
     intro ad n c hv;have hg:(eqGuard op t x (.const (.slice none 0 0)) (.slice ad n c) (.slice none 0 0)).run P w= .ok () w:=Dz ⟨by simp,by simp⟩;have heq:=run_equal_slice_nil (P:=P) w t el ad n c hu;have hev:a.eval (.const (.slice none 0 0))= .slice none 0 0:=rfl;have:=Hr hb;subst this;cases ne<;>simp[execOp,hop,hv,hev,binOp,heq]at hg ⊢ <;>simp[hg,heq]
    simp only[DO]at h;split at h
    ·rename_i hc;rw[hc]at hr;have hr':RepV g (.list []) (a.eval x):=hr;generalize hv:a.eval x=u at hr';cases hr' with
     |lnil=>exact fin _ (hrun none 0 0 hv) h.1
     |list _ ad cap _ _ hs=>exact fin _ (hrun (some ad) _ cap hv) h.2
    ·rename_i hc;rw[hc]at hr;obtain⟨ad,hv,_⟩:=hr;cases ad with
     |none=>exact fin _ (hrun none 0 0 hv) h.1
     |some ad=>exact fin _ (hrun (some ad) 0 0 hv) h.2
    ·rename_i y ys hc;rw[hc]at hr;have hr':RepV g (.list (y::ys)) (a.eval x):=hr;generalize hv:a.eval x=u at hr';cases hr' with
     |list _ ad cap _ _ hs=>exact fin _ (hrun (some ad) _ cap hv) h
    ·exact h.elim
   ·cases hy
  ·cases h4
 by_cases hc:∀d f args,ai≠ .call d f args
 ·obtain⟨heff,hnd⟩:=YQ hk hc (λd ne x h=>hc2 ⟨d,ne,x,h⟩) hc3 hc4 hc5 hc7 hc8;rw[Oper.semAt_eq _ _ _ hnd];have h':∃s',ai.step s=some s'∧K s':=by
   unfold DO at h;split at h
   ·exact absurd rfl (hc _ _ _)
   ·exact absurd rfl (hc3 _ _ _).1
   ·exact absurd rfl (hc3 _ _ _).2
   ·exact absurd rfl (hc4 _ _ _ _)
   ·exact absurd rfl (hc8 _ _ _ _ _ _)
   ·exact absurd rfl (hc7 _ _ _)
   ·exact absurd rfl (hc5 _ _ _ _ _ _).1
   ·exact absurd rfl (hc5 _ _ default 0 _ 0).2
   ·exact absurd ⟨_,_,_,rfl⟩ hc2
   ·split at h
    ·rename_i s' hs;exact⟨s',hs,h⟩
    ·exact h.elim
  obtain⟨s',hs,hK⟩:=h';obtain⟨v,w',g',μ',hrun,hgs,hch,hμ⟩:=heff hg hs;rcases hrun with hrun|⟨hrun,rfl⟩
  ·rw[hrun];exact hn s' g' w' μ' _ hK hgs hch hμ (Bi _ _ _)
  ·rw[hrun];exact hn s' g' w' μ' _ hK hgs hch hμ (Bi _ _ _)
 ·have:∃d f args,ai= .call d f args:=by
   cases ai<;>first|exact⟨_,_,_,rfl⟩|exact absurd (λ_ _ _ h=>by cases h) hc
  obtain⟨d,f,args,rfl⟩:=this;have h:(∃r b h',f.ev s.e= .yld r∧Nk P GL r (Av s.e args) s.h b h'∧K ⟨Bu s.e d (.v (.bool b)),h'⟩)∨
    (∃fid fs rets h',f.ev s.e= .meth fid fs∧FSp P GL fid (fs++Av s.e args) s.h rets h'∧K ⟨Bu s.e d (BY rets),h'⟩)∨
    ∃fid caps rets h',DS (f.ev s.e)=some (fid,caps)∧FSp P GL fid (Av s.e args++caps) s.h rets h'∧K ⟨Bu s.e d (BY rets),h'⟩:=by
   simp only[DO,BX]at h;split at h
   ·rename_i r hf;obtain⟨b,h',h1,h2⟩:=h;exact .inl ⟨r,b,h',hf,h1,h2⟩
   ·rename_i fid fs hf;obtain⟨rets,h',h1,h2⟩:=h;exact .inr (.inl ⟨fid,fs,rets,h',hf,h1,h2⟩)
   ·split at h
    ·rename_i fid caps hf;obtain⟨rets,h',h1,h2⟩:=h;exact .inr (.inr ⟨fid,caps,rets,h',hf,h1,h2⟩)
    ·exact h.elim
  rcases h with ⟨rr,yb,h',hf,hsp,hK⟩|⟨fid,fs,rets,h',hf,⟨hok,hsp⟩,hK⟩|h
  ·simp only[Ci]at hk;split at hk
   ·rename_i f' asx ts hop;simp only[oJ,beq_iff_eq]at hk;obtain⟨⟨⟨hdst,hdN⟩,hkf⟩,hka⟩:=hk;rw[Oper.semAt_eq _ _ _ (λc hc=>by rw[hop]at hc;cases hc)];have hrf:=(hg.gd P).ev hkf;rw[hf]at hrf;obtain⟨bl,hbl,hcv⟩:=hrf;obtain⟨har,hat⟩:=FI (hg.gd P) hka;obtain⟨fn,tmps,asg,body,hy,hround⟩:=hsp g w μ _ _ hg.inv.call hg.glob har hat bl hbl;have hrun:(execOp a.eval o).run P w= .ok (.round bl fn tmps asg body) w:=by
     have h2:asx.map a.eval=(asx.toList.map a.eval).toArray:=by rw[←pj];simp
     simp[execOp,hop,resolve,hcv,Deferred.ofValue,invoke,h2,hy]
    rw[hrun,Oper.uponIn_round];refine⟨(λh=>by simp[WF,Fence.wide]at h),?_⟩;refine RoundIn.mono (F:=WF r) (show RoundIn (WF r) 0 P bl fn tmps asg body w _ from hround) ?_;rintro e w' ⟨g',μ',rfl,hinv,hch,hμ⟩;have hgs:Gs GL N g' w' μ' ⟨s.e,h'⟩ a O:=⟨hg.inv.ret hinv hch hμ,hg.glob.mono hch.le,hg.sz⟩;refine hn ⟨Bu s.e d (.v (.bool yb)),h'⟩ g' w' μ' _ hK ?_ (hch.mono λ_ h ho=>h (.inl ho)) hμ (Bi _ _ _);rw[hdst];cases d with
    |none=>exact⟨hgs.inv,hgs.glob,by rw[BD,hgs.sz]⟩
    |some d=>exact hgs.set (by simpa using hdN) (.bool yb) λk=>Bo _ _ _
   ·cases hk
  ·simp only[Ci]at hk;split at hk
   ·rename_i f' asx ts hop;simp only[oJ,beq_iff_eq]at hk;obtain⟨⟨⟨hdst,hdN⟩,hkf⟩,hka⟩:=hk;rw[Oper.semAt_eq _ _ _ (λc hc=>by rw[hop]at hc;cases hc)];have hrf:=(hg.gd P).ev hkf;rw[hf]at hrf;obtain⟨cvs,hcv,hcr0⟩:=hrf;obtain⟨hcr,hct⟩:=RD (w:=w) hcr0;obtain⟨har,hat⟩:=FI (hg.gd P) hka;have hall:=hcr.append har;have htm:=hct.append hcr.1 hat;have hcall:=hsp g w μ _ _ hg.inv.call hg.glob hall htm;have hrun:(execOp a.eval o).run P w= .ok (.enter fid (cvs++asx.toList.map a.eval).toArray) w:=by
     unfold Rw at hok;split at hok
     ·rename_i fn hfn;simp only[oJ,pd]at hok;have h1:¬fn.body=none:=by cases hb:fn.body<;>simp_all
      have h3:¬fn.name= "runtime.NumGoroutine" :=by simpa using hok.2
      have h2:(cvs.toArray++asx.map a.eval)=(cvs++asx.toList.map a.eval).toArray:=by
       rw[←pj];simp
      simp[execOp,hop,resolve,hcv,Deferred.ofValue,invoke,callFunc,hfn,h3,h1,h2]
     ·cases hok
    rw[hrun,Oper.uponIn_enter];refine⟨(λh=>by simp[WF,Fence.wide]at h),FH ?_⟩;refine hcall.mono ?_;rintro e w' ⟨v,g',μ',rfl,hinv,hch,hμ⟩;have hgs:Gs GL N g' w' μ' ⟨s.e,h'⟩ a O:=⟨hg.inv.ret hinv.leave hch hμ,hg.glob.mono hch.le,hg.sz⟩;refine hn ⟨Bu s.e d (BY rets),h'⟩ g' w' μ' _ hK ?_ (hch.mono λ_ h ho=>h (.inl ho)) hμ (Bi _ _ _);rw[hdst];cases d with
    |none=>exact⟨hgs.inv,hgs.glob,by rw[BD,hgs.sz]⟩
    |some d=>exact hgs.setR (by simpa using hdN) (hg.inv.retV hinv hgs.inv d)
   ·cases hk
  obtain⟨fid,caps,rets,h',hf,⟨hok,hsp⟩,hK⟩:=h;simp only[Ci]at hk;split at hk
  ·rename_i f' asx ts hop;simp only[oJ,beq_iff_eq]at hk;obtain⟨⟨⟨hdst,hdN⟩,hkf⟩,hka⟩:=hk;rw[Oper.semAt_eq _ _ _ (λc hc=>by rw[hop]at hc;cases hc)];obtain⟨cvs,hcv,hcr,hct⟩:=I7 ((hg.gd P).ev hkf) hf;obtain⟨har,hat⟩:=FI (hg.gd P) hka;have hall:=har.append hcr;have htm:=hat.append har.1 hct;have hcall:=hsp g w μ _ _ hg.inv.call hg.glob hall htm;have hrun:(execOp a.eval o).run P w= .ok (.enter fid (asx.toList.map a.eval++cvs).toArray) w:=by
    unfold Rw at hok;split at hok
    ·rename_i fn hfn;simp only[oJ,pd]at hok;have h1:¬fn.body=none:=by cases hb:fn.body<;>simp_all
     have h3:¬fn.name= "runtime.NumGoroutine" :=by simpa using hok.2
     have h2:(asx.map a.eval++cvs.toArray)=(asx.toList.map a.eval++cvs).toArray:=by
      rw[←pj];simp
     simp[execOp,hop,resolve,hcv,Deferred.ofValue,invoke,callFunc,hfn,h3,h1,h2]
    ·cases hok
   rw[hrun,Oper.uponIn_enter];refine⟨(λh=>by simp[WF,Fence.wide]at h),FH ?_⟩;refine hcall.mono ?_;rintro e w' ⟨v,g',μ',rfl,hinv,hch,hμ⟩;have hgs:Gs GL N g' w' μ' ⟨s.e,h'⟩ a O:=⟨hg.inv.ret hinv.leave hch hμ,hg.glob.mono hch.le,hg.sz⟩;refine hn ⟨Bu s.e d (BY rets),h'⟩ g' w' μ' _ hK ?_ (hch.mono λ_ h ho=>h (.inl ho)) hμ (Bi _ _ _);rw[hdst];cases d with
   |none=>exact⟨hgs.inv,hgs.glob,by rw[BD,hgs.sz]⟩
   |some d=>exact hgs.setR (by simpa using hdN) (hg.inv.retV hinv hgs.inv d)
  ·cases hk
theorem Inv.callO {t t':Nat→D} {u:Nat→Value} (hi:Inv g w μ t u h O) (ht:∀n k b,Af (t' n) (u n) k=some b→Af (t n) (u n) k=some b)
  {x:D} {us:List Value} (hx:RepD g w μ x v) (hall:All2 (RepG g w μ) ds us) (htm:Tame ds us)
  (hown:∀k b,Af x v k=some b→∃m,Af (t m) (u m) k=some b∧∀v k,Af (t' m) v k=none):
  Inv g w μ (L8 .any (x::ds)) (L8 undef (v::us)) h (Mq t' u O):=by
 have tail:∀n k,Af (L8 .any (x::ds) (n+1)) (L8 undef (v::us) (n+1)) k=none:=by
  intro n k;simp only[L8,qO];cases hd:ds[n]? with
  |none=>cases k<;>simp[Af,Ac]
  |some d=>
   obtain⟨y,hy,hr⟩:=hall.get hd;rw[hy];exact Hg hr (htm n d y hd hy) k
 have head:∀k b,CS (L8 .any (x::ds)) (L8 undef (v::us)) h w μ (.tmp 0 k)=some b→∃m,CS t u h w μ (.tmp m k)=some b∧∀v k,Af (t' m) v k=none:=λk b hb=>hown k b hb;refine⟨hi.agree,λb hb=>?_,λn=>?_,hi.len,hi.rows,hi.nod,λb hb ho=>?_,λp q b hp hq=>?_,λp b hp=>?_⟩
 ·rcases hb with hb|⟨n,k,hb⟩
  ·exact hi.olt b hb
  ·exact hi.blk_lt (p:= .tmp n k) (ht n k b hb)
 ·cases n with
  |zero=>exact hx
  |succ n=>
   simp only[L8,qO];cases hd:ds[n]? with
   |none=>simp[RepD,RepG,RepE]
   |some d=>
    obtain⟨y,hy,hr⟩:=hall.get hd;rw[hy];exact hr.toD
 ·rcases ho with ho|⟨n,k,ho⟩
  ·exact hi.mo b hb ho
  ·exact(hi.sep (.tmp n k) b (ht n k b ho)).1 hb
 ·cases p with
  |tmp n k=>
   cases n with
   |succ n=>have hp':Af _ _ k=some b:=hp;rw[tail n k]at hp';cases hp'
   |zero=>
    obtain⟨m,hm,_⟩:=head k b hp;cases q with
    |tmp n' k'=>
     cases n' with
     |succ n'=>have hq':Af _ _ k'=some b:=hq;rw[tail n' k']at hq';cases hq'
     |zero=>
      obtain⟨m',hm',_⟩:=head k' b hq;have:=hi.uniq _ _ b hm hm';cases this;rfl
    |cell r' k'=>have:=hi.uniq _ (.cell r' k') b hm hq;cases this
  |cell r k=>
   cases q with
   |tmp n' k'=>
    cases n' with
    |succ n'=>have hq':Af _ _ k'=some b:=hq;rw[tail n' k']at hq';cases hq'
    |zero=>
     obtain⟨m',hm',_⟩:=head k' b hq;have:=hi.uniq (.cell r k) _ b hp hm';cases this
   |cell r' k'=>exact hi.uniq (.cell r k) (.cell r' k') b hp hq
 ·cases p with
  |tmp n k=>
   cases n with
   |succ n=>have hp':Af _ _ k=some b:=hp;rw[tail n k]at hp';cases hp'
   |zero=>
    obtain⟨m,hm,hma⟩:=head k b hp;refine⟨(hi.sep _ b hm).1,λho=>?_⟩;rcases ho with ho|⟨n',k',ho⟩
    ·exact(hi.sep _ b hm).2 ho
    ·have:=hi.uniq _ (.tmp n' k') b hm (ht n' k' b ho);cases this;rw[hma]at ho;cases ho
  |cell r k=>
   obtain⟨h1,h2⟩:=hi.sep (.cell r k) b hp;refine⟨h1,λho=>?_⟩;rcases ho with ho|⟨n',k',ho⟩
   ·exact h2 ho
   ·have:=hi.uniq (.cell r k) (.tmp n' k') b hp (ht n' k' b ho);cases this
theorem Ox {d:Option Nat} {f:Opd} {args:List Opd} (hk:Ci P GL N o (.callO d f q args)=true) (hg:Gs GL N g w μ s a O)
  (h:DO P GL (.callO d f q args) K s) {next:Act→World→Prop} {Q:Exit→Act→World→Prop}
  (hn:∀s' g' w' μ' a',K s'→Gs GL N g' w' μ' s' a' O→Chg (λb=>¬O b) g w g' w'→μ <+: μ'→a'.defers=a.defers→next a' w'):o.wpIn (WF r) 0 P a w next Q:=by
 refine⟨λ_ _=>trivial,?_⟩;simp only[Ci]at hk;split at hk
 ·rename_i f' asx ts hop;simp only[oJ,beq_iff_eq]at hk;obtain⟨⟨⟨⟨hdst,hdN⟩,hkf⟩,hka⟩,hb⟩:=hk;obtain⟨fid,rets,hf,⟨hok,hsp⟩,hK⟩:=h;rw[Oper.semAt_eq _ _ _ (λc hc=>by rw[hop]at hc;cases hc)];obtain⟨cvs,hcv,hcr,_⟩:=I7 ((hg.gd P).ev hkf) hf;have hcv0:cvs=[]:=pK (by have:=hcr.1;simpa using this);subst hcv0;obtain⟨x,as',has⟩:∃x as',asx.toList=x::as':=by
   cases h:asx.toList with
   |nil=>rw[h]at hka;simp[Ao]at hka
   |cons x as'=>exact⟨x,as',rfl⟩
  rw[has]at hka;simp only[Ao,oJ]at hka;obtain⟨hkx,hka⟩:=hka;have hrx:=(hg.gd P).ev hkx;obtain⟨har,hat⟩:=FI (hg.gd P) hka;have hclear:(AG (q.clear s.e)=AG s.e∧∀k b,Af (q.ev s.e) (a.eval x) k=some b→False)∨∃m,q= .t m true∧AG (q.clear s.e)=λn=>if m=n then (AG s.e m).copy else AG s.e n:=by
   cases q with
   |t m mv=>cases mv with
    |false=>simp[Eh]at hb
    |true=>exact .inr ⟨m,rfl,rfl⟩
   |c d=>
    refine .inl ⟨rfl,λk b hkb=>?_⟩;cases x with
    |const v=>
     rcases LC hkx with hkx|⟨cs,xs,rfl,rfl⟩
     case inr=>cases k<;>simp[Opd.ev,Act.eval,Af,Ac]at hkb
     unfold Ff at hkx;split at hkx<;>first|(cases k<;>simp[Opd.ev,Act.eval,Af,Ac]at hkb;done)|(rename_i h _;cases h)|cases hkx
     all_goals (cases k<;>simp_all [Opd.ev,Act.eval,Af,Ac])
    |tmp n=>simp[oe]at hkx
    |global n=>simp[oe]at hkx
    |func f=>cases k<;>cases d<;>first|(simp[Opd.ev,Act.eval,Af,Ac]at hkb;done)|(simp[Eh]at hb;done)
   |g n cs=>simp[Eh]at hb
  have hInvC:Inv g w μ (AG (q.clear s.e)) (λn=>a.tmps.getD n undef) s.h O:=by
   rcases hclear with ⟨h,_⟩|⟨m,_,h⟩
   ·rw[h];exact hg.inv
   ·rw[h];refine hg.inv.weaken _ λn=>?_;by_cases hn:m=n
    ·subst hn;exact .inr ⟨λv h=>by simpa using RepD.copy h,λv k=>by simpa using Bw _ v k⟩
    ·exact .inl (by simp[hn])
  have hin:=hg.inv.callO (t':=AG (q.clear s.e)) (ds:=Av s.e args) (us:=as'.map a.eval) (x:=q.ev s.e) (v:=a.eval x) (λn k b hb=>by
    rcases hclear with ⟨h,_⟩|⟨m,_,h⟩
    ·rw[h]at hb;exact hb
    ·rw[h]at hb;by_cases hn:m=n
     ·subst hn;simp only[if_true,Bw]at hb;cases hb
     ·simpa[hn]using hb) hrx har hat (λk b hkb=>by
    rcases hclear with ⟨_,h⟩|⟨m,rfl,h⟩
    ·exact(h k b hkb).elim
    ·refine⟨m,?_,λv k=>by rw[h];simp[Bw]⟩;cases x with
     |tmp n=>
      simp only[oe,beq_iff_eq]at hkx;subst hkx;simpa[Opd.ev,Act.eval]using hkb
     |const v=>simp[oe]at hkx
     |global n=>simp[oe]at hkx
     |func f=>simp[oe]at hkx)
  have hcall:=hsp g w μ (a.eval x::as'.map a.eval) _ s.h (by simp[har.1.symm,Av]at *;have:=har.1;simpa[Av]using this) hin hg.glob;have hrun:(execOp a.eval o).run P w= .ok (.enter fid (a.eval x::as'.map a.eval).toArray) w:=by
   unfold Rw at hok;split at hok
   ·rename_i fn hfn;simp only[oJ,pd]at hok;have h1:¬fn.body=none:=by cases hb:fn.body<;>simp_all
    have h3:¬fn.name= "runtime.NumGoroutine" :=by simpa using hok.2
    have h2:asx.map a.eval=(a.eval x::as'.map a.eval).toArray:=by
     rw[←pj];simp[has]
    simp[execOp,hop,resolve,hcv,Deferred.ofValue,invoke,callFunc,hfn,h3,h1,h2]
   ·cases hok
  rw[hrun,Oper.uponIn_enter];refine⟨(λh=>by simp[WF,Fence.wide]at h),FH ?_⟩;refine hcall.mono ?_;rintro e w' ⟨v,g',μ',rfl,hinv,hch,hμ⟩;have hgs:Gs GL N g' w' μ' ⟨q.clear s.e,s.h⟩ a O:=⟨hInvC.ret hinv.leave hch hμ,hg.glob.mono hch.le,hg.sz⟩;refine hn ⟨Bu (q.clear s.e) d (BY rets),s.h⟩ g' w' μ' _ hK ?_ (hch.mono λ_ h ho=>h (.inl ho)) hμ (Bi _ _ _);rw[hdst];cases d with
  |none=>exact⟨hgs.inv,hgs.glob,by rw[BD,hgs.sz]⟩
  |some d=>exact hgs.setR (by simpa using hdN) (hInvC.retV hinv hgs.inv d)
 ·cases hk
theorem JC {st:St} {a:Act} {h:List Row} {O:Nat→Prop} {g:Gh} {w:World} {μ:List Nat} (hg:Gd P GL g w μ st.e a h O):∀ {ps:List Operand} {qs:List Opd},Ao (oe GL) ps qs=true→
  All2 (RepG g w μ) (qs.map λq=>(q.ev st.e).copy) (ps.map a.eval)∧Tame (qs.map λq=>(q.ev st.e).copy) (ps.map a.eval)
 |[],[],_=>⟨.nil,λi d v h=>by simp at h⟩
 |[],_::_,h=>by simp[Ao]at h
 |_::_,[],h=>by simp[Ao]at h
 |p::ps,q::qs,h=>by
  simp only[Ao,oJ]at h;obtain⟨h1,h2⟩:=JC hg h.2;refine⟨.cons (Wm (hg.ev h.1)) h1,λi d v hd hv=>?_⟩
  match i with
  |0=>
   simp only[oV,rX,oH]at hd hv;subst hd;subst hv;exact JY _ _
  |i+1=>exact h2 i d v (by simpa using hd) (by simpa using hv)
theorem QA {d:Nat} {e:Nat} (hk:Ci P GL N o (.appP d q y' e sz by_)=true) (hg:Gs GL N g w μ s a O)
  (h:DO P GL (.appP d q y' e sz by_) K s) {next:Act→World→Prop} {Q:Exit→Act→World→Prop}
  (hn:∀s' g' w' μ' a',K s'→Gs GL N g' w' μ' s' a' O→Chg (λb=>¬O b) g w g' w'→μ <+: μ'→a'.defers=a.defers→next a' w'):o.wpIn (WF r) 0 P a w next Q:=by
 refine⟨λ_ _=>trivial,?_⟩;simp only[Ci,oJ,beq_iff_eq,decide_eq_true_eq]at hk;obtain⟨⟨hdst,hdN⟩,h4⟩:=hk;split at h4
 ·rename_i asx ts hop;simp only[oJ]at h4;obtain⟨⟨⟨k1,k2⟩,k3⟩,k4⟩:=h4;obtain⟨x,y,rfl,j1⟩:=DB k1;obtain⟨t,t2,rfl,j3⟩:=DB k3;simp only[oJ]at j1 j3;obtain⟨e2,he2⟩:=E0 j3.2;obtain⟨i,z,hi,rfl,rfl,h0,hz,hzs⟩:=FF k4;rw[Oper.semAt_eq _ _ _ (λc hc=>by rw[hop]at hc;cases hc)];simp only[DO]at h;split at h
  ·rename_i xs zv hx hy;obtain⟨hzl,hroom,hK⟩:=h;have hry:=CW ((hg.gd P).ev j1.2) hy;obtain⟨vy,h1,h2,h3,h3'⟩:=Ib (P:=P) hg.inv.agree hry h0 (by simp[BM,hzl]);obtain⟨v,w',g',b,hrun,hgs,hch⟩:=Rs hg (ty:=o.type) (DE j3.1) he2 (by simp) hi hz hzs h0 j1.1 hx (Nf hg j1.1 k2) h1 h3 h3' hroom hdN;have hrun2:(execOp a.eval o).run P w= .ok (.value v) w':=by simp[execOp,hop,resolve,invoke,builtin,hrun]
   rw[hrun2];refine hn _ g' w' μ _ (hK b) ?_ hch (oQ _) (Bi _ _ _);rw[hdst];exact hgs
  ·exact h.elim
 ·cases h4
theorem Oy {d:Option Nat} {f:Opd} {args:List Opd} (hk:Ci P GL N o (.callN d f args)=true) (hg:Gs GL N g w μ s a O)
  (h:DO P GL (.callN d f args) K s) {next:Act→World→Prop} {Q:Exit→Act→World→Prop}
  (hn:∀s' g' w' μ' a',K s'→Gs GL N g' w' μ' s' a' O→Chg (λb=>¬O b) g w g' w'→μ <+: μ'→a'.defers=a.defers→next a' w'):o.wpIn (WF r) 0 P a w next Q:=by
 refine⟨λ_ _=>trivial,?_⟩;obtain⟨fid,rets,h',hf,⟨hok,hsp⟩,hK⟩:=h;simp only[Ci]at hk;split at hk
 ·rename_i f' asx ts hop;simp only[oJ,beq_iff_eq]at hk;obtain⟨⟨⟨hdst,hdN⟩,hkf⟩,hka⟩:=hk;rw[Oper.semAt_eq _ _ _ (λc hc=>by rw[hop]at hc;cases hc)];obtain⟨cvs,hcv,hcr,hct⟩:=I7 ((hg.gd P).ev hkf) hf;obtain rfl:cvs=[]:=by have:=hcr.1;simpa using this
  obtain⟨har,hat⟩:=JC (hg.gd P) hka;have hcall:=hsp g w μ _ _ hg.inv.call hg.glob har hat;have hrun:(execOp a.eval o).run P w= .ok (.enter fid (asx.toList.map a.eval).toArray) w:=by
   unfold Rw at hok;split at hok
   ·rename_i fn hfn;simp only[oJ,pd]at hok;have h1:¬fn.body=none:=by cases hb:fn.body<;>simp_all
    have h3:¬fn.name= "runtime.NumGoroutine" :=by simpa using hok.2
    have h2:asx.map a.eval=(asx.toList.map a.eval).toArray:=by
     rw[←pj];simp
    simp[execOp,hop,resolve,hcv,Deferred.ofValue,invoke,callFunc,hfn,h3,h1,h2]
   ·cases hok
  rw[hrun,Oper.uponIn_enter];refine⟨(λh=>by simp[WF,Fence.wide]at h),FH ?_⟩;refine hcall.mono ?_;rintro e w' ⟨v,g',μ',rfl,hinv,hch,hμ⟩;have hgs:Gs GL N g' w' μ' ⟨s.e,h'⟩ a O:=⟨hg.inv.ret hinv.leave hch hμ,hg.glob.mono hch.le,hg.sz⟩;refine hn ⟨Bu s.e d (BY rets),h'⟩ g' w' μ' _ hK ?_ (hch.mono λ_ h ho=>h (.inl ho)) hμ (Bi _ _ _);rw[hdst];cases d with
  |none=>exact⟨hgs.inv,hgs.glob,by rw[BD,hgs.sz]⟩
  |some d=>exact hgs.setR (by simpa using hdN) (hg.inv.retV hinv hgs.inv d)
 ·cases hk
theorem PL {g:Gh} {sz:Nat}:∀ {xs:List V} {us:List Value},(∀x∈xs,x.cells.length=sz)→All2 (RepV g) (xs.flatMap V.cells) us→(∀u∈us,u.oneCell'=true)→
  ∃vs:List Value,All2 (RepV g) xs vs∧us=vs.flatMap (λv=>v.cells.toList)∧∀v∈vs,v.cells.size=sz
 |[],us,_,h,_=>by
  have:=h.1;simp at this;subst this;exact⟨[],.nil,rfl,by simp⟩
 |x::xs,us,hx,h,h1=>by
  rw[oZ]at h;have hxl:=hx x (by simp);have ha:All2 (RepV g) x.cells (us.take sz):=by
   have:=h.take sz
   rwa [qp (by omega),o6 (by omega)]at this
  have hb:All2 (RepV g) (xs.flatMap V.cells) (us.drop sz):=by
   have:=h.drop sz
   rwa [←hxl,List.drop_left,hxl]at this
  obtain⟨vs,h2,h3,h4⟩:=PL (λy hy=>hx y (by simp[hy])) hb (λu hu=>h1 u (qi hu));have ho:∀u∈us.take sz,u.oneCell'=true:=λu hu=>h1 u (pH hu);have hlt:(us.take sz).length=sz:=by rw[ha.1,hxl]
  obtain⟨v,hv1,hv2⟩:∃v,RepV g x v∧v.cells.toList=us.take sz:=by
   generalize us.take sz=ut at ha ho;have one:x.cells=[x]→∃v,RepV g x v∧v.cells.toList=ut:=by
    intro hc;rw[hc]at ha;obtain⟨u,rfl⟩:∃u,ut=[u]:=by
     match ut,ha.1 with
     |[u],_=>exact⟨u,rfl⟩
    exact⟨u,(All2.cons_iff.1 ha).1,by rw[GP (ho u (by simp))]⟩
   cases x with
   |agg cs=>exact⟨.agg ut.toArray,.agg' ha ho,by simp[Value.cells]⟩
   |_=>exact one rfl
  refine⟨v::vs,.cons hv1 h2,by rw[oZ,hv2,←h3,pQ],λy hy=>?_⟩;rcases oO.1 hy with rfl|hy
  ·rw[←hlt,←hv2];simp
  ·exact h4 y hy
theorem OG (h:∃a:Option Addr,u= .slice a 0 0∧∀x,a=some x→x.spot=none):RepV g (.list []) u:=by
 obtain⟨a,rfl,hs⟩:=h;cases a with
 |none=>exact .lnil
 |some a=>exact .list [] a 0 0 (λ_=> .bool false) (hs a rfl) (oN _) (by simp) (by simp)
theorem PK {g:Gh} {w:World} {μ:List Nat}:∀ {ds:List D} {xs:List V} {us:List Value},D.vs? ds=some xs→All2 (RepE g w μ) ds us→All2 (RepV g) xs us
 |[],xs,us,h,ha=>by simp only[D.vs?,oH]at h;subst h;exact⟨by simpa using ha.1,λi x v h=>by simp at h⟩
 |d::ds,xs,us,h,ha=>by
  obtain⟨u,us',rfl⟩:∃u us',us=u::us':=by
   match us,ha.1 with
   |u::us',_=>exact⟨u,us',rfl⟩
  obtain⟨h1,h2⟩:=All2.cons_iff.1 ha;simp only[D.vs?]at h;split at h
  ·rename_i x xs' hx hxs;simp only[oH]at h;subst h;refine .cons ?_ (PK hxs h2);cases d<;>simp only[D.v?,oH,reduceCtorEq]at hx<;>subst hx
   ·exact h1
   ·exact OG h1
   ·exact RepOwn.list h1.1
  ·cases h
theorem NR:∀(vs:List Value),vs.flatMap (λv=>v.cells.toList)=BK vs.length λi=>vs.getD i (.bool false)
 |[]=>rfl
 |v::vs=>by
  have e2:BK (v::vs).length (λi=>(v::vs).getD i (.bool false))=v.cells.toList++BK vs.length (λi=>vs.getD i (.bool false)):=by simp[BK,r9,ry]
  rw[e2,oZ,NR vs]
theorem Lw {z:Array Value} (h:v∈(Builtin.zeroCells z n).toList):v∈z.toList:=by
 simp[Builtin.zeroCells]at h;obtain⟨i,hi,rfl⟩:=h;have h0:0 <z.size:=by
  rcases ra z.size with h|h
  ·rw[h]at hi;omega
  ·exact h
 have hm:=Nat.mod_lt i h0;simp[hm]
theorem RT {d:Nat} (hk:Ci P GL N o (.frz d q sz)=true) (hg:Gs GL N g w μ s a O)
  (h:DO P GL (.frz d q sz) K s) {next:Act→World→Prop} {Q:Exit→Act→World→Prop}
  (hn:∀s' g' w' μ' a',K s'→Gs GL N g' w' μ' s' a' O→Chg (λb=>¬O b) g w g' w'→μ <+: μ'→a'.defers=a.defers→next a' w'):o.wpIn (WF r) 0 P a w next Q:=by
 refine⟨λ_ _=>trivial,?_⟩;simp only[Ci,oJ,beq_iff_eq,decide_eq_true_eq]at hk;obtain⟨⟨hdst,hdN⟩,h4⟩:=hk;obtain⟨x,hop,hx⟩:∃x,(o.op= .move x∨o.op= .assign x)∧oe GL x q=true:=by
  split at h4
  ·rename_i x hop;exact⟨x,.inl hop,h4⟩
  ·rename_i x hop;exact⟨x,.inr hop,h4⟩
  ·cases h4
 have hrun:(execOp a.eval o).run P w= .ok (.value (a.eval x)) w:=by rcases hop with hop|hop<;>simp[execOp,hop]
 rw[Oper.semAt_eq _ _ _ (λc hc=>by rcases hop with hop|hop<;>rw[hop]at hc<;>cases hc),hrun]
 have hr:=(hg.gd P).ev hx;simp only[DO]at h;split at h
 ·rename_i e' s' hq;rw[hq]at hr;obtain⟨ad,hv,hsp⟩:=hr;refine hn _ g w μ _ h ?_ (Chg.refl _ _ _) (oQ _) (Bi _ _ _);rw[hdst,hv];exact hg.set hdN (OG ⟨ad,rfl,hsp⟩) λk=>Bo _ _ _
 ·rename_i r n hq;rw[hq]at hr;obtain⟨b,cap,hb,hv,hnc⟩:=hr;split at h
  ·rename_i ds hrow;obtain⟨h0,xs,hxl,hxc,hvs,hK⟩:=h;obtain⟨vs,T,hheap,hall,hone,hgn⟩:=hg.inv.rows r _ b hrow hb;have hcl:=PK hvs (hall.take (n*sz));obtain⟨ws,w1,w2,w3⟩:=PL hxc hcl (λu hu=>hone u (pH hu));have hwl:ws.length=n:=by rw[w1.1,hxl]
   let g':=g.put b 0 (vs.take (n*sz))
   have hgle:g.le g':=Gh.le_put _ λo _ _=>hgn o;have hchg:Chg (λz=>z=b) g w g' w:=⟨hgle,oN _,λ_ _ _=>rfl,λb' _ hb' o=>Gh.put_other hb' o,rfl,rfl⟩;have hag:∀b' o v,g'.m b' o=some v→w.cell? ⟨b',o,none⟩=some v:=by
    intro b' o v hv;by_cases hb':b'=b
    ·subst hb';rw[cell_of_row w b' o _ _ _ hheap];simp only[g',Gh.put]at hv;split at hv
     ·rename_i hc;simp only[qy]at hv;have h2:=hc.2.2;rw[oz]at hv;split at hv
      ·simpa using hv
      ·cases hv
     ·rw[hgn]at hv;cases hv
    ·simp only[g',Gh.put_other hb']at hv;exact hg.inv.agree b' o v hv
   have hinv:=hg.inv.setAny hrow hb .dead hchg hag (BP hheap) (λk ds d h=>by cases h);have hgs:Gs GL N g' w μ ⟨s.e,s.h.set r .dead⟩ a O:=⟨hinv,hg.glob.mono hgle,hg.sz⟩;have hsz:∀i,i <n→((λi=>ws.getD i (.bool false)) i).cells.size=sz:=λi hi=>by
    have:i <ws.length:=by omega
    simp only[List.getD,oI this,og];exact w3 _ (pR this)
   refine hn _ g' w μ _ hK ?_ (hchg.mono λz (hz:z=b) ho=>hg.inv.mo b (oK hb) (hz▸ho)) (oQ _) (Bi _ _ _);rw[hdst,hv];refine hgs.set hdN (x:= .v (.list xs)) ?_ λk=>Bo _ _ _;rw[←hxl];refine RepV.list xs ⟨b,0,none⟩ cap sz (λi=>ws.getD i (.bool false)) rfl (by omega) (λi x hi=>?_) (λi hi=>⟨hsz i (by omega),λj v hj=>?_⟩)
   ·obtain⟨u,hu,hru⟩:=w1.get hi;simp only[List.getD,hu,og];exact hru.mono hgle
   ·have hjs:j <sz:=by have:=(oM.1 hj).1;have:=hsz i (by omega);simp at *;omega
    have:=Gh.put_at g b 0 (vs.take (n*sz)) (i*sz+j) v (by
     rw[w2,NR,hwl,Dw hsz (by omega) hjs];exact hj)
    simpa using this
  ·exact h.elim
 ·exact h.elim
theorem O6 {d:Nat} {e:Nat} (hk:Ci P GL N o (.appR d q y' e sz by_)=true) (hg:Gs GL N g w μ s a O)
  (h:DO P GL (.appR d q y' e sz by_) K s) (hno:∀e' s',q.ev s.e= .own e' s' []→¬DO P GL (.app d q y' e sz by_) K s) {next:Act→World→Prop} {Q:Exit→Act→World→Prop}
  (hn:∀s' g' w' μ' a',K s'→Gs GL N g' w' μ' s' a' O→Chg (λb=>¬O b) g w g' w'→μ <+: μ'→a'.defers=a.defers→next a' w'):o.wpIn (WF r) 0 P a w next Q:=by
 refine⟨λ_ _=>trivial,?_⟩;simp only[Ci,oJ,beq_iff_eq,decide_eq_true_eq]at hk;obtain⟨⟨hdst,hdN⟩,h4⟩:=hk;split at h4
 ·rename_i asx ts hop;simp only[oJ]at h4;obtain⟨⟨⟨k1,k3⟩,k4⟩,k5⟩:=h4;obtain⟨x,y,rfl,j1⟩:=DB k1;obtain⟨t,t2,rfl,j3⟩:=DB k3;simp only[oJ]at j1 j3;obtain⟨e2,he2⟩:=E0 j3.2;obtain⟨i,z,hi,rfl,rfl,h0,hz,hzs⟩:=FF k4;have hz1:∀v∈z.cells.toList,v.oneCell'=true:=by
   rw[hi]at k5;simp only[pE,hz,Option.any_some]at k5;exact oY.1 k5
  have ht:=DE j3.1;rw[Oper.semAt_eq _ _ _ (λc hc=>by rw[hop]at hc;cases hc)];simp only[DO]at h;obtain⟨base,ys,hev,hsp,hy,hh,hroom,h⟩:∃(base:Option Addr) (ys:List V),a.eval x= .slice base 0 0∧(∀x,base=some x→x.spot=none)∧(y'.ev s.e).toV=some (.list ys)∧BM i.size ys=true∧AU ys.length i.bytes=true∧
    if ys.isEmpty=true then K ⟨(d,.nil e i.size)::s.e,s.h⟩ else ∀k,K ⟨(d,.sref s.h.length ys.length)::s.e,s.h++[.cells ((ys.flatMap V.cells).map .v++List.replicate k .any)]⟩:=by
   have hrq:=(hg.gd P).ev j1.1;split at h
   ·rename_i e' s' ys hq hy;rw[hq]at hrq;obtain⟨base,hev,hsp⟩:=hrq;exact⟨base,ys,hev,hsp,hy,h⟩
   ·rename_i e' s' ys hq hy;rw[hq]at hrq;obtain⟨hh,hroom,h⟩:=h;obtain⟨⟨base,hev,_,hsp⟩|⟨b,cap,cur,vs,hev,hcap,_⟩,hne⟩:=hrq
    ·refine⟨base,ys,hev,hsp,hy,hh,hroom,(h.resolve_left λ⟨he,hs,hK⟩=>hno e' s' hq ?_).2⟩;subst he hs;simp[DO,AI.step,hq,Dr,hy,hh,hroom];exact hK
    ·have h:=h.resolve_left λ⟨he,hs,hK⟩=>hno e' s' hq (by
      subst he hs;simp[DO,AI.step,hq,Dr,hy,hh,hroom];exact hK)
     obtain⟨a',ha'⟩:=hne rfl h.1;rw[hev]at ha';simp at ha';omega
   ·exact h.elim
  have hry:=CW ((hg.gd P).ev j1.2) hy;obtain⟨vy,h1,h2,h3,h3'⟩:=Ib (P:=P) hg.inv.agree hry h0 hh;by_cases hy0:ys=[]
  ·subst hy0;simp only[List.isEmpty_nil,if_true]at h;have hrun:=If (ty:=o.type) ht he2 (by simp) hi h1 rfl base 0 0 (oN _);have:(execOp a.eval o).run P w= .ok (.value (.slice base 0 0)) w:=by simp[execOp,hop,resolve,invoke,builtin,hev,hrun]
   rw[this];refine hn _ g w μ _ h ?_ (Chg.refl _ _ _) (oQ _) (Bi _ _ _);rw[hdst];exact hg.set hdN (x:= .nil e i.size) ⟨base,rfl,hsp⟩ λk=>by cases k<;>cases base<;>simp[Af,Ac]
  ·have hpos:0 <ys.length:=List.length_pos_iff.2 hy0;rw[if_neg (by simpa using hy0)]at h;obtain⟨hf63,hfit⟩:=IM hroom hpos;have hrun:=F2 (ty:=o.type) (base:=base) (len:=0) (cap:=0) (olds:=[]) ht he2 (by simp) hi hz h1 (λw' _=>by cases base<;>simp[Builtin.firstCells,loadCells,loadCellsFrom]) (by omega) (by simpa using hf63) (by simpa using hfit)
   simp only[px]at hrun;have hge:=grownCap_ge w ys.length 0 e
   let zs:=Builtin.zeroCells z.cells (grownCap w ys.length 0 e-ys.length)
   let ob:Obj:= .cells ((#[]:Array Value)++(BK ys.length vy).toArray++zs) e
   have hzsm:∀v∈zs.toList,v.oneCell'=true:=by
    intro v hv;exact hz1 v (Lw hv)
   have hdr:Inv g w.drew μ (AG s.e) (λn=>a.tmps.getD n undef) s.h O:=hg.inv.chg ⟨Gh.le.refl g,oN _,λ_ _ _=>rfl,λ_ _ _ _=>rfl,rfl,rfl⟩ hg.inv.agree;have hnone:∀o,g.m w.heap.size o=none:=λo=>Gh.lt_of hg.inv.agree (oN _) o;have hob:(w.drew.alloc ob).heap[w.heap.size]?=some (.cells ((BK ys.length vy++zs.toList).toArray) e (0,0)):=by
    have:=heap_alloc_new w.drew ob;have e1:(#[]:Array Value)++(BK ys.length vy).toArray++zs=(BK ys.length vy++zs.toList).toArray:=by rw[←pj];simp
    rw[←e1];exact this
   have hfl:All2 (RepV g) (ys.flatMap V.cells) (BK ys.length vy):=by
    have:∀(ys:List V) (vy:Nat→Value),(∀(j:Nat) y,ys[j]?=some y→RepV g y (vy j))→All2 (RepV g) (ys.flatMap V.cells) (BK ys.length vy):=by
     intro ys;induction ys with
     |nil=>intro vy _;exact .nil
     |cons y ys ih=>
      intro vy hvy;have e2:BK (y::ys).length vy=(vy 0).cells.toList++BK ys.length (λj=>vy (j+1)):=by simp[BK,r9,ry]
      rw[e2,oZ];exact(hvy 0 y rfl).cells.1.append (ih _ λj x hx=>hvy (j+1) x (by simpa using hx))
    exact this ys vy h2
   have hcl:All2 (RepE g (w.drew.alloc ob) (μ++[w.heap.size])) ((ys.flatMap V.cells).map .v++List.replicate zs.size .any) (BK ys.length vy++zs.toList):=by
    refine .append (All2.map_left (f:=D.v) (R:=RepV g) (λx y h=>h) hfl) ⟨by simp,λj x v hx hv=>?_⟩;have:=(qo.1 (oK hx)).2;subst this;trivial
   have hone:∀v∈BK ys.length vy++zs.toList,v.oneCell'=true:=by
    intro v hv;rcases oc.1 hv with hv|hv
    ·obtain⟨j,hj,hm⟩:=I9 hv;exact h3' j hj v hm
    ·exact hzsm v hv
   have hrow:RowOK g (w.drew.alloc ob) (μ++[w.drew.heap.size]) w.drew.heap.size (.cells ((ys.flatMap V.cells).map .v++List.replicate zs.size .any)):=⟨_,e,hob,hcl,hone,hnone⟩;have hinv:=hdr.newAny (.cells ((ys.flatMap V.cells).map .v++List.replicate zs.size .any)) ob hrow (λk ds d hd hk=>by
    simp only[Row.cells.injEq]at hd;subst hd;have hm:=oK hk;rcases oc.1 hm with hm|hm
    ·obtain⟨y,_,rfl⟩:=oP.1 hm;simp[Ac]
    ·have:=(qo.1 hm).2;subst this;simp[Ac])
   have hrun2:(execOp a.eval o).run P w= .ok (.value (.slice (some ⟨w.heap.size,0,none⟩) ys.length (grownCap w ys.length 0 e))) (w.drew.alloc ob):=by
    simp[execOp,hop,resolve,invoke,builtin,hev,hrun,ob,zs]
   rw[hrun2];have hdw:Chg (λb=>¬O b) g w g w.drew:=⟨Gh.le.refl g,oN _,λ_ _ _=>rfl,λ_ _ _ _=>rfl,rfl,rfl⟩;have hch:Chg (λb=>¬O b) g w g (w.drew.alloc ob):=hdw.trans (By (λb=>¬O b) g w.drew ob);refine hn _ g (w.drew.alloc ob) (μ++[w.heap.size]) _ (h zs.size) ?_ hch (py _ _) (Bi _ _ _);rw[hdst];have hgn:Gs GL N g (w.drew.alloc ob) (μ++[w.heap.size]) ⟨s.e,s.h++[.cells ((ys.flatMap V.cells).map .v++List.replicate zs.size .any)]⟩ a O:=⟨hinv,hg.glob,hg.sz⟩;exact hgn.set hdN (x:= .sref s.h.length ys.length) ⟨w.heap.size,_,by rw[←hg.inv.len];simp,rfl,hge⟩ λk=>by cases k<;>simp[Af,Ac]
 ·cases h4
theorem T8 {en:CB} {e s:Nat} (h:q.ev en= .own e s []):Eh q=true:=by
 cases q with
 |t n mv=>
  cases mv with
  |true=>rfl
  |false=>simp only[Opd.ev]at h;cases hf:AG en n<;>rw[hf]at h<;>cases h
 |c d=>simp only[Opd.ev]at h;subst h;rfl
 |g n cs=>cases h
theorem P9 {d:Nat} {e:Nat} (hk:Ci P GL N o (.appR d q y' e sz by_)=true) (hg:Gs GL N g w μ s a O)
  (h:DO P GL (.appR d q y' e sz by_) K s) {next:Act→World→Prop} {Q:Exit→Act→World→Prop}
  (hn:∀s' g' w' μ' a',K s'→Gs GL N g' w' μ' s' a' O→Chg (λb=>¬O b) g w g' w'→μ <+: μ'→a'.defers=a.defers→next a' w'):o.wpIn (WF r) 0 P a w next Q:=by
 by_cases hyes:∃e' s',q.ev s.e= .own e' s' []∧DO P GL (.app d q y' e sz by_) K s
 ·obtain⟨e',s',hq,hy⟩:=hyes;refine FZ (ai:= .app d q y' e sz by_) (λ_ _ _=>⟨(λh=>by cases h),(λh=>by cases h)⟩) (λ_ _ _ _ h=>by cases h) (λ_ _ _ _ _ _=>⟨(λh=>by cases h),(λh=>by cases h)⟩) (λ_ _ _ h=>by cases h) (λ_ _ _ _ _ _ h=>by cases h) ?_ hg hy hn;have hb:=T8 hq;simp only[Ci]at hk ⊢;split at hk
  ·simp only[oJ]at hk ⊢;exact⟨hk.1,⟨⟨⟨hk.2.1.1.1,hb⟩,hk.2.1.1.2⟩,hk.2.1.2⟩⟩
  ·simp at hk
 ·exact O6 hk hg h (λe' s' hq hy=>hyes ⟨e',s',hq,hy⟩) hn
theorem P8 {ai:AI} (hk:Ci P GL N o ai=true) (hg:Gs GL N g w μ s a O)
  (h:DO P GL ai K s) {next:Act→World→Prop} {Q:Exit→Act→World→Prop}
  (hn:∀s' g' w' μ' a',K s'→Gs GL N g' w' μ' s' a' O→Chg (λb=>¬O b) g w g' w'→μ <+: μ'→a'.defers=a.defers→next a' w'):o.wpIn (WF r) 0 P a w next Q:=by
 by_cases hc4:∃d f q args,ai= .callO d f q args
 ·obtain⟨d,f,q,args,rfl⟩:=hc4;exact Ox hk hg h hn
 have hc4:∀d f q args,ai≠ .callO d f q args:=λd f q args h=>hc4 ⟨d,f,q,args,h⟩;by_cases hc5:∃d x y e s b,ai= .appR d x y e s b
 ·obtain⟨d,x,y,e,s,b,rfl⟩:=hc5;exact P9 hk hg h hn
 by_cases hc6:∃d x s,ai= .frz d x s
 ·obtain⟨d,x,s,rfl⟩:=hc6;exact RT hk hg h hn
 have hc5:∀d x y e s b,ai≠ .appR d x y e s b∧ai≠ .frz d x s:=λd x y e s b=>⟨λh=>hc5 ⟨d,x,y,e,s,b,h⟩,λh=>hc6 ⟨d,x,s,h⟩⟩;by_cases hc7:∃d f args,ai= .callN d f args
 ·obtain⟨d,f,args,rfl⟩:=hc7;exact Oy hk hg h hn
 have hc7:∀d f args,ai≠ .callN d f args:=λd f args h=>hc7 ⟨d,f,args,h⟩;by_cases hc8:∃d x y e s b,ai= .appP d x y e s b
 ·obtain⟨d,x,y,e,s,b,rfl⟩:=hc8;exact QA hk hg h hn
 have hc8:∀d x y e s b,ai≠ .appP d x y e s b:=λd x y e s b h=>hc8 ⟨d,x,y,e,s,b,h⟩;by_cases hc:∃d f args,ai= .callF d f args
 ·obtain⟨d,f,args,rfl⟩:=hc;exact FZ (ai:= .call d f args) (λ_ _ _=>⟨(λh=>by cases h),(λh=>by cases h)⟩) (λ_ _ _ _ h=>by cases h) (λ_ _ _ _ _ _=>⟨(λh=>by cases h),(λh=>by cases h)⟩) (λ_ _ _ h=>by cases h) (λ_ _ _ _ _ _ h=>by cases h) hk hg h hn
 ·by_cases hc2:∃d f args,ai= .callC d f args
  ·obtain⟨d,f,args,rfl⟩:=hc2;exact FZ (ai:= .call d f args) (λ_ _ _=>⟨(λh=>by cases h),(λh=>by cases h)⟩) (λ_ _ _ _ h=>by cases h) (λ_ _ _ _ _ _=>⟨(λh=>by cases h),(λh=>by cases h)⟩) (λ_ _ _ h=>by cases h) (λ_ _ _ _ _ _ h=>by cases h) hk hg h hn
  ·exact FZ (λd f args=>⟨λh=>hc ⟨d,f,args,h⟩,λh=>hc2 ⟨d,f,args,h⟩⟩) hc4 hc5 hc7 hc8 hk hg h hn
theorem GU {x:GI} (hk1:Hy P GL N ops i x=true) (hg:Gs GL N g w μ s a O)
  (h:D5 P GL x K s) {next:Act→World→Prop} {Q:Exit→Act→World→Prop}
  (hn:∀s' g' w' μ' a',K s'→Gs GL N g' w' μ' s' a' O→Chg (λb=>¬O b) g w g' w'→μ <+: μ'→a'.defers=a.defers→next a' w'):wpOpIn (WF r) 0 P ops Q i next a w:=by
 unfold Hy at hk1;split at hk1
 ·cases hk1
 ·rename_i o ho;simp only[oJ]at hk1;obtain⟨hgd,hki⟩:=hk1;simp only[wpOpIn,ho];have go:DO P GL x.i K s→o.wpIn (WF r) 0 P a w next Q:=λh=>P8 hki hg h hn;cases hog:o.guard with
  |none=>
   cases hxg:x.g with
   |none=>
    simp only[D5,hxg]at h;rw[if_pos (by simp[Region.wanted,hog])];exact go h
   |some p=>simp[hog,hxg]at hgd
  |some p=>
   obtain⟨j,want⟩:=p;cases hxg:x.g with
   |none=>simp[hog,hxg]at hgd
   |some p'=>
    obtain⟨t,want'⟩:=p';simp only[hog,hxg,oJ,beq_iff_eq]at hgd;obtain⟨⟨hj,rfl⟩,hdst⟩:=hgd;simp only[D5,hxg]at h;have hrt:=hg.inv.rep t;have skip:K ⟨Bu s.e x.i.dst (.tup []),s.h⟩→next (a.put o.dst undef) w:=λh2=>by
     refine hn _ g w μ _ h2 ?_ (Chg.refl _ _ _) (oQ _) (Bi _ _ _);rw[←hdst];cases hd:x.i.dst with
     |none=>exact⟨hg.inv,hg.glob,by rw[BD,hg.sz]⟩
     |some d=>
      have hdN:d <N:=by
       have:∀(ai:AI),Ci P GL N o ai=true→ai.dst=some d→d <N:=by
        intro ai hk hd;cases ai<;>simp only[AI.dst,oH,reduceCtorEq]at hd<;>(try subst hd)<;>simp only[Ci,oJ,decide_eq_true_eq]at hk
        all_goals first
         |exact hk.1.2
         |exact hk.1.1.2
         |(cases hk;done)
         |(split at hk
           ·simp only[oJ,beq_iff_eq,decide_eq_true_eq]at hk;first|exact hk.1.1.2|exact hk.1.1.1.2
           ·cases hk)
       exact this x.i hki hd
      exact hg.set hdN (x:= .tup []) (v:=undef) ⟨[],rfl,.nil⟩ λk=>by simp[Af,undef,Ac]
    split at h
    ·rename_i b hb;rw[hb]at hrt;have hv:=Fk hrt;have hy:yielded ops a.tmps j=some b:=by
      have h2:a.tmps[t]?=some (.bool b):=by
       cases hq:a.tmps[t]? with
       |none=>simp[hq,undef]at hv
       |some u=>simpa[hq]using hv
      simp[yielded,hj,h2]
     by_cases hbw:b=want
     ·subst hbw;simp only[if_true]at h;rw[if_pos (by simp[Region.wanted,hog,hy])];exact go h
     ·simp only[hbw,if_false]at h;rw[if_neg (by simp[Region.wanted,hog,hy,hbw])];exact⟨λ_ _=>trivial,skip h⟩
    ·rename_i hb;rw[hb]at hrt;obtain⟨us,hv,hall⟩:=hrt;have hu:us=[]:=pK hall.1;subst hu;have hy:yielded ops a.tmps j=none:=by
      have h2:∀b,a.tmps[t]?≠some (.bool b):=by
       intro b hb';simp[hb']at hv
      unfold yielded;rw[hj];show (match a.tmps[t]? with|some (.bool b)=>some b|_=>none)=none
      split
      ·rename_i b hb';exact absurd hb' (h2 b)
      ·rfl
     rw[if_neg (by simp[Region.wanted,hog,hy])];exact⟨λ_ _=>trivial,skip h⟩
    ·exact h.elim
theorem JG {ops:Array Oper} {Q:Exit→Act→World→Prop}:∀(l:List Nat) (is:List GI) {K:St→Prop} {g:Gh} {w:World} {μ:List Nat} {s:St} {a:Act} {O:Nat→Prop},
  Ao (Hy P GL N ops) l is=true→Gs GL N g w μ s a O→Bz P GL is K s→(∀a' w',After GL N K g w μ a O a' w'→Q .normal a' w')→wpOpsIn (WF r) 0 P ops Q l a w
 |[],[],K,g,w,μ,s,a,O,_,hg,h,hq=>by
  simp only[wpOpsIn];exact hq a w ⟨s,g,μ,h,hg,Chg.refl _ _ _,oQ _,rfl⟩
 |[],_::_,_,_,_,_,_,_,_,hk,_,_,_=>by simp[Ao]at hk
 |_::_,[],_,_,_,_,_,_,_,hk,_,_,_=>by simp[Ao]at hk
 |i::l,x::is,K,g,w,μ,s,a,O,hk,hg,h,hq=>by
  simp only[Ao,oJ]at hk;rw[wpOpsIn_cons];exact GU hk.1 hg h λs' g' w' μ' a' hK hgs hch hμ hd=>JG l is hk.2 hgs hK λa2 w2 h2=>hq a2 w2 (h2.trans hch hμ hd)
theorem JV (rets:List V):BY (rets.map .v)=Ij rets:=by
 match rets with
 |[]=>rfl
 |[x]=>rfl
 |x::y::r=>rfl
theorem PSp.fsp {args rets:List V} (hp:PSp P GL f args rets) (h:List Row):FSp P GL f (args.map .v) h (rets.map .v) h:=by
 refine⟨hp.1,λg w μ us O hinv hgl hall _=>(hp.2 g w us hinv.agree hgl ⟨by simpa using hall.1,λi x v hx hv=>hall.2 i (.v x) v (by simp[hx]) hv⟩).mono ?_⟩;rintro e w' ⟨v,g',rfl,hrep,hch,hag⟩;obtain⟨h1,h2⟩:=Sb (μ:=μ) hrep;rw[JV];exact⟨v,g',μ,rfl,(hinv.chg hch hag).set (d:=0) h1 h2,hch.mono λ_ h=>h.elim,oQ _⟩
end
end
section
def Opd.rd:Opd→List Nat
 | .t n _=>[n]
 |_=>[]
def Opd.wr:Opd→List Nat
 | .t n true=>[n]
 |_=>[]
def Opd.rds:List Opd→List Nat
 |[]=>[]
 |x::xs=>x.rd++Opd.rds xs
def Opd.rdo:Option Opd→List Nat
 |some x=>x.rd
 |none=>[]
def PI.rd:PI→List Nat
 | .pick c a b=>c.rd++(a.rd++b.rd)
 | .build _ ps=>Opd.rds (ps.map (·.2.2))
 | .load a _ _=>a.rd
 | .nilc x=>x.rd
 | .bin _ x y=>x.rd++y.rd
 | .eqB _ x y=>x.rd++y.rd
 | .eqA _ _ x y=>x.rd++y.rd
 | .eqP _ x y=>x.rd++y.rd
 | .not x=>x.rd
 | .neg x=>x.rd
 | .inv x=>x.rd
 | .cint _ x=>x.rd
 | .faddr x _ _=>x.rd
 | .fld x _ _ _=>x.rd
 | .iaddr x i _=>x.rd++i.rd
 | .iaddrA x i _ _=>x.rd++i.rd
 | .iaddrP x i _=>x.rd++i.rd
 | .idxS x i=>x.rd++i.rd
 | .slc x lo hi _=>x.rd++(Opd.rdo lo++Opd.rdo hi)
 | .slcS x lo hi=>x.rd++(Opd.rdo lo++Opd.rdo hi)
 | .slc0 x _ _=>x.rd
 | .ext x _=>x.rd
 | .mkf _ caps=>Opd.rds caps
 | .mkme _ caps=>Opd.rds caps
 | .idxA x i _ _ _=>x.rd++i.rd
 | .alen x=>x.rd
 | .lenS x=>x.rd
 | .b2s x=>x.rd
 | .look m k _ _ _ _ _=>m.rd++k.rd
 | .mlen m=>m.rd
 | .minmax _ x y=>x.rd++y.rd
inductive Kd where
 |n|r|a|w|t
 deriving DecidableEq
def AI.kd:AI→Kd
 | .p _ (.load _ _ _)=> .r
 | .p _ (.look _ _ _ _ _ _ _)=> .r
 | .p _ (.mlen _)=> .r
 | .alloc _ _| .box _ _| .mkm _| .mksl _ _ _| .mksz _ _ _| .callC _ _ _=> .a
 | .take _ _=> .t
 | .store _ _ _| .mput _ _ _ _ _| .mdel _ _ _ _ _| .callF _ _ _| .mest _ _ _| .ment _ _ _ _ _| .cpy _ _ _ _| .fin _ _ _ _ _=> .w
 |_=> .n
def AI.rd:AI→List Nat
 | .p _ i=>i.rd
 | .mv _ x=>x.rd
 | .alloc _ _=>[]
 | .box _ x=>x.rd
 | .store a x _=>a.rd++x.rd
 | .take _ a=>a.rd
 | .app _ x y _ _ _=>x.rd++y.rd
 | .appS _ x y _ _=>x.rd++y.rd
 | .bsl _ _ _ ps=>Opd.rds ps
 | .s2b _ x=>x.rd
 | .nilS _ _ x=>x.rd
 | .mkm _=>[]
 | .mksl _ x _=>x.rd
 | .mput m k v _ _=>m.rd++(k.rd++v.rd)
 | .ment _ m k _ _=>m.rd++k.rd
 | .mest m b v=>m.rd++(b.rd++v.rd)
 | .mdel _ m k _ _=>m.rd++k.rd
 | .call _ f args=>f.rd++Opd.rds args
 | .callF _ f args=>f.rd++Opd.rds args
 | .callC _ f args=>f.rd++Opd.rds args
 | .callO _ f q args=>f.rd++(q.rd++Opd.rds args)
 | .appR _ x y _ _ _=>x.rd++y.rd
 | .frz _ x _=>x.rd
 | .mksz _ x _=>x.rd
 | .callN _ f args=>f.rd++Opd.rds args
 | .appP _ x y _ _ _=>x.rd++y.rd
 | .fin m ad pp x _=>[m]++(ad.rd++(pp.rd++x.rd))
 | .cpy _ x y _=>x.rd++y.rd
def AI.wr:AI→List Nat
 | .p d _| .alloc d _| .box d _| .take d _| .bsl d _ _ _| .s2b d _| .nilS d _ _| .mkm d| .mksl d _ _| .ment d _ _ _ _=>[d]
 | .mput _ _ _ _ _=>[]
 | .mest _ _ _=>[]
 | .mdel d _ _ _ _=>d.toList
 | .mv d x| .app d x _ _ _ _| .appS d x _ _ _=>d::x.wr
 | .store _ x _=>x.wr
 | .call d _ _=>d.toList
 | .callF d _ _=>d.toList
 | .callC d _ _=>d.toList
 | .callO d _ q _=>d.toList++q.wr
 | .appR d _ _ _ _ _| .frz d _ _=>[d]
 | .mksz d _ _=>[d]
 | .callN d _ _=>d.toList
 | .appP d x _ _ _ _=>d::x.wr
 | .fin m _ _ _ _=>[m]
 | .cpy d _ _ _=>d.toList
def GI.rd (x:GI):List Nat:=(match x.g with|some (t,_)=>[t]|none=>[])++x.i.rd
def GI.wr (x:GI):List Nat:=x.i.dst.toList++x.i.wr
def Same (e e2:CB) (l:List Nat):Prop:=∀n∈l,AG e2 n=AG e n
variable {e:CB}
theorem Same.left {e2:CB} {a b:List Nat} (h:Same e e2 (a++b)):Same e e2 a:=λn hn=>h n (rb _ hn)
theorem Same.right {e2:CB} {a b:List Nat} (h:Same e e2 (a++b)):Same e e2 b:=λn hn=>h n (rA _ hn)
theorem Same.ev {e e2:CB} {x:Opd} (h:Same e e2 x.rd):x.ev e2=x.ev e:=by
 cases x with
 |t n mv=>simp[Opd.ev,h n (by simp[Opd.rd])]
 |c d=>rfl
 |g n cs=>rfl
theorem Same.toVs {e e2:CB}:∀ {xs:List Opd},Same e e2 (Opd.rds xs)→Go.Va.IE e2 xs=Go.Va.IE e xs
 |[],_=>rfl
 |x::xs,h=>by simp only[Go.Va.IE,Same.ev (Same.left h),Same.toVs (Same.right h)]
theorem Same.argsOf {e e2:CB}:∀ {xs:List Opd},Same e e2 (Opd.rds xs)→Go.Va.Av e2 xs=Go.Va.Av e xs
 |[],_=>rfl
 |x::xs,h=>by
  have:=Same.argsOf (Same.right h);simp only[Go.Va.Av]at this ⊢;simp only[oV,Same.ev (Same.left h),this]
theorem Same.caps {e e2:CB}:∀ {xs:List Opd},Same e e2 (Opd.rds xs)→Eg e2 xs=Eg e xs
 |[],_=>rfl
 |x::xs,h=>by simp only[Eg,Same.ev (Same.left h),Same.caps (Same.right h)]
theorem Same.fill {e e2:CB}:∀ {ps:List (Nat×Nat×Opd)} {cs:List D},Same e e2 (Opd.rds (ps.map (·.2.2)))→FE e2 cs ps=FE e cs ps
 |[],_,_=>rfl
 |(o,n,x)::ps,cs,h=>by
  have h1:Same e e2 x.rd:=Same.left h;have h2:Same e e2 (Opd.rds (ps.map (·.2.2))):=Same.right h;simp only[FE,h1.ev];split
  ·split
   ·exact Same.fill h2
   ·rfl
  ·rfl
theorem Same.opt {e2:CB} {x:Option Opd} (h:Same e e2 (Opd.rdo x)):x.map (·.ev e2)=x.map (·.ev e):=by
 cases x with
 |none=>rfl
 |some x=>simp[Same.ev (x:=x) h]
def PI.kd:PI→Kd
 | .load _ _ _=> .r
 | .look _ _ _ _ _ _ _=> .r
 | .mlen _=> .r
 |_=> .n
def LoadEq (h h2:List Row):Prop:=h2.length=h.length∧∀r:Nat,h2[r]?=h[r]?∨∃ds es:List D,h[r]?=some (.cells ds)∧h2[r]?=some (.cells es)∧es.map D.copy=ds.map D.copy
theorem LoadEq.symm {h h2:List Row} (hq:LoadEq h h2):LoadEq h2 h:=⟨hq.1.symm,λr=>(hq.2 r).elim (λh=> .inl h.symm) λ⟨ds,es,h1,h2,h3⟩=> .inr ⟨es,ds,h2,h1,h3.symm⟩⟩
variable {xs:List V} {ds:List D} {off r sz:Nat} {h:List Row}
theorem LoadEq.take {e:Nat} (hr:h[r]?=some (.cells ds)) (hd:ds[off]?=some (.own e sz xs)):LoadEq h (h.set r (.cells (ds.set off (.v (.list xs))))):=by
 refine⟨by simp,λi=>?_⟩;by_cases hi:r=i
 ·subst hi;refine .inr ⟨ds,_,hr,pF (oM.1 hr).1,?_⟩;apply pe;intro j;rw[oX,oX,pU];by_cases hj:off=j
  ·subst hj;have:=(oM.1 hd).1;rw[if_pos rfl,if_pos this,hd];rfl
  ·rw[if_neg hj]
 ·exact .inl (ot hi)
theorem Py {es:List D} (h:es.map D.copy=ds.map D.copy) (off n:Nat) (ag:Bool):D.part es off n ag=D.part ds off n ag:=by
 have hl:es.length=ds.length:=by have:=congrArg List.length h;simpa using this
 unfold D.part;rw[hl];split
 ·cases ag with
  |true=>
   simp only[if_true,oH,D.agg.injEq];rw[o8,qQ,h,←qQ,←o8]
  |false=>
   simp only[oa,if_false];rw[←oX,h,oX]
 ·rfl
theorem PI.val_same {h2:List Row} (hq:LoadEq h h2) {i:PI} {x:D} (hv:i.val e h=some x):i.val e h2=some x:=by
 have hmap:∀(r:Nat) es bs ck,h[r]?=some (.map es bs ck)→h2[r]?=some (.map es bs ck):=λr es bs ck hr=>by
  rcases hq.2 r with h|⟨ds,_,h1,_⟩
  ·rw[h];exact hr
  ·rw[h1]at hr;cases hr
 cases i<;>try exact hv
 ·rename_i a n ag;simp only[PI.val]at hv ⊢;split at hv
  ·exact hv
  ·rename_i r off ha;split at hv
   ·rename_i ds hr;rcases hq.2 r with h|⟨ds',es,h1,h2,h3⟩
    ·rw[h,hr];exact hv
    ·rw[hr]at h1;simp only[oH,Row.cells.injEq]at h1;subst h1;simp only[h2,Py h3];exact hv
   ·cases hv
  ·cases hv
 ·rename_i m k st ks zs ag ok;simp only[PI.val]at hv ⊢;split at hv
  ·split at hv
   ·rename_i hok;rw[if_pos hok];split at hv
    ·rename_i z hz;split at hv
     ·exact hv
     ·rename_i r ha;split at hv
      ·rename_i es bs ck hr;simp only[hmap r es bs ck hr];exact hv
      ·cases hv
     ·cases hv
    ·cases hv
   ·cases hv
  ·cases hv
 ·rename_i m;simp only[PI.val]at hv ⊢;split at hv
  ·exact hv
  ·rename_i r ha;split at hv
   ·rename_i es bs ck hr;simp only[hmap r es bs ck hr];exact hv
   ·cases hv
  ·cases hv
theorem PI.val_congr {e2:CB} {i:PI} (hs:Same e e2 i.rd):i.val e2 h=i.val e h:=by
 cases i with
 |pick c a b=>simp only[PI.val,(Same.left hs).ev,(Same.left (Same.right hs)).ev,(Same.right (Same.right hs)).ev]
 |build zs ps=>simp only[PI.val,Same.fill hs]
 |load a n ag=>simp only[PI.val,Same.ev (x:=a) hs]
 |nilc x=>simp only[PI.val,Same.ev (x:=x) hs]
 |bin op x y=>simp only[PI.val,(Same.left hs).ev,(Same.right hs).ev]
 |eqB ne x y=>simp only[PI.val,(Same.left hs).ev,(Same.right hs).ev]
 |eqA ne ks x y=>simp only[PI.val,(Same.left hs).ev,(Same.right hs).ev]
 |eqP ne x y=>simp only[PI.val,(Same.left hs).ev,(Same.right hs).ev]
 |not x=>simp only[PI.val,Same.ev (x:=x) hs]
 |neg x=>simp only[PI.val,Same.ev (x:=x) hs]
 |inv x=>simp only[PI.val,Same.ev (x:=x) hs]
 |cint k x=>simp only[PI.val,Same.ev (x:=x) hs]
 |faddr x o n=>simp only[PI.val,Same.ev (x:=x) hs]
 |fld x o n ag=>simp only[PI.val,Same.ev (x:=x) hs]
 |iaddr x i s=>simp only[PI.val,(Same.left hs).ev,(Same.right hs).ev]
 |iaddrP x i s=>simp only[PI.val,(Same.left hs).ev,(Same.right hs).ev]
 |iaddrA x i l s=>simp only[PI.val,(Same.left hs).ev,(Same.right hs).ev]
 |idxS x i=>simp only[PI.val,(Same.left hs).ev,(Same.right hs).ev]
 |slc x lo hi s=>simp only[PI.val,(Same.left hs).ev,Same.opt (Same.left (Same.right hs)),Same.opt (Same.right (Same.right hs))]
 |slcS x lo hi=>simp only[PI.val,(Same.left hs).ev,Same.opt (Same.left (Same.right hs)),Same.opt (Same.right (Same.right hs))]
 |slc0 x el s=>simp only[PI.val,Same.ev (x:=x) hs]
 |ext x i=>
  cases x with
  |t n mv=>simp only[PI.val,hs n (by simp[PI.rd,Opd.rd])]
  |c d=>rfl
  |g n cs=>rfl
 |mkf f caps=>simp only[PI.val,Same.caps hs]
 |mkme f caps=>simp only[PI.val,Same.caps hs]
 |idxA x i n s ag=>simp only[PI.val,(Same.left hs).ev,(Same.right hs).ev]
 |alen x=>simp only[PI.val,Same.ev (x:=x) hs]
 |lenS x=>simp only[PI.val,Same.ev (x:=x) hs]
 |look m k st ks zs ag ok=>simp only[PI.val,(Same.left hs).ev,(Same.right hs).ev]
 |mlen m=>simp only[PI.val,Same.ev (x:=m) hs]
 |b2s x=>simp only[PI.val,Same.ev (x:=x) hs]
 |minmax mx x y=>simp only[PI.val,(Same.left hs).ev,(Same.right hs).ev]
theorem PI.val_heap {h2:List Row} {i:PI} (hk:i.kd= .n):i.val e h2=i.val e h:=by
 cases i<;>first|rfl|cases hk
theorem PI.val_grow {t:List Row} {i:PI} {x:D} (hv:i.val e h=some x):i.val e (h++t)=some x:=by
 cases hk:i.kd with
 |n=>rw[PI.val_heap (h2:=h++t) hk];exact hv
 |r=>
  cases i with
  |load a n ag=>
   simp only[PI.val]at hv ⊢;split at hv
   ·exact hv
   ·rename_i r off ha;split at hv
    ·rename_i ds hr;have:(h++t)[r]?=some (.cells ds):=by rw[ov (oM.1 hr).1];exact hr
     simp only[this];exact hv
    ·cases hv
   ·cases hv
  |look m k st ks zs ag ok=>
   simp only[PI.val]at hv ⊢;split at hv
   ·split at hv
    ·rename_i hok;rw[if_pos hok];split at hv
     ·rename_i z hz;split at hv
      ·exact hv
      ·rename_i r ha;split at hv
       ·rename_i es bs ck hr;have:(h++t)[r]?=some (.map es bs ck):=by rw[ov (oM.1 hr).1];exact hr
        simp only[this];exact hv
       ·cases hv
      ·cases hv
     ·cases hv
    ·cases hv
   ·cases hv
  |mlen m=>
   simp only[PI.val]at hv ⊢;split at hv
   ·exact hv
   ·rename_i r ha;split at hv
    ·rename_i es bs ck hr;have:(h++t)[r]?=some (.map es bs ck):=by rw[ov (oM.1 hr).1];exact hr
     simp only[this];exact hv
    ·cases hv
   ·cases hv
  |_=>cases hk
 |a=>cases i<;>cases hk
 |w=>cases i<;>cases hk
 |t=>cases i<;>cases hk
end
section
def Opd.clr (e:CB):Opd→CB
 | .t n true=>[(n,(AG e n).copy)]
 |_=>[]
theorem Ec (x:Opd) (e:CB):x.clear e=x.clr e++e:=by
 cases x with
 |t n mv=>cases mv<;>rfl
 |_=>rfl
theorem Same.clr {e e2:CB} {x:Opd} (h:Same e e2 x.rd):x.clr e2=x.clr e:=by
 cases x with
 |t n mv=>cases mv<;>simp[Opd.clr,h n (by simp[Opd.rd])]
 |_=>rfl
variable {e:CB}
theorem Nb {x:Opd} {p:Nat×D} (h:p∈x.clr e):p.1∈x.wr:=by
 cases x with
 |t n mv=>cases mv<;>simp_all [Opd.clr,Opd.wr]
 |_=>simp[Opd.clr]at h
structure Local (R:St→St→Prop) (rd wr:List Nat) (kd:Kd) (s:St) (δ:CB) (h':List Row):Prop where
 wr:∀p∈δ,p.1∈wr
 here:∀e2,Same s.e e2 rd→R ⟨e2,s.h⟩ ⟨δ++e2,h'⟩
 n:kd= .n→h'=s.h∧∀e2 h2,Same s.e e2 rd→R ⟨e2,h2⟩ ⟨δ++e2,h2⟩
 r:kd= .r→h'=s.h∧(∀e2 t,Same s.e e2 rd→R ⟨e2,s.h++t⟩ ⟨δ++e2,s.h++t⟩)∧∀e2 h2,LoadEq s.h h2→Same s.e e2 rd→R ⟨e2,h2⟩ ⟨δ++e2,h2⟩
 a:kd= .a→∃t,h'=s.h++t
 t:kd= .t→LoadEq s.h h'
variable {s:St}
theorem Local.ofN {R:St→St→Prop} {rd wr:List Nat} {δ:CB} {kd:Kd} (hwr:∀p∈δ,p.1∈wr) (h:∀e2 h2,Same s.e e2 rd→R ⟨e2,h2⟩ ⟨δ++e2,h2⟩):Local R rd wr kd s δ s.h where
 wr:=hwr
 here:=λe2 hs=>h e2 s.h hs
 n:=λ_=>⟨rfl,h⟩
 r:=λ_=>⟨rfl,λe2 t hs=>h e2 _ hs,λe2 h2 _ hs=>h e2 h2 hs⟩
 a:=λ_=>⟨[],by simp⟩
 t:=λ_=>⟨rfl,λr=> .inl rfl⟩
variable {s':St}
theorem PO {i:AI} (h:i.step s=some s'):∃δ h',s'=⟨δ++s.e,h'⟩∧Local (λs s'=>i.step s=some s') i.rd i.wr i.kd s δ h':=by
 cases i with
 |p d i=>
  simp only[AI.step,oU]at h;obtain⟨x,hx,rfl⟩:=h;cases hk:i.kd with
  |n=>
   refine⟨[(d,x)],s.h,rfl,.ofN (by simp[AI.wr]) λe2 h2 hs=>?_⟩;simp only[AI.step,PI.val_congr (i:=i) hs,PI.val_heap (h:=s.h) (h2:=h2) hk,hx,o9];rfl
  |r=>
   have hkd:(AI.p d i).kd= .r:=by cases i<;>first|rfl|cases hk
   refine⟨[(d,x)],s.h,rfl,by simp[AI.wr],λe2 hs=>?_,λh=>(by rw[hkd]at h;cases h),λ_=>⟨rfl,λe2 t hs=>?_,λe2 h2 hq hs=>?_⟩,λh=>(by rw[hkd]at h;cases h),λh=>(by rw[hkd]at h;cases h)⟩
   ·simp only[AI.step,PI.val_congr (i:=i) hs,hx,o9];rfl
   ·simp only[AI.step,PI.val_congr (i:=i) hs,PI.val_grow hx,o9];rfl
   ·simp only[AI.step,PI.val_congr (i:=i) hs,PI.val_same hq hx,o9];rfl
  |a=>cases i<;>cases hk
  |w=>cases i<;>cases hk
  |t=>cases i<;>cases hk
 |mv d x=>
  simp only[AI.step,oH]at h;subst h;refine⟨(d,x.ev s.e)::x.clr s.e,s.h,by rw[Ec];rfl,.ofN ?_ λe2 h2 hs=>?_⟩
  ·intro p hp;rcases oO.1 hp with rfl|hp
   ·simp[AI.wr]
   ·exact qZ _ (Nb hp)
  ·simp only[AI.step,Same.ev (x:=x) hs,Ec,Same.clr (x:=x) hs];rfl
 |alloc d zs=>
  simp only[AI.step,oH]at h;subst h;refine⟨[(d,.ref s.h.length 0)],_,rfl,by simp[AI.wr],λe2 hs=>rfl,(λh=>by cases h),(λh=>by cases h),(λ_=>⟨_,rfl⟩),(λh=>by cases h)⟩
 |box d x=>
  simp only[AI.step]at h;split at h
  ·rename_i cs hcs;simp only[oH]at h;subst h;refine⟨[(d,.ref s.h.length 0)],_,rfl,by simp[AI.wr],λe2 hs=>?_,(λh=>by cases h),(λh=>by cases h),(λ_=>⟨_,rfl⟩),(λh=>by cases h)⟩;simp only[AI.step,Same.ev (x:=x) hs,hcs];rfl
  ·cases h
 |store a x n=>
  have e0:∀e2,Same s.e e2 (AI.store a x n).rd→a.ev e2=a.ev s.e∧x.ev e2=x.ev s.e:=λe2 hs=>⟨(Same.left hs).ev,(Same.right hs).ev⟩;simp only[AI.step]at h;split at h
  ·rename_i r off ha;split at h
   ·rename_i ds hr;split at h
    ·rename_i e sz xs hx;split at h
     ·rename_i m;split at h
      ·rename_i hc;simp only[oH]at h;subst h;refine⟨[(m,.any)],_,rfl,by simp[AI.wr,Opd.wr],λe2 hs=>?_,(λh=>by cases h),(λh=>by cases h),(λh=>by cases h),(λh=>by cases h)⟩;simp only[AI.step,(e0 e2 hs).1,ha,hr,(e0 e2 hs).2,hx,hc,and_self,if_true];rfl
      ·cases h
     ·cases h
    ·rename_i bb e sz xs hx;split at h
     ·rename_i m;split at h
      ·rename_i hc;simp only[oH]at h;subst h;refine⟨[(m,.pptr bb 0 xs.length)],_,rfl,by simp[AI.wr,Opd.wr],λe2 hs=>?_,(λh=>by cases h),(λh=>by cases h),(λh=>by cases h),(λh=>by cases h)⟩;simp only[AI.step,(e0 e2 hs).1,ha,hr,(e0 e2 hs).2,hx,hc,and_self,if_true];rfl
      ·cases h
     ·cases h
    ·rename_i hne hne2;split at h
     ·rename_i cs hcs;split at h
      ·rename_i hc;simp only[oH]at h;subst h;refine⟨[],_,rfl,by simp,λe2 hs=>?_,(λh=>by cases h),(λh=>by cases h),(λh=>by cases h),(λh=>by cases h)⟩;simp only[AI.step,(e0 e2 hs).1,ha,hr,(e0 e2 hs).2,hcs];generalize hxe:x.ev s.e=X at hne hne2 hcs;cases X<;>simp_all
      ·cases h
     ·cases h
   ·cases h
  ·cases h
 |take d a=>
  simp only[AI.step]at h;split at h
  ·rename_i r off ha;split at h
   ·rename_i ds hr;split at h
    ·rename_i e sz xs hx;simp only[oH]at h;subst h;refine⟨[(d,.own e sz xs)],_,rfl,by simp[AI.wr],λe2 hs=>?_,(λh=>by cases h),(λh=>by cases h),(λh=>by cases h),λ_=>LoadEq.take hr hx⟩;simp only[AI.step,Same.ev (x:=a) hs,ha,hr,hx];rfl
    ·cases h
   ·cases h
  ·cases h
 |app d x y e sz b=>
  have e0:∀e2,Same s.e e2 (AI.app d x y e sz b).rd→x.ev e2=x.ev s.e∧y.ev e2=y.ev s.e:=λe2 hs=>⟨(Same.left hs).ev,(Same.right hs).ev⟩;simp only[AI.step]at h;split at h
  ·rename_i xs ys hx hy;split at h
   ·rename_i hc;simp only[oH]at h;subst h;refine⟨(d,.own e sz (xs++ys))::x.clr s.e,s.h,by rw[Ec];rfl,.ofN ?_ λe2 h2 hs=>?_⟩
    ·intro p hp;rcases oO.1 hp with rfl|hp
     ·simp[AI.wr]
     ·exact qZ _ (Nb hp)
    ·simp only[AI.step,(e0 e2 hs).1,(e0 e2 hs).2,hx,hy,hc,and_self,if_true,Ec,Same.clr (x:=x) (Same.left hs)];rfl
   ·cases h
  ·cases h
 |appS d x y e b=>
  have e0:∀e2,Same s.e e2 (AI.appS d x y e b).rd→x.ev e2=x.ev s.e∧y.ev e2=y.ev s.e:=λe2 hs=>⟨(Same.left hs).ev,(Same.right hs).ev⟩;simp only[AI.step]at h;split at h
  ·rename_i xs ys hx hy;split at h
   ·rename_i hc;simp only[oH]at h;subst h;refine⟨(d,.own e 1 (xs++ys.data.toList.map λc=> .int .u8 c.toNat))::x.clr s.e,s.h,by rw[Ec];rfl,.ofN ?_ λe2 h2 hs=>?_⟩
    ·intro p hp;rcases oO.1 hp with rfl|hp
     ·simp[AI.wr]
     ·exact qZ _ (Nb hp)
    ·simp only[AI.step,(e0 e2 hs).1,(e0 e2 hs).2,hx,hy,hc,if_true,Ec,Same.clr (x:=x) (Same.left hs)];rfl
   ·cases h
  ·cases h
 |bsl d e sz ps=>
  simp only[AI.step]at h;split at h
  ·rename_i vs hvs;split at h
   ·rename_i hall;cases vs with
    |nil=>
     simp only[oH]at h;subst h;refine⟨[(d,.nil e sz)],s.h,rfl,.ofN (by simp[AI.wr]) λe2 h2 hs=>?_⟩;simp only[AI.step,Same.toVs (xs:=ps) hs,hvs];rfl
    |cons v vs=>
     simp only[oH]at h;subst h;refine⟨[(d,.own e sz (v::vs))],s.h,rfl,.ofN (by simp[AI.wr]) λe2 h2 hs=>?_⟩;simp only[AI.step,Same.toVs (xs:=ps) hs,hvs,hall,if_true];rfl
   ·cases h
  ·cases h
 |s2b d x=>
  simp only[AI.step]at h;split at h
  ·rename_i b hb;simp only[oH]at h;subst h;refine⟨[(d,.v (.list (b.data.toList.map λc=> .int .u8 c.toNat)))],s.h,rfl,.ofN (by simp[AI.wr]) λe2 h2 hs=>?_⟩;simp only[AI.step,Same.ev (x:=x) hs,hb];rfl
  ·cases h
 |nilS d ne x=>cases h
 |mksl d x z=>
  simp only[AI.step]at h;split at h
  ·rename_i k n hn;split at h
   ·rename_i hc;simp only[oH]at h;subst h;refine⟨[(d,.sref s.h.length n.toNat)],_,rfl,by simp[AI.wr],λe2 hs=>?_,(λh=>by cases h),(λh=>by cases h),(λ_=>⟨_,rfl⟩),(λh=>by cases h)⟩;simp only[AI.step,Same.ev (x:=x) hs,hn,if_pos hc];rfl
   ·cases h
  ·cases h
 |mkm d=>
  simp only[AI.step,oH]at h;subst h;exact⟨[(d,.mref s.h.length)],_,rfl,by simp[AI.wr],λe2 hs=>rfl,(λh=>by cases h),(λh=>by cases h),(λ_=>⟨_,rfl⟩),(λh=>by cases h)⟩
 |ment d m k st ks=>
  have e0:∀e2,Same s.e e2 (AI.ment d m k st ks).rd→m.ev e2=m.ev s.e∧k.ev e2=k.ev s.e:=λe2 hs=>⟨(Same.left hs).ev,(Same.right hs).ev⟩;have hh:∃x,s'=⟨(d,x)::s.e,s.h⟩∧∀e2,Same s.e e2 (AI.ment d m k st ks).rd→(AI.ment d m k st ks).step ⟨e2,s.h⟩=some ⟨(d,x)::e2,s.h⟩:=by
   simp only[AI.step]at h;split at h
   ·rename_i r hm;split at h
    ·rename_i es bs ck hr;split at h
     ·rename_i kv hkv;split at h
      ·rename_i hko;split at h
       ·rename_i i hi;split at h
        ·rename_i p n hp hn;simp only[oH]at h;subst h;exact⟨_,rfl,λe2 hs=>by simp only[AI.step,(e0 e2 hs).1,(e0 e2 hs).2,hm,hr,hkv,hko,if_true,hi,hp,hn]⟩
        ·cases h
       ·cases h
      ·cases h
     ·cases h
    ·cases h
   ·cases h
  obtain⟨x,rfl,hh⟩:=hh;exact⟨[(d,x)],s.h,rfl,by simp[AI.wr],hh,(λh=>by cases h),(λh=>by cases h),(λh=>by cases h),(λh=>by cases h)⟩
 |mest m b v=>
  have e0:∀e2,Same s.e e2 (AI.mest m b v).rd→m.ev e2=m.ev s.e∧b.ev e2=b.ev s.e∧v.ev e2=v.ev s.e:=λe2 hs=>⟨(Same.left hs).ev,(Same.left (Same.right hs)).ev,(Same.right (Same.right hs)).ev⟩;have hh:∃h',s'=⟨s.e,h'⟩∧∀e2,Same s.e e2 (AI.mest m b v).rd→(AI.mest m b v).step ⟨e2,s.h⟩=some ⟨e2,h'⟩:=by
   simp only[AI.step]at h;split at h
   ·rename_i r hm;split at h
    ·rename_i es bs ck hr;split at h
     ·rename_i kk n vv hb hv;split at h
      ·rename_i i hi;split at h
       ·rename_i p hp;simp only[oH]at h;subst h;exact⟨_,rfl,λe2 hs=>by simp only[AI.step,(e0 e2 hs).1,(e0 e2 hs).2.1,(e0 e2 hs).2.2,hm,hr,hb,hv,hi,hp]⟩
       ·cases h
      ·cases h
     ·cases h
    ·cases h
   ·cases h
  obtain⟨h',rfl,hh⟩:=hh;exact⟨[],h',rfl,by simp,hh,(λh=>by cases h),(λh=>by cases h),(λh=>by cases h),(λh=>by cases h)⟩
 |mput m k v st ks=>
  have e0:∀e2,Same s.e e2 (AI.mput m k v st ks).rd→m.ev e2=m.ev s.e∧k.ev e2=k.ev s.e∧v.ev e2=v.ev s.e:=λe2 hs=>⟨(Same.left hs).ev,(Same.left (Same.right hs)).ev,(Same.right (Same.right hs)).ev⟩;have hh:∃h',s'=⟨s.e,h'⟩∧∀e2,Same s.e e2 (AI.mput m k v st ks).rd→(AI.mput m k v st ks).step ⟨e2,s.h⟩=some ⟨e2,h'⟩:=by
   simp only[AI.step]at h;split at h
   ·rename_i r hm;split at h
    ·rename_i es hr;split at h
     ·rename_i kv vv hkv hvv;split at h
      ·rename_i hko;split at h
       ·rename_i hf;simp only[oH]at h;subst h;exact⟨_,rfl,λe2 hs=>by simp only[AI.step,(e0 e2 hs).1,(e0 e2 hs).2.1,(e0 e2 hs).2.2,hm,hr,hkv,hvv,hko,hf,if_true]⟩
       ·rename_i j hf;simp only[oH]at h;subst h;exact⟨_,rfl,λe2 hs=>by simp only[AI.step,(e0 e2 hs).1,(e0 e2 hs).2.1,(e0 e2 hs).2.2,hm,hr,hkv,hvv,hko,hf,if_true]⟩
       ·cases h
      ·cases h
     ·cases h
    ·cases h
   ·cases h
  obtain⟨h',rfl,hh⟩:=hh;exact⟨[],h',rfl,by simp,hh,(λh=>by cases h),(λh=>by cases h),(λh=>by cases h),(λh=>by cases h)⟩
 |mdel d m k st ks=>
  have e0:∀e2,Same s.e e2 (AI.mdel d m k st ks).rd→m.ev e2=m.ev s.e∧k.ev e2=k.ev s.e:=λe2 hs=>⟨(Same.left hs).ev,(Same.right hs).ev⟩;have hh:∃h',s'=⟨Bu s.e d (.tup []),h'⟩∧∀e2,Same s.e e2 (AI.mdel d m k st ks).rd→(AI.mdel d m k st ks).step ⟨e2,s.h⟩=some ⟨Bu e2 d (.tup []),h'⟩:=by
   simp only[AI.step]at h;split at h
   ·rename_i r hm;split at h
    ·rename_i es hr;split at h
     ·rename_i kv hkv;split at h
      ·rename_i hko;split at h
       ·rename_i hf;simp only[oH]at h;subst h;exact⟨_,rfl,λe2 hs=>by simp only[AI.step,(e0 e2 hs).1,(e0 e2 hs).2,hm,hr,hkv,hko,hf,if_true]⟩
       ·rename_i j hf;simp only[oH]at h;subst h;exact⟨_,rfl,λe2 hs=>by simp only[AI.step,(e0 e2 hs).1,(e0 e2 hs).2,hm,hr,hkv,hko,hf,if_true]⟩
       ·cases h
      ·cases h
     ·cases h
    ·cases h
   ·cases h
  obtain⟨h',rfl,hh⟩:=hh;cases d with
  |none=>exact⟨[],h',rfl,by simp,hh,(λh=>by cases h),(λh=>by cases h),(λh=>by cases h),(λh=>by cases h)⟩
  |some d=>exact⟨[(d,.tup [])],h',rfl,by simp[AI.wr],hh,(λh=>by cases h),(λh=>by cases h),(λh=>by cases h),(λh=>by cases h)⟩
 |call d f args=>cases h
 |callF d f args=>cases h
 |callC d f args=>cases h
 |callO d f q args=>cases h
 |appR d x y e s b=>cases h
 |frz d x s=>cases h
 |callN d f args=>cases h
 |appP d x y e s b=>cases h
 |fin m ad p x sz=>
  have e0:∀e2,Same s.e e2 (AI.fin m ad p x sz).rd→AG e2 m=AG s.e m∧ad.ev e2=ad.ev s.e∧p.ev e2=p.ev s.e∧x.ev e2=x.ev s.e:=λe2 hs=>
   ⟨hs m (by simp[AI.rd]),(Same.left (Same.right hs)).ev,(Same.left (Same.right (Same.right hs))).ev,(Same.right (Same.right (Same.right hs))).ev⟩
  have hh:∃δ h',s'=⟨δ++s.e,h'⟩∧(∀q∈δ,q.1=m)∧∀e2,Same s.e e2 (AI.fin m ad p x sz).rd→(AI.fin m ad p x sz).step ⟨e2,s.h⟩=some ⟨δ++e2,h'⟩:=by
   simp only[AI.step]at h;split at h
   ·rename_i b s0 n y hp hx;split at h
    ·rename_i b' e s2 xs hf;split at h
     ·rename_i hc;simp only[oH]at h;subst h;refine⟨[(m,.own e sz (xs++[y]))],s.h,rfl,by simp,λe2 hs=>?_⟩;obtain⟨q1,q2,q3,q4⟩:=e0 e2 hs;simp only[AI.step,q3,q4,hp,hx,q1,hf,if_pos hc];rfl
     ·cases h
    ·rename_i hnp;split at h
     ·rename_i r off ha;split at h
      ·rename_i ds hr;split at h
       ·rename_i b' e s2 xs hd;split at h
        ·rename_i hc;simp only[oH]at h;subst h;refine⟨[],_,rfl,by simp,λe2 hs=>?_⟩;obtain⟨q1,q2,q3,q4⟩:=e0 e2 hs;simp only[AI.step,q3,q4,hp,hx,q1,q2,ha];cases hfm:AG s.e m with
         |pend b3 e3 s3 xs3=>exact absurd hfm (hnp _ _ _ _)
         |_=>simp only[hr,hd,if_pos hc];rfl
        ·cases h
       ·cases h
      ·cases h
     ·cases h
   ·cases h
  obtain⟨δ,h',rfl,hw,hh⟩:=hh;exact⟨δ,h',rfl,λq hq=>by simp[AI.wr,hw q hq],hh,(λh=>by cases h),(λh=>by cases h),(λh=>by cases h),(λh=>by cases h)⟩
 |mksz d x zs=>
  simp only[AI.step]at h;split at h
  ·rename_i k n hn;split at h
   ·rename_i hc;simp only[oH]at h;subst h;refine⟨[(d,.sref s.h.length n.toNat)],_,rfl,by simp[AI.wr],λe2 hs=>?_,(λh=>by cases h),(λh=>by cases h),(λ_=>⟨_,rfl⟩),(λh=>by cases h)⟩;simp only[AI.step,Same.ev (x:=x) hs,hn,if_pos hc];rfl
   ·cases h
  ·cases h
 |cpy d x y sz=>
  have e0:∀e2,Same s.e e2 (AI.cpy d x y sz).rd→x.ev e2=x.ev s.e∧y.ev e2=y.ev s.e:=λe2 hs=>⟨(Same.left hs).ev,(Same.right hs).ev⟩;have hh:∃v h',s'=⟨Bu s.e d v,h'⟩∧∀e2,Same s.e e2 (AI.cpy d x y sz).rd→(AI.cpy d x y sz).step ⟨e2,s.h⟩=some ⟨Bu e2 d v,h'⟩:=by
   simp only[AI.step]at h;split at h
   ·rename_i r n hx;split at h
    ·rename_i ys hy;split at h
     ·rename_i ds hr;split at h
      ·rename_i hc;simp only[oH]at h;subst h;exact⟨_,_,rfl,λe2 hs=>by simp only[AI.step,(e0 e2 hs).1,(e0 e2 hs).2,hx,hy,hr,if_pos hc]⟩
      ·cases h
     ·cases h
    ·cases h
   ·cases h
  obtain⟨v,h',rfl,hh⟩:=hh;cases d with
  |none=>exact⟨[],h',rfl,by simp,hh,(λh=>by cases h),(λh=>by cases h),(λh=>by cases h),(λh=>by cases h)⟩
  |some d=>exact⟨[(d,v)],h',rfl,by simp[AI.wr],hh,(λh=>by cases h),(λh=>by cases h),(λh=>by cases h),(λh=>by cases h)⟩
section
variable (P:Program) (GL:Aa)
def Fv (fd:D) (args:List D) (h:List Row) (rets:List D) (h':List Row):Prop:=
 match fd with
 | .yld r=>∃b,Nk P GL r args h b h'∧rets=[.v (.bool b)]
 | .meth fid fs=>FSp P GL fid (fs++args) h rets h'
 |fd=>∃fid caps,DS fd=some (fid,caps)∧FSp P GL fid (args++caps) h rets h'
def Jw (i:AI) (s s':St):Prop:=
 i.step s=some s'∨(∃d f args fid caps vs rets,i= .call d f args∧(f.ev s.e).toV=some (.func fid caps)∧IE s.e args=some vs∧PSp P GL fid (vs++caps) rets∧s'=⟨Bu s.e d (Ij rets),s.h⟩)∨
 (∃d f args rets h',(i= .callF d f args∨i= .callC d f args∧∃t,h'=s.h++t)∧Fv P GL (f.ev s.e) (Av s.e args) s.h rets h'∧s'=⟨Bu s.e d (BY rets),h'⟩)∨
 ∃d f q args fid rets,i= .callO d f q args∧DS (f.ev s.e)=some (fid,[])∧ZK P GL fid (q.ev s.e::Av s.e args) rets∧s'=⟨Bu (q.clear s.e) d (BY rets),s.h⟩
def BQ (x:GI) (s s':St):Prop:=
 match x.g with
 |none=>Jw P GL x.i s s'
 |some (t,want)=>match AG s.e t with
  | .v (.bool b)=>if b=want then Jw P GL x.i s s' else s'=⟨Bu s.e x.i.dst (.tup []),s.h⟩
  | .tup []=>s'=⟨Bu s.e x.i.dst (.tup []),s.h⟩
  |_=>False
def Lo:List GI→St→St→Prop
 |[],s,s'=>s'=s
 |x::rest,s,s'=>∃s1,BQ P GL x s s1∧Lo rest s1 s'
end
variable {n:Nat}
section
variable {P:Program} {GL:Aa}
def dO (d:Option Nat) (x:D):CB:=match d with|some d=>[(d,x)]|none=>[]
theorem ET (e:CB) (d:Option Nat) (x:D):Bu e d x=dO d x++e:=by cases d<;>rfl
theorem Oq {d:Option Nat} {x:D} {p:Nat×D} (h:p∈dO d x):p.1∈d.toList:=by cases d<;>simp_all [dO]
theorem Jv {i:AI} (h:Jw P GL i s s'):∃δ h',s'=⟨δ++s.e,h'⟩∧Local (Jw P GL i) i.rd i.wr i.kd s δ h':=by
 rcases h with h|⟨d,f,args,fid,caps,vs,rets,rfl,hf,hv,hp,rfl⟩|⟨d,f,args,rets,h',hi,hc,rfl⟩|⟨d,f,q,args,fid,rets,rfl,hf,hp,rfl⟩
 ·obtain⟨δ,h',hs,l⟩:=PO h;exact⟨δ,h',hs,l.wr,λe2 x=> .inl (l.here e2 x),λk=>⟨(l.n k).1,λe2 h2 x=> .inl ((l.n k).2 e2 h2 x)⟩,λk=>⟨(l.r k).1,λe2 h2 x=> .inl ((l.r k).2.1 e2 h2 x),λe2 h2 hq x=> .inl ((l.r k).2.2 e2 h2 hq x)⟩,l.a,l.t⟩
 ·refine⟨dO d (Ij rets),s.h,by rw[ET],.ofN (λp hp=>Oq hp) λe2 h2 hs=> .inr (.inl ⟨d,f,args,fid,caps,vs,rets,rfl,?_,?_,hp,by rw[ET]⟩)⟩
  ·rw[Same.ev (x:=f) (Same.left hs)];exact hf
  ·rw[Same.toVs (xs:=args) (Same.right hs)];exact hv
 ·rcases hi with rfl|⟨rfl,ht⟩
  ·refine⟨dO d (BY rets),h',by rw[ET],λp hp=>Oq hp,λe2 hs=> .inr (.inr (.inl ⟨d,f,args,rets,h',.inl rfl,?_,by rw[ET]⟩)),(λh=>by cases h),(λh=>by cases h),(λh=>by cases h),(λh=>by cases h)⟩;rw[Same.ev (x:=f) (Same.left hs),Same.argsOf (xs:=args) (Same.right hs)];exact hc
  ·refine⟨dO d (BY rets),h',by rw[ET],λp hp=>Oq hp,λe2 hs=> .inr (.inr (.inl ⟨d,f,args,rets,h',.inr ⟨rfl,ht⟩,?_,by rw[ET]⟩)),(λh=>by cases h),(λh=>by cases h),(λ_=>ht),(λh=>by cases h)⟩;rw[Same.ev (x:=f) (Same.left hs),Same.argsOf (xs:=args) (Same.right hs)];exact hc
 ·refine⟨dO d (BY rets)++q.clr s.e,s.h,by rw[ET,Ec,oR],.ofN (λp hp=>?_) λe2 h2 hs=> .inr (.inr (.inr ⟨d,f,q,args,fid,rets,rfl,?_,?_,by rw[ET,Ec,Same.clr (x:=q) (Same.left (Same.right hs)),oR]⟩))⟩
  ·rcases oc.1 hp with h|h
   ·exact rb _ (Oq h)
   ·exact rA _ (Nb h)
  ·rw[Same.ev (x:=f) (Same.left hs)];exact hf
  ·rw[Same.ev (x:=q) (Same.left (Same.right hs)),Same.argsOf (xs:=args) (Same.right (Same.right hs))];exact hp
theorem GG {x:GI} (h:BQ P GL x s s'):∃δ h',s'=⟨δ++s.e,h'⟩∧Local (BQ P GL x) x.rd x.wr x.i.kd s δ h':=by
 obtain⟨g,i⟩:=x;cases g with
 |none=>
  obtain⟨δ,h',hs,l⟩:=Jv (i:=i) h;have hr:∀e2,Same s.e e2 (GI.rd ⟨none,i⟩)→Same s.e e2 i.rd:=λe2 hs=>by simpa[GI.rd]using hs
  exact⟨δ,h',hs,λp hp=>rA _ (l.wr p hp),λe2 x=>l.here e2 (hr e2 x),λk=>⟨(l.n k).1,λe2 h2 x=>(l.n k).2 e2 h2 (hr e2 x)⟩,λk=>⟨(l.r k).1,λe2 h2 x=>(l.r k).2.1 e2 h2 (hr e2 x),λe2 h2 hq x=>(l.r k).2.2 e2 h2 hq (hr e2 x)⟩,l.a,l.t⟩
 |some tw=>
  obtain⟨t,want⟩:=tw;have hr:∀ {e2},Same s.e e2 (GI.rd ⟨some (t,want),i⟩)→Same s.e e2 i.rd:=λhs=>Same.right hs;have ht:∀ {e2},Same s.e e2 (GI.rd ⟨some (t,want),i⟩)→AG e2 t=AG s.e t:=λhs=>hs t (by simp[GI.rd]);have skip:∀ {s':St},s'=⟨Bu s.e i.dst (.tup []),s.h⟩→(∀e2 h2,AG e2 t=AG s.e t→BQ P GL ⟨some (t,want),i⟩ ⟨e2,h2⟩ ⟨Bu e2 i.dst (.tup []),h2⟩)→
    ∃δ h',s'=⟨δ++s.e,h'⟩∧Local (BQ P GL ⟨some (t,want),i⟩) (GI.rd ⟨some (t,want),i⟩) (GI.wr ⟨some (t,want),i⟩) i.kd s δ h':=by
   rintro s' rfl hall;refine⟨dO i.dst (.tup []),s.h,by rw[ET],.ofN (λp hp=>rb _ (Oq hp)) λe2 h2 hs=>?_⟩;have:=hall e2 h2 (ht hs);rw[ET]at this;exact this
  simp only[BQ]at h;split at h
  ·rename_i b hb;split at h
   ·rename_i hbw;obtain⟨δ,h',hs,l⟩:=Jv (i:=i) h;have go:∀ {e2:CB} {h2:List Row} {s2:St},Same s.e e2 (GI.rd ⟨some (t,want),i⟩)→Jw P GL i ⟨e2,h2⟩ s2→BQ P GL ⟨some (t,want),i⟩ ⟨e2,h2⟩ s2:=by
     intro e2 h2 s2 hs hj;simp only[BQ,ht hs,hb,hbw,if_true];exact hj
    exact⟨δ,h',hs,λp hp=>rA _ (l.wr p hp),λe2 x=>go x (l.here e2 (hr x)),λk=>⟨(l.n k).1,λe2 h2 x=>go x ((l.n k).2 e2 h2 (hr x))⟩,λk=>⟨(l.r k).1,λe2 h2 x=>go x ((l.r k).2.1 e2 h2 (hr x)),λe2 h2 hq x=>go x ((l.r k).2.2 e2 h2 hq (hr x))⟩,l.a,l.t⟩
   ·rename_i hbw;refine skip h λe2 h2 hf=>?_;simp only[BQ,hf,hb,hbw,if_false]
  ·rename_i hb;refine skip h λe2 h2 hf=>?_;simp only[BQ,hf,hb]
  ·exact h.elim
def EqS (s s':St):Prop:=(∀n,AG s.e n=AG s'.e n)∧s.h=s'.h
theorem EqS.refl (s:St):EqS s s:=⟨λ_=>rfl,rfl⟩
theorem EqS.trans {a b c:St} (h:EqS a b) (h':EqS b c):EqS a c:=⟨λn=>(h.1 n).trans (h'.1 n),h.2.trans h'.2⟩
theorem JB {δ:CB} {e':CB} (h:∀n,AG e n=AG e' n) (n:Nat):AG (δ++e) n=AG (δ++e') n:=by
 induction δ with
 |nil=>exact h n
 |cons p δ ih=>simp only[pl,AG];split<;>first|rfl|exact ih
theorem Ef {δ:CB} (h:∀p∈δ,p.1≠n):AG (δ++e) n=AG e n:=by
 induction δ with
 |nil=>rfl
 |cons p δ ih=>
  simp only[pl,AG];rw[if_neg (h p (by simp)),ih λq hq=>h q (by simp[hq])]
theorem RW {δ':CB} {p:Nat×D} (h:p.1≠n):AG (δ'++p::e) n=AG (δ'++e) n:=by
 induction δ' with
 |nil=>simp[AG,h]
 |cons q δ' ih=>simp only[pl,AG];split<;>first|rfl|exact ih
theorem RU {δ δ':CB} (h:∀p∈δ,∀q∈δ',p.1≠q.1) (n:Nat):AG (δ++(δ'++e)) n=AG (δ'++(δ++e)) n:=by
 induction δ with
 |nil=>rfl
 |cons p δ ih=>
  have ih:=ih λq hq=>h q (by simp[hq]);simp only[pl,AG];by_cases hn:p.1=n
  ·rw[if_pos hn,Ef (δ:=δ') λq hq=>by rw[←hn];exact(h p (by simp) q hq).symm];simp[AG,hn]
  ·rw[if_neg hn,ih,RW hn]
theorem JS:∀ {l:List GI} {s s2 t:St},Lo P GL l s t→EqS s s2→∃t2,Lo P GL l s2 t2∧EqS t t2
 |[],s,s2,t,h,he=>by cases h;exact⟨s2,rfl,he⟩
 |x::l,s,s2,t,⟨s1,h1,h⟩,he=>by
  obtain⟨δ,h',rfl,loc⟩:=GG h1;have h2:BQ P GL x s2 ⟨δ++s2.e,h'⟩:=by
   have:=loc.here s2.e (λn _=>(he.1 n).symm);rw[he.2]at this;exact this
  obtain⟨t2,h3,h4⟩:=JS (s2:=⟨δ++s2.e,h'⟩) h ⟨λn=>JB he.1 n,rfl⟩;exact⟨t2,⟨_,h2,h3⟩,h4⟩
def VZ (a b:List Nat):Bool:=a.all λn=> !b.contains n
theorem Jo {a b:List Nat} (h:VZ a b=true) (ha:n∈a) (hb:n∈b):False:=by
 have:=oY.1 h n ha;simp[hb]at this
def ji:Kd→Kd→Bool
 | .n,_=>true
 |_,.n=>true
 | .r,.r=>true
 | .r,.a=>true
 | .r,.t=>true
 | .t,.r=>true
 |_,_=>false
def HD (y x:GI):Bool:=VZ y.wr x.rd&&VZ x.wr y.rd&&VZ y.wr x.wr&&ji y.i.kd x.i.kd
theorem V0 {y x:GI} (hi:HD y x=true) {s1 s2:St} (hy:BQ P GL y s s1) (hx:BQ P GL x s1 s2):∃s1' s2',BQ P GL x s s1'∧BQ P GL y s1' s2'∧EqS s2 s2':=by
 simp only[HD,oJ]at hi;obtain⟨⟨⟨d1,d2⟩,d3⟩,hk⟩:=hi;obtain⟨δy,hy',rfl,ly⟩:=GG hy;obtain⟨δx,hx',rfl,lx⟩:=GG hx;have sx:Same (δy++s.e) s.e x.rd:=λn hn=>(Ef λp hp hpn=>Jo d1 (ly.wr p hp) (hpn▸hn)).symm;have sy:Same s.e (δx++s.e) y.rd:=λn hn=>Ef λp hp hpn=>Jo d2 (lx.wr p hp) (hpn▸hn);have hend:∀n,AG (δx++(δy++s.e)) n=AG (δy++(δx++s.e)) n:=λn=>RU (λp hp q hq h=>Jo d3 (ly.wr q hq) (h▸lx.wr p hp)) n;cases hky:y.i.kd with
 |n=>
  obtain⟨rfl,hn⟩:=ly.n hky;exact⟨_,_,lx.here s.e sx,hn _ _ sy,hend,rfl⟩
 |r=>
  obtain⟨rfl,hr⟩:=ly.r hky;cases hkx:x.i.kd with
  |n=>
   obtain⟨rfl,hn⟩:=lx.n hkx;exact⟨_,_,hn _ _ sx,ly.here _ sy,hend,rfl⟩
  |r=>
   obtain⟨rfl,hn⟩:=lx.r hkx;have:=hn.1 s.e [] sx;simp only[pz]at this;exact⟨_,_,this,ly.here _ sy,hend,rfl⟩
  |a=>
   obtain⟨t,rfl⟩:=lx.a hkx;exact⟨_,_,lx.here s.e sx,hr.1 _ t sy,hend,rfl⟩
  |t=>exact⟨_,_,lx.here s.e sx,hr.2 _ _ (lx.t hkx) sy,hend,rfl⟩
  |w=>rw[hky,hkx]at hk;cases hk
 |a=>
  cases hkx:x.i.kd with
  |n=>
   obtain⟨rfl,hn⟩:=lx.n hkx;exact⟨_,_,hn _ s.h sx,ly.here _ sy,hend,rfl⟩
  |_=>rw[hky,hkx]at hk;cases hk
 |t=>
  cases hkx:x.i.kd with
  |n=>
   obtain⟨rfl,hn⟩:=lx.n hkx;exact⟨_,_,hn _ s.h sx,ly.here _ sy,hend,rfl⟩
  |r=>
   obtain⟨rfl,hn⟩:=lx.r hkx;exact⟨_,_,hn.2 _ s.h (ly.t hky).symm sx,ly.here _ sy,hend,rfl⟩
  |_=>rw[hky,hkx]at hk;cases hk
 |w=>
  cases hkx:x.i.kd with
  |n=>
   obtain⟨rfl,hn⟩:=lx.n hkx;exact⟨_,_,hn _ s.h sx,ly.here _ sy,hend,rfl⟩
  |_=>rw[hky,hkx]at hk;cases hk
theorem TP {x:GI} {post:List GI}:∀ {pre:List GI} {s t:St},(∀y∈pre,HD y x=true)→Lo P GL (pre++x::post) s t→∃t',Lo P GL (x::(pre++post)) s t'∧EqS t t'
 |[],s,t,_,h=>⟨t,h,EqS.refl t⟩
 |y::pre,s,t,hp,⟨s1,h1,h⟩=>by
  obtain⟨t',⟨s2,h2,h3⟩,he⟩:=TP (λz hz=>hp z (by simp[hz])) h;obtain⟨s1',s2',h4,h5,he2⟩:=V0 (hp y (by simp)) h1 h2;obtain⟨t'',h6,he3⟩:=JS h3 he2;exact⟨t'',⟨s1',h4,s2',h5,h6⟩,he.trans he3⟩
end
end
section
inductive AT where
 |done
 |take (i:Nat) (t:AT)
 |pick (c:AT)
 |alt (i:Nat) (t rest:AT)
 |none
 deriving Inhabited
inductive AC where
 |skip
 |reg (ops:List GI) (keep:List Nat)
 |regD (ops:List GI) (keep:List Nat) (Aq:List (List Nat))
 |regA (ops:List GI) (keep:List Nat) (Aq:List (List Nat)) (t:AT)
 |regV (ops:List GI) (keep:List Nat) (Aq:List (List Nat))
 |seq (a b:AC)
 |cond (x:Opd) (a b:AC)
 |block (id:Nat) (c:AC)
 |loop (c:AC)
 |exit (id:Nat)
 |ret
 |rangeF (g:Opd) (ps:List Nat) (asg body:AC)
 |never
 deriving Inhabited
def AC.flat:AC→Bool
 | .rangeF _ _ _ _=>false
 | .seq a b=>a.flat&&b.flat
 | .cond _ a b=>a.flat&&b.flat
 | .block _ c=>c.flat
 | .loop c=>c.flat
 |_=>true
section
variable (P:Program) (GL:Aa)
def AT.ok (is:List GI):AT→(St→Prop)→St→Prop
 | .done,K,s=>K s
 | .take i t,K,s=>∃s1,BQ P GL (is.getD i default) s s1∧t.ok is K s1
 | .pick c,K,s=>c.ok is K s
 | .alt i t r,K,s=>(∃s1,BQ P GL (is.getD i default) s s1∧t.ok is K s1)∧r.ok is K s
 | .none,_,_=>True
def AnyJ (is:List GI) (Aq:List (List Nat)) (K:St→Prop):Nat→List Nat→St→Prop
 |0,_,s=>K s
 |n+1,rem,s=>∀i∈rem,(∀j∈(Aq[i]?).getD [],j∉rem)→∃s1,BQ P GL (is.getD i default) s s1∧AnyJ is Aq K n (rem.erase i) s1
def MB (is:List GI) (Aq:List (List Nat)) (K:St→Prop):Nat→List Nat→St→Prop
 |0,_,s=>K s
 |n+1,rem,s=>∀i∈rem,(∀j∈(Aq[i]?).getD [],j∉rem)→D5 P GL (is.getD i default) (λs1=>MB is Aq K n (rem.erase i) s1) s
end
def YW (ops:Array Oper) (is:List GI) (Aq:List (List Nat)):Bool:=
 (List.range ops.size).all λi=>match ops[i]?,Aq[i]?,is[i]? with
  |some o,some cl,some x=>o.after.all (λe=> !Region.binds .any e||decide (e.on <i))&&
    cl.all (λj=>o.after.any λe=>Region.binds .any e&&(e.on==j||((Aq[e.on]?).getD []).contains j))&&
    (List.range i).all (λj=>cl.contains j||(match is[j]? with|some y=>HD y x|none=>false))
  |_,_,_=>false
def Rh (ops:Array Oper) (is:List GI) (Aq:List (List Nat)):Bool:=
 (List.range ops.size).all λi=>match ops[i]?,Aq[i]?,is[i]? with
  |some o,some cl,some _=>o.after.all (λe=> !Region.binds .any e||decide (e.on <i))&&
    cl.all (λj=>o.after.any λe=>Region.binds .any e&&(e.on==j||((Aq[e.on]?).getD []).contains j))
  |_,_,_=>false
def Ui (Aq:List (List Nat)) (rem:List Nat) (i:Nat):Bool:=rem.contains i&&((Aq[i]?).getD []).all λj=> !rem.contains j
def AT.heads:AT→List Nat
 | .alt i _ r=>i::r.heads
 |_=>[]
def AT.good:AT→Bool
 | .alt _ _ _=>false
 | .none=>false
 |_=>true
def AT.chk (is:List GI) (Aq:List (List Nat)):AT→List Nat→Bool
 | .done,rem=>rem.isEmpty
 | .take i t,rem=>Ui Aq rem i&&t.good&&rem.all (λj=>j==i||((Aq[j]?).getD []).contains i||HD (is.getD i default) (is.getD j default))&&t.chk is Aq (rem.erase i)
 | .pick c,rem=> !rem.isEmpty&&rem.all (λj=> !Ui Aq rem j||c.heads.contains j)&&c.chk is Aq rem
 | .alt i t r,rem=>Ui Aq rem i&&t.good&&t.chk is Aq (rem.erase i)&&r.chk is Aq rem
 | .none,_=>true
def DN (P:Program) (GL:Aa) (N:Nat):Code→AC→Bool
 |_,.never=>true
 | .skip,.skip=>true
 | .region _ ops false,.reg is _=>Ao (Hy P GL N ops) (List.range ops.size) is
 | .region _ ops true,.regD is _ Aq=>Ao (Hy P GL N ops) (List.range ops.size) is&&YW ops is Aq&&P.follows .mixedOrders
 | .region _ ops true,.regA is _ Aq t=>Ao (Hy P GL N ops) (List.range ops.size) is&&Rh ops is Aq&&t.chk is Aq (List.range ops.size)&&t.good&&P.follows .mixedOrders
 | .region _ ops true,.regV is _ Aq=>Ao (Hy P GL N ops) (List.range ops.size) is&&Rh ops is Aq&&P.follows .mixedOrders
 | .seq a b,.seq a' b'=>DN P GL N a a'&&DN P GL N b b'
 | .cond x a b,.cond x' a' b'=>oe GL x x'&&DN P GL N a a'&&DN P GL N b b'
 | .block id c,.block id' c'=>id==id'&&DN P GL N c c'
 | .loop c,.loop c'=>DN P GL N c c'
 | .exit id,.exit id'=>id==id'
 | .ret,.ret=>true
 | .rangeFunc g ps asg body,.rangeF g' ps' asg' body'=>oe GL g g'&&ps.toList==ps'&&ps'.all (λp=>decide (p <N))&&asg'.flat&&body'.flat&&DN P GL N asg asg'&&DN P GL N body body'
 |_,_=>false
def Hn (e:CB):CB:=e.map λp=>(p.1,p.2.copy)
def Wy:Tag→Loop→Prop
 | .ready,l=>l.state= .ready∧l.pending=none
 | .busy,l=>l.state= .busy
 | .done none,l=>l.state≠ .busy∧l.pending=some .ret
 | .done (some i),l=>l.state≠ .busy∧l.pending=some (.exit i)
def LoopP (P:Program) (GL:Aa) (tag:Tag) (e:CB) (ps:List Nat) (asg body:AC) (g:Gh) (μ:List Nat) (o:Obj):Prop:=
 ∃(l:Loop) (N:Nat),o= .loop l∧l.params=ps.toArray∧l.tmps.size=N∧(∀n w,RepD g w μ (AG e n) (l.tmps.getD n undef)∧∀k,Af (AG e n) (l.tmps.getD n undef) k=none)∧
  DN P GL N l.assign asg=true∧DN P GL N l.body body=true∧asg.flat=true∧body.flat=true∧(∀p∈ps,p <N)∧Wy tag l
variable {e:CB}
theorem LoopP.mono {P:Program} {GL:Aa} {tag:Tag} {ps:List Nat} {asg body:AC} (g g':Gh) (μ μ':List Nat) (o:Obj) (hl:g.le g') (hμ:μ <+: μ')
  (h:LoopP P GL tag e ps asg body g μ o):LoopP P GL tag e ps asg body g' μ' o:=by
 obtain⟨l,N,h1,h2,h3,h4,h5⟩:=h;refine⟨l,N,h1,h2,h3,λn w=>⟨?_,(h4 n w).2⟩,h5⟩;exact(h4 n w).1.chg (M:=λ_=>True) ⟨hl,oN _,λ_ _ h=>absurd trivial h,λ_ _ h=>absurd trivial h,rfl,rfl⟩ hμ λk b hb=>by rw[(h4 n w).2 k]at hb;cases hb
def Au (P:Program) (GL:Aa) (tag:Tag) (e:CB) (ps:List Nat) (asg body:AC):Row:= .obj tag (LoopP P GL tag e ps asg body) LoopP.mono
def CK (Q:AExit→St→Prop) (s:St):Tag→Prop
 | .ready=>Q .normal s
 | .busy=>False
 | .done none=>Q .ret s
 | .done (some i)=>Q (.exit i) s
section
variable (P:Program) (GL:Aa)
def awp:AC→(AExit→St→Prop)→St→Prop
 | .skip,Q,s=>Q .normal s
 | .reg ops keep,Q,s=>Bz P GL ops (λs'=>Q .normal ⟨Bd s'.e keep,s'.h⟩) s
 | .regD ops keep _,Q,s=>∃s',Lo P GL ops s s'∧Q .normal ⟨Bd s'.e keep,s'.h⟩
 | .regA ops keep _ t,Q,s=>t.ok P GL ops (λs'=>∃s2,PC s.h.length s' s2∧Q .normal ⟨Bd s2.e keep,s2.h⟩) s
 | .regV ops keep cl,Q,s=>MB P GL ops cl (λs'=>Q .normal ⟨Bd s'.e keep,s'.h⟩) ops.length (List.range ops.length) s
 | .seq a b,Q,s=>awp a (λe s'=>match e with| .normal=>awp b Q s'|e=>Q e s') s
 | .cond x a b,Q,s=>match x.ev s.e with
  | .v (.bool t)=>if t then awp a Q s else awp b Q s
  |_=>False
 | .block id c,Q,s=>awp c (λe s'=>match e with| .exit id'=>if id'=id then Q .normal s' else Q (.exit id') s'|e=>Q e s') s
 | .loop c,Q,s=>∃I:Nat→St→Prop,(∃m,I m s)∧∀m s,I m s→awp c (λe s'=>match e with| .normal=>∃m',m' <m∧I m' s'|e=>Q e s') s
 | .never,_,_=>False
 | .exit id,Q,s=>Q (.exit id) s
 | .ret,Q,s=>Q .ret s
 | .rangeF q ps asg body,Q,s=>∃fid caps rets h' tag,DS (q.ev s.e)=some (fid,caps)∧
   FSp P GL fid (.yld s.h.length::caps) (s.h++[Au P GL .ready (Hn s.e) ps asg body]) rets h'∧h'[s.h.length]?=some (Au P GL tag (Hn s.e) ps asg body)∧
   CK Q ⟨s.e,h'.set s.h.length .dead⟩ tag
end
variable {s:St} {K:St→Prop} {ops:Array Oper} {i n:Nat} {O:Nat→Prop} {a:Act} {μ:List Nat} {w:World} {g:Gh}
section
variable {P:Program} {GL:Aa} {N:Nat} {r:Option Nat}
theorem G4 {e e':CB} (h:∀n,AG e n=AG e' n):∀ns,Bd e ns=Bd e' ns
 |[]=>rfl
 |n::ns=>by simp only[Bd,h n,G4 h ns]
theorem Ku {i:AI} {s1:St} (h:Jw P GL i s s1):DO P GL i (λx=>x=s1) s:=by
 rcases h with h|⟨d,f,args,fid,caps,vs,rets,rfl,hf,hv,hp,rfl⟩|⟨d,f,args,rets,h',hi,hc,rfl⟩|⟨d,f,q,args,fid,rets,rfl,hf,hp,rfl⟩
 ·unfold DO;split
  ·cases h
  ·cases h
  ·cases h
  ·cases h
  ·cases h
  ·cases h
  ·cases h
  ·cases h
  ·cases h
  ·rw[h]
 ·have hny:∀r,f.ev s.e≠ .yld r:=λr hr=>by rw[hr]at hf;simp[D.toV,D.v?]at hf
  have hnm:∀g fs,f.ev s.e≠ .meth g fs:=λg fs hr=>by rw[hr]at hf;simp[D.toV,D.v?]at hf
  simp only[DO,BX,VP hf];refine⟨rets.map .v,s.h,?_,by rw[JV]⟩;rw[Mn hv,←oh];exact hp.fsp s.h
 ·have e0:DO P GL i=BX P GL d f args:=by rcases hi with rfl|⟨rfl,_⟩<;>rfl
  rw[e0];simp only[BX];unfold Fv at hc;split at hc
  ·rename_i r hf;obtain⟨b,hy,rfl⟩:=hc
   first|(rw[hf];exact⟨b,h',hy,rfl⟩)|exact⟨b,h',hy,rfl⟩
  ·rename_i fid fs hf
   first|(rw[hf];exact⟨rets,h',hc,rfl⟩)|exact⟨rets,h',hc,rfl⟩
  ·rename_i h1 h2;obtain⟨fid,caps,hf,hs⟩:=hc
   first
    |(simp only[hf];exact⟨rets,h',hs,rfl⟩)
    |(split
      ·rename_i r hr;exact absurd hr (h1 r)
      ·rename_i a b hr;exact absurd hr (h2 a b)
      ·simp only[hf];exact⟨rets,h',hs,rfl⟩)
 ·exact⟨fid,rets,hf,hp,rfl⟩
theorem J9 {x:GI} {s1:St} (h:BQ P GL x s s1):D5 P GL x (λx=>x=s1) s:=by
 unfold BQ at h;unfold D5;split
 ·rename_i hx;rw[hx]at h;exact Ku h
 ·rename_i t want hx;rw[hx]at h;simp only at h;split
  ·rename_i b hb;rw[hb]at h;simp only at h;split
   ·rename_i hw;rw[if_pos hw]at h;exact Ku h
   ·rename_i hw;rw[if_neg hw]at h;exact h.symm
  ·rename_i hb;rw[hb]at h;exact h.symm
  ·rename_i h1 h2;split at h
   ·rename_i b hb;exact h1 b hb
   ·rename_i hb;exact h2 hb
   ·exact h
theorem Rt {is:List GI} {Aq:List (List Nat)} (hk:∀(i:Nat) x,is[i]?=some x→Hy P GL N ops i x=true) (hlen:is.length=ops.size) (hd:YW ops is Aq=true)
 (hK:∀s1 s2,EqS s1 s2→K s1→K s2) {Q:Exit→Act→World→Prop}:∀(fuel:Nat) (rem:List Nat) (listed:Array Bool) {g:Gh} {w:World} {μ:List Nat} {s:St} {a:Act} {O:Nat→Prop},
  rem.length=fuel→rem.Pairwise (· <·)→(∀i,i∈rem↔i <ops.size∧listed.getD i true=false)→listed.size=ops.size→
  (∀i cl,listed.getD i false=true→Aq[i]?=some cl→∀j∈cl,listed.getD j false=true)→
  Gs GL N g w μ s a O→(∃t,Lo P GL (rem.map λi=>is.getD i default) s t∧K t)→(∀a' w',After GL N K g w μ a O a' w'→Q .normal a' w')→
  wpAnyIn (WF r) 0 P .any ops Q fuel listed a w:=by
 have hspec:∀i,i <ops.size→∃o cl x,ops[i]?=some o∧Aq[i]?=some cl∧is[i]?=some x∧(∀e∈o.after,Region.binds .any e=true→e.on <i)∧
   (∀j∈cl,∃e∈o.after,Region.binds .any e=true∧(e.on=j∨∃cl',Aq[e.on]?=some cl'∧j∈cl'))∧(∀j,j <i→j∈cl∨∃y,is[j]?=some y∧HD y x=true):=by
  intro i hi;have h:=oY.1 hd i (oy.2 hi);split at h
  ·rename_i o cl x ho hcl hx;simp only[oJ]at h;obtain⟨⟨h1,h2⟩,h3⟩:=h;refine⟨o,cl,x,ho,hcl,hx,λe he hb=>?_,λj hj=>?_,λj hj=>?_⟩
   ·rw[Array.all_eq_true']at h1;have:=h1 e he;simpa[hb]using this
   ·have h4:=oY.1 h2 j hj;rw[Array.any_eq_true']at h4;obtain⟨e,he,h5⟩:=h4;simp only[oJ,qY,beq_iff_eq]at h5;refine⟨e,he,h5.1,?_⟩;rcases h5.2 with h6|h6
    ·exact .inl h6
    ·cases hc:Aq[e.on]? with
     |none=>simp[hc]at h6
     |some cl'=>exact .inr ⟨cl',rfl,by simpa[hc]using h6⟩
   ·have h4:=oY.1 h3 j (oy.2 hj);simp only[qY]at h4;rcases h4 with h5|h5
    ·exact .inl (by simpa using h5)
    ·split at h5
     ·rename_i y hy;exact .inr ⟨y,hy,h5⟩
     ·cases h5
  ·cases h
 intro fuel;induction fuel with
 |zero=>
  intro rem listed g w μ s a O hl _ hmem _ _ hg h hq;have:rem=[]:=pK hl;subst this;obtain⟨t,rfl,hKt⟩:=h;refine⟨?_,hq a w ⟨_,g,μ,hKt,hg,Chg.refl _ _ _,oQ _,rfl⟩⟩;rw[sP];intro i hi;rw[mem_ready]at hi;obtain⟨h1,o,ho,_⟩:=hi;have:=(hmem i).2 ⟨(qX.1 ho).1,h1⟩;simp at this
 |succ fuel ih=>
  intro rem listed g w μ s a O hl hsort hmem hsz hcl hg h hq;refine⟨λhnil=>?_,λi hi=>?_⟩
  ·exfalso;cases rem with
   |nil=>simp at hl
   |cons i0 rem'=>
    obtain⟨hi0,hun⟩:=(hmem i0).1 (by simp);obtain⟨o,cl,x,ho,_,_,he,_⟩:=hspec i0 hi0;have:i0∈Region.ready .any ops listed:=by
     rw[mem_ready];refine⟨hun,o,ho,λe hee hb=>?_⟩;have hlt:=he e hee hb;have hns:e.on <listed.size:=by omega
     cases hv:listed.getD e.on true with
     |true=>simp[hns]at hv ⊢;exact hv
     |false=>
      have h1:=(hmem e.on).2 ⟨by omega,hv⟩;rcases oO.1 h1 with h2|h2
      ·omega
      ·have:=rC hsort h2;omega
    rw[hnil]at this;simp at this
  ·have hi':=mem_ready.1 hi;obtain⟨hun,o',ho',hedge⟩:=hi';have hin:i <ops.size:=(qX.1 ho').1;have him:=(hmem i).2 ⟨hin,hun⟩;obtain⟨pre,post,rfl⟩:=List.append_of_mem him;obtain⟨o,cl,x,ho,hcli,hx,_,hcl2,hind⟩:=hspec i hin;rw[ho']at ho;cases ho;have hclist:∀j∈cl,listed.getD j false=true:=by
    intro j hj;obtain⟨e,he,hb,h6⟩:=hcl2 j hj;have h7:=hedge e he hb;rcases h6 with rfl|⟨cl',hc',hj'⟩
    ·exact h7
    ·exact hcl e.on cl' h7 hc' j hj'
   have hxd:is.getD i default=x:=by simp[List.getD,hx]
   obtain⟨t,hrun,hKt⟩:=h;rw[oh,oV,hxd]at hrun;have hpre:∀y∈pre.map (λi=>is.getD i default),HD y x=true:=by
    intro y hy;obtain⟨j,hj,rfl⟩:=oP.1 hy;have hji:j <i:=(qA.1 hsort).2.2 j hj i (by simp);obtain⟨hjn,hjun⟩:=(hmem j).1 (by simp[hj]);rcases hind j hji with h1|⟨y',hy',h2⟩
    ·have:=hclist j h1;have hns:j <listed.size:=by omega
     simp[hns]at this hjun;rw[hjun]at this;cases this
    ·simpa[List.getD,hy']using h2
   obtain⟨t',⟨s1,hs1,hrun'⟩,he⟩:=TP hpre hrun;refine GU (hk i x hx) hg (J9 hs1) ?_;rintro s' g' w' μ' a' rfl hgs hch hμ hdf;refine ih (pre++post) _ ?_ ?_ ?_ (by simp[hsz]) ?_ hgs ⟨t',by rw[oh];exact hrun',hK _ _ he hKt⟩ λa2 w2 h2=>hq a2 w2 (h2.trans hch hμ hdf)
   ·simp at hl ⊢;omega
   ·exact hsort.sublist (sQ (sR i post) pre)
   ·intro j;have hnd:i∉pre++post:=by
     intro hm;rcases oc.1 hm with hm|hm
     ·have:=(qA.1 hsort).2.2 i hm i (by simp);omega
     ·have:=rC (qA.1 hsort).2.1 hm;omega
    by_cases hji:j=i
    ·subst hji;refine⟨λhm=>absurd hm hnd,λhm=>?_⟩;have h2:=hm.2;have hns:j <listed.size:=by omega
     simp[hns]at h2
    ·have hsame:(listed.setIfInBounds i true).getD j true=listed.getD j true:=by
      simp[ou,pO,Ne.symm hji]
     rw[hsame];have:=hmem j;simp only[oc,oO,hji,false_or]at this ⊢;exact this
   ·intro k cl' hk' hc' j hj;by_cases hki:k=i
    ·subst hki;rw[hcli]at hc';cases hc';have:=hclist j hj;by_cases hjk:j=k
     ·subst hjk;have hns:j <listed.size:=by omega
      simp[ou,pO,hns]
     ·rw[ou,pO,if_neg (Ne.symm hjk),←ou];exact this
    ·rw[ou,pO,if_neg (Ne.symm hki),←ou]at hk';have:=hcl k cl' hk' hc' j hj;by_cases hji:j=i
     ·subst hji;have hns:j <listed.size:=by omega
      simp[ou,pO,hns]
     ·rw[ou,pO,if_neg (Ne.symm hji),←ou];exact this
theorem QC {is:List GI} {Aq:List (List Nat)} (hk:∀(i:Nat) x,is[i]?=some x→Hy P GL N ops i x=true) (hlen:is.length=ops.size) (hd:Rh ops is Aq=true)
 {Q:Exit→Act→World→Prop}:∀(fuel:Nat) (rem:List Nat) (listed:Array Bool) {g:Gh} {w:World} {μ:List Nat} {s:St} {a:Act} {O:Nat→Prop},
  rem.length=fuel→rem.Pairwise (· <·)→(∀i,i∈rem↔i <ops.size∧listed.getD i true=false)→listed.size=ops.size→
  (∀i cl,listed.getD i false=true→Aq[i]?=some cl→∀j∈cl,listed.getD j false=true)→
  Gs GL N g w μ s a O→AnyJ P GL is Aq K fuel rem s→(∀a' w',After GL N K g w μ a O a' w'→Q .normal a' w')→
  wpAnyIn (WF r) 0 P .any ops Q fuel listed a w:=by
 have hspec:∀i,i <ops.size→∃o cl x,ops[i]?=some o∧Aq[i]?=some cl∧is[i]?=some x∧(∀e∈o.after,Region.binds .any e=true→e.on <i)∧
   (∀j∈cl,∃e∈o.after,Region.binds .any e=true∧(e.on=j∨∃cl',Aq[e.on]?=some cl'∧j∈cl')):=by
  intro i hi;have h:=oY.1 hd i (oy.2 hi);split at h
  ·rename_i o cl x ho hcl hx;simp only[oJ]at h;obtain⟨h1,h2⟩:=h;refine⟨o,cl,x,ho,hcl,hx,λe he hb=>?_,λj hj=>?_⟩
   ·rw[Array.all_eq_true']at h1;have:=h1 e he;simpa[hb]using this
   ·have h4:=oY.1 h2 j hj;rw[Array.any_eq_true']at h4;obtain⟨e,he,h5⟩:=h4;simp only[oJ,qY,beq_iff_eq]at h5;refine⟨e,he,h5.1,?_⟩;rcases h5.2 with h6|h6
    ·exact .inl h6
    ·cases hc:Aq[e.on]? with
     |none=>simp[hc]at h6
     |some cl'=>exact .inr ⟨cl',rfl,by simpa[hc]using h6⟩
  ·cases h
 intro fuel;induction fuel with
 |zero=>
  intro rem listed g w μ s a O hl _ hmem _ _ hg h hq;have:rem=[]:=pK hl;subst this;refine⟨?_,hq a w ⟨_,g,μ,h,hg,Chg.refl _ _ _,oQ _,rfl⟩⟩;rw[sP];intro i hi;rw[mem_ready]at hi;obtain⟨h1,o,ho,_⟩:=hi;have:=(hmem i).2 ⟨(qX.1 ho).1,h1⟩;simp at this
 |succ fuel ih=>
  intro rem listed g w μ s a O hl hsort hmem hsz hcl hg h hq;refine⟨λhnil=>?_,λi hi=>?_⟩
  ·exfalso;cases rem with
   |nil=>simp at hl
   |cons i0 rem'=>
    obtain⟨hi0,hun⟩:=(hmem i0).1 (by simp);obtain⟨o,cl,x,ho,_,_,he,_⟩:=hspec i0 hi0;have:i0∈Region.ready .any ops listed:=by
     rw[mem_ready];refine⟨hun,o,ho,λe hee hb=>?_⟩;have hlt:=he e hee hb;have hns:e.on <listed.size:=by omega
     cases hv:listed.getD e.on true with
     |true=>simp[hns]at hv ⊢;exact hv
     |false=>
      have h1:=(hmem e.on).2 ⟨by omega,hv⟩;rcases oO.1 h1 with h2|h2
      ·omega
      ·have:=rC hsort h2;omega
    rw[hnil]at this;simp at this
  ·have hi':=mem_ready.1 hi;obtain⟨hun,o',ho',hedge⟩:=hi';have hin:i <ops.size:=(qX.1 ho').1;have him:=(hmem i).2 ⟨hin,hun⟩;obtain⟨pre,post,rfl⟩:=List.append_of_mem him;obtain⟨o,cl,x,ho,hcli,hx,_,hcl2⟩:=hspec i hin;rw[ho']at ho;cases ho;have hclist:∀j∈cl,listed.getD j false=true:=by
    intro j hj;obtain⟨e,he,hb,h6⟩:=hcl2 j hj;have h7:=hedge e he hb;rcases h6 with rfl|⟨cl',hc',hj'⟩
    ·exact h7
    ·exact hcl e.on cl' h7 hc' j hj'
   have hxd:is.getD i default=x:=by simp[List.getD,hx]
   have hcg:(Aq[i]?).getD []=cl:=by rw[hcli];rfl
   obtain⟨s1,hs1,hrun'⟩:=h i him (λj hj hjm=>by
    rw[hcg]at hj;have h1:=hclist j hj;obtain⟨hjn,hjun⟩:=(hmem j).1 hjm;have hns:j <listed.size:=by omega
    simp[hns]at h1 hjun;rw[hjun]at h1;cases h1)
   rw[hxd]at hs1;have herase:(pre++i::post).erase i=pre++post:=by
    have hnp:i∉pre:=λhm=>by have:=(qA.1 hsort).2.2 i hm i (by simp);omega
    rw[List.erase_append_right _ hnp];simp
   rw[herase]at hrun';refine GU (hk i x hx) hg (J9 hs1) ?_;rintro s' g' w' μ' a' rfl hgs hch hμ hdf;refine ih (pre++post) _ ?_ ?_ ?_ (by simp[hsz]) ?_ hgs hrun' λa2 w2 h2=>hq a2 w2 (h2.trans hch hμ hdf)
   ·simp at hl ⊢;omega
   ·exact hsort.sublist (sQ (sR i post) pre)
   ·intro j;have hnd:i∉pre++post:=by
     intro hm;rcases oc.1 hm with hm|hm
     ·have:=(qA.1 hsort).2.2 i hm i (by simp);omega
     ·have:=rC (qA.1 hsort).2.1 hm;omega
    by_cases hji:j=i
    ·subst hji;refine⟨λhm=>absurd hm hnd,λhm=>?_⟩;have h2:=hm.2;have hns:j <listed.size:=by omega
     simp[hns]at h2
    ·have hsame:(listed.setIfInBounds i true).getD j true=listed.getD j true:=by
      simp[ou,pO,Ne.symm hji]
     rw[hsame];have:=hmem j;simp only[oc,oO,hji,false_or]at this ⊢;exact this
   ·intro k cl' hk' hc' j hj;by_cases hki:k=i
    ·subst hki;rw[hcli]at hc';cases hc';have:=hclist j hj;by_cases hjk:j=k
     ·subst hjk;have hns:j <listed.size:=by omega
      simp[ou,pO,hns]
     ·rw[ou,pO,if_neg (Ne.symm hjk),←ou];exact this
    ·rw[ou,pO,if_neg (Ne.symm hki),←ou]at hk';have:=hcl k cl' hk' hc' j hj;by_cases hji:j=i
     ·subst hji;have hns:j <listed.size:=by omega
      simp[ou,pO,hns]
     ·rw[ou,pO,if_neg (Ne.symm hji),←ou];exact this
theorem QD {is:List GI} {Aq:List (List Nat)} (hk:∀(i:Nat) x,is[i]?=some x→Hy P GL N ops i x=true) (hlen:is.length=ops.size) (hd:Rh ops is Aq=true)
 {Q:Exit→Act→World→Prop}:∀(fuel:Nat) (rem:List Nat) (listed:Array Bool) {g:Gh} {w:World} {μ:List Nat} {s:St} {a:Act} {O:Nat→Prop},
  rem.length=fuel→rem.Pairwise (· <·)→(∀i,i∈rem↔i <ops.size∧listed.getD i true=false)→listed.size=ops.size→
  (∀i cl,listed.getD i false=true→Aq[i]?=some cl→∀j∈cl,listed.getD j false=true)→
  Gs GL N g w μ s a O→MB P GL is Aq K fuel rem s→(∀a' w',After GL N K g w μ a O a' w'→Q .normal a' w')→
  wpAnyIn (WF r) 0 P .any ops Q fuel listed a w:=by
 have hspec:∀i,i <ops.size→∃o cl x,ops[i]?=some o∧Aq[i]?=some cl∧is[i]?=some x∧(∀e∈o.after,Region.binds .any e=true→e.on <i)∧
   (∀j∈cl,∃e∈o.after,Region.binds .any e=true∧(e.on=j∨∃cl',Aq[e.on]?=some cl'∧j∈cl')):=by
  intro i hi;have h:=oY.1 hd i (oy.2 hi);split at h
  ·rename_i o cl x ho hcl hx;simp only[oJ]at h;obtain⟨h1,h2⟩:=h;refine⟨o,cl,x,ho,hcl,hx,λe he hb=>?_,λj hj=>?_⟩
   ·rw[Array.all_eq_true']at h1;have:=h1 e he;simpa[hb]using this
   ·have h4:=oY.1 h2 j hj;rw[Array.any_eq_true']at h4;obtain⟨e,he,h5⟩:=h4;simp only[oJ,qY,beq_iff_eq]at h5;refine⟨e,he,h5.1,?_⟩;rcases h5.2 with h6|h6
    ·exact .inl h6
    ·cases hc:Aq[e.on]? with
     |none=>simp[hc]at h6
     |some cl'=>exact .inr ⟨cl',rfl,by simpa[hc]using h6⟩
  ·cases h
 intro fuel;induction fuel with
 |zero=>
  intro rem listed g w μ s a O hl _ hmem _ _ hg h hq;have:rem=[]:=pK hl;subst this;refine⟨?_,hq a w ⟨_,g,μ,h,hg,Chg.refl _ _ _,oQ _,rfl⟩⟩;rw[sP];intro i hi;rw[mem_ready]at hi;obtain⟨h1,o,ho,_⟩:=hi;have:=(hmem i).2 ⟨(qX.1 ho).1,h1⟩;simp at this
 |succ fuel ih=>
  intro rem listed g w μ s a O hl hsort hmem hsz hcl hg h hq;refine⟨λhnil=>?_,λi hi=>?_⟩
  ·exfalso;cases rem with
   |nil=>simp at hl
   |cons i0 rem'=>
    obtain⟨hi0,hun⟩:=(hmem i0).1 (by simp);obtain⟨o,cl,x,ho,_,_,he,_⟩:=hspec i0 hi0;have:i0∈Region.ready .any ops listed:=by
     rw[mem_ready];refine⟨hun,o,ho,λe hee hb=>?_⟩;have hlt:=he e hee hb;have hns:e.on <listed.size:=by omega
     cases hv:listed.getD e.on true with
     |true=>simp[hns]at hv ⊢;exact hv
     |false=>
      have h1:=(hmem e.on).2 ⟨by omega,hv⟩;rcases oO.1 h1 with h2|h2
      ·omega
      ·have:=rC hsort h2;omega
    rw[hnil]at this;simp at this
  ·have hi':=mem_ready.1 hi;obtain⟨hun,o',ho',hedge⟩:=hi';have hin:i <ops.size:=(qX.1 ho').1;have him:=(hmem i).2 ⟨hin,hun⟩;obtain⟨pre,post,rfl⟩:=List.append_of_mem him;obtain⟨o,cl,x,ho,hcli,hx,_,hcl2⟩:=hspec i hin;rw[ho']at ho;cases ho;have hclist:∀j∈cl,listed.getD j false=true:=by
    intro j hj;obtain⟨e,he,hb,h6⟩:=hcl2 j hj;have h7:=hedge e he hb;rcases h6 with rfl|⟨cl',hc',hj'⟩
    ·exact h7
    ·exact hcl e.on cl' h7 hc' j hj'
   have hxd:is.getD i default=x:=by simp[List.getD,hx]
   have hcg:(Aq[i]?).getD []=cl:=by rw[hcli];rfl
   have hs1:=h i him (λj hj hjm=>by
    rw[hcg]at hj;have h1:=hclist j hj;obtain⟨hjn,hjun⟩:=(hmem j).1 hjm;have hns:j <listed.size:=by omega
    simp[hns]at h1 hjun;rw[hjun]at h1;cases h1)
   rw[hxd]at hs1;have herase:(pre++i::post).erase i=pre++post:=by
    have hnp:i∉pre:=λhm=>by have:=(qA.1 hsort).2.2 i hm i (by simp);omega
    rw[List.erase_append_right _ hnp];simp
   rw[herase]at hs1;refine GU (hk i x hx) hg hs1 ?_;rintro s' g' w' μ' a' hrun' hgs hch hμ hdf;refine ih (pre++post) _ ?_ ?_ ?_ (by simp[hsz]) ?_ hgs hrun' λa2 w2 h2=>hq a2 w2 (h2.trans hch hμ hdf)
   ·simp at hl ⊢;omega
   ·exact hsort.sublist (sQ (sR i post) pre)
   ·intro j;have hnd:i∉pre++post:=by
     intro hm;rcases oc.1 hm with hm|hm
     ·have:=(qA.1 hsort).2.2 i hm i (by simp);omega
     ·have:=rC (qA.1 hsort).2.1 hm;omega
    by_cases hji:j=i
    ·subst hji;refine⟨λhm=>absurd hm hnd,λhm=>?_⟩;have h2:=hm.2;have hns:j <listed.size:=by omega
     simp[hns]at h2
    ·have hsame:(listed.setIfInBounds i true).getD j true=listed.getD j true:=by
      simp[ou,pO,Ne.symm hji]
     rw[hsame];have:=hmem j;simp only[oc,oO,hji,false_or]at this ⊢;exact this
   ·intro k cl' hk' hc' j hj;by_cases hki:k=i
    ·subst hki;rw[hcli]at hc';cases hc';have:=hclist j hj;by_cases hjk:j=k
     ·subst hjk;have hns:j <listed.size:=by omega
      simp[ou,pO,hns]
     ·rw[ou,pO,if_neg (Ne.symm hjk),←ou];exact this
    ·rw[ou,pO,if_neg (Ne.symm hki),←ou]at hk';have:=hcl k cl' hk' hc' j hj;by_cases hji:j=i
     ·subst hji;have hns:j <listed.size:=by omega
      simp[ou,pO,hns]
     ·rw[ou,pO,if_neg (Ne.symm hji),←ou];exact this
theorem AnyJ.congr {is:List GI} {Aq:List (List Nat)} {K:St→Prop} (hK:∀s1 s2,EqS s1 s2→K s1→K s2):∀(n:Nat) (rem:List Nat) {s s2:St},EqS s s2→AnyJ P GL is Aq K n rem s→AnyJ P GL is Aq K n rem s2
 |0,_,_,_,he,h=>hK _ _ he h
 |n+1,rem,s,s2,he,h=>by
  intro i hi hr;obtain⟨s1,h1,h2⟩:=h i hi hr;obtain⟨t2,⟨x,h3,h4⟩,h5⟩:=JS (l:=[is.getD i default]) (t:=s1) ⟨s1,h1,rfl⟩ he;cases h4;exact⟨t2,h3,AnyJ.congr hK n _ h5 h2⟩
theorem AnyJ.take {is:List GI} {Aq:List (List Nat)} (hK:∀s1 s2,EqS s1 s2→K s1→K s2):∀(n:Nat) (rem:List Nat) {s s1:St},rem.length=n+1→rem.Nodup→i∈rem→
  (∀j∈rem,j=i∨i∈(Aq[j]?).getD []∨HD (is.getD i default) (is.getD j default)=true)→BQ P GL (is.getD i default) s s1→AnyJ P GL is Aq K n (rem.erase i) s1→(∀j∈(Aq[i]?).getD [],j∉rem)→AnyJ P GL is Aq K (n+1) rem s:=by
 intro n;induction n with
 |zero=>
  intro rem s s1 hl hnd hi _ h1 h2 _ j hj hr;have:rem=[i]:=by
   match rem,hl with
   |[x],_=>simp at hi;rw[hi]
  subst this;simp at hj;subst hj;exact⟨s1,h1,h2⟩
 |succ n ih=>
  intro rem s s1 hl hnd hi hind h1 h2 hri j hj hr;by_cases hji:j=i
  ·subst hji;exact⟨s1,h1,h2⟩
  ·have hje:j∈rem.erase i:=(sE hji).2 hj;obtain⟨s2,h3,h4⟩:=h2 j hje λk hk hkm=>hr k hk (qq hkm);have hin:HD (is.getD i default) (is.getD j default)=true:=by
    rcases hind j hj with h|h|h
    ·exact absurd h hji
    ·exact absurd hi (hr i h)
    ·exact h
   obtain⟨s1',s2',h5,h6,he⟩:=V0 hin h1 h3;refine⟨s1',h5,ih (rem.erase j) (by rw[sF hj];omega) (hnd.erase _) ((sE (Ne.symm hji)).2 hi) (λk hk=>hind k (qq hk)) h6 ?_ λk hk hkm=>hri k hk (qq hkm)⟩;rw[List.erase_comm];exact AnyJ.congr hK n _ he h4
theorem N5 {Aq:List (List Nat)} {rem:List Nat}:Ui Aq rem i=true↔i∈rem∧∀j∈(Aq[i]?).getD [],j∉rem:=by
 simp[Ui]
theorem AT.any {is:List GI} {Aq:List (List Nat)} (hK:∀s1 s2,EqS s1 s2→K s1→K s2):∀(t:AT) (rem:List Nat) {s:St},rem.Nodup→t.chk is Aq rem=true→t.ok P GL is K s→
  (t.good=true→AnyJ P GL is Aq K rem.length rem s)∧
  (∀i∈t.heads,i∈rem→∃s1,BQ P GL (is.getD i default) s s1∧AnyJ P GL is Aq K (rem.length-1) (rem.erase i) s1):=by
 intro t;induction t with
 |done=>
  intro rem s _ hc h;have:rem=[]:=by simpa[AT.chk]using hc
  subst this;exact⟨λ_=>h,λi hi=>by simp[AT.heads]at hi⟩
 |take i t ih=>
  intro rem s hnd hc h;simp only[AT.chk,oJ]at hc;obtain⟨⟨⟨h1,h0⟩,h2⟩,h3⟩:=hc;obtain⟨s1,h4,h5⟩:=h;obtain⟨hi,hr⟩:=N5.1 h1;have hlen:(rem.erase i).length=rem.length-1:=sF hi;have hpos:0 <rem.length:=List.length_pos_of_mem hi;refine⟨λ_=>?_,λj hj=>by simp[AT.heads]at hj⟩;have:=(ih (rem.erase i) (hnd.erase _) h3 h5).1 h0;rw[hlen]at this;have h6:=AnyJ.take hK (rem.length-1) rem (by omega) hnd hi (λj hj=>by
    have:=oY.1 h2 j hj;simp only[qY,beq_iff_eq]at this;rcases this with (h|h)|h
    ·exact .inl h
    ·exact .inr (.inl (by simpa using h))
    ·exact .inr (.inr h)) h4 this hr
  rwa [show rem.length-1+1=rem.length by omega]at h6
 |pick c ih=>
  intro rem s hnd hc h;simp only[AT.chk,oJ]at hc;obtain⟨⟨h0,h1⟩,h2⟩:=hc;have hpos:0 <rem.length:=by cases rem<;>simp at h0 ⊢
  refine⟨λ_=>?_,λj hj=>by simp[AT.heads]at hj⟩;have h3:=(ih rem hnd h2 h).2;obtain⟨n,hn⟩:∃n,rem.length=n+1:=⟨rem.length-1,by omega⟩;rw[hn];intro i hi hr;have h4:=oY.1 h1 i hi;simp only[N5.2 ⟨hi,hr⟩,Bool.not_true,Bool.false_or]at h4;have:=h3 i (by simpa using h4) hi
  rwa [hn]at this
 |alt i t r iht ihr=>
  intro rem s hnd hc h;simp only[AT.chk,oJ]at hc;obtain⟨⟨⟨h1,h2⟩,h3⟩,h4⟩:=hc;refine⟨λh=>by simp[AT.good]at h,λj hj hjm=>?_⟩;simp only[AT.heads,oO]at hj;rcases hj with rfl|hj
  ·obtain⟨⟨s1,h5,h6⟩,_⟩:=h;have hlen:(rem.erase j).length=rem.length-1:=sF hjm;have:=(iht (rem.erase j) (hnd.erase _) h3 h6).1 h2;rw[hlen]at this;exact⟨s1,h5,this⟩
  ·exact(ihr rem hnd h4 h.2).2 j hj hjm
 |none=>intro rem s _ _ _;exact⟨λh=>by simp[AT.good]at h,λi hi=>by simp[AT.heads]at hi⟩
theorem PS {is:List GI} {Aq:List (List Nat)} (hk:Ao (Hy P GL N ops) (List.range ops.size) is=true) (hd:YW ops is Aq=true)
 (hK:∀s1 s2,EqS s1 s2→K s1→K s2) {Q:Exit→Act→World→Prop}
  (hg:Gs GL N g w μ s a O) (h:∃t,Lo P GL is s t∧K t) (hq:∀a' w',After GL N K g w μ a O a' w'→Q .normal a' w'):
  wpAnyIn (WF r) 0 P .any ops Q ops.size (Array.replicate ops.size false) a w:=by
 have hall:All2 (λy x=>Hy P GL N ops x y=true) is (List.range ops.size):=CT (λx y h=>h) hk;have hlen:is.length=ops.size:=by have:=hall.1;simp at this;omega
 refine Rt (λi x hx=>?_) hlen hd hK ops.size (List.range ops.size) _ (by simp) rD (λi=>?_) (by simp) (λi cl hi=>?_) hg ?_ hq
 ·have hlt:=(oM.1 hx).1;have hri:(List.range ops.size)[i]?=some i:=qI (by omega);exact hall.2 i x i hx hri
 ·rw[oy]
  constructor
  ·intro h;exact⟨h,by simp[ou,h]⟩
  ·exact λh=>h.1
 ·exfalso;by_cases hin:i <ops.size<;>simp[ou,hin]at hi
 ·have:(List.range ops.size).map (λi=>is.getD i default)=is:=by
   apply pe;intro i;by_cases hin:i <ops.size
   ·have:i <is.length:=by omega
    simp[hin,List.getD,this]
   ·have:is[i]?=none:=by rw[pN];omega
    rw[this];simp;omega
  rw[this];exact h
theorem PU {is:List GI} {Aq:List (List Nat)} {t:AT} (hk:Ao (Hy P GL N ops) (List.range ops.size) is=true) (hd:Rh ops is Aq=true) (ht:t.chk is Aq (List.range ops.size)=true)
  (ht2:t.good=true)
 (hK:∀s1 s2,EqS s1 s2→K s1→K s2) {Q:Exit→Act→World→Prop}
  (hg:Gs GL N g w μ s a O) (h:t.ok P GL is K s) (hq:∀a' w',After GL N K g w μ a O a' w'→Q .normal a' w'):
  wpAnyIn (WF r) 0 P .any ops Q ops.size (Array.replicate ops.size false) a w:=by
 have hall:All2 (λy x=>Hy P GL N ops x y=true) is (List.range ops.size):=CT (λx y h=>h) hk;have hlen:is.length=ops.size:=by have:=hall.1;simp at this;omega
 refine QC (λi x hx=>?_) hlen hd ops.size (List.range ops.size) _ (by simp) rD (λi=>?_) (by simp) (λi cl hi=>?_) hg ?_ hq
 ·have hlt:=(oM.1 hx).1;have hri:(List.range ops.size)[i]?=some i:=qI (by omega);exact hall.2 i x i hx hri
 ·rw[oy]
  constructor
  ·intro h;exact⟨h,by simp[ou,h]⟩
  ·exact λh=>h.1
 ·exfalso;by_cases hin:i <ops.size<;>simp[ou,hin]at hi
 ·have:=(AT.any hK t (List.range ops.size) sG ht h).1 ht2;simpa using this
theorem PR {is:List GI} {Aq:List (List Nat)} (hk:Ao (Hy P GL N ops) (List.range ops.size) is=true) (hd:Rh ops is Aq=true)
 {Q:Exit→Act→World→Prop}
  (hg:Gs GL N g w μ s a O) (h:MB P GL is Aq K is.length (List.range is.length) s) (hq:∀a' w',After GL N K g w μ a O a' w'→Q .normal a' w'):
  wpAnyIn (WF r) 0 P .any ops Q ops.size (Array.replicate ops.size false) a w:=by
 have hall:All2 (λy x=>Hy P GL N ops x y=true) is (List.range ops.size):=CT (λx y h=>h) hk;have hlen:is.length=ops.size:=by have:=hall.1;simp at this;omega
 refine QD (λi x hx=>?_) hlen hd ops.size (List.range ops.size) _ (by simp) rD (λi=>?_) (by simp) (λi cl hi=>?_) hg ?_ hq
 ·have hlt:=(oM.1 hx).1;have hri:(List.range ops.size)[i]?=some i:=qI (by omega);exact hall.2 i x i hx hri
 ·rw[oy]
  constructor
  ·intro h;exact⟨h,by simp[ou,h]⟩
  ·exact λh=>h.1
 ·exfalso;by_cases hin:i <ops.size<;>simp[ou,hin]at hi
 ·rw[hlen]at h;exact h
theorem Ho (g:Gh) (w:World) (n:Nat) (M:Nat→Prop):Chg M g w g {w with drawn:=n}:=⟨Gh.le.refl g,oN _,λ_ _ _=>rfl,λ_ _ _ _=>rfl,rfl,rfl⟩
theorem Gs.drawn {g:Gh} {w:World} {μ:List Nat} {s:St} {a:Act} {O:Nat→Prop} (hg:Gs GL N g w μ s a O):Gs GL N g {w with drawn:=w.drawn+1} μ s a O:=
 ⟨hg.inv.chg (Ho g w _ _) hg.inv.agree,hg.glob,hg.sz⟩
theorem Lk {F:Fence} {c:Code} {Q:Exit→Act→World→Prop} (I:Nat→Act→World→Prop)
  (round:∀m a w,I m a w→c.wpIn F n P (Exit.then (λa' w'=>∃m',m' <m∧I m' a' w') Q) a w):∀m a w,I m a w→(Code.loop c).wpIn F n P Q a w:=by
 intro m a w h₀ b k cs hro hb hr;have key:∀j a w,I j a w→
   ∃e a' w',Q e a' w'∧ArrivesIn (Machine.fenced P F) P (lone (b.atR a (.code c:: .inLoop c::k)) cs w) b k cs e a' w':=by
  intro j;induction j using Nat.strongRecOn with
  |_ j ih=>
   intro a w hI;obtain⟨e,a₁,w₁,hq,harr⟩:=round j a w hI b (.inLoop c::k) cs hro hb hr;cases e with
   |normal=>
    obtain⟨m',hlt,hI₁⟩:=hq;obtain⟨e₂,a₂,w₂,hq₂,harr₂⟩:=ih m' hlt a₁ w₁ hI₁;exact⟨e₂,a₂,w₂,hq₂,.of_steps (StepsIn.trans harr (.one (fenced_calm hb hr rfl) stepR_inLoop)) harr₂⟩
   |exit id=>exact⟨_,a₁,w₁,hq,.pass (x:= .inLoop c) rfl (λ_ _=> .inl (by simp)) harr⟩
   |goto l=>exact⟨_,a₁,w₁,hq,.pass (x:= .inLoop c) rfl (λ_ _=> .inl (by simp)) harr⟩
   |ret=>exact⟨_,a₁,w₁,hq,.pass (x:= .inLoop c) rfl (λ_ _=> .inl (by simp)) harr⟩
   |panic ch=>exact⟨_,a₁,w₁,hq,.pass (x:= .inLoop c) rfl (λ_ _=> .inl (by simp)) harr⟩
   |outgrown=>exact⟨_,a₁,w₁,hq,.pass (x:= .inLoop c) rfl (λ_ _=> .inl (by simp)) harr⟩
 obtain⟨e,a',w',hq,harr⟩:=key m a w h₀;exact⟨e,a',w',hq,.of_steps (.one (fenced_calm hb hr rfl) stepR_loop) harr⟩
end
end
section
variable {u:Value} {d:D} {μ:List Nat} {w w':World} {g:Gh} {O:Nat→Prop} {h:List Row} {b:Nat} {a:Act} {s:St} {Q:AExit→St→Prop} {q:Opd}
section
variable {P:Program} {GL:Aa} {N:Nat} {r:Option Nat}
theorem LS:∀(e:CB) (n:Nat),AG (Hn e) n=(AG e n).copy
 |[],n=>rfl
 |(k,d)::e,n=>by
  simp only[Hn,oV,AG];by_cases h:k=n
  ·simp[h]
  ·rw[if_neg h,if_neg h];exact LS e n
theorem N2 (h:RepE g w μ d u) (h0:∀v,Ac d v=none):RepE g w' μ d u:=by
 cases d<;>first
  |exact h
  |(have:=h0 (.slice (some ⟨0,0,none⟩) 0 1);simp[Ac]at this;done)
theorem Rf (h:RepD g w μ d.copy u):RepD g w' μ d.copy u:=by
 cases d<;>simp only[D.copy]at h ⊢ <;>first
  |exact h
  |exact N2 h λv=>rfl
  |trivial
  |(obtain⟨vs,rfl,ha,h1,h2⟩:=h
    exact⟨vs,rfl,⟨ha.1,λi x v hx hv=>N2 (ha.2 i x v hx hv) (h2 x (oK hx))⟩,h1,h2⟩)
def RI (b:Nat):Deferred:={target:= .collected b,args:= #[]}
def Marks (O':Nat→Prop) (w w':World) (ds ds':List Deferred):Prop:=
 ∃ms:List Nat,ds'=ms.map RI++ds∧ms.Nodup∧∀b∈ms,O' b∧w.heap.size≤b∧w'.heap[b]?=some (.deferred (some []))
def AfterM (GL:Aa) (N:Nat) (Q:St→Prop) (g:Gh) (w:World) (μ:List Nat) (a:Act) (O:Nat→Prop) (a':Act) (w':World):Prop:=
 ∃s' g' μ' O',Q s'∧Gs GL N g' w' μ' s' a' O'∧(∀b,O b→O' b)∧Chg (λb=>¬O b) g w g' w'∧μ <+: μ'∧Marks O' w w' a.defers a'.defers
theorem Marks.nil {O':Nat→Prop} {ds ds':List Deferred} (h:ds'=ds):Marks O' w w' ds ds':=⟨[],by simp[h],List.nodup_nil,by simp⟩
theorem Marks.trans {O1 O2:Nat→Prop} {g1 g2:Gh} {w w1 w2:World} {d0 d1 d2:List Deferred} (h1:Marks O1 w w1 d0 d1) (hs:w.heap.size≤w1.heap.size) (hO:∀b,O1 b→O2 b) (hc:Chg (λb=>¬O1 b) g1 w1 g2 w2)
  (h2:Marks O2 w1 w2 d1 d2):Marks O2 w w2 d0 d2:=by
 obtain⟨m1,rfl,n1,p1⟩:=h1;obtain⟨m2,rfl,n2,p2⟩:=h2;refine⟨m2++m1,by simp,?_,λb hb=>?_⟩
 ·rw[List.nodup_append];refine⟨n2,n1,λa ha b hb hab=>?_⟩;subst hab;have:=BP (p1 a hb).2.2;have:=(p2 a ha).2.1;omega
 ·rcases oc.1 hb with hb|hb
  ·obtain⟨q1,q2,q3⟩:=p2 b hb;exact⟨q1,by omega,q3⟩
  ·obtain⟨q1,q2,q3⟩:=p1 b hb;exact⟨hO b q1,q2,(hc.heap b (BP q3) (λh=>h q1)).trans q3⟩
theorem AfterM.trans {Q:St→Prop} {g:Gh} {w:World} {μ:List Nat} {a:Act} {O O1:Nat→Prop} {g1:Gh} {w1:World} {μ1:List Nat} {a1:Act} {a2:Act} {w2:World}
  (hO:∀b,O b→O1 b) (hc:Chg (λb=>¬O b) g w g1 w1) (hμ:μ <+: μ1) (hd:Marks O1 w w1 a.defers a1.defers) (h:AfterM GL N Q g1 w1 μ1 a1 O1 a2 w2):AfterM GL N Q g w μ a O a2 w2:=by
 obtain⟨s',g',μ',O2,hq,hg,hO',hc',hμ',hd'⟩:=h;exact⟨s',g',μ',O2,hq,hg,λb hb=>hO' b (hO b hb),hc.trans (hc'.mono λb h hb=>h (hO b hb)),hμ.trans hμ',hd.trans hc.size hO' hc' hd'⟩
def PostM (GL:Aa) (N:Nat) (Q:AExit→St→Prop) (g:Gh) (w:World) (μ:List Nat) (a:Act) (O:Nat→Prop) (e':Exit) (a':Act) (w':World):Prop:=
 ∃e,Gl e e'∧AfterM GL N (Q e) g w μ a O a' w'
theorem PostM.trans {Q:AExit→St→Prop} {g:Gh} {w:World} {μ:List Nat} {a:Act} {O O1:Nat→Prop} {g1:Gh} {w1:World} {μ1:List Nat} {a1:Act}
  (hO:∀b,O b→O1 b) (hc:Chg (λb=>¬O b) g w g1 w1) (hμ:μ <+: μ1) (hd:Marks O1 w w1 a.defers a1.defers) {e':Exit} {a2:Act} {w2:World} (h:PostM GL N Q g1 w1 μ1 a1 O1 e' a2 w2):PostM GL N Q g w μ a O e' a2 w2:=by
 obtain⟨e,he,h2⟩:=h;exact⟨e,he,h2.trans hO hc hμ hd⟩
theorem Inv.addO {t:Nat→D} {u:Nat→Value} (hi:Inv g w μ t u h O) {b0:Nat} (hb0:b0 <w.heap.size) (hm:b0∉μ) (hp:∀p,CS t u h w μ p≠some b0):
  Inv g w μ t u h (λb=>O b∨b=b0) where
 agree:=hi.agree
 olt:=λb h=>by rcases h with h|rfl;exact hi.olt b h;exact hb0
 rep:=hi.rep
 len:=hi.len
 rows:=hi.rows
 nod:=hi.nod
 mo:=λb hb ho=>by rcases ho with ho|ho;exact hi.mo b hb ho;exact hm (ho▸hb)
 uniq:=hi.uniq
 sep:=λp b h=>⟨(hi.sep p b h).1,λho=>by rcases ho with ho|ho;exact(hi.sep p b h).2 ho;exact hp p (ho▸h)⟩
theorem Inv.subO {t:Nat→D} {u:Nat→Value} {O':Nat→Prop} (hi:Inv g w μ t u h O) (hs:∀b,O' b→O b):Inv g w μ t u h O' where
 agree:=hi.agree
 olt:=λb h=>hi.olt b (hs b h)
 rep:=hi.rep
 len:=hi.len
 rows:=hi.rows
 nod:=hi.nod
 mo:=λb hb ho=>hi.mo b hb (hs b ho)
 uniq:=hi.uniq
 sep:=λp b h=>⟨(hi.sep p b h).1,λho=>(hi.sep p b h).2 (hs b ho)⟩
theorem EG {o:Obj} (g:Gh):Chg (λx=>x=b) g w g (w.putObj b o):=
 ⟨Gh.le.refl g,by simp,λb' _ hne=>World.putObj_heap_other hne,λ_ _ _ _=>rfl,rfl,rfl⟩
theorem F4 {o:Obj} (hg:∀o,g.m b o=none) (hag:∀b o v,g.m b o=some v→w.cell? ⟨b,o,none⟩=some v):
  ∀b' o' v,g.m b' o'=some v→(w.putObj b o).cell? ⟨b',o',none⟩=some v:=by
 intro b' o' v hv;by_cases hbb:b'=b
 ·subst hbb;rw[hg]at hv;cases hv
 ·rw[World.cell?_of_block (a:=⟨b',o',none⟩) (World.putObj_heap_other hbb)];exact hag b' o' v hv
theorem N6 {g0:Operand} {ps0:Array Tmp} {asg0 body0:Code} {ps:List Nat} {asg body:AC} (hk:DN P GL N (.rangeFunc g0 ps0 asg0 body0) (.rangeF q ps asg body)=true)
 (hg:Gs GL N g w μ s a O) (h:awp P GL (.rangeF q ps asg body) Q s):
  (Code.rangeFunc g0 ps0 asg0 body0).wpIn (WF none) 0 P (PostM GL N Q g w μ a O) a w:=by
 simp only[DN,oJ,beq_iff_eq]at hk;obtain⟨⟨⟨⟨⟨⟨k1,k2⟩,k3⟩,k4⟩,k5⟩,k6⟩,k7⟩:=hk;obtain⟨fid,caps,rets,h',tag,hf,⟨hok,hsp⟩,hrow,hend⟩:=h;refine wpIn_rangeFunc λfn _=>?_;obtain⟨cvs,hcv,hcr,hct⟩:=I7 ((hg.gd P).ev k1) hf;have hsz1:(w.alloc (.deferred (some []))).heap.size=w.heap.size+1:=by simp
 have hsz2:∀lp,((w.alloc (.deferred (some []))).alloc (.loop lp)).heap.size=w.heap.size+2:=λlp=>by simp
 have i1:Inv g (w.alloc (.deferred (some []))) μ (AG s.e) (λn=>a.tmps.getD n undef) s.h O:=hg.inv.chg (By _ g w _) (DL hg.inv.agree _);have hμlt:∀b,b∈μ→b <w.heap.size:=λb hb=>hg.inv.mem_lt hb;have i2:Inv g (w.alloc (.deferred (some []))) μ (AG s.e) (λn=>a.tmps.getD n undef) s.h (λb=>O b∨b=w.heap.size):=by
  refine i1.addO (by omega) (λhm=>by have:=hμlt _ hm;omega) λp hp=>?_;have hp':CS (AG s.e) (λn=>a.tmps.getD n undef) s.h w μ p=some w.heap.size:=by
   cases p with
   |tmp n k=>exact hp
   |cell r k=>
    simp only[CS]at hp ⊢;have e2:BF (w.alloc (.deferred (some []))) μ r k=BF w μ r k:=by
     simp only[BF];cases hm:μ[r]? with
     |none=>rfl
     |some b'=>
      simp only[pE];rw[World.cell?_alloc_lt w _ ⟨b',k,none⟩ (hμlt b' (oK hm))]
    rw[e2]at hp;exact hp
  have:=hg.inv.blk_lt hp';omega
 let lp:Loop:={state:= .ready,pending:=none,fn,tmps:=a.tmps,params:=ps0,assign:=asg0,body:=body0,defers:=w.heap.size}
 have hpre:μ <+: μ++[(w.alloc (.deferred (some []))).heap.size]:=py _ _;have hloop:LoopP P GL .ready (Hn s.e) ps asg body g (μ++[(w.alloc (.deferred (some []))).heap.size]) (.loop lp):=by
  refine⟨lp,N,rfl,by rw[←k2],hg.sz,λn w'=>⟨?_,λk=>?_⟩,k6,k7,k4,k5,λp hp=>by simpa using oY.1 k3 p hp,rfl,rfl⟩
  ·rw[LS];refine Rf (w:=w) ?_;exact(hg.inv.rep n).copy.chg (M:=λ_=>True) (Chg.refl _ _ _) hpre λk b hb=>by rw[Bw]at hb;cases hb
  ·rw[LS];exact Bw _ _ _
 have i3:=i2.newAny (Au P GL .ready (Hn s.e) ps asg body) (.loop lp) ⟨.loop lp,heap_alloc_new _ _,hloop,λo=>Gh.lt_of i2.agree (oN _) o⟩ (λk ds d h=>by cases h);have i4:=i3.call;have hμr:(μ++[(w.alloc (.deferred (some []))).heap.size])[s.h.length]?=some (w.heap.size+1):=by rw[←hg.inv.len,hsz1];simp
 have hcr':All2 (RepG g ((w.alloc (.deferred (some []))).alloc (.loop lp)) (μ++[(w.alloc (.deferred (some []))).heap.size])) caps cvs:=by
  refine⟨hcr.1,λi x v hx hv=>?_⟩;have hch:Chg (λ_=>False) g w g ((w.alloc (.deferred (some []))).alloc (.loop lp)):=(By _ g w _).trans (By _ g _ _);exact(hcr.2 i x v hx hv).chg hch hpre λb hb=>by rw[hct i x v hx hv]at hb;cases hb
 have hcall:=hsp g _ _ (.func (.yield (w.heap.size+1)) #[] #[]::cvs) _ i4 hg.glob (.cons ⟨w.heap.size+1,hμr,rfl⟩ hcr') (λi d v hd hv=>by
  cases i with
  |zero=>simp at hd hv;subst hd;rfl
  |succ i=>exact hct i d v (by simpa using hd) (by simpa using hv))
 have hinvoke:(invoke (.fn (.func fid) cvs.toArray) #[.func (.yield (w.heap.size+1)) #[] #[]]).run P ((w.alloc (.deferred (some []))).alloc (.loop lp))=
   .ok (.enter fid (Value.func (.yield (w.heap.size+1)) #[] #[]::cvs).toArray) ((w.alloc (.deferred (some []))).alloc (.loop lp)):=by
  unfold Rw at hok;split at hok
  ·rename_i fn hfn;simp only[oJ,pd]at hok;have h1:¬fn.body=none:=by cases hb:fn.body<;>simp_all
   have h3:¬fn.name= "runtime.NumGoroutine" :=by simpa using hok.2
   have h2:(#[Value.func (.yield (w.heap.size+1)) #[] #[]]++cvs.toArray)=(Value.func (.yield (w.heap.size+1)) #[] #[]::cvs).toArray:=by
    rw[←pj];simp
   simp[invoke,callFunc,hfn,h3,h1,h2]
  ·cases hok
 have hres:(resolve a.eval (rangeCall g0 (w.heap.size+1)) 0).run P ((w.alloc (.deferred (some []))).alloc (.loop lp))=
   .ok {target:= .fn (.func fid) cvs.toArray,args:= #[.func (.yield (w.heap.size+1)) #[] #[]]} ((w.alloc (.deferred (some []))).alloc (.loop lp)):=by
  have hcv':a.eval g0= .func (.func fid) #[] cvs.toArray:=hcv;have he:∀v,a.eval (.const v)=v:=λ_=>rfl;simp[resolve,rangeCall,hcv',Deferred.ofValue,he]
 refine⟨w.heap.size+1,[RI w.heap.size],(w.alloc (.deferred (some []))).alloc (.loop lp),_,_,fid,_,_,run_enterLoop_outer ..,hres,λ_ _=>trivial,hinvoke,(λh=>by simp[WF,Fence.wide]at h),FH ?_⟩;refine hcall.mono ?_;rintro e w3 ⟨v,g',μ',rfl,hinvR,hch,hμ⟩;have hinv:=hinvR.leave;have hb3:μ'[s.h.length]?=some (w.heap.size+1):=Er hμ hμr;obtain⟨o,ho,⟨lp',N',rfl,l1,l2,l3,l4,l5,l6,l7,l8,htag⟩,hgn⟩:=hinv.rows s.h.length _ _ hrow hb3;have hbusy:tag≠ .busy:=by rintro rfl;exact hend
 have hstate:lp'.state≠ .busy:=by
  cases tag with
  |ready=>intro h;rw[htag.1]at h;cases h
  |busy=>exact absurd rfl hbusy
  |done e=>cases e<;>exact htag.1
 have i5:=i3.ret hinv hch hμ;have i6:=i5.setAny hrow hb3 .dead (EG g') (F4 (o:= .loop {lp' with state:= .exhausted}) hgn i5.agree) (show _ <_ by rw[World.putObj_size];exact BP ho) (λk ds d h=>by cases h);have hgs:Gs GL N g' (w3.putObj (w.heap.size+1) (.loop {lp' with state:= .exhausted})) μ' ⟨s.e,h'.set s.h.length .dead⟩ {a with defers:=[RI w.heap.size]++a.defers} (λb=>O b∨b=w.heap.size):=
  ⟨i6,hg.glob.mono hch.le,hg.sz⟩
 have hOlt:∀b,O b→b <w.heap.size:=hg.inv.olt;have hc1:Chg (λb=>¬O b) g w g ((w.alloc (.deferred (some []))).alloc (.loop lp)):=(By _ g w _).trans (By _ g _ _);have hc2:Chg (λb=>¬O b) g ((w.alloc (.deferred (some []))).alloc (.loop lp)) g' w3:=hch.mono λb h hb=>h (.inl (.inl hb));have hc3:Chg (λb=>¬O b) g' w3 g' (w3.putObj (w.heap.size+1) (.loop {lp' with state:= .exhausted})):=(EG g').mono λb h hb=>by subst h;have:=hOlt _ hb;omega
 have hmarks:Marks (λb=>O b∨b=w.heap.size) w (w3.putObj (w.heap.size+1) (.loop {lp' with state:= .exhausted})) a.defers ([RI w.heap.size]++a.defers):=by
  refine⟨[w.heap.size],rfl,by simp,λb hb=>?_⟩;simp only[oS]at hb;subst hb;refine⟨.inr rfl,oN _,?_⟩;rw[World.putObj_heap_other (by omega),hch.heap w.heap.size (by rw[hsz2];omega) (λh=>h (.inl (.inr rfl)))];have e1:((w.alloc (.deferred (some []))).alloc (.loop lp)).heap[w.heap.size]?=(w.alloc (.deferred (some []))).heap[w.heap.size]?:=
   (By (λ_=>False) g (w.alloc (.deferred (some []))) (.loop lp)).heap w.heap.size (by omega) (λh=>h)
  rw[e1];exact heap_alloc_new _ _
 have fin:∀e,Q e ⟨s.e,h'.set s.h.length .dead⟩→AfterM GL N (Q e) g w μ a O {a with defers:=[RI w.heap.size]++a.defers} (w3.putObj (w.heap.size+1) (.loop {lp' with state:= .exhausted})):=λe he=>
  ⟨_,g',μ',_,he,hgs,λb h=> .inl h,hc1.trans (hc2.trans hc3),hpre.trans hμ,hmarks⟩
 refine⟨lp'.pending,_,run_endLoop ho hstate,?_⟩;generalize w3.putObj (w.heap.size+1) (.loop {lp' with state:= .exhausted})=w4 at fin ⊢;cases tag with
 |ready=>rw[htag.2];exact⟨.normal,trivial,fin _ hend⟩
 |busy=>exact absurd rfl hbusy
 |done e=>
  cases e with
  |none=>rw[htag.2];exact wpIn_ret ⟨.ret,trivial,fin _ hend⟩
  |some i=>rw[htag.2];exact wpIn_exit ⟨.exit i,rfl,fin _ hend⟩
end
end
section
variable {h h':List Row} {args:List D}
section
variable {P:Program} {GL:Aa} {N:Nat} {r:Option Nat}
theorem C7:∀(ac:AC) {c:Code},DN P GL N c ac=true→(r=none∨ac.flat=true)→∀ {Q:AExit→St→Prop} {g:Gh} {w:World} {μ:List Nat} {s:St} {a:Act} {O:Nat→Prop},
  Gs GL N g w μ s a O→awp P GL ac Q s→c.wpIn (WF r) 0 P (PostM GL N Q g w μ a O) a w
 | .skip,c,hk,hr,Q,g,w,μ,s,a,O,hg,h=>by
  cases c<;>simp[DN]at hk
  exact wpIn_skip ⟨.normal,trivial,s,g,μ,O,h,hg,λ_ h=>h,Chg.refl _ _ _,oQ _,.nil rfl⟩
 | .reg is keep,c,hk,hr,Q,g,w,μ,s,a,O,hg,h=>by
  cases c<;>(try simp only[DN,oa]at hk)
  rename_i id ops dr;cases dr with
  |true=>simp[DN]at hk
  |false=>
  simp only[DN]at hk;refine wpIn_region (JG _ _ hk hg h λa' w' h2=>?_);obtain⟨s',g',μ',hq,hgs,hch,hμ,hd⟩:=h2;exact⟨.normal,trivial,_,g',μ',O,hq,hgs.norm keep,λ_ h=>h,hch,hμ,.nil hd⟩
 | .regD is keep Aq,c,hk,hr,Q,g,w,μ,s,a,O,hg,h=>by
  cases c<;>(try simp only[DN,oa]at hk)
  rename_i id ops dr;cases dr with
  |false=>simp[DN]at hk
  |true=>
  simp only[DN,oJ]at hk;refine wpIn_region_any hk.2 (PS hk.1.1 hk.1.2 (K:=λs'=>Q .normal ⟨Bd s'.e keep,s'.h⟩) ?_ hg.drawn h λa' w' h2=>?_)
  ·intro s1 s2 he h;rw[←G4 he.1,←he.2];exact h
  ·obtain⟨s',g',μ',hq,hgs,hch,hμ,hd⟩:=h2;exact⟨.normal,trivial,_,g',μ',O,hq,hgs.norm keep,λ_ h=>h,(Ho g w _ _).trans hch,hμ,.nil hd⟩
 | .regA is keep Aq t,c,hk,hr,Q,g,w,μ,s,a,O,hg,h=>by
  cases c<;>(try simp only[DN,oa]at hk)
  rename_i id ops dr;cases dr with
  |false=>simp[DN]at hk
  |true=>
  simp only[DN,oJ]at hk;refine wpIn_region_any hk.2 (PU hk.1.1.1.1 hk.1.1.1.2 hk.1.1.2 hk.1.2 (K:=λs'=>∃s2,PC s.h.length s' s2∧Q .normal ⟨Bd s2.e keep,s2.h⟩) ?_ hg.drawn h λa' w' h2=>?_)
  ·rintro s1 s2 he ⟨s3,hr,hq⟩;rcases hr with rfl|⟨π,hp,ho,hf,hh⟩
   ·exact⟨s2,.inl rfl,by rw[←G4 he.1,←he.2];exact hq⟩
   ·exact⟨s3,.inr ⟨π,by rw[←he.2];exact hp,by rw[←he.2];exact ho,λn=>by rw[←he.1];exact hf n,by rw[←he.2];exact hh⟩,hq⟩
  ·obtain⟨s',g',μ',⟨s2,hr,hq⟩,hgs,hch,hμ,hd⟩:=h2;obtain⟨μ2,hgs2,hpre⟩:=hgs.ren hr;exact⟨.normal,trivial,_,g',μ2,O,hq,hgs2.norm keep,λ_ h=>h,(Ho g w _ _).trans hch,hpre μ (by rw[hg.inv.len];exact oN _) hμ,.nil hd⟩
 | .regV is keep Aq,c,hk,hr,Q,g,w,μ,s,a,O,hg,h=>by
  cases c<;>(try simp only[DN,oa]at hk)
  rename_i id ops dr;cases dr with
  |false=>simp[DN]at hk
  |true=>
  simp only[DN,oJ]at hk;refine wpIn_region_any hk.2 (PR hk.1.1 hk.1.2 (K:=λs'=>Q .normal ⟨Bd s'.e keep,s'.h⟩) hg.drawn h λa' w' h2=>?_);obtain⟨s',g',μ',hq,hgs,hch,hμ,hd⟩:=h2;exact⟨.normal,trivial,_,g',μ',O,hq,hgs.norm keep,λ_ h=>h,(Ho g w _ _).trans hch,hμ,.nil hd⟩
 | .seq x y,c,hk,hr,Q,g,w,μ,s,a,O,hg,h=>by
  cases c<;>simp only[DN,oa,oJ]at hk
  have hr1:r=none∨x.flat=true:=hr.imp_right λh=>by simp only[AC.flat,oJ]at h;exact h.1
  have hr2:r=none∨y.flat=true:=hr.imp_right λh=>by simp only[AC.flat,oJ]at h;exact h.2
  refine wpIn_seq (wpIn_mono (C7 x hk.1 hr1 hg h) ?_);rintro e a' w' ⟨e1,he,s',g',μ',O',hq,hgs,hO,hch,hμ,hd⟩;cases e1 with
  |normal=>
   cases e<;>simp only[Gl]at he
   exact wpIn_mono (C7 y hk.2 hr2 hgs hq) λe2 a2 w2 h2=>h2.trans hO hch hμ hd
  |exit i=>
   cases e<;>simp only[Gl]at he
   subst he;exact⟨.exit i,rfl,s',g',μ',O',hq,hgs,hO,hch,hμ,hd⟩
  |ret=>
   cases e<;>simp only[Gl]at he
   exact⟨.ret,trivial,s',g',μ',O',hq,hgs,hO,hch,hμ,hd⟩
 | .cond x y z,c,hk,hr,Q,g,w,μ,s,a,O,hg,h=>by
  cases c<;>simp only[DN,oa,oJ]at hk
  simp only[awp]at h;have hr1:r=none∨y.flat=true:=hr.imp_right λh=>by simp only[AC.flat,oJ]at h;exact h.1
  have hr2:r=none∨z.flat=true:=hr.imp_right λh=>by simp only[AC.flat,oJ]at h;exact h.2
  have hrx:=(hg.gd P).ev hk.1.1;split at h
  ·rename_i t ht;rw[ht]at hrx;refine wpIn_cond (Fk hrx) ?_;cases t with
   |true=>exact C7 y hk.1.2 hr1 hg h
   |false=>exact C7 z hk.2 hr2 hg h
  ·exact h.elim
 | .block id x,c,hk,hr,Q,g,w,μ,s,a,O,hg,h=>by
  cases c<;>simp only[DN,oa,oJ,beq_iff_eq]at hk
  obtain⟨rfl,hk⟩:=hk;refine wpIn_block (wpIn_mono (C7 x hk hr hg h) ?_);rintro e a' w' ⟨e1,he,s',g',μ',O',hq,hgs,hO,hch,hμ,hd⟩;cases e1 with
  |normal=>
   cases e<;>simp only[Gl]at he
   exact⟨.normal,trivial,s',g',μ',O',hq,hgs,hO,hch,hμ,hd⟩
  |exit i=>
   cases e<;>simp only[Gl]at he
   subst he;simp only[Exit.inBlock];split
   ·rename_i hi;simp only[hi,if_true]at hq;exact⟨.normal,trivial,s',g',μ',O',hq,hgs,hO,hch,hμ,hd⟩
   ·rename_i hi;simp only[hi,if_false]at hq;exact⟨.exit i,rfl,s',g',μ',O',hq,hgs,hO,hch,hμ,hd⟩
  |ret=>
   cases e<;>simp only[Gl]at he
   exact⟨.ret,trivial,s',g',μ',O',hq,hgs,hO,hch,hμ,hd⟩
 | .loop x,c,hk,hr,Q,g,w,μ,s,a,O,hg,h=>by
  cases c<;>simp only[DN,oa]at hk
  obtain⟨I,⟨m,hm⟩,hround⟩:=h;refine Lk (λm a' w'=>∃s' g' μ' O',I m s'∧Gs GL N g' w' μ' s' a' O'∧(∀b,O b→O' b)∧Chg (λb=>¬O b) g w g' w'∧μ <+: μ'∧Marks O' w w' a.defers a'.defers) ?_ m a w ⟨s,g,μ,O,hm,hg,λ_ h=>h,Chg.refl _ _ _,oQ _,.nil rfl⟩;rintro m a1 w1 ⟨s1,g1,μ1,O1,hI,hgs1,hO1,hch1,hμ1,hd1⟩;refine wpIn_mono (C7 x hk hr hgs1 (hround m s1 hI)) ?_;rintro e a' w' ⟨e1,he,s',g',μ',O',hq,hgs,hO,hch,hμ,hd⟩;cases e1 with
  |normal=>
   cases e<;>simp only[Gl]at he
   obtain⟨m',hlt,hI'⟩:=hq;exact⟨m',hlt,s',g',μ',O',hI',hgs,λb hb=>hO b (hO1 b hb),hch1.trans (hch.mono λb h hb=>h (hO1 b hb)),hμ1.trans hμ,hd1.trans hch1.size hO hch hd⟩
  |exit i=>
   cases e<;>simp only[Gl]at he
   subst he;exact⟨.exit i,rfl,s',g',μ',O',hq,hgs,λb hb=>hO b (hO1 b hb),hch1.trans (hch.mono λb h hb=>h (hO1 b hb)),hμ1.trans hμ,hd1.trans hch1.size hO hch hd⟩
  |ret=>
   cases e<;>simp only[Gl]at he
   exact⟨.ret,trivial,s',g',μ',O',hq,hgs,λb hb=>hO b (hO1 b hb),hch1.trans (hch.mono λb h hb=>h (hO1 b hb)),hμ1.trans hμ,hd1.trans hch1.size hO hch hd⟩
 | .exit id,c,hk,hr,Q,g,w,μ,s,a,O,hg,h=>by
  cases c<;>simp[DN]at hk
  subst hk;exact wpIn_exit ⟨.exit _,rfl,s,g,μ,O,h,hg,λ_ h=>h,Chg.refl _ _ _,oQ _,.nil rfl⟩
 | .ret,c,hk,hr,Q,g,w,μ,s,a,O,hg,h=>by
  cases c<;>simp[DN]at hk
  exact wpIn_ret ⟨.ret,trivial,s,g,μ,O,h,hg,λ_ h=>h,Chg.refl _ _ _,oQ _,.nil rfl⟩
 | .never,c,hk,hr,Q,g,w,μ,s,a,O,hg,h=>h.elim
 | .rangeF q ps asg body,c,hk,hr,Q,g,w,μ,s,a,O,hg,h=>by
  have hrn:r=none:=by
   rcases hr with h|h
   ·exact h
   ·simp[AC.flat]at h
  subst hrn;cases c<;>(try (simp only[DN,oa]at hk;done))
  exact N6 hk hg h
def Fh (e:CB) (ps:List Nat) (args:List D):CB:=(ps.zip args).foldl (λe p=>p::e) e
def CJ (P:Program) (GL:Aa) (e0:CB) (ps:List Nat) (asg body:AC) (rr:Nat):AExit→List Row→Bool→List Row→Prop
 | .normal,h,b,h'=>b=true∧h'=h.set rr (Au P GL .ready e0 ps asg body)
 | .ret,h,b,h'=>b=false∧h'=h.set rr (Au P GL (.done none) e0 ps asg body)
 | .exit i,h,b,h'=>b=false∧h'=h.set rr (Au P GL (.done (some i)) e0 ps asg body)
abbrev Wz (g:Gh) (w:World) (μ:List Nat) (e:CB) (ts:Array Value):Prop:=∀n,RepD g w μ (AG e n) (ts.getD n undef)∧∀k,Af (AG e n) (ts.getD n undef) k=none
theorem Kv {g:Gh} {w:World} {μ:List Nat} {N:Nat}:∀ {ps:List Nat} {args:List D} {us:List Value} {e:CB} {ts:Array Value},args.length=ps.length→(∀p∈ps,p <N)→All2 (RepG g w μ) args us→Tame args us→ts.size=N→
  Wz g w μ e ts→Wz g w μ (Fh e ps args) ((ps.zip us).foldl (λt p=>t.setIfInBounds p.1 p.2) ts)∧((ps.zip us).foldl (λt p=>t.setIfInBounds p.1 p.2) ts).size=N
 |[],args,us,e,ts,_,_,_,_,hs,hg=>by simpa[Fh]using ⟨hg,hs⟩
 |p::ps,[],us,e,ts,hl,_,_,_,_,_=>by simp at hl
 |p::ps,a::args,[],e,ts,_,_,ha,_,_,_=>by have:=ha.1;simp at this
 |p::ps,a::args,u::us,e,ts,hl,hp,ha,ht,hs,hg=>by
  rw[All2.cons_iff]at ha;have:=Kv (ps:=ps) (args:=args) (us:=us) (e:=(p,a)::e) (ts:=ts.setIfInBounds p u) (by simpa using hl) (λq hq=>hp q (by simp[hq])) ha.2
   (λi d v hd hv=>ht (i+1) d v (by simpa using hd) (by simpa using hv)) (by simpa using hs) (λn=>by
    simp only[AG];by_cases h:p=n
    ·subst h;have hlt:p <ts.size:=hs▸hp p (by simp);have e1:(ts.setIfInBounds p u).getD p undef=u:=by simp[ou,hlt]
     rw[if_pos rfl,e1];exact⟨ha.1.toD,Hg ha.1 (ht 0 a u rfl rfl)⟩
    ·have e1:(ts.setIfInBounds p u).getD n undef=ts.getD n undef:=by simp[ou,pO,h]
     rw[if_neg h,e1];exact hg n)
  exact this
theorem Cm {rr:Nat} {e0:CB} {ps:List Nat} {asg body:AC} {b:Bool} (hrow:h[rr]?=some (Au P GL .ready e0 ps asg body)) (hl:args.length=ps.length)
  (hw:awp P GL asg (λe s=>e= .normal∧s.h[rr]?=some (Au P GL .ready e0 ps asg body)∧
   awp P GL body (λe s'=>s'.h[rr]?=some (Au P GL .busy e0 ps asg body)∧CJ P GL e0 ps asg body rr e s'.h b h') ⟨s.e,s.h.set rr (Au P GL .busy e0 ps asg body)⟩) ⟨Fh e0 ps args,h⟩):
  Nk P GL rr args h b h':=by
 intro g w μ us O hinv hgl hall htame bl hbl;obtain⟨o,ho,⟨lp,N,rfl,l1,l2,l3,l4,l5,l6,l7,l8,htag⟩,hgn⟩:=hinv.rows rr _ bl hrow hbl;have hlen:us.length=args.length:=hall.1;have hsz:us.toArray.size=lp.params.size:=by rw[l1];simp[hlen,hl]
 refine⟨_,_,_,_,run_yield ho hsz,?_⟩;obtain⟨hgood,hsz2⟩:=Kv hl l8 hall htame l2 λn=>l3 n w;have e1:(lp.params.zip us.toArray).foldl (λtmps x=>match x with|(t,a)=>tmps.setIfInBounds t a) lp.tmps=(ps.zip us).foldl (λt p=>t.setIfInBounds p.1 p.2) lp.tmps:=by
  rw[l1,←Array.foldl_toList];simp
 refine roundIn_of_wpIn trivial ?_;rw[e1];generalize (ps.zip us).foldl (λt p=>t.setIfInBounds p.1 p.2) lp.tmps=ts at hgood hsz2;have hgs:Gs GL N g w μ ⟨Fh e0 ps args,h⟩ {tmps:=ts,defers:=[]} O:=⟨hinv.enter (λn=>(hgood n).1) (λn=>(hgood n).2),hgl,hsz2⟩;refine wpIn_mono (C7 (r:=some bl) asg l4 (.inr l6) hgs hw) ?_;rintro e a1 w1 ⟨ee,he,s1,g1,μ1,O1,⟨rfl,hrow1,hw1⟩,hgs1,hO1,hch1,hμ1,_⟩;cases e<;>simp only[Gl]at he
 have hbl1:μ1[rr]?=some bl:=Er hμ1 hbl;obtain⟨o1,ho1,⟨lp1,N1,rfl,j1,j2,j3,j4,j5,j6,j7,j8,htag1⟩,hgn1⟩:=hgs1.inv.rows rr _ bl hrow1 hbl1;refine⟨_,run_beginRound ho1 htag1.1,?_⟩;have i2:=hgs1.inv.setAny hrow1 hbl1 (Au P GL .busy e0 ps asg body) (EG g1) (F4 (o:= .loop {lp1 with state:= .busy}) hgn1 hgs1.inv.agree)
  ⟨_,World.putObj_heap_same (BP ho1),⟨_,N1,rfl,j1,j2,j3,j4,j5,j6,j7,j8,rfl⟩,hgn1⟩ (λk ds d h=>by cases h)
 have hgs2:Gs GL N g1 (w1.putObj bl (.loop {lp1 with state:= .busy})) μ1 ⟨s1.e,s1.h.set rr (Au P GL .busy e0 ps asg body)⟩ a1 O1:=⟨i2,hgs1.glob,hgs1.sz⟩;refine wpIn_mono (C7 (r:=some bl) body l5 (.inr l7) hgs2 hw1) ?_;rintro e a3 w3 ⟨ee,he,s3,g3,μ3,O3,⟨hrow3,hend⟩,hgs3,hO3,hch3,hμ3,_⟩;have hbl3:μ3[rr]?=some bl:=Er hμ3 hbl1;obtain⟨o3,ho3,⟨lp3,N3,rfl,m1,m2,m3,m4,m5,m6,m7,m8,htag3⟩,hgn3⟩:=hgs3.inv.rows rr _ bl hrow3 hbl3;have hnO:¬O bl:=hinv.mo bl (oK hbl);have fin:∀(jump:Option Code) (tag:Tag),Wy tag {lp3 with state:=if jump.isNone then .ready else .done,pending:=jump}→b=jump.isNone→h'=s3.h.set rr (Au P GL tag e0 ps asg body)→
   ∃v w',(Instr.endRound bl jump).run P w3= .ok v w'∧∃g' μ',Ending.returned v= .returned (.bool b)∧Inv g' w' μ' Jt L9 h' O∧Chg (λb=>¬O b) g w g' w'∧μ <+: μ':=by
  intro jump tag htg hb hh;have i4:=hgs3.inv.setAny hrow3 hbl3 (Au P GL tag e0 ps asg body) (EG g3) (F4 (o:= .loop {lp3 with state:=if jump.isNone then .ready else .done,pending:=jump}) hgn3 hgs3.inv.agree)
   ⟨_,World.putObj_heap_same (BP ho3),⟨_,N3,rfl,m1,m2,m3,m4,m5,m6,m7,m8,htg⟩,hgn3⟩ (λk ds d h=>by cases h)
  refine⟨_,_,run_endRound jump ho3,g3,μ3,by rw[hb],?_,?_,hμ1.trans (hμ3)⟩
  ·rw[hh];exact(i4.leave).subO λb hb=>hO3 b (hO1 b hb)
  ·have hm:∀x,x=bl→¬O x:=λx h hb=>hnO (h▸hb);exact hch1.trans (Chg.trans ((EG g1).mono hm) (Chg.trans (hch3.mono λb h hb=>h (hO1 b hb)) ((EG g3).mono hm)))
 cases ee with
 |normal=>
  cases e<;>simp only[Gl]at he
  exact fin none .ready ⟨rfl,rfl⟩ hend.1 hend.2
 |exit i=>
  cases e<;>simp only[Gl]at he
  subst he;exact fin (some (.exit i)) (.done (some i)) ⟨by simp,rfl⟩ hend.1 hend.2
 |ret=>
  cases e<;>simp only[Gl]at he
  exact fin (some .ret) (.done none) ⟨by simp,rfl⟩ hend.1 hend.2
end
end
section
inductive AR where
 |t (n:Nat)
 |c (n sz:Nat) (ag:Bool)
def AR.val (s:St):AR→Option V
 | .t n=>(AG s.e n).toV
 | .c n sz ag=>((PI.load (.t n false) sz ag).val s.e s.h).bind D.toV
def CR (s:St):List AR→Option (List V)
 |[]=>some []
 |r::rs=>match r.val s,CR s rs with
  |some x,some xs=>some (x::xs)
  |_,_=>none
def AX (args:List V):CB:=args.zipIdx.map λp=>(p.2,.v p.1)
def D.one?:D→Option D
 | .tup _=>none
 |d=>some d
def D.keep:D→D
 | .own e s xs=> .own e s xs
 |d=>d.arg
def AR.d (s:St):AR→Option D
 | .t n=>some (AG s.e n).keep
 | .c n sz ag=>((PI.load (.t n false) sz ag).val s.e s.h).bind λd=>d.arg.one?
def DG (s:St):List AR→Option (List D)
 |[]=>some []
 |r::rs=>match r.d s,DG s rs with
  |some x,some xs=>some (x::xs)
  |_,_=>none
def AQ (args:List D):CB:=args.zipIdx.map λp=>(p.2,p.1)
def Jq (P:Program):ResultVar→AR→Bool
 | .tmp t,.t n=>t==n
 | .cell a T,.c n sz ag=>a==n&&BZ P T sz&&HV P T ag&&(ag||sz==1)
 |_,_=>false
def Ei:List AR→List Nat
 |[]=>[]
 | .t n::rs=>n::Ei rs
 | .c _ _ _::rs=>Ei rs
def CL (P:Program) (GL:Aa) (f n:Nat) (ac:AC) (rs:List AR):Bool:=
 match P.funcs[f]? with
 |some fn=> !(fn.name== "runtime.NumGoroutine")&&(match fn.body with|some c=>DN P GL fn.ntmps c ac|none=>false)&&Ao (Jq P) fn.results.toList rs&&decide (n≤fn.ntmps)&&decide (Ei rs).Nodup
 |none=>false
def Lh (tmps:Array Value):ResultVar→Sem Value
 | .tmp t=>pure (tmps.getD t undef)
 | .cell a t=>do loadVar t (←asAddr (tmps.getD a undef))
theorem Ky (fn:Func) (tmps:Array Value):results fn tmps=(do
  let vs ←fn.results.mapM (Lh tmps)
  pure (if h:vs.size=1 then vs[0] else .tuple vs)):=by
 unfold results
 congr 1
variable {N f n:Nat} {M O:Nat→Prop} {a:Act} {s:St} {μ:List Nat} {w w':World} {g g':Gh} {vs:List Value} {xs:List V} {h h':List Row} {u v:Value} {d:D} {args rets:List D}
section
variable {P:Program} {GL:Aa}
theorem GZ:∀(args:List V) (k n:Nat),AG ((args.zipIdx k).map λp=>(p.2,D.v p.1)) n=if k≤n then ((args[n-k]?).map D.v).getD .any else .any
 |[],k,n=>by simp[AG]
 |x::xs,k,n=>by
  simp only[rt,oV,AG];by_cases h:k=n
  ·subst h;simp
  ·rw[if_neg h,GZ xs (k+1) n];by_cases h2:k+1≤n
   ·rw[if_pos h2,if_pos (by omega),show n-k=(n-(k+1))+1 by omega,qO]
   ·rw[if_neg h2,if_neg (by omega)]
theorem IQ (args:List V) (n:Nat):AG (AX args) n=((args[n]?).map D.v).getD .any:=by
 have:=GZ args 0 n;simpa[AX]using this
theorem Y3 (hg:Gs GL N g w μ s a O) {rv:ResultVar} {r:AR} (hk:Jq P rv r=true) {x:V} (hx:r.val s=some x):
  ∃v,(Lh a.tmps rv).run P w= .ok v w∧RepV g x v:=by
 cases rv with
 |tmp t=>
  cases r with
  |t n=>
   have:t=n:=by simpa[Jq]using hk
   subst this;exact⟨_,rfl,CW (hg.inv.rep t) hx⟩
  |c n sz ag=>simp[Jq]at hk
 |cell b t=>
  cases r with
  |t n=>simp[Jq]at hk
  |c n sz ag=>
   simp only[Jq,oJ,beq_iff_eq]at hk;obtain⟨⟨⟨rfl,hs⟩,hag⟩,h1⟩:=hk;simp only[AR.val,sS]at hx;obtain⟨d,hd,hdx⟩:=hx;have:=NG (P:=P) (GL:=GL) (a:= .tmp b) (a':= .t b false) (t:=t) (by simp[oe]) hs hag h1 (hg.gd P) hd
    {(default:Oper)with op:= .load t (.tmp b)} rfl
   obtain⟨v,hrun,hrep,_⟩:=this;refine⟨v,?_,CW hrep hdx⟩;have hev:a.eval (.tmp b)=a.tmps.getD b undef:=rfl;simp only[execOp,Instr.loadAt,hev,Sem.run_bind,Sem.run_map]at hrun;simp only[Lh,Sem.run_bind];cases hp:a.tmps.getD b undef with
   |pointer p=>
    cases p with
    |none=>simp[hp,Instr.sureAddr]at hrun
    |some p=>
     simp only[hp,Instr.sureAddr,Sem.run_pure,Result.andThen_ok,asAddr]at hrun ⊢;cases hl:(loadVar t p).run P w with
     |ok v' w'=>simp[hl]at hrun;obtain⟨rfl,rfl⟩:=hrun;rfl
     |halt h w'=>simp[hl]at hrun
   |_=>simp[hp,Instr.sureAddr]at hrun
theorem Jz {g:Gh} {w:World} {μ:List Nat} {s:St} {a:Act} {O:Nat→Prop} {N:Nat} (hg:Gs GL N g w μ s a O):∀ {rvs:List ResultVar} {rs:List AR} {xs:List V},Ao (Jq P) rvs rs=true→CR s rs=some xs→
  ∃vs:List Value,(rvs.mapM (Lh a.tmps)).run P w= .ok vs w∧All2 (RepV g) xs vs
 |[],[],xs,_,h=>by
  simp only[CR,oH]at h;subst h;exact⟨[],rfl,.nil⟩
 |rv::rvs,r::rs,xs,hk,h=>by
  simp only[Ao,oJ]at hk;simp only[CR]at h;split at h
  ·rename_i y ys hy hys;simp only[oH]at h;subst h;obtain⟨v,h1,h2⟩:=Y3 hg hk.1 hy;obtain⟨vs,h3,h4⟩:=Jz hg hk.2 hys;refine⟨v::vs,?_,.cons h2 h4⟩;rw[List.mapM_cons,Sem.run_bind,h1,Result.andThen_ok,Sem.run_bind,h3];rfl
  ·cases h
 |[],_::_,_,hk,_=>by simp[Ao]at hk
 |_::_,[],_,hk,_=>by simp[Ao]at hk
theorem Ug (h:All2 (RepV g) xs vs):RepD g w [] (Ij xs) (if h:vs.toArray.size=1 then vs.toArray[0] else .tuple vs.toArray):=by
 unfold Ij;split
 ·rename_i x;have hl:=h.1
  match vs,hl with
  |[v],_=>
   simp only[qn,oj,qP,dite_true];exact(All2.cons_iff.1 h).1
 ·rename_i hne;have hl:¬vs.toArray.size=1:=by
   intro h1;have:xs.length=1:=by rw[←h.1];simpa using h1
   match xs,this with
   |[x],_=>exact hne x rfl
  rw[dif_neg hl];exact⟨vs,rfl,by simp[h.1],λi x v hx hv=>by
   simp only[oX,oU]at hx;obtain⟨y,hy,rfl⟩:=hx;exact h.2 i y v hy hv⟩
theorem Inv.chgO {t:Nat→D} {u:Nat→Value} (hi:Inv g w μ t u h O) (hc:Chg M g w g' w') (hM:∀b,M b→O b)
  (hag:∀b o v,g'.m b o=some v→w'.cell? ⟨b,o,none⟩=some v):Inv g' w' μ t u h O:=by
 have hcellU:∀r k,BF w' μ r k=BF w μ r k:=by
  intro r k;simp only[BF];cases hm:μ[r]? with
  |none=>rfl
  |some b=>
   have hbm:=oK hm;simp only[pE];rw[World.cell?_of_block (a:=⟨b,k,none⟩) (hc.heap b (hi.mem_lt hbm) (λh=>hi.mo b hbm (hM b h)))]
 refine hi.upd hc hag (λn=>D1 hi hc (oQ μ) n λk b' hb' h=>(hi.sep _ b' hb').2 (hM b' h)) hi.len
  (λr row b hr hb=>hi.rowChg hc (oQ μ) hr hb (λh=>hi.mo b (oK hb) (hM b h)) (λp b' hp h=>absurd (hM b' h) (hi.sep p b' hp).2)) hi.nod (λb hb=> .inl hb)
  (λp=>some p) (λp q r hp hq=>by simp at hp hq;rw[hp,hq]) (.tmp 0 0) ?_
 intro p b hp;cases p with
 |tmp m j=>exact .inl ⟨.tmp m j,rfl,hp⟩
 |cell r k=>simp only[CS,hcellU]at hp;exact .inl ⟨.cell r k,rfl,hp⟩
theorem Ix {F:Fence} {n:Nat} {fn:Func} {tmps:Array Value} {R:Ending→World→Prop}:∀(ms:List Nat) {w:World},ms.Nodup→(∀b∈ms,w.heap[b]?=some (.deferred (some [])))→
  (∀w':World,w'.heap.size=w.heap.size→w'.os=w.os→w'.output=w.output→(∀b,b∉ms→w'.heap[b]?=w.heap[b]?)→∃v,(results fn tmps).run P w'= .ok v w'∧R (.returned v) w')→LeavesInM F n P fn tmps R (ms.map RI) .returning w
 |[],w,_,_,h=>h w rfl rfl rfl λ_ _=>rfl
 |b::ms,w,hn,hd,h=>by
  rw[qr]at hn;refine⟨by simp,.inl ⟨b,_,rfl,run_takeDeferred (hd b (by simp)),?_⟩⟩;refine Ix ms hn.2 (λb' hb'=>?_) λw' hs ho hu hw=>h w' (hs.trans World.putObj_size) ho hu λb' hb'=>?_
  ·rw[World.putObj_heap_other (λ(h:b'=b)=>hn.1 (h▸hb'))];exact hd b' (by simp[hb'])
  ·simp only[oO,not_or]at hb';rw[hw b' hb'.2,World.putObj_heap_other hb'.1]
theorem O0 {F:Fence} {fn:Func} {Q:St→Prop} {R:Ending→World→Prop} {a':Act} {w1:World} (hd:a.defers=[]) (hOlt:∀b,O b→b <w.heap.size)
  (h:AfterM GL N Q g w μ a O a' w1) (hR:∀s' g' μ' w',Q s'→Gs GL N g' w' μ' s' a' O→Chg (λb=>¬O b) g w g' w'→μ <+: μ'→∃v,(results fn a'.tmps).run P w'= .ok v w'∧R (.returned v) w'):
  LeavesInM F n P fn a'.tmps R a'.defers .returning w1:=by
 obtain⟨s',g',μ',O',hq,hg,hO,hc,hμ,ms,hms,hnd,hp⟩:=h;rw[hms,hd,pz];have hnone:∀b∈ms,∀o,g'.m b o=none:=by
  intro b hb o;cases hx:g'.m b o with
  |none=>rfl
  |some v=>
   have:=hg.inv.agree b o v hx;simp[World.cell?,(hp b hb).2.2]at this
 have hnO:∀b∈ms,¬O b∨False:=λb hb=> .inl λho=>by
  have h1:=(hp b hb).2.1;have h3:=hOlt b ho;omega
 refine Ix ms hnd (λb hb=>(hp b hb).2.2) λw' hs ho hu hw=>?_;have hc2:Chg (λb=>b∈ms) g' w1 g' w':=⟨Gh.le.refl _,by omega,λb _ hb=>hw b hb,λ_ _ _ _=>rfl,ho,hu⟩;have hag:∀b o v,g'.m b o=some v→w'.cell? ⟨b,o,none⟩=some v:=by
  intro b o v hv;by_cases hb:b∈ms
  ·rw[hnone b hb]at hv;cases hv
  ·rw[World.cell?_of_block (a:=⟨b,o,none⟩) (hw b hb)];exact hg.inv.agree b o v hv
 have hinv:=(hg.inv.chgO hc2 (λb hb=>(hp b hb).1) hag).subO hO;exact hR s' g' μ' w' hq ⟨hinv,hg.glob,hg.sz⟩ (hc.trans (hc2.mono λb hb ho=>(hnO b hb).elim (λh=>h ho) id)) hμ
theorem F5 {ac:AC} {rs:List AR} {args rets:List V} (hk:CL P GL f n ac rs=true) (hn:args.length=n)
  (h:awp P GL ac (λe s=>(match e with| .exit _=>False|_=>True)∧CR s rs=some rets) ⟨AX args,[]⟩):PSp P GL f args rets:=by
 unfold CL at hk;split at hk
 ·rename_i fn hfn;simp only[oJ]at hk;obtain⟨⟨⟨⟨hnm,hbody⟩,hres⟩,hnn⟩,_⟩:=hk;have hnt:args.length≤fn.ntmps:=by rw[hn];simpa using hnn
  split at hbody
  ·rename_i c hc;refine⟨by simp[Rw,hfn,hc,hnm],λg w us hag hgl hall=>(callsIn_wide (n:=0)).1 ?_⟩;have hlen:us.length=args.length:=hall.1;refine callsIn_of_wp_marks hfn hc trivial ?_ rfl;have hinv:Gs GL fn.ntmps g w [] ⟨AX args,[]⟩ {tmps:=us.toArray++Array.replicate (fn.ntmps-us.toArray.size) undef,defers:=[]} (λb=>b <w.heap.size):=by
    refine⟨⟨hag,λb hb=>hb,λn=>?_,rfl,λr row b hr=>by simp at hr,λr r' b hr=>by simp at hr,λb hb=>by simp at hb,λp q b hp=>?_,λp b hp=>?_⟩,hgl,by simp;omega⟩
    ·simp only[IQ];cases hx:args[n]? with
     |none=>simp[RepD,RepG,RepE]
     |some x=>
      obtain⟨v,hv,hr⟩:=hall.get hx;have hlt:=(oM.1 hv).1;have:(us.toArray++Array.replicate (fn.ntmps-us.toArray.size) undef).getD n undef=v:=by
       simp[Array.getElem?_append,hlt];exact(oM.1 hv).2
      simp only[o9,og,this];exact hr
    ·exfalso;cases p with
     |tmp n k=>
      simp only[CS,IQ]at hp;cases hx:args[n]?<;>simp only[hx,Option.map_none,o9,Option.getD_none,og]at hp<;>cases k<;>simp[Af,Ac]at hp
     |cell r k=>simp[CS,A7,Ac]at hp
    ·exfalso;cases p with
     |tmp n k=>
      simp only[CS,IQ]at hp;cases hx:args[n]?<;>simp only[hx,Option.map_none,o9,Option.getD_none,og]at hp<;>cases k<;>simp[Af,Ac]at hp
     |cell r k=>simp[CS,A7,Ac]at hp
   refine wpIn_mono (C7 (r:=none) ac hbody (.inl rfl) hinv h) ?_;rintro e a' w1 ⟨e1,he,haft⟩;have fin:(match e1 with| .exit _=>False|_=>True)→LeavesInM (WF none) 0 P fn a'.tmps (λe w'=>∃v g',e= .returned v∧RepD g' w' [] (Ij rets) v∧Chg (λ_=>False) g w g' w'∧Q0 g' w') a'.defers .returning w1:=by
    intro _;refine O0 rfl (λb hb=>hb) haft ?_;rintro s' g' μ' w' ⟨_,hrv⟩ hgs hch _;obtain⟨vs,hrun,hrep⟩:=Jz hgs hres hrv;have hresult:(results fn a'.tmps).run P w'= .ok (if h:vs.toArray.size=1 then vs.toArray[0] else .tuple vs.toArray) w':=by
     rw[Ky,Array.mapM_eq_mapM_toList];simp only[Sem.run_bind,Sem.run_map];rw[hrun];rfl
    have hch':Chg (λ_=>False) g w g' w':=⟨hch.le,hch.size,λb hb _=>hch.heap b hb (λh=>h hb),λb hb _=>hch.gh b hb (λh=>h hb),hch.os,hch.out⟩;exact⟨_,hresult,_,g',rfl,Ug hrep,hch',hgs.inv.agree⟩
   cases e1 with
   |normal=>cases e<;>simp only[Gl]at he;exact fin trivial
   |exit i=>obtain⟨_,_,_,_,⟨hnx,_⟩,_⟩:=haft;exact hnx.elim
   |ret=>cases e<;>simp only[Gl]at he;exact fin trivial
  ·cases hbody
 ·cases hk
theorem Ft:∀(args:List D) (k n:Nat),AG ((args.zipIdx k).map λp=>(p.2,p.1)) n=if k≤n then (args[n-k]?).getD .any else .any
 |[],k,n=>by simp[AG]
 |x::xs,k,n=>by
  simp only[rt,oV,AG];by_cases h:k=n
  ·subst h;simp
  ·rw[if_neg h,Ft xs (k+1) n];by_cases h2:k+1≤n
   ·rw[if_pos h2,if_pos (by omega),show n-k=(n-(k+1))+1 by omega,qO]
   ·rw[if_neg h2,if_neg (by omega)]
theorem Oh (args:List D) (n:Nat):AG (AQ args) n=(args[n]?).getD .any:=by
 have:=Ft args 0 n;simpa[AQ]using this
theorem S8 (h:RepD g w μ d u):RepG g w μ d.keep u:=by
 have:=h.arg;cases d<;>first
  |exact h
  |exact this
theorem S9 (d:D) (u:Value) (b:Nat) (h:Ac d.keep u=some b):Af d u 0=some b:=by
 cases d<;>first
  |(simp only[D.keep]at h;rw[K9]at h;cases h;done)
  |exact h
theorem Vl (hg:Gs GL N g w μ s a O) {rv:ResultVar} {r:AR} (hk:Jq P rv r=true) {x:D} (hx:r.d s=some x):
  ∃v,(Lh a.tmps rv).run P w= .ok v w∧RepG g w μ x v∧∀b,Ac x v=some b→∃n,r= .t n∧Af (AG s.e n) (a.tmps.getD n undef) 0=some b:=by
 cases rv with
 |tmp t=>
  cases r with
  |t n=>
   have:t=n:=by simpa[Jq]using hk
   subst this;simp only[AR.d,oH]at hx;subst hx;exact⟨_,rfl,S8 (hg.inv.rep t),λb hb=>⟨t,rfl,S9 _ _ _ hb⟩⟩
  |c n sz ag=>simp[Jq]at hk
 |cell b t=>
  cases r with
  |t n=>simp[Jq]at hk
  |c n sz ag=>
   simp only[Jq,oJ,beq_iff_eq]at hk;obtain⟨⟨⟨rfl,hs⟩,hag⟩,h1⟩:=hk;simp only[AR.d,sS]at hx;obtain⟨d,hd,hdx⟩:=hx;have hxe:d.arg=x:=by
    cases hq:d.arg<;>rw[hq]at hdx<;>simp[D.one?]at hdx<;>exact hdx
   subst hxe;have:=NG (P:=P) (GL:=GL) (a:= .tmp b) (a':= .t b false) (t:=t) (by simp[oe]) hs hag h1 (hg.gd P) hd
    {(default:Oper)with op:= .load t (.tmp b)} rfl
   obtain⟨v,hrun,hrep,_⟩:=this;refine⟨v,?_,hrep.arg,λb' hb'=>by rw[K9]at hb';cases hb'⟩;have hev:a.eval (.tmp b)=a.tmps.getD b undef:=rfl;simp only[execOp,Instr.loadAt,hev,Sem.run_bind,Sem.run_map]at hrun;simp only[Lh,Sem.run_bind];cases hp:a.tmps.getD b undef with
   |pointer p=>
    cases p with
    |none=>simp[hp,Instr.sureAddr]at hrun
    |some p=>
     simp only[hp,Instr.sureAddr,Sem.run_pure,Result.andThen_ok,asAddr]at hrun ⊢;cases hl:(loadVar t p).run P w with
     |ok v' w'=>simp[hl]at hrun;obtain⟨rfl,rfl⟩:=hrun;rfl
     |halt h w'=>simp[hl]at hrun
   |_=>simp[hp,Instr.sureAddr]at hrun
theorem Ik {g:Gh} {w:World} {μ:List Nat} {s:St} {a:Act} {O:Nat→Prop} {N:Nat} (hg:Gs GL N g w μ s a O):∀ {rvs:List ResultVar} {rs:List AR} {xs:List D},Ao (Jq P) rvs rs=true→DG s rs=some xs→
  ∃vs:List Value,(rvs.mapM (Lh a.tmps)).run P w= .ok vs w∧All2 (RepG g w μ) xs vs∧∀(k:Nat) d v b,xs[k]?=some d→vs[k]?=some v→Ac d v=some b→∃n,rs[k]?=some (.t n)∧Af (AG s.e n) (a.tmps.getD n undef) 0=some b
 |[],[],xs,_,h=>by
  simp only[DG,oH]at h;subst h;exact⟨[],rfl,.nil,λi d v b h=>by simp at h⟩
 |rv::rvs,r::rs,xs,hk,h=>by
  simp only[Ao,oJ]at hk;simp only[DG]at h;split at h
  ·rename_i y ys hy hys;simp only[oH]at h;subst h;obtain⟨v,h1,h2,h2'⟩:=Vl hg hk.1 hy;obtain⟨vs,h3,h4,h4'⟩:=Ik hg hk.2 hys;refine⟨v::vs,?_,.cons h2 h4,λi d u b hd hu hb=>?_⟩
   ·rw[List.mapM_cons,Sem.run_bind,h1,Result.andThen_ok,Sem.run_bind,h3];rfl
   ·cases i with
    |zero=>
     simp at hd hu;subst hd;subst hu;obtain⟨n,rfl,h⟩:=h2' b hb;exact⟨n,rfl,h⟩
    |succ i=>exact h4' i d u b (by simpa using hd) (by simpa using hu) hb
  ·cases h
 |[],_::_,_,hk,_=>by simp[Ao]at hk
 |_::_,[],_,hk,_=>by simp[Ao]at hk
theorem Sa {xs:List D} (h:All2 (RepG g w μ) xs vs):
  RepD g w μ (BY xs) (if h:vs.toArray.size=1 then vs.toArray[0] else .tuple vs.toArray)∧
   ∀k b,Af (BY xs) (if h:vs.toArray.size=1 then vs.toArray[0] else .tuple vs.toArray) k=some b→∃d v,xs[k]?=some d∧vs[k]?=some v∧Ac d v=some b:=by
 unfold BY;split
 ·rename_i x;have hl:=h.1
  match vs,hl with
  |[v],_=>
   simp only[qn,oj,qP,dite_true];have hx:=(All2.cons_iff.1 h).1;refine⟨hx.toD,λk b hb=>?_⟩;have hnt:∀ds,x≠ .tup ds:=λds he=>by subst he;exact hx.elim
   cases k with
   |zero=>
    refine⟨x,v,rfl,rfl,?_⟩;cases x<;>first
     |exact hb
     |exact absurd rfl (hnt _)
   |succ k=>
    exfalso;cases x<;>first
     |(simp[Af]at hb;done)
     |exact absurd rfl (hnt _)
 ·rename_i hne;have hl:¬vs.toArray.size=1:=by
   intro h1;have:xs.length=1:=by rw[←h.1];simpa using h1
   match xs,this with
   |[x],_=>exact hne x rfl
  rw[dif_neg hl];refine⟨⟨vs,rfl,h⟩,λk b hb=>?_⟩;simp only[Af,qw]at hb;cases hx:xs[k]? with
  |none=>simp[hx,Ac]at hb
  |some x=>
   obtain⟨v,hv,_⟩:=h.get hx;simp only[hx,hv,og]at hb;exact⟨x,v,rfl,hv,hb⟩
theorem GV:∀ {rs:List AR} {k n:Nat},rs[k]?=some (.t n)→n∈Ei rs
 |[],k,n,h=>by simp at h
 | .t m::rs,0,n,h=>by simp at h;simp[Ei,h]
 | .t m::rs,k+1,n,h=>by simp only[Ei,oO];exact .inr (GV (rs:=rs) (k:=k) (by simpa using h))
 | .c _ _ _::rs,0,n,h=>by simp at h
 | .c _ _ _::rs,k+1,n,h=>by simp only[Ei];exact GV (rs:=rs) (k:=k) (by simpa using h)
theorem IY:∀ {rs:List AR},(Ei rs).Nodup→∀ {k k' n:Nat},rs[k]?=some (.t n)→rs[k']?=some (.t n)→k=k'
 |[],_,k,k',n,h,_=>by simp at h
 | .t m::rs,hd,k,k',n,h,h'=>by
  simp only[Ei,qr]at hd;cases k with
  |zero=>cases k' with
   |zero=>rfl
   |succ k'=>
    simp at h;subst h;exact absurd (GV (rs:=rs) (k:=k') (by simpa using h')) hd.1
  |succ k=>cases k' with
   |zero=>
    simp at h';subst h';exact absurd (GV (rs:=rs) (k:=k) (by simpa using h)) hd.1
   |succ k'=>rw[IY hd.2 (k:=k) (k':=k') (by simpa using h) (by simpa using h')]
 | .c _ _ _::rs,hd,k,k',n,h,h'=>by
  simp only[Ei]at hd;cases k with
  |zero=>simp at h
  |succ k=>cases k' with
   |zero=>simp at h'
   |succ k'=>rw[IY hd (k:=k) (k':=k') (by simpa using h) (by simpa using h')]
theorem Uf {t:Nat→D} {u:Nat→Value} (hi:Inv g w μ t u h O) {rs:List AR} (hnd:(Ei rs).Nodup) {x:D} (hx:RepD g w μ x v)
  (ho:∀k b,Af x v k=some b→∃n,rs[k]?=some (.t n)∧Af (t n) (u n) 0=some b):Inv g w μ (Ge .any x) (Ge (.bool false) v) h O:=by
 refine hi.upd (Chg.refl (λ_=>False) g w) hi.agree (λn=>?_) hi.len hi.rows hi.nod (λb hb=> .inl hb)
  (λp=>match p with| .tmp 0 k=>(match rs[k]? with|some (.t n)=>some (.tmp n 0)|_=>none)| .tmp (_+1) _=>none| .cell r k=>some (.cell r k)) ?_ (.tmp 0 0) ?_
 ·simp only[Ge];split
  ·exact hx
  ·trivial
 ·intro p q z hp hq;cases p with
  |tmp n k=>
   cases n with
   |succ n=>cases hp
   |zero=>
    simp only at hp;split at hp
    ·rename_i n hn;simp only[oH]at hp;subst hp;cases q with
     |tmp n' k'=>
      cases n' with
      |succ n'=>cases hq
      |zero=>
       simp only at hq;split at hq
       ·rename_i n' hn';simp only[oH,Pl.tmp.injEq,and_true]at hq;subst hq;rw[IY hnd hn hn']
       ·cases hq
     |cell r k'=>simp at hq
    ·cases hp
  |cell r k=>
   simp only[oH]at hp;subst hp;cases q with
   |tmp n' k'=>
    cases n' with
    |succ n'=>cases hq
    |zero=>
     simp only at hq;split at hq
     ·simp at hq
     ·cases hq
   |cell r' k'=>simpa[eq_comm]using hq
 ·intro p b hb;refine .inl ?_;cases p with
  |tmp n k=>
   cases n with
   |succ n=>simp only[CS,Ge]at hb;cases k<;>simp[Af,Ac]at hb
   |zero=>
    have hb':Af x v k=some b:=by simpa[CS,Ge]using hb
    obtain⟨n,hn,hbn⟩:=ho k b hb';exact⟨.tmp n 0,by simp only[hn],hbn⟩
  |cell r k=>exact⟨.cell r k,rfl,hb⟩
theorem GQ {ac:AC} {rs:List AR} (hk:CL P GL f n ac rs=true) (hn:args.length=n)
  (hw:awp P GL ac (λe s=>(match e with| .exit _=>False|_=>True)∧∃y,DG s rs=some y∧∀g w μ v O,Inv g w μ (Ge .any (BY y)) (Ge (.bool false) v) s.h O→
   ∃g2 μ2,(∀μ0:List Nat,μ0.length=h.length→μ0 <+: μ→μ0 <+: μ2)∧Inv g2 w μ2 (Ge .any (BY rets)) (Ge (.bool false) v) h' O∧Chg (λb=>¬O b) g w g2 w) ⟨AQ args,h⟩):
  Rw P f=true∧∀(g:Gh) (w:World) (μ:List Nat) (us:List Value) (O:Nat→Prop),us.length=args.length→Inv g w μ (L8 .any args) (L8 undef us) h O→GlobOK GL g→
  Calls P f us.toArray w λe w'=>∃v g' μ',e= .returned v∧Inv g' w' μ' (Ge .any (BY rets)) (Ge (.bool false) v) h' O∧Chg (λb=>¬O b) g w g' w'∧μ <+: μ':=by
 unfold CL at hk;split at hk
 ·rename_i fn hfn;simp only[oJ]at hk;obtain⟨⟨⟨⟨hnm,hbody⟩,hres⟩,hnn⟩,hndp⟩:=hk;have hndp:(Ei rs).Nodup:=by simpa using hndp
  have hnt:args.length≤fn.ntmps:=by rw[hn];simpa using hnn
  split at hbody
  ·rename_i c hc;refine⟨by simp[Rw,hfn,hc,hnm],λg w μ us O hlen hinv0 hgl=>(callsIn_wide (n:=0)).1 ?_⟩;refine callsIn_of_wp_marks hfn hc trivial ?_ rfl;have hu:(λn=>(us.toArray++Array.replicate (fn.ntmps-us.toArray.size) undef).getD n undef)=L8 undef us:=by
    funext n
    by_cases hlt:n <us.length
    ·simp[L8,Array.getElem?_append,hlt]
    ·have e2:(us.toArray++Array.replicate (fn.ntmps-us.toArray.size) undef)[n]?.getD undef=undef:=by
      rw[Array.getElem?_append_right (by simpa using hlt),Array.getElem?_replicate];split<;>rfl
     have e3:L8 undef us n=undef:=by simp[L8,pN (Nat.le_of_not_lt hlt)]
     rw[e3,ou];exact e2
   have hinv:Gs GL fn.ntmps g w μ ⟨AQ args,h⟩ {tmps:=us.toArray++Array.replicate (fn.ntmps-us.toArray.size) undef,defers:=[]} O:=by
    refine⟨?_,hgl,by simp;omega⟩;show Inv g w μ (AG (AQ args)) (λn=>(us.toArray++Array.replicate (fn.ntmps-us.toArray.size) undef).getD n undef) h O;rw[hu,show AG (AQ args)=L8 .any args from funext (Oh args)];exact hinv0
   refine wpIn_mono (C7 (r:=none) ac hbody (.inl rfl) hinv hw) ?_;rintro e a' w1 ⟨e1,he,haft⟩;have fin:(match e1 with| .exit _=>False|_=>True)→LeavesInM (WF none) 0 P fn a'.tmps (λe w'=>∃v g' μ',e= .returned v∧Inv g' w' μ' (Ge .any (BY rets)) (Ge (.bool false) v) h' O∧Chg (λb=>¬O b) g w g' w'∧μ <+: μ') a'.defers .returning w1:=by
    intro _;refine O0 rfl hinv.inv.olt haft ?_;rintro s' g' μ' w' ⟨_,y,hrv,hweak⟩ hgs hch hμ;obtain⟨vs,hrun,hrep,hown⟩:=Ik hgs hres hrv;have hresult:(results fn a'.tmps).run P w'= .ok (if h:vs.toArray.size=1 then vs.toArray[0] else .tuple vs.toArray) w':=by
     rw[Ky,Array.mapM_eq_mapM_toList];simp only[Sem.run_bind,Sem.run_map];rw[hrun];rfl
    obtain⟨r1,r2⟩:=Sa hrep;have hret:=Uf hgs.inv hndp r1 (λk b hb=>by
     obtain⟨d,v,hd,hv,ho⟩:=r2 k b hb;exact hown k d v b hd hv ho)
    obtain⟨g2,μ2,hμ2,hinv2,hch2⟩:=hweak _ _ _ _ _ hret;exact⟨_,hresult,_,g2,μ2,rfl,hinv2,hch.trans hch2,hμ2 μ hinv0.len hμ⟩
   cases e1 with
   |normal=>cases e<;>simp only[Gl]at he;exact fin trivial
   |exit i=>obtain⟨_,_,_,_,⟨hnx,_⟩,_⟩:=haft;exact hnx.elim
   |ret=>cases e<;>simp only[Gl]at he;exact fin trivial
  ·cases hbody
 ·cases hk
end
end
section
attribute [simp] DO BX AI.step AI.dst Bu Opd.ev Opd.clear AG D.copy PI.val V.bin D.isNil D.isNilP KU D.cells? FE Eg D.isCap D.toRow IE Dr Bd D.toV D.v? D.vs? CR AR.val V.part D.part V.getI Ij
variable {s:St} {K:St→Prop} {h h':List Row} {args rets:List D} {f n:Nat} {Q:AExit→St→Prop}
section
variable {P:Program} {GL:Aa}
@[simp] theorem Yy (K:St→Prop) (s:St):Bz P GL [] K s=K s:=rfl
@[simp] theorem Vi (i:AI) (rest:List GI) (K:St→Prop) (s:St):Bz P GL (⟨none,i⟩::rest) K s=DO P GL i (Bz P GL rest K) s:=rfl
@[simp] theorem Vj (t:Nat) (want:Bool) (i:AI) (rest:List GI) (K:St→Prop) (s:St):Bz P GL (⟨some (t,want),i⟩::rest) K s=
  match AG s.e t with
  | .v (.bool b)=>if b=want then DO P GL i (Bz P GL rest K) s else Bz P GL rest K ⟨Bu s.e i.dst (.tup []),s.h⟩
  | .tup []=>Bz P GL rest K ⟨Bu s.e i.dst (.tup []),s.h⟩
  |_=>False:=rfl
def Ml (P:Program) (GL:Aa) (i:AI) (K:St→Prop) (s:St):Prop:=
 match i with
 | .call d f args=>∃fid caps vs rets,(f.ev s.e).toV=some (.func fid caps)∧IE s.e args=some vs∧PSp P GL fid (vs++caps) rets∧K ⟨Bu s.e d (Ij rets),s.h⟩
 | .callF d f args=>BX P GL d f args K s
 | .callC d f args=>BX P GL d f args (λs'=>(∃t,s'.h=s.h++t)∧K s') s
 | .callO d f q args=>∃fid rets,DS (f.ev s.e)=some (fid,[])∧ZK P GL fid (q.ev s.e::Av s.e args) rets∧K ⟨Bu (q.clear s.e) d (BY rets),s.h⟩
 |i=>match i.step s with
  |some s'=>K s'
  |none=>False
def JH (P:Program) (GL:Aa) (ops:List GI) (K:St→Prop) (s:St):Prop:=∃s',Lo P GL ops s s'∧K s'
theorem Ow {d:Option Nat} {f:Opd} {args:List Opd} (h:BX P GL d f args K s):∃rets h',Fv P GL (f.ev s.e) (Av s.e args) s.h rets h'∧K ⟨Bu s.e d (BY rets),h'⟩:=by
 unfold BX at h;split at h
 ·rename_i r hf;obtain⟨b,h',hy,hK⟩:=h;exact⟨[.v (.bool b)],h',by simp only[Fv,hf];exact⟨b,hy,rfl⟩,hK⟩
 ·rename_i fid fs hf;obtain⟨rets,h',hs,hK⟩:=h;exact⟨rets,h',by simp only[Fv,hf];exact hs,hK⟩
 ·rename_i h1 h2;split at h
  ·rename_i fid caps hf;obtain⟨rets,h',hs,hK⟩:=h;refine⟨rets,h',?_,hK⟩;unfold Fv;split
   ·rename_i r hr;exact absurd hr (h1 r)
   ·rename_i a b hr;exact absurd hr (h2 a b)
   ·exact⟨fid,caps,hf,hs⟩
  ·exact h.elim
theorem MH {i:AI}:(∃s1,Jw P GL i s s1∧K s1)↔Ml P GL i K s:=by
 constructor
 ·rintro⟨s1,h|⟨d,f,args,fid,caps,vs,rets,rfl,hf,hv,hp,rfl⟩|⟨d,f,args,rets,h',hi,hc,rfl⟩|⟨d,f,q,args,fid,rets,rfl,hf,hp,rfl⟩,hK⟩
  ·unfold Ml;split
   ·cases h
   ·cases h
   ·cases h
   ·cases h
   ·rw[h];exact hK
  ·exact⟨fid,caps,vs,rets,hf,hv,hp,hK⟩
  ·have key:∀K:St→Prop,K ⟨Bu s.e d (BY rets),h'⟩→BX P GL d f args K s:=by
    intro K hK;simp only[BX];unfold Fv at hc;split at hc
    ·rename_i r hf;obtain⟨b,hy,rfl⟩:=hc
     first|(rw[hf];exact⟨b,h',hy,hK⟩)|exact⟨b,h',hy,hK⟩
    ·rename_i fid fs hf
     first|(rw[hf];exact⟨rets,h',hc,hK⟩)|exact⟨rets,h',hc,hK⟩
    ·rename_i h1 h2;obtain⟨fid,caps,hf,hs⟩:=hc
     first
      |(simp only[hf];exact⟨rets,h',hs,hK⟩)
      |(split
        ·rename_i r hr;exact absurd hr (h1 r)
        ·rename_i a b hr;exact absurd hr (h2 a b)
        ·simp only[hf];exact⟨rets,h',hs,hK⟩)
   rcases hi with rfl|⟨rfl,ht⟩
   ·exact key K hK
   ·exact key (λs'=>(∃t,s'.h=s.h++t)∧K s') ⟨ht,hK⟩
  ·exact⟨fid,rets,hf,hp,hK⟩
 ·intro h;unfold Ml at h;split at h
  ·rename_i d f args;obtain⟨fid,caps,vs,rets,hf,hv,hp,hK⟩:=h;exact⟨_,.inr (.inl ⟨d,f,args,fid,caps,vs,rets,rfl,hf,hv,hp,rfl⟩),hK⟩
  ·rename_i d f args;obtain⟨rets,h',hc,hK⟩:=Ow h;exact⟨_,.inr (.inr (.inl ⟨d,f,args,rets,h',.inl rfl,hc,rfl⟩)),hK⟩
  ·rename_i d f args;obtain⟨rets,h',hc,hq⟩:=Ow (K:=λs'=>(∃t,s'.h=s.h++t)∧K s') h;obtain⟨ht,hK⟩:=hq;exact⟨_,.inr (.inr (.inl ⟨d,f,args,rets,h',.inr ⟨rfl,ht⟩,hc,rfl⟩)),hK⟩
  ·rename_i d f q args;obtain⟨fid,rets,hf,hp,hK⟩:=h;exact⟨_,.inr (.inr (.inr ⟨d,f,q,args,fid,rets,rfl,hf,hp,rfl⟩)),hK⟩
  ·split at h
   ·rename_i s' hs;exact⟨s',.inl hs,h⟩
   ·exact h.elim
@[simp] theorem dF (K:St→Prop) (s:St):JH P GL [] K s↔K s:=⟨λ⟨_,h,hK⟩=>by cases h;exact hK,λh=>⟨s,rfl,h⟩⟩
@[simp] theorem Yz (i:AI) (rest:List GI) (K:St→Prop) (s:St):JH P GL (⟨none,i⟩::rest) K s↔Ml P GL i (JH P GL rest K) s:=by
 rw[←MH]
 constructor
 ·rintro⟨t,⟨s1,h1,h2⟩,hK⟩;exact⟨s1,h1,t,h2,hK⟩
 ·rintro⟨s1,h1,t,h2,hK⟩;exact⟨t,⟨s1,h1,h2⟩,hK⟩
@[simp] theorem Y0 (t:Nat) (want:Bool) (i:AI) (rest:List GI) (K:St→Prop) (s:St):JH P GL (⟨some (t,want),i⟩::rest) K s↔
  match AG s.e t with
  | .v (.bool b)=>if b=want then Ml P GL i (JH P GL rest K) s else JH P GL rest K ⟨Bu s.e i.dst (.tup []),s.h⟩
  | .tup []=>JH P GL rest K ⟨Bu s.e i.dst (.tup []),s.h⟩
  |_=>False:=by
 have h0:JH P GL (⟨some (t,want),i⟩::rest) K s↔∃s1,BQ P GL ⟨some (t,want),i⟩ s s1∧JH P GL rest K s1:=by
  constructor
  ·rintro⟨t,⟨s1,h1,h2⟩,hK⟩;exact⟨s1,h1,t,h2,hK⟩
  ·rintro⟨s1,h1,t,h2,hK⟩;exact⟨t,⟨s1,h1,h2⟩,hK⟩
 rw[h0];simp only[BQ];cases hf:AG s.e t with
 |v x=>
  cases x with
  |bool b=>
   simp only[];by_cases hw:b=want
   ·simp only[hw,if_true];exact MH
   ·simp only[hw,if_false];exact⟨λ⟨_,h1,h2⟩=>h1▸h2,λh=>⟨_,rfl,h⟩⟩
  |_=>simp only[];exact⟨λ⟨_,h1,_⟩=>h1,λh=>h.elim⟩
 |tup ds=>
  cases ds with
  |nil=>simp only[];exact⟨λ⟨_,h1,h2⟩=>h1▸h2,λh=>⟨_,rfl,h⟩⟩
  |cons d ds=>simp only[];exact⟨λ⟨_,h1,_⟩=>h1,λh=>h.elim⟩
 |_=>simp only[];exact⟨λ⟨_,h1,_⟩=>h1,λh=>h.elim⟩
attribute [simp] Ml
theorem AS (ops:List GI) (keep:List Nat) (cl:List (List Nat)) (Q:AExit→St→Prop) (s:St):awp P GL (.regD ops keep cl) Q s=JH P GL ops (λs'=>Q .normal ⟨Bd s'.e keep,s'.h⟩) s:=rfl
theorem Bf (ops:List GI) (keep:List Nat) (cl:List (List Nat)) (t:AT) (Q:AExit→St→Prop) (s:St):awp P GL (.regA ops keep cl t) Q s=t.ok P GL ops (λs'=>∃s2,PC s.h.length s' s2∧Q .normal ⟨Bd s2.e keep,s2.h⟩) s:=rfl
@[simp] theorem ZI (is:List GI) (K:St→Prop) (s:St):AT.done.ok P GL is K s=K s:=rfl
@[simp] theorem ZF (is:List GI) (i:Nat) (t:AT) (K:St→Prop) (s:St):(AT.take i t).ok P GL is K s↔JH P GL [is.getD i default] (t.ok P GL is K) s:=
 ⟨λ⟨s1,h1,h2⟩=>⟨s1,⟨s1,h1,rfl⟩,h2⟩,λ⟨s1,⟨s2,h1,h2⟩,h3⟩=>by cases h2;exact⟨_,h1,h3⟩⟩
@[simp] theorem ZG (is:List GI) (c:AT) (K:St→Prop) (s:St):(AT.pick c).ok P GL is K s=c.ok P GL is K s:=rfl
@[simp] theorem dG (is:List GI) (i:Nat) (t r:AT) (K:St→Prop) (s:St):(AT.alt i t r).ok P GL is K s↔JH P GL [is.getD i default] (t.ok P GL is K) s∧r.ok P GL is K s:=
 ⟨λ⟨⟨s1,h1,h2⟩,h⟩=>⟨⟨s1,⟨s1,h1,rfl⟩,h2⟩,h⟩,λ⟨⟨s1,⟨s2,h1,h2⟩,h3⟩,h⟩=>by cases h2;exact⟨⟨_,h1,h3⟩,h⟩⟩
@[simp] theorem ZH (is:List GI) (K:St→Prop) (s:St):AT.none.ok P GL is K s=True:=rfl
theorem Bg {is:List GI} (t:AT):∀ {K K':St→Prop} {s:St},(∀s,K s→K' s)→t.ok P GL is K s→t.ok P GL is K' s:=by
 induction t with
 |done=>intro K K' s hk h;exact hk _ h
 |take i t ih=>rintro K K' s hk ⟨s1,h1,h2⟩;exact⟨s1,h1,ih hk h2⟩
 |pick c ih=>intro K K' s hk h;exact ih (s:=s) hk h
 |alt i t r iht ihr=>rintro K K' s hk ⟨⟨s1,h1,h2⟩,h⟩;exact⟨⟨s1,h1,iht hk h2⟩,ihr hk h⟩
 |none=>intro K K' s hk h;trivial
theorem AF (ops:List GI) (keep:List Nat) (Q:AExit→St→Prop) (s:St):awp P GL (.reg ops keep) Q s=Bz P GL ops (λs'=>Q .normal ⟨Bd s'.e keep,s'.h⟩) s:=rfl
theorem AE (a b:AC) (Q:AExit→St→Prop) (s:St):awp P GL (.seq a b) Q s=awp P GL a (λe s'=>match e with| .normal=>awp P GL b Q s'|e=>Q e s') s:=rfl
theorem AK (x:Opd) (a b:AC) (Q:AExit→St→Prop) (s:St):awp P GL (.cond x a b) Q s=match x.ev s.e with| .v (.bool t)=>if t then awp P GL a Q s else awp P GL b Q s|_=>False:=rfl
theorem AM (id:Nat) (c:AC) (Q:AExit→St→Prop) (s:St):awp P GL (.block id c) Q s=awp P GL c (λe s'=>match e with| .exit id'=>if id'=id then Q .normal s' else Q (.exit id') s'|e=>Q e s') s:=rfl
theorem AD (Q:AExit→St→Prop) (s:St):awp P GL .skip Q s=Q .normal s:=rfl
theorem AJ (id:Nat) (Q:AExit→St→Prop) (s:St):awp P GL (.exit id) Q s=Q (.exit id) s:=rfl
theorem AB (Q:AExit→St→Prop) (s:St):awp P GL .ret Q s=Q .ret s:=rfl
theorem Lg (q:Opd) (ps:List Nat) (asg body:AC) (Q:AExit→St→Prop) (s:St):awp P GL (.rangeF q ps asg body) Q s=
  ∃fid caps rets h' tag,DS (q.ev s.e)=some (fid,caps)∧FSp P GL fid (.yld s.h.length::caps) (s.h++[Au P GL .ready (Hn s.e) ps asg body]) rets h'∧
   h'[s.h.length]?=some (Au P GL tag (Hn s.e) ps asg body)∧CK Q ⟨s.e,h'.set s.h.length .dead⟩ tag:=rfl
theorem T9 (ops:List GI) (keep:List Nat) (cl:List (List Nat)) (Q:AExit→St→Prop) (s:St):awp P GL (.regV ops keep cl) Q s=MB P GL ops cl (λs'=>Q .normal ⟨Bd s'.e keep,s'.h⟩) ops.length (List.range ops.length) s:=rfl
theorem Mm {i:AI} {K':St→Prop} (hk:∀s,K s→K' s) (h:DO P GL i K s):DO P GL i K' s:=by
 have hcall:∀ {d f args},BX P GL d f args K s→BX P GL d f args K' s:=by
  intro d f args h;unfold BX at h ⊢;split at h
  ·obtain⟨a,b,h1,h3⟩:=h;exact⟨a,b,h1,hk _ h3⟩
  ·obtain⟨a,b,h1,h3⟩:=h;exact⟨a,b,h1,hk _ h3⟩
  ·split at h
   ·obtain⟨a,b,h1,h3⟩:=h;exact⟨a,b,h1,hk _ h3⟩
   ·exact h
 unfold DO at h ⊢;split at h
 ·exact hcall h
 ·exact hcall h
 ·exact hcall h
 ·obtain⟨a,b,h1,h2,h3⟩:=h;exact⟨a,b,h1,h2,hk _ h3⟩
 ·split at h
  ·exact⟨h.1,h.2.1,λb=>hk _ (h.2.2 b)⟩
  ·exact h
 ·obtain⟨a,b,c,h1,h2,h3⟩:=h;exact⟨a,b,c,h1,h2,hk _ h3⟩
 ·split at h
  ·refine⟨h.1,h.2.1,?_⟩;have h:=h.2.2;split at h
   ·rename_i hy;rw[if_pos hy];exact hk _ h
   ·rename_i hy;rw[if_neg hy];exact λk=>hk _ (h k)
  ·refine⟨h.1,h.2.1,?_⟩;rcases h.2.2 with ⟨h1,h2,h3⟩|h
   ·exact .inl ⟨h1,h2,hk _ h3⟩
   ·refine .inr ⟨h.1,?_⟩;have h:=h.2;split at h
    ·rename_i hy;rw[if_pos hy];exact hk _ h
    ·rename_i hy;rw[if_neg hy];exact λk=>hk _ (h k)
  ·exact h
 ·split at h
  ·exact hk _ h
  ·split at h
   ·obtain⟨h0,xs,h1,h2,h3,h4⟩:=h;exact⟨h0,xs,h1,h2,h3,hk _ h4⟩
   ·exact h
  ·exact h
 ·split at h
  ·exact⟨hk _ h.1,hk _ h.2⟩
  ·exact⟨hk _ h.1,hk _ h.2⟩
  ·exact hk _ h
  ·exact h
 ·split at h
  ·exact hk _ h
  ·exact h
theorem Js {x:GI} {K':St→Prop} (hk:∀s,K s→K' s) (h:D5 P GL x K s):D5 P GL x K' s:=by
 unfold D5 at h ⊢;split at h
 ·exact Mm hk h
 ·split at h
  ·split at h
   ·rename_i hw;rw[if_pos hw];exact Mm hk h
   ·rename_i hw;rw[if_neg hw];exact hk _ h
  ·exact hk _ h
  ·exact h
theorem KK:∀ {ops:List GI} {K K':St→Prop} {s:St},(∀s,K s→K' s)→Bz P GL ops K s→Bz P GL ops K' s
 |[],_,_,_,hk,h=>hk _ h
 |x::rest,_,_,_,hk,h=>Js (λs h=>KK hk h) h
theorem Mo {is:List GI} {cl:List (List Nat)}:∀(n:Nat) {rem:List Nat} {K K':St→Prop} {s:St},(∀s,K s→K' s)→MB P GL is cl K n rem s→MB P GL is cl K' n rem s
 |0,_,_,_,s,hk,h=>hk s h
 |n+1,rem,_,_,s,hk,h=>λi hi hj=>Js (λs h=>Mo n hk h) (h i hi hj)
theorem Ad:∀(c:AC) {Q Q':AExit→St→Prop} {s:St},(∀e s,Q e s→Q' e s)→awp P GL c Q s→awp P GL c Q' s:=by
 intro c;induction c with
 |skip=>intro Q Q' s hq h;exact hq _ _ h
 |reg ops keep=>intro Q Q' s hq h;exact KK (λs h=>hq _ _ h) h
 |regA ops keep cl t=>intro Q Q' s hq h;exact Bg t (λs ⟨s2,h1,h2⟩=>⟨s2,h1,hq _ _ h2⟩) h
 |regV ops keep cl=>intro Q Q' s hq h;exact Mo _ (λs h=>hq _ _ h) h
 |regD ops keep cl=>rintro Q Q' s hq ⟨t,h1,h2⟩;exact⟨t,h1,hq _ _ h2⟩
 |seq a b iha ihb=>
  intro Q Q' s hq h;refine iha ?_ h;intro e s h;cases e with
  |normal=>exact ihb hq h
  |exit i=>exact hq _ _ h
  |ret=>exact hq _ _ h
 |cond x a b iha ihb=>
  intro Q Q' s hq h;simp only[awp]at h ⊢;split at h
  ·rename_i t ht;cases t with
   |true=>exact iha hq h
   |false=>exact ihb hq h
  ·exact h
 |block id c ih=>
  intro Q Q' s hq h;refine ih ?_ h;intro e s h;cases e with
  |exit i=>simp only at h ⊢;split at h<;>rename_i hi<;>simp only[hi,if_true,if_false]<;>exact hq _ _ h
  |normal=>exact hq _ _ h
  |ret=>exact hq _ _ h
 |loop c ih=>
  intro Q Q' s hq h;obtain⟨I,h0,h⟩:=h;refine⟨I,h0,λm s hi=>ih ?_ (h m s hi)⟩;intro e s h;cases e with
  |normal=>exact h
  |exit i=>exact hq _ _ h
  |ret=>exact hq _ _ h
 |exit id=>intro Q Q' s hq h;exact hq _ _ h
 |ret=>intro Q Q' s hq h;exact hq _ _ h
 |never=>intro Q Q' s hq h;exact h
 |rangeF q ps asg body _ _=>
  rintro Q Q' s hq ⟨fid,caps,rets,h',tag,h1,h2,h3,h4⟩;refine⟨fid,caps,rets,h',tag,h1,h2,h3,?_⟩;cases tag with
  |ready=>exact hq _ _ h4
  |busy=>exact h4
  |done e=>cases e<;>exact hq _ _ h4
theorem Jg (H:Rw P f=true∧∀(g:Gh) (w:World) (μ:List Nat) (us:List Value) (O:Nat→Prop),us.length=args.length→Inv g w μ (L8 .any args) (L8 undef us) h O→GlobOK GL g→
  Calls P f us.toArray w λe w'=>∃v g' μ',e= .returned v∧Inv g' w' μ' (Ge .any (BY rets)) (Ge (.bool false) v) h' O∧Chg (λb=>¬O b) g w g' w'∧μ <+: μ'):FSp P GL f args h rets h':=by
 obtain⟨h1,h2⟩:=H;refine⟨h1,λg w μ us O hinv hgl hall htame=>h2 g w μ us O hall.1 (hinv.enter (λn=>?_) (λn k=>?_)) hgl⟩
 ·simp only[L8];cases hx:args[n]? with
  |none=>simp[RepD,RepG,RepE]
  |some x=>
   obtain⟨v,hv,hr⟩:=hall.get hx;rw[hv];exact hr.toD
 ·simp only[L8];cases hx:args[n]? with
  |none=>cases k<;>simp[Af,Ac]
  |some x=>
   obtain⟨v,hv,hr⟩:=hall.get hx;rw[hv];exact Hg hr (htame n x v hx hv) k
theorem Od {ac:AC} {rs:List AR} (hk:CL P GL f n ac rs=true) (hn:args.length=n)
  (hw:awp P GL ac (λe s=>(match e with| .exit _=>False|_=>True)∧∃y,DG s rs=some y∧∀g w μ t u O,Inv g w μ t u s.h O→y=rets∧Inv g w μ t u h' O) ⟨AQ args,h⟩):FSp P GL f args h rets h':=by
 refine Jg (GQ (rets:=rets) (h':=h') hk hn (Ad ac (λe s=>by
  rintro⟨h1,y,h2,h3⟩;exact⟨h1,y,h2,λg w μ v O hi=>⟨g,μ,λ_ _ h=>h,by obtain⟨rfl,h4⟩:=h3 _ _ _ _ _ _ hi;exact h4,Chg.refl _ _ _⟩⟩) hw))
theorem IN {ac:AC} {rs:List AR} (hk:CL P GL f n ac rs=true) (hn:args.length=n)
  (hw:awp P GL ac (λe s=>(match e with| .exit _=>False|_=>True)∧DG s rs=some rets∧s.h=h') ⟨AQ args,h⟩):FSp P GL f args h rets h':=by
 refine Od hk hn ?_;have hm:∀e s,((match e with|AExit.exit _=>False|_=>True)∧DG s rs=some rets∧s.h=h')→((match e with|AExit.exit _=>False|_=>True)∧∃y,DG s rs=some y∧∀g w μ t u O,Inv g w μ t u s.h O→y=rets∧Inv g w μ t u h' O):=by
  rintro e s ⟨h1,h2,rfl⟩;exact⟨h1,rets,h2,λ_ _ _ _ _ _ hi=>⟨rfl,hi⟩⟩
 exact Ad ac hm hw
theorem LA {ac:AC} {rs:List AR} (hk:CL P GL f n ac rs=true) (hn:args.length=n)
  (hw:∀h,awp P GL ac (λe s=>(match e with| .exit _=>False|_=>True)∧DG s rs=some rets∧s.h=h) ⟨AQ args,h⟩):ZK P GL f args rets:=by
 have key:∀h,_:=λh=>GQ (h':=h) hk hn (Ad ac (λe s=>by
  rintro⟨h1,h2,rfl⟩;exact⟨h1,rets,h2,λg _ μ _ _ hi=>⟨g,μ,λ_ _ h=>h,hi,Chg.refl _ _ _⟩⟩) (hw h))
 exact⟨(key []).1,λg w μ us O h hl hi hg=>(key h).2 g w μ us O hl hi hg⟩
theorem EO {c:AC} {s0:St} {e0:AExit} (h:awp P GL c (λe s=>e=e0∧s=s0) s) (hq:Q e0 s0):awp P GL c Q s:=
 Ad c (λe s h=>by obtain⟨rfl,rfl⟩:=h;exact hq) h
theorem D2 {c:AC} (n:Nat) (S:Nat→St)
  (h:∀k,k≤n→awp P GL c (λe s'=>match e with| .normal=>k <n∧s'=S (k+1)|e=>Q e s') (S k)) (k:Nat) (hk:k≤n):awp P GL (.loop c) Q (S k):=by
 refine⟨λm s=>∃k,k≤n∧m=n-k∧s=S k,⟨n-k,k,hk,rfl,rfl⟩,?_⟩;rintro m s ⟨k,hk,rfl,rfl⟩;refine Ad c ?_ (h k hk);intro e s' h;cases e with
 |normal=>obtain⟨hlt,rfl⟩:=h;exact⟨n-(k+1),by omega,k+1,hlt,rfl,rfl⟩
 |exit i=>exact h
 |ret=>exact h
end
end
abbrev Ah:Aa:=[(0,[.int .i64 12,.int .i64 0])]
def cv:List GI:=[⟨none,.mv 4 (.c (.v (.int .i64 0)))⟩]
def cu:List GI:=[⟨none,.mv 6 (.t 0 false)⟩,⟨none,.p 7 (.alen (.t 6 false))⟩,⟨none,.mv 8 (.c (.v (.int .i64 0)))⟩]
def Vd:List GI:=[⟨none,.p 9 (.bin .lss (.t 8 false) (.t 7 false))⟩]
def Ye:List GI:=[⟨none,.mv 10 (.t 8 false)⟩,⟨none,.mv 5 (.t 10 false)⟩]
def Yd (s:Nat) (g:Bool):List GI:=[⟨none,.mv 11 (.t 1 false)⟩,⟨none,.mv 12 (.t 0 false)⟩,⟨none,.mv 13 (.t 5 false)⟩,⟨none,.p 14 (.iaddr (.t 12 false) (.t 13 false) s)⟩,⟨none,.p 15 (.load (.t 14 false) s g)⟩,⟨none,.call (some 16) (.t 11 false) [(.t 15 false)]⟩]
def Yc:List GI:=[⟨none,.mv 17 (.t 5 false)⟩,⟨none,.mv 4 (.t 17 false)⟩]
def Yb:List GI:=[⟨none,.p 18 (.bin .add (.t 8 false) (.c (.v (.int .i64 1))))⟩,⟨none,.mv 8 (.t 18 false)⟩]
def ct:List GI:=[⟨none,.mv 4 (.c (.v (.int .i64 (-1))))⟩]
def Ri (s:Nat) (g:Bool):AC:=(.seq (.reg Vd [0,1,7,8,9]) (.seq (.cond (.t 9 false) .skip (.exit 0)) (.seq (.block 1 (.seq (.reg Ye [0,1,5,7,8]) (.seq (.reg (Yd s g) [0,1,5,7,8,16]) (.cond (.t 16 false) (.seq (.reg Yc [4]) .ret) .skip)))) (.reg Yb [0,1,7,8]))))
def cI (s:Nat) (g:Bool):AC:=(.seq (.reg cv [0,1]) (.seq (.seq (.reg cu [0,1,7,8]) (.block 0 (.loop (Ri s g)))) (.seq (.reg ct [4]) .ret)))
def L5:List AR:=[.t 4]
def cr:List GI:=[⟨none,.mv 4 (.c (.v (.bool false)))⟩]
def cq (f:Nat):List GI:=[⟨none,.mv 5 (.t 0 true)⟩,⟨none,.mv 6 (.t 1 false)⟩,⟨none,.call (some 7) (.c (.v (.func f []))) [(.t 5 false),(.t 6 false)]⟩,⟨none,.p 8 (.bin .geq (.t 7 false) (.c (.v (.int .i64 0))))⟩,⟨none,.mv 4 (.t 8 false)⟩]
def cJ (f:Nat):AC:=(.seq (.reg cr [0,1]) (.seq (.reg (cq f) [4]) .ret))
abbrev PX:=PSp Go.Proofs.Tryz.prog Ah
abbrev FX:=FSp Go.Proofs.Tryz.prog Ah
def mb (n:Nat):Nat:=Nat.shiftLeft 1 n
def mh (m n:Nat):Bool:=Nat.beq (Nat.land (Nat.shiftRight m n) 1) 1
def md (m n:Nat):Nat:=Nat.xor (Nat.lor m (mb n)) (mb n)
def jl:Nat→Nat→Nat→List Nat
 |0,_,_=>[]
 |k+1,m,i=>bif Nat.beq m 0 then [] else bif Nat.beq (Nat.land m 1) 1 then i::jl k (Nat.shiftRight m 1) (Nat.add i 1) else jl k (Nat.shiftRight m 1) (Nat.add i 1)
def ml (m:Nat):List Nat:=jl 500 m 0
def um:List Operand→Nat
 |[]=>0
 | .tmp t::l=>Nat.lor (mb t) (um l)
 |_::l=>um l
def Vz (o:Oper):Nat:=um o.op.operands.toList
def Uy {α:Type}:List α→Nat→Option α
 |[],_=>none
 |x::_,0=>some x
 |_::l,n+1=>Uy l n
inductive Tr (α:Type) where
 |lf
 |nd (l:Tr α) (x:α) (r:Tr α)
def Tr.get {α:Type}:Tr α→Nat→Option α
 | .lf,_=>none
 | .nd l x r,n=>bif Nat.beq n 0 then some x else bif Nat.beq (Nat.land n 1) 1 then l.get (Nat.shiftRight n 1) else r.get (Nat.sub (Nat.shiftRight n 1) 1)
def Xf {α:Type}:List α→List α
 |x::_::l=>x::Xf l
 |l=>l
def Tr.mk {α:Type}:Nat→List α→Tr α
 |n+1,x::l=> .nd (Tr.mk n (Xf l)) x (Tr.mk n (Xf l.tail))
 |_,_=> .lf
inductive Bx (α:Type) where
 |mk {x:α}
inductive TD where
 |none
 |bool
 |int (k:IntKind)
 |string
 |pointer (e:Nat)
 |slice (e:Nat)
 |array (n e:Nat)
 |map (k e:Nat)
 |struct (fs:List (Nat×Nat))
 |ref
 |tuple (es:List Nat)
 |func
 |named (u:Nat)
structure TI where
 d:TD
 size:Nat
 bytes:Nat
def mU (i:TypeInfo):TI:=⟨match i.desc with
 | .bool=> .bool
 | .int k=> .int k
 | .string=> .string
 | .pointer e=> .pointer e
 | .slice e=> .slice e
 | .array n e=> .array n e
 | .map k e=> .map k e
 | .struct fs=> .struct (fs.toList.map λf=>(f.offset,f.type))
 | .interface _=> .ref
 | .chan _ _=> .ref
 | .tuple es=> .tuple es.toList
 | .func _ _ _=> .func
 | .named _ u=> .named u
 |_=> .none,i.size,i.bytes⟩
structure Pg where
 T:Tr TI
 F:Tr (Bx Func)
def Pg.inf (P:Pg) (t:Nat):Option TI:=P.T.get t
def Pg.und (P:Pg) (t:Nat):Option TD:=match P.inf t with
 |some ⟨.named u,_,_⟩=>(match P.inf u with|some i=>some i.d|none=>none)
 |some i=>some i.d
 |none=>none
def Wx:List Func→List (Bx Func)
 |[]=>[]
 |x::l=> @Bx.mk Func x::Wx l
section
variable (P:Pg)
def Kt (t:Nat):Nat:=match P.inf t with|some i=>i.size|none=>0
def de (t:Nat):Nat:=match P.inf t with|some i=>i.bytes|none=>0
def PJ (t:Nat):Nat:=match P.und t with|some (.slice e)=>e|some (.pointer e)=>e|some (.map _ e)=>e|some (.array _ e)=>e|_=>0
def ZJ (t:Nat):Bool:=match P.und t with|some (.struct _)=>true|some (.array _ _)=>true|_=>false
def mX (t:Nat):Bool:=match P.und t with|some (.slice _)=>true|_=>false
def mW (t:Nat):Bool:=match P.und t with|some .string=>true|_=>false
def mF (t:Nat):Bool:=match P.und t with|some (.slice _)=>true|some (.tuple _)=>true|_=>false
def lM (t:Nat):List (Nat×Nat):=match P.und t with|some (.struct fs)=>fs|_=>[]
def ZP {α:Type}:Nat→List α→List α
 |0,_=>[]
 |n+1,l=>l++ZP n l
def cR:Nat→Nat→List Nat
 |0,t=>[t]
 |n+1,t=>match P.und t with
  |some (.struct fs)=>fs.flatMap λf=>cR n f.2
  |some (.array k e)=>ZP k (cR n e)
  |_=>[t]
def ZB:Nat→Nat→Bool
 |0,_=>false
 |n+1,t=>match P.und t with
  |some (.pointer _)=>true
  |some (.map _ _)=>true
  |some .func=>true
  |some .ref=>true
  |some (.struct fs)=>fs.any λf=>ZB n f.2
  |some (.tuple es)=>es.any (ZB n)
  |_=>false
variable (I J:Nat→Int) (GL:Aa)
def z0 (row:Bool) (t:Nat):D:=match P.und t with
 |some (.int k)=> .v (.int k (I 0))
 |some .bool=> .v (.bool false)
 |some .string=> .v (.str .empty)
 |some (.slice e)=>bif row then .own e (Kt P e) [] else .nil e (Kt P e)
 |some (.pointer _)=> .v .nilp
 |some (.map _ _)=> .v .nilm
 |some .func=> .v .nilf
 |_=> .any
def zs (row:Bool) (t:Nat):List D:=(cR P 5 t).map (z0 P I row)
def cV:Value→V
 | .int k (.ofNat n)=> .int k (I n)
 | .int k (.negSucc n)=> .int k (J (Nat.add n 1))
 | .bool b=> .bool b
 | .string s=> .str s
 | .pointer _=> .nilp
 | .map _=> .nilm
 | .slice _ _ _=> .list []
 | .agg cs=> .agg (cs.toList.map fun
  | .int k (.ofNat n)=> .int k (I n)
  | .int k (.negSucc n)=> .int k (J (Nat.add n 1))
  | .bool b=> .bool b
  | .string s=> .str s
  | .map _=> .nilm
  | .slice _ _ _=> .list []
  | .nilFunc=> .nilf
  |_=> .nilp)
 |_=> .nilf
def oq (mv own:Bool) (t:Nat):Operand→Opd
 | .tmp n=> .t n mv
 | .const (.slice _ _ _)=> .c (bif own then .own (PJ P t) (Kt P (PJ P t)) [] else .nil (PJ P t) (Kt P (PJ P t)))
 | .const v=> .c (.v (cV I J v))
 | .func f=> .c (.v (.func f []))
 | .global g=> .g g (match GL.find? λp=>Nat.beq p.1 g with|some p=>p.2.map (cV I J)|none=>[])
def aU (ts:List Nat):List Operand→List Opd
 |[]=>[]
 |x::xs=>(match ts with|t::_=>oq P I J GL false false t x|[]=>oq P I J GL false false 0 x)::aU ts.tail xs
def oo:Option Operand→Option Opd
 |none=>none
 |some x=>some (oq P I J GL false false 0 x)
def kq (t:Nat):Nat:=match P.und t with|some .bool=>1|some .string=>2|_=>0
def kS (t:Nat):Bool:=match P.und t with|some (.map k _)=>ZJ P k|_=>false
def kK (t:Nat):List Nat:=match P.und t with|some (.map k _)=>(cR P 5 k).map (kq P)|_=>[]
def mJ:Option Operand→Bool
 |some (.const (.int _ (.ofNat 0)))=>true
 |_=>false
def oB (o:Operand):Nat:=match o with| .func f=>f|_=>1000000
def dU (o:Operand):Bool:=match o with| .tmp _=>true|_=>false
def dT:BinOp→Bool
 | .neq=>true
 |_=>false
abbrev UN:=Nat→Nat→Nat
variable (H:UN) (dr:Bool) (fn:Nat) (ops:List Oper)
def cF (d:Option Nat) (ty:Nat) (f:Operand) (args:List Operand) (ats:List Nat):AI:=
 let q:=oq P I J GL false false 0 f
 let asx:=aU P I J GL ats args
 match H fn (oB f)with
 |3=> .callN d q asx
 |4=>match args with
  |x::xs=> .callO d q (oq P I J GL (dU x) false (ats.headD 0) x) (aU P I J GL ats.tail xs)
  |[]=> .call d q asx
 |5=>bif dr then .callC d q asx else .call d q asx
 |6=>bif dr&&(ats.any (ZB P 5)||ZB P 5 ty||dU f) then .callC d q asx else .call d q asx
 |_=>bif dr&&(ats.any (ZB P 5)||ZB P 5 ty||dU f) then .callF d q asx else .call d q asx
def Xv (d:Nat) (o:Oper):Bool:=match o.op with
 | .call c=>(match c.callee with| .builtin .append=>(match c.args.toList with| .tmp n::_=>Nat.beq n d|_=>false)|_=>false)
 |_=>false
def lJ (dd:Nat→Bool) (o:Oper):Option AI:=
 let O:=oq P I J GL false false
 let mO (t:Nat) (x:Operand):=match x with| .tmp n=> .t n (mF P t&&dd n)|x=>O t x
 let d:=o.dst.getD 0
 let p (i:PI):Option AI:=some (.p d i)
 let h:=H fn (Nat.add 2000000 d)
 let mI (x:Operand):AI:=match h with
  |0=> .mv d (match x with| .tmp n=> .t n (mF P o.type&&dd n)|x=>oq P I J GL false true o.type x)
  |1=> .mv d (oq P I J GL true true o.type x)
  |2=> .mv d (oq P I J GL false true o.type x)
  |s=> .frz d (O o.type x) (Nat.sub s 10)
 match o.op with
 | .move x=>some (mI x)
 | .assign x=>some (mI x)
 | .pick c a b=>p (.pick (O 0 c) (O o.type a) (O o.type b))
 | .alloc t=>some (.alloc d (zs P I true t))
 | .box t x=>some (.box d (O t x))
 | .build t ps=>p (.build (zs P I false t) (ps.toList.map λq=>match P.und t with
  |some (.array _ e)=>(Nat.mul q.1 (Kt P e),Kt P e,O e q.2)
  |_=>match Uy (lM P t) q.1 with|some f=>(f.1,Kt P f.2,O f.2 q.2)|none=>(0,0,O 0 q.2)))
 | .buildSlice t _ ps=>some (.bsl d (PJ P t) (Kt P (PJ P t)) (ps.toList.map λq=>O (PJ P t) q.2))
 | .load t a=>bif mX P t&&ops.any (Xv d) then some (.take d (O 0 a)) else p (.load (O 0 a) (Kt P t) (ZJ P t))
 | .store t a x=>some (.store (O 0 a) (mO t x) (Kt P t))
 | .nilCheck x=>p (.nilc (O 0 x))
 | .binOp b t x y _=>match P.und t with
  |some (.int _)=>p (.bin b (O t x) (O t y))
  |some .string=>p (.bin b (O t x) (O t y))
  |some .bool=>p (.eqB (dT b) (O t x) (O t y))
  |some (.pointer _)=>p (.eqP (dT b) (O t x) (O t y))
  |some (.slice _)=>some (.nilS d (dT b) (O 0 x))
  |some (.struct _)=>p (.eqA (dT b) ((cR P 5 t).map (kq P)) (O t x) (O t y))
  |_=>none
 | .unOp u _ x=>match u with
  | .not=>p (.not (O 0 x))
  | .neg=>p (.neg (O 0 x))
  | .xor=>p (.inv (O 0 x))
  |_=>none
 | .convert a b x=>match P.und b with
  |some (.int k)=>p (.cint k (O 0 x))
  |some (.slice _)=>some (.s2b d (O 0 x))
  |some .string=>p (.b2s (O a x))
  |_=>none
 | .fieldAddr t x i=>match Uy (lM P t) i with
  |some f=>p (.faddr (O 0 x) f.1 (Kt P f.2))
  |none=>none
 | .field t x i=>match Uy (lM P t) i with
  |some f=>p (.fld (O 0 x) f.1 (Kt P f.2) (ZJ P f.2))
  |none=>none
 | .indexAddr t x i=>match P.und t with
  |some (.slice e)=>p (.iaddr (O t x) (O 0 i) (Kt P e))
  |some (.array n e)=>p (.iaddrA (O 0 x) (O 0 i) n (Kt P e))
  |_=>none
 | .index t x i=>match P.und t with
  |some .string=>p (.idxS (O 0 x) (O 0 i))
  |some (.array n e)=>p (.idxA (O 0 x) (O 0 i) n (Kt P e) (ZJ P e))
  |_=>none
 | .slice t x lo hi mx=>match P.und t with
  |some (.slice e)=>match mx with
   |none=>p (.slc (O t x) (oo P I J GL lo) (oo P I J GL hi) (Kt P e))
   |m=>bif mJ hi&&mJ m then p (.slc0 (O t x) e (Kt P e)) else none
  |some .string=>p (.slcS (O 0 x) (oo P I J GL lo) (oo P I J GL hi))
  |_=>none
 | .makeSlice t x _=>bif Nat.beq (Kt P (PJ P t)) 1&&Nat.beq (H fn 1000001) 0 then some (.mksl d (O 0 x) (z0 P I true (PJ P t))) else some (.mksz d (O 0 x) (zs P I true (PJ P t)))
 | .makeMap _ _=>some (.mkm d)
 | .lookup t x i ok=>p (.look (O 0 x) (O 0 i) (kS P t) (kK P t) (zs P I false (PJ P t)) (ZJ P (PJ P t)) ok)
 | .mapUpdate t x i v=>some (.mput (O 0 x) (O 0 i) (O (PJ P t) v) (kS P t) (kK P t))
 | .mapEntry t x i=>some (.ment d (O 0 x) (O 0 i) (kS P t) (kK P t))
 | .entryStore t x i v=>some (.mest (O 0 x) (O 0 i) (O (PJ P t) v))
 | .extract x i=>p (.ext (O 0 x) i)
 | .makeFunc (.func f) first caps=>match first.toList with
  |[]=>p (.mkf f (aU P I J GL [] caps.toList))
  |l=>p (.mkme f (aU P I J GL [] l))
 | .call c=>
  let ats:=c.argTypes.toList
  let t0:=ats.headD 0
  match c.callee with
  | .value f=>some (cF P I J GL H dr fn o.dst o.type f c.args.toList ats)
  | .builtin .len=>match c.args.toList with
   |x::_=>match P.und t0 with
    |some (.slice _)=>p (.alen (O t0 x))
    |some .string=>p (.lenS (O 0 x))
    |some (.map _ _)=>p (.mlen (O 0 x))
    |_=>none
   |[]=>none
  | .builtin .delete=>match c.args.toList with
   |x::y::_=>some (.mdel o.dst (O 0 x) (O 0 y) (kS P t0) (kK P t0))
   |_=>none
  | .builtin .max=>match c.args.toList with
   |[x,y]=>p (.minmax true (O o.type x) (O o.type y))
   |_=>none
  | .builtin .min=>match c.args.toList with
   |[x,y]=>p (.minmax false (O o.type x) (O o.type y))
   |_=>none
  | .builtin .append=>match c.args.toList with
   |x::y::_=>
    let t1:=ats.tail.headD 0
    let e:=PJ P t0
    let b:=oq P I J GL (dU x) false t0 x
    bif mW P t1 then some (.appS d b (O 0 y) e (de P e)) else match h with
     |0=>some (.app d b (O t1 y) e (Kt P e) (de P e))
     |1=>some (.appR d b (O t1 y) e (Kt P e) (de P e))
     |_=>some (.appR d (O t0 x) (O t1 y) e (Kt P e) (de P e))
   |_=>none
  | .builtin .copy=>match c.args.toList with
   |x::y::_=>some (.cpy o.dst (O t0 x) (O (ats.tail.headD 0) y) (Kt P (PJ P t0)))
   |_=>none
  |_=>none
 |_=>none
def dV (j:Nat):Nat:=match Uy ops j with|some o=>(match o.dst with|some t=>mb t|none=>0)|none=>0
def ZC:List Oper→Nat→Nat
 |[],out=>out
 |o::r,out=>match o.guard,o.dst with
  |none,some d=>Nat.lor (md (ZC r out) d) (Vz o)
  |none,none=>Nat.lor (ZC r out) (Vz o)
  |some g,some d=>bif mh (Vz o) d then Nat.lor (Nat.lor (ZC r out) (Vz o)) (dV ops g.1) else md (Nat.lor (Nat.lor (ZC r out) (Vz o)) (dV ops g.1)) d
  |some g,none=>Nat.lor (Nat.lor (ZC r out) (Vz o)) (dV ops g.1)
def mR (o:Oper):Nat:=match o.guard with|some g=>Nat.lor (Vz o) (dV ops g.1)|none=>(Vz o)
def Te:List Oper→Nat→Nat→Bool
 |[],out,n=> !mh out n
 |o::r,out,n=>bif mh (mR ops o) n then false else match o.guard,o.dst with
  |none,some d=>bif Nat.beq d n then true else Te r out n
  |_,_=>Te r out n
def YG:Nat→List Oper→Option (List GI)
 |_,[]=>some []
 |out,o::r=>match lJ P I J GL H dr fn ops (Te ops r out) o,YG out r with
  |some i,some l=>some (⟨match o.guard with|none=>none|some g=>(match Uy ops g.1 with|some q=>(match q.dst with|some t=>some (t,g.2)|none=>none)|none=>none),i⟩::l)
  |_,_=>none
end
def jm:List (Nat×Nat)→Nat→Nat
 |[],_=>0
 |(k,m)::l,n=>bif Nat.beq k n then m else jm l n
def VR (ex:List (Nat×Nat)) (ret:Nat):Code→Nat
 | .seq a b=>Nat.lor (VR ex ret a) (VR ex ret b)
 | .cond _ a b=>Nat.lor (VR ex ret a) (VR ex ret b)
 | .block _ c=>VR ex ret c
 | .loop c=>VR ex ret c
 | .rangeFunc _ _ a b=>Nat.lor (VR ex ret a) (VR ex ret b)
 | .exit i=>jm ex i
 | .ret=>ret
 |_=>0
def mG (m:Nat):List Nat→Nat
 |[]=>m
 |t::l=>mG (md m t) l
def Rx:List (Nat×Nat)→List (Nat×Nat)
 |[]=>[]
 |(k,_)::l=>(k,0)::Rx l
def OL:List (Nat×Nat)→Nat→Code→Nat→Nat
 |_,ret,.ret,_=>ret
 |ex,ret,.seq a b,out=>OL ex ret a (OL ex ret b out)
 |_,_,.region _ ops _,out=>ZC ops.toList ops.toList out
 |ex,ret,.cond x a b,out=>Nat.lor (Nat.lor (OL ex ret a out) (OL ex ret b out)) (um [x])
 |ex,ret,.block i c,out=>OL ((i,out)::ex) ret c out
 |ex,ret,.loop c,_=>OL ex ret c 0
 |ex,ret,.rangeFunc g ps a b,out=>Nat.lor (Nat.lor (um [g]) (mG (OL (Rx ex) 0 a (OL (Rx ex) 0 b 0)) ps.toList)) (Nat.lor out (VR ex ret b))
 |ex,_,.exit i,_=>jm ex i
 |_,_,_,out=>out
def lV (acc:List Nat):List Edge→Nat
 |[]=>0
 |e::l=>bif Region.binds .any e then Nat.lor (Nat.lor (mb e.on) ((Uy acc e.on).getD 0)) (lV acc l) else lV acc l
def cls:List Nat→List Oper→List Nat
 |acc,[]=>acc
 |acc,o::l=>cls (acc++[lV acc o.after.toList]) l
def Aq (ops:List Oper):List (List Nat):=(cls [] ops).map ml
def lK (is:List GI) (cl:List (List Nat)):Bool:=
 (is.zipIdx.all λp=>match Uy cl p.2 with
  |some c=>is.zipIdx.all λq=>bif Nat.blt q.2 p.2 then c.any (Nat.beq q.2)||HD q.1 p.1 else true
  |none=>false)
def W8 (is:List GI) (cl:List (List Nat)):Nat→List Nat→AT
 |0,_=> .none
 |n+1,rem=>match rem with
  |[]=> .done
  |_=>match rem.find? λi=>Ui cl rem i&&rem.all λj=>Nat.beq j i||((Uy cl j).getD []).any (Nat.beq i)||HD (is.getD i default) (is.getD j default)with
   |some i=> .take i (W8 is cl n (rem.filter λj=> !Nat.beq j i))
   |none=> .pick ((rem.filter (Ui cl rem)).foldr (λi r=> .alt i (W8 is cl n (rem.filter λj=> !Nat.beq j i)) r) .none)
def iP (n:Nat):Int:= @OfNat.ofNat Int n _
def iN (n:Nat):Int:= -@OfNat.ofNat Int n _
def dt (P:Pg) (GL:Aa) (H:UN) (f:Nat) (r:Nat→List GI) (id:Nat) (ops:List Oper) (dr:Bool) (out:Nat):AC:=
 match YG P iP iN GL H dr f ops out ops with
 |none=> .never
 |some is=>bif Nat.beq (H f (Nat.add 3000000 id)) 1 then .regV (r id) (ml out) (Aq ops) else bif dr then (bif lK is (Aq ops) then .regD (r id) (ml out) (Aq ops) else .regA (r id) (ml out) (Aq ops) (W8 is (Aq ops) (Nat.add is.length 1) (List.range is.length))) else .reg (r id) (ml out)
def nL:Code→Nat
 | .seq a b=>Nat.add (nL a) (nL b)
 | .cond _ a b=>Nat.add (nL a) (nL b)
 | .block _ c=>nL c
 | .loop c=>Nat.add (nL c) 1
 | .rangeFunc _ _ a b=>Nat.add (Nat.add (nL a) (nL b)) 1
 |_=>0
section
variable (P:Pg) (GL:Aa) (H:UN) (f:Nat) (r:Nat→List GI) (l:Nat→AC)
def NQ:List (Nat×Nat)→Nat→Code→Nat→Nat→AC
 |_,_,.skip,_,_=> .skip
 |_,_,.ret,_,_=> .ret
 |_,_,.exit i,_,_=> .exit i
 |_,_,.region id ops dr,out,_=>dt P GL H f r id ops.toList dr out
 |ex,ret,.seq a b,out,n=> .seq (NQ ex ret a (OL ex ret b out) n) (NQ ex ret b out (Nat.add n (nL a)))
 |ex,ret,.cond x a b,out,n=> .cond (oq P iP iN GL false false 0 x) (NQ ex ret a out n) (NQ ex ret b out (Nat.add n (nL a)))
 |ex,ret,.block i c,out,n=> .block i (NQ ((i,out)::ex) ret c out n)
 |_,_,.loop _,_,n=> .loop (l n)
 |_,_,.rangeFunc g ps _ _,_,n=> .rangeF (oq P iP iN GL false false 0 g) ps.toList (l n) (l (Nat.add n 1000))
 |_,_,_,_,_=> .never
def NP (k:Nat):List (Nat×Nat)→Nat→Code→Nat→Nat→AC
 |ex,ret,.seq a b,out,n=>bif Nat.blt (Nat.mod k 1000) (Nat.add n (nL a)) then NP k ex ret a (OL ex ret b out) n else NP k ex ret b out (Nat.add n (nL a))
 |ex,ret,.cond _ a b,out,n=>bif Nat.blt (Nat.mod k 1000) (Nat.add n (nL a)) then NP k ex ret a out n else NP k ex ret b out (Nat.add n (nL a))
 |ex,ret,.block i c,out,n=>NP k ((i,out)::ex) ret c out n
 |ex,ret,.loop c,_,n=>bif Nat.beq n k then NQ P GL H f r l ex ret c (OL ex ret c 0) (Nat.add n 1) else NP k ex ret c (OL ex ret c 0) (Nat.add n 1)
 |ex,_,.rangeFunc _ _ a b,_,n=>bif Nat.beq n k then NQ P GL H f r l (Rx ex) 0 a (OL (Rx ex) 0 b 0) (Nat.add n 1)
  else bif Nat.beq (Nat.add n 1000) k then NQ P GL H f r l (Rx ex) 0 b 0 (Nat.add (Nat.add n 1) (nL a))
  else bif Nat.blt (Nat.mod k 1000) (Nat.add (Nat.add n 1) (nL a)) then NP k (Rx ex) 0 a (OL (Rx ex) 0 b 0) (Nat.add n 1) else NP k (Rx ex) 0 b 0 (Nat.add (Nat.add n 1) (nL a))
 |_,_,_,_,_=> .never
def fO (id:Nat):List (Nat×Nat)→Nat→Code→Nat→Option (List Oper×Bool×Nat)
 |ex,ret,.seq a b,out=>match fO id ex ret a (OL ex ret b out)with
  |some x=>some x
  |none=>fO id ex ret b out
 |ex,ret,.cond _ a b,out=>match fO id ex ret a out with
  |some x=>some x
  |none=>fO id ex ret b out
 |ex,ret,.block i c,out=>fO id ((i,out)::ex) ret c out
 |ex,ret,.loop c,_=>fO id ex ret c (OL ex ret c 0)
 |ex,_,.rangeFunc _ _ a b,_=>match fO id (Rx ex) 0 a (OL (Rx ex) 0 b 0)with
  |some x=>some x
  |none=>fO id (Rx ex) 0 b 0
 |_,_,.region j ops dr,out=>bif Nat.beq j id then some (ops.toList,dr,out) else none
 |_,_,_,_=>none
def lL:Code:=match P.F.get f with|some (@Bx.mk _ fn)=>(match fn.body with|some c=>c|none=> .skip)|none=> .skip
def WK:List ResultVar→Nat
 |[]=>0
 | .tmp t::l=>Nat.lor (mb t) (WK l)
 | .cell t _::l=>Nat.lor (mb t) (WK l)
def YH:List ResultVar:=match P.F.get f with|some (@Bx.mk _ fn)=>fn.results.toList|none=>[]
def VN:AC:=NQ P GL H f r l [] (WK (YH P f)) (lL P f) (WK (YH P f)) 0
def Qm (k:Nat):AC:=NP P GL H f r l k [] (WK (YH P f)) (lL P f) (WK (YH P f)) 0
def Oc (I J:Nat→Int) (k:Nat):List GI:=match fO k [] (WK (YH P f)) (lL P f) (WK (YH P f))with
 |some (ops,dr,out)=>(YG P I J GL H dr f ops out ops).getD []
 |none=>[]
def cD:List AR:=(YH P f).map fun
 | .tmp t=> .t t
 | .cell a t=> .c a (Kt P t) (ZJ P t)
def cE:Nat:=match P.F.get f with|some (@Bx.mk _ fn)=>Nat.add fn.params.size fn.nfree|none=>0
end
mutual
def V.beq:V→V→Bool
 | .int k n,.int k' n'=>decide (k=k')&&decide (n=n')
 | .bool b,.bool b'=>b==b'
 | .str s,.str s'=>decide (s=s')
 | .list xs,.list ys=>V.beqs xs ys
 | .agg xs,.agg ys=>V.beqs xs ys
 | .ptr xs,.ptr ys=>V.beqs xs ys
 | .nilp,.nilp=>true
 | .func f cs,.func g ds=>f==g&&V.beqs cs ds
 | .nilf,.nilf=>true
 | .nilm,.nilm=>true
 |_,_=>false
def V.beqs:List V→List V→Bool
 |[],[]=>true
 |x::xs,y::ys=>V.beq x y&&V.beqs xs ys
 |_,_=>false
end
mutual
theorem V.beq_eq:∀ {x y:V},V.beq x y=true→x=y
 | .int k n,y,h=>by cases y<;>simp_all [V.beq]
 | .bool b,y,h=>by cases y<;>simp_all [V.beq]
 | .str s,y,h=>by cases y<;>simp_all [V.beq]
 | .list xs,y,h=>by cases y<;>simp only[V.beq,oa]at h;rw[V.beqs_eq h]
 | .agg xs,y,h=>by cases y<;>simp only[V.beq,oa]at h;rw[V.beqs_eq h]
 | .ptr xs,y,h=>by cases y<;>simp only[V.beq,oa]at h;rw[V.beqs_eq h]
 | .nilp,y,h=>by cases y<;>simp_all [V.beq]
 | .func f cs,y,h=>by
  cases y<;>simp only[V.beq,oa,oJ,beq_iff_eq]at h
  rw[h.1,V.beqs_eq h.2]
 | .nilf,y,h=>by cases y<;>simp_all [V.beq]
 | .nilm,y,h=>by cases y<;>simp_all [V.beq]
theorem V.beqs_eq:∀ {xs ys:List V},V.beqs xs ys=true→xs=ys
 |[],ys,h=>by cases ys<;>simp_all [V.beqs]
 |x::xs,ys,h=>by
  cases ys with
  |nil=>simp[V.beqs]at h
  |cons y ys=>
   simp only[V.beqs,oJ]at h;rw[V.beq_eq h.1,V.beqs_eq h.2]
end
mutual
def D.beq:D→D→Bool
 | .v x,.v y=>V.beq x y
 | .any,.any=>true
 | .nil e s,.nil e' s'=>e==e'&&s==s'
 | .own e s xs,.own e' s' ys=>e==e'&&s==s'&&V.beqs xs ys
 | .agg ds,.agg es=>D.beqs ds es
 | .tup ds,.tup es=>D.beqs ds es
 | .ref r o,.ref r' o'=>r==r'&&o==o'
 | .sref r n,.sref r' n'=>r==r'&&n==n'
 | .mref r,.mref r'=>r==r'
 | .func f cs,.func g ds=>f==g&&D.beqs cs ds
 | .meth f cs,.meth g ds=>f==g&&D.beqs cs ds
 | .yld r,.yld r'=>r==r'
 |_,_=>false
def D.beqs:List D→List D→Bool
 |[],[]=>true
 |x::xs,y::ys=>D.beq x y&&D.beqs xs ys
 |_,_=>false
end
mutual
theorem D.beq_eq:∀ {x y:D},D.beq x y=true→x=y
 | .v x,y,h=>by cases y<;>simp only[D.beq,oa]at h;rw[V.beq_eq h]
 | .any,y,h=>by cases y<;>simp_all [D.beq]
 | .nil e s,y,h=>by cases y<;>simp_all [D.beq]
 | .own e s xs,y,h=>by
  cases y<;>simp only[D.beq,oa,oJ,beq_iff_eq]at h
  rw[h.1.1,h.1.2,V.beqs_eq h.2]
 | .agg ds,y,h=>by cases y<;>simp only[D.beq,oa]at h;rw[D.beqs_eq h]
 | .tup ds,y,h=>by cases y<;>simp only[D.beq,oa]at h;rw[D.beqs_eq h]
 | .ref r o,y,h=>by cases y<;>simp_all [D.beq]
 | .sref r n,y,h=>by cases y<;>simp_all [D.beq]
 | .mref r,y,h=>by cases y<;>simp_all [D.beq]
 | .func f cs,y,h=>by
  cases y<;>simp only[D.beq,oa,oJ,beq_iff_eq]at h
  rw[h.1,D.beqs_eq h.2]
 | .meth f cs,y,h=>by
  cases y<;>simp only[D.beq,oa,oJ,beq_iff_eq]at h
  rw[h.1,D.beqs_eq h.2]
 | .yld r,y,h=>by cases y<;>simp_all [D.beq]
 | .pend b e s xs,y,h=>by simp[D.beq]at h
 | .pptr b s n,y,h=>by simp[D.beq]at h
theorem D.beqs_eq:∀ {xs ys:List D},D.beqs xs ys=true→xs=ys
 |[],ys,h=>by cases ys<;>simp_all [D.beqs]
 |x::xs,ys,h=>by
  cases ys with
  |nil=>simp[D.beqs]at h
  |cons y ys=>
   simp only[D.beqs,oJ]at h;rw[D.beq_eq h.1,D.beqs_eq h.2]
end
def KV {α:Type} (f:α→α→Bool):List α→List α→Bool
 |[],[]=>true
 |x::xs,y::ys=>f x y&&KV f xs ys
 |_,_=>false
theorem Km {α:Type} {f:α→α→Bool} (hf:∀x y,f x y=true→x=y):∀ {xs ys:List α},KV f xs ys=true→xs=ys
 |[],ys,h=>by cases ys<;>simp_all [KV]
 |x::xs,ys,h=>by
  cases ys with
  |nil=>simp[KV]at h
  |cons y ys=>
   simp only[KV,oJ]at h;rw[hf _ _ h.1,Km hf h.2]
def Row.beq:Row→Row→Bool
 | .cells ds,.cells es=>D.beqs ds es
 | .map es bs ck,.map fs cs dk=>KV (λp q=>V.beq p.1 q.1&&V.beq p.2 q.2) es fs&&KV (λa b:Nat=>a==b) bs cs&&ck==dk
 | .dead,.dead=>true
 |_,_=>false
theorem Row.beq_eq {x y:Row} (h:Row.beq x y=true):x=y:=by
 cases x<;>cases y<;>simp only[Row.beq,oa]at h
 ·rw[D.beqs_eq h]
 ·simp only[oJ,beq_iff_eq]at h;rw[Km (λp q h=>by
   simp only[oJ]at h;exact rh (V.beq_eq h.1) (V.beq_eq h.2)) h.1.1,Km (λa b h=>by simpa using h) h.1.2,h.2]
 ·rfl
mutual
def D.lt (n:Nat):D→Bool
 | .ref r _=>decide (r <n)
 | .sref r _=>decide (r <n)
 | .mref r=>decide (r <n)
 | .yld r=>decide (r <n)
 | .agg ds=>D.lts n ds
 | .tup ds=>D.lts n ds
 | .func _ ds=>D.lts n ds
 | .meth _ ds=>D.lts n ds
 |_=>true
def D.lts (n:Nat):List D→Bool
 |[]=>true
 |d::ds=>D.lt n d&&D.lts n ds
end
def Row.lt (n:Nat):Row→Bool
 | .cells ds=>D.lts n ds
 |_=>true
def Ly (n:Nat) (h:List Row):List Row:=h.take n++List.replicate (h.length-n) .dead
theorem OW (n:Nat) (h:List Row):(Ly n h).length=h.length:=by simp[Ly];omega
theorem HB (n:Nat) (h:List Row) (r:Nat):(Ly n h)[r]?=if r <n then h[r]? else if r <h.length then some .dead else none:=by
 simp only[Ly];by_cases h1:r <n
 ·rw[if_pos h1];by_cases h2:r <h.length
  ·rw[ov (by simp;omega),oz,if_pos h1]
  ·rw[pN (by simp;omega),pN (by omega)]
 ·rw[if_neg h1];by_cases h2:r <h.length
  ·rw[if_pos h2,pC (by simp;omega),List.getElem?_replicate,if_pos (by simp;omega)]
  ·rw[if_neg h2,pN (by simp;omega)]
theorem Inv.kill {g:Gh} {w:World} {μ:List Nat} {t:Nat→D} {u:Nat→Value} {h:List Row} {O:Nat→Prop} (hi:Inv g w μ t u h O) (n:Nat):Inv g w μ t u (Go.Va.Ly n h) O:=by
 have hcell:∀r k v b,Ac (A7 (Go.Va.Ly n h) r k) v=some b→Ac (A7 h r k) v=some b:=by
  intro r k v b hb;simp only[A7,HB]at hb ⊢;by_cases h1:r <n
  ·simp only[h1,if_true]at hb;exact hb
  ·simp only[h1,if_false]at hb;by_cases h2:r <h.length
   ·simp[h2,Ac]at hb
   ·simp[h2,Ac]at hb
 have hblk:∀p b,CS t u (Go.Va.Ly n h) w μ p=some b→CS t u h w μ p=some b:=by
  intro p b hp;cases p with
  |tmp m k=>exact hp
  |cell r k=>exact hcell r k _ b hp
 refine⟨hi.agree,hi.olt,hi.rep,by rw[OW];exact hi.len,?_,hi.nod,hi.mo,λp q b hp hq=>hi.uniq p q b (hblk p b hp) (hblk q b hq),λp b hp=>hi.sep p b (hblk p b hp)⟩;intro r row b hr hb;rw[HB]at hr;by_cases h1:r <n
 ·rw[if_pos h1]at hr;exact hi.rows r row b hr hb
 ·rw[if_neg h1]at hr;by_cases h2:r <h.length
  ·rw[if_pos h2]at hr;simp only[oH]at hr;subst hr;exact(hi.rows r _ b (oI h2) hb).lt
  ·rw[if_neg h2]at hr;cases hr
theorem FSp.kill {P:Program} {GL:Aa} {f:Nat} {args rets:List D} {h h':List Row} (hf:FSp P GL f args h rets h') (n:Nat):FSp P GL f args h rets (Go.Va.Ly n h'):=by
 refine⟨hf.1,λg w μ us O hinv hgl hall htame=>(hf.2 g w μ us O hinv hgl hall htame).mono ?_⟩;rintro e w' ⟨v,g',μ',rfl,h3,h4⟩;exact⟨v,g',μ',rfl,h3.kill n,h4⟩
structure LD where
 e:CB
 ps:List Nat
 asg:AC
 body:AC
abbrev Lp:=List (Nat×Tag×LD)
def Lp.get:Lp→Nat→Option (Tag×LD)
 |[],_=>none
 |x::t,r=>if x.1=r then some x.2 else Lp.get t r
def Lp.tag:Lp→Nat→Tag→Lp
 |[],_,_=>[]
 |x::t,r,g=>if x.1=r then (r,g,x.2.2)::t else x::Lp.tag t r g
def Tag.beq:Tag→Tag→Bool
 | .ready,.ready=>true
 | .busy,.busy=>true
 | .done none,.done none=>true
 | .done (some i),.done (some j)=>i==j
 |_,_=>false
theorem Tag.beq_eq {x y:Tag} (h:Tag.beq x y=true):x=y:=by
 unfold Tag.beq at h;split at h<;>simp_all
def Lp.beq:Lp→Lp→Bool
 |[],[]=>true
 |x::t,y::u=>x.1==y.1&&Tag.beq x.2.1 y.2.1&&Lp.beq t u
 |_,_=>false
structure ES where
 e:CB
 h:List Row
 t:Lp
section
variable (P:Program) (GL:Aa)
def Lp.ins:Lp→List Row→List Row
 |[],h=>h
 |x::t,h=>(Lp.ins t h).set x.1 (Au P GL x.2.1 x.2.2.e x.2.2.ps x.2.2.asg x.2.2.body)
end
def Lp.has (t:Lp) (r:Nat):Prop:=r∈t.map (·.1)
structure OKT (t:Lp) (h:List Row):Prop where
 dead:∀r,t.has r→h[r]?=some .dead
 nod:(t.map (·.1)).Nodup
def Lp.kin:Lp→Lp→Prop
 |[],[]=>True
 |x::t,y::u=>x.1=y.1∧x.2.2=y.2.2∧Lp.kin t u
 |_,_=>False
theorem Lp.kin.refl:∀t:Lp,t.kin t
 |[]=>trivial
 |x::t=>⟨rfl,rfl,Lp.kin.refl t⟩
theorem Lp.kin.trans:∀ {a b c:Lp},a.kin b→b.kin c→a.kin c
 |[],[],[],_,_=>trivial
 |x::a,y::b,z::c,h,h'=>⟨h.1.trans h'.1,h.2.1.trans h'.2.1,Lp.kin.trans h.2.2 h'.2.2⟩
 |[],[],_::_,_,h=>h.elim
 |[],_::_,_,h,_=>h.elim
 |_::_,[],_,h,_=>h.elim
 |_::_,_::_,[],_,h=>h.elim
theorem Lp.kin.map:∀ {a b:Lp},a.kin b→a.map (·.1)=b.map (·.1)
 |[],[],_=>rfl
 |x::a,y::b,h=>by simp only[oV,h.1,Lp.kin.map h.2.2]
 |[],_::_,h=>h.elim
 |_::_,[],h=>h.elim
theorem Lp.kin_tag:∀(t:Lp) (r:Nat) (g:Tag),t.kin (t.tag r g)
 |[],_,_=>trivial
 |x::t,r,g=>by
  simp only[Lp.tag];split
  ·rename_i h;exact⟨h,rfl,Lp.kin.refl t⟩
  ·exact⟨rfl,rfl,Lp.kin_tag t r g⟩
theorem Lp.beq_eq:∀ {a t u:Lp},a.kin t→a.kin u→Lp.beq t u=true→t=u
 |[],[],[],_,_,_=>rfl
 |x::a,y::t,z::u,h,h',hb=>by
  simp only[Lp.beq,oJ,beq_iff_eq]at hb;have h1:=Tag.beq_eq hb.1.2;have h2:=Lp.beq_eq h.2.2 h'.2.2 hb.2;have h3:y=z:=rh hb.1.1 (rh h1 (h.2.1.symm.trans h'.2.1));rw[h2,h3]
 |[],[],_::_,_,h,_=>h.elim
 |[],_::_,_,h,_,_=>h.elim
 |_::_,[],_,h,_,_=>h.elim
 |_::_,_::_,[],_,h,_=>h.elim
variable {r:Nat} {h:List Row} {e:CB} {s':St}
section
variable {P:Program} {GL:Aa}
theorem DC:∀(t:Lp) (h:List Row),(t.ins P GL h).length=h.length
 |[],h=>rfl
 |x::t,h=>by simp only[Lp.ins,qB,DC t h]
theorem NL:∀(t:Lp) {h:List Row} {r:Nat},¬t.has r→(t.ins P GL h)[r]?=h[r]?
 |[],h,r,_=>rfl
 |x::t,h,r,hn=>by
  simp only[Lp.has,oV,oO,not_or]at hn;simp only[Lp.ins];rw[ot (Ne.symm hn.1)];exact NL t hn.2
theorem I0:∀(t:Lp) {h:List Row} {r:Nat} {g:Tag} {l:LD},r <h.length→t.get r=some (g,l)→(t.ins P GL h)[r]?=some (Au P GL g l.e l.ps l.asg l.body)
 |[],h,r,g,l,_,hg=>by simp[Lp.get]at hg
 |x::t,h,r,g,l,hl,hg=>by
  simp only[Lp.get]at hg;simp only[Lp.ins];by_cases hx:x.1=r
  ·simp only[hx,if_true,oH]at hg;rw[hx,pF (by rw[DC];exact hl),hg]
  ·simp only[hx,if_false]at hg;rw[ot hx];exact I0 t hl hg
theorem Qg:∀(t:Lp) {h:List Row} {r:Nat} (x:Row),¬t.has r→t.ins P GL (h.set r x)=(t.ins P GL h).set r x
 |[],h,r,x,_=>rfl
 |y::t,h,r,x,hn=>by
  simp only[Lp.has,oV,oO,not_or]at hn;simp only[Lp.ins,Qg t x hn.2];rw[List.set_comm _ _ hn.1]
theorem LN:∀(t:Lp) {h:List Row} (x:Row),(∀r,t.has r→r <h.length)→t.ins P GL (h++[x])=t.ins P GL h++[x]
 |[],h,x,_=>rfl
 |y::t,h,x,hn=>by
  simp only[Lp.ins];rw[LN t x λr hr=>hn r (by simp only[Lp.has,oV,oO];exact .inr hr)];rw[rF _ _ (by rw[DC];exact hn y.1 (by simp[Lp.has]))]
theorem HC:∀(t:Lp) {h:List Row} (l:List Row),(∀r,t.has r→r <h.length)→t.ins P GL (h++l)=t.ins P GL h++l
 |[],h,l,_=>rfl
 |y::t,h,l,hn=>by
  simp only[Lp.ins];rw[HC t l λr hr=>hn r (by simp only[Lp.has,oV,oO];exact .inr hr)];rw[rF _ _ (by rw[DC];exact hn y.1 (by simp[Lp.has]))]
theorem Ki:∀(t:Lp) {r:Nat} {x:Tag×LD},t.get r=some x→t.has r
 |[],r,x,h=>by simp[Lp.get]at h
 |y::t,r,x,h=>by
  simp only[Lp.get]at h;simp only[Lp.has,oV,oO];split at h
  ·rename_i hy;exact .inl hy.symm
  ·exact .inr (Ki t h)
theorem NK:∀(t:Lp) {h:List Row} {r:Nat} {g g':Tag} {l:LD},(t.map (·.1)).Nodup→t.get r=some (g,l)→(t.tag r g').ins P GL h=(t.ins P GL h).set r (Au P GL g' l.e l.ps l.asg l.body)
 |[],h,r,g,g',l,_,hg=>by simp[Lp.get]at hg
 |x::t,h,r,g,g',l,hn,hg=>by
  simp only[oV,qr]at hn;simp only[Lp.get]at hg;simp only[Lp.tag,Lp.ins];by_cases hx:x.1=r
  ·simp only[hx,if_true,oH]at hg;simp only[hx,if_true,Lp.ins,qc,hg]
  ·simp only[hx,if_false]at hg;simp only[hx,if_false,Lp.ins];rw[NK t hn.2 hg,List.set_comm _ _ (Ne.symm hx)]
theorem NO:∀ {t u:Lp} {r:Nat} {g g':Tag} {l l':LD},t.kin u→t.get r=some (g,l)→u.get r=some (g',l')→l=l'
 |[],[],r,g,g',l,l',_,h,_=>by simp[Lp.get]at h
 |x::t,y::u,r,g,g',l,l',hk,h,h'=>by
  simp only[Lp.get]at h h';by_cases hx:x.1=r
  ·rw[←hk.1]at h';simp only[hx,if_true,oH]at h h';have:=hk.2.1;rw[h,h']at this;exact this
  ·rw[←hk.1]at h';simp only[hx,if_false]at h h';exact NO hk.2.2 h h'
 |[],_::_,_,_,_,_,_,h,_,_=>h.elim
 |_::_,[],_,_,_,_,_,h,_,_=>h.elim
theorem OKT.nothas {t:Lp} (hk:OKT t h) {x:Row} (hr:h[r]?=some x) (hx:x≠ .dead):¬t.has r:=λhh=>by
 rw[hk.dead r hh]at hr;simp only[oH]at hr;exact hx hr.symm
theorem OKT.get {t:Lp} (hk:OKT t h) {x:Row} (hr:h[r]?=some x) (hx:x≠ .dead):(t.ins P GL h)[r]?=some x:=by
 rw[NL t (hk.nothas hr hx)];exact hr
theorem OKT.set {t:Lp} {h:List Row} (hk:OKT t h) {r:Nat} {x y:Row} (hr:h[r]?=some x) (hx:x≠ .dead):OKT t (h.set r y)∧t.ins P GL (h.set r y)=(t.ins P GL h).set r y:=by
 refine⟨⟨λr' hr'=>?_,hk.nod⟩,Qg t y (hk.nothas hr hx)⟩;have hne:r≠r':=λhe=>hk.nothas hr hx (he▸hr');rw[ot hne];exact hk.dead r' hr'
theorem OKT.lt {t:Lp} (hk:OKT t h) (hr:t.has r):r <h.length:=(oM.1 (hk.dead r hr)).1
theorem OKT.append {t:Lp} (hk:OKT t h) (x:Row):OKT t (h++[x])∧t.ins P GL (h++[x])=t.ins P GL h++[x]:=by
 refine⟨⟨λr hr=>?_,hk.nod⟩,LN t x λr hr=>hk.lt hr⟩;rw[ov (hk.lt hr)];exact hk.dead r hr
theorem OKT.kin {t u:Lp} {h:List Row} (hk:OKT t h) (hu:t.kin u):OKT u h:=by
 refine⟨λr hr=>hk.dead r ?_,?_⟩
 ·simp only[Lp.has,hu.map];exact hr
 ·rw[←hu.map];exact hk.nod
theorem OKT.kill {t:Lp} {h:List Row} (hk:OKT t h) {n:Nat} (hn:∀r,t.has r→r <n):OKT t (Ly n h)∧t.ins P GL (Ly n h)=Ly n (t.ins P GL h):=by
 refine⟨⟨λr hr=>?_,hk.nod⟩,?_⟩
 ·rw[HB,if_pos (hn r hr)];exact hk.dead r hr
 ·have Br:∀(t:Lp),(∀r,t.has r→r <n)→t.ins P GL (Go.Va.Ly n h)=Go.Va.Ly n (t.ins P GL h):=by
   intro t;induction t with
   |nil=>intro _;rfl
   |cons x t ih=>
    intro hn;have hn':∀r,Lp.has t r→r <n:=λr hr=>hn r (by simp only[Lp.has,oV,oO];exact .inr hr);simp only[Lp.ins,ih hn'];have hx:x.1 <n:=hn x.1 (by simp[Lp.has]);apply pe;intro r;rw[HB,pU,pU,HB,OW,qB];by_cases h1:x.1=r
    ·subst h1;simp[hx]
    ·simp[h1]
  exact Br t hn
theorem Np {t:Lp} (hk:OKT t h) {i:PI} {x:D} (hv:i.val e h=some x):i.val e (t.ins P GL h)=some x:=by
 cases hkd:i.kd with
 |n=>rw[PI.val_heap (h2:=t.ins P GL h) hkd];exact hv
 |r=>
  cases i with
  |load a n ag=>
   simp only[PI.val]at hv ⊢;split at hv
   ·exact hv
   ·rename_i r off ha;split at hv
    ·rename_i ds hr;simp only[hk.get (P:=P) (GL:=GL) hr (by simp)];exact hv
    ·cases hv
   ·cases hv
  |look m k st ks zs ag ok=>
   simp only[PI.val]at hv ⊢;split at hv
   ·split at hv
    ·rename_i hok;rw[if_pos hok];split at hv
     ·rename_i z hz;split at hv
      ·exact hv
      ·rename_i r ha;split at hv
       ·rename_i es bs ck hr;simp only[hk.get (P:=P) (GL:=GL) hr (by simp)];exact hv
       ·cases hv
      ·cases hv
     ·cases hv
    ·cases hv
   ·cases hv
  |mlen m=>
   simp only[PI.val]at hv ⊢;split at hv
   ·exact hv
   ·rename_i r ha;split at hv
    ·rename_i es hr;simp only[hk.get (P:=P) (GL:=GL) hr (by simp)];exact hv
    ·cases hv
   ·cases hv
  |_=>cases hkd
 |a=>cases i<;>cases hkd
 |w=>cases i<;>cases hkd
 |t=>cases i<;>cases hkd
theorem MG {t:Lp} (hk:OKT t h) {i:AI} (hs:i.step ⟨e,h⟩=some s'):i.step ⟨e,t.ins P GL h⟩=some ⟨s'.e,t.ins P GL s'.h⟩∧OKT t s'.h:=by
 cases i with
 |p d i=>
  simp only[AI.step,oU]at hs ⊢;obtain⟨x,hx,rfl⟩:=hs;exact⟨⟨x,Np hk hx,rfl⟩,hk⟩
 |mv d x=>simp only[AI.step,oH]at hs ⊢;subst hs;exact⟨rfl,hk⟩
 |alloc d zs=>
  simp only[AI.step,oH]at hs ⊢;subst hs;obtain⟨h1,h2⟩:=hk.append (P:=P) (GL:=GL) (.cells zs);exact⟨by rw[h2,DC],h1⟩
 |box d x=>
  simp only[AI.step]at hs ⊢;split at hs
  ·rename_i cs hc;simp only[oH]at hs;subst hs;obtain⟨h1,h2⟩:=hk.append (P:=P) (GL:=GL) (.cells (cs.map D.toRow));exact⟨by rw[h2,DC],h1⟩
  ·cases hs
 |store a x n=>
  simp only[AI.step]at hs ⊢;split at hs
  ·rename_i r off ha;split at hs
   ·rename_i ds hr;simp only[hk.get (P:=P) (GL:=GL) hr (by simp)];split at hs
    ·rename_i e' sz xs hx;split at hs
     ·rename_i m;split at hs
      ·rename_i hc;simp only[oH]at hs;subst hs;obtain⟨h1,h2⟩:=hk.set (P:=P) (GL:=GL) (y:= .cells (ds.set off (.own e' sz xs))) hr (by simp);exact⟨by rw[if_pos hc,h2],h1⟩
      ·cases hs
     ·cases hs
    ·rename_i bb e' sz xs hx;split at hs
     ·rename_i m;split at hs
      ·rename_i hc;simp only[oH]at hs;subst hs;obtain⟨h1,h2⟩:=hk.set (P:=P) (GL:=GL) (y:= .cells (ds.set off (.pend bb e' sz xs))) hr (by simp);exact⟨by rw[if_pos hc,h2],h1⟩
      ·cases hs
     ·cases hs
    ·rename_i hne hne2;split at hs
     ·rename_i cs hc;split at hs
      ·rename_i hc2;simp only[oH]at hs;subst hs;obtain⟨h1,h2⟩:=hk.set (P:=P) (GL:=GL) (y:= .cells (AO ds off (cs.map D.toRow))) hr (by simp);exact⟨by simp only[hc,hc2,h2];simp[hc2],h1⟩
      ·cases hs
     ·cases hs
   ·cases hs
  ·cases hs
 |take d a=>
  simp only[AI.step]at hs ⊢;split at hs
  ·rename_i r off ha;split at hs
   ·rename_i ds hr;simp only[hk.get (P:=P) (GL:=GL) hr (by simp)];split at hs
    ·rename_i e' sz xs hx;simp only[oH]at hs;subst hs;obtain⟨h1,h2⟩:=hk.set (P:=P) (GL:=GL) (y:= .cells (ds.set off (.v (.list xs)))) hr (by simp);exact⟨by simp only[h2],h1⟩
    ·cases hs
   ·cases hs
  ·cases hs
 |app d x y e' sz by_=>
  simp only[AI.step]at hs ⊢;split at hs
  ·split at hs
   ·rename_i hc;simp only[oH]at hs;subst hs;exact⟨by rw[if_pos hc],hk⟩
   ·cases hs
  ·cases hs
 |appS d x y e' by_=>
  simp only[AI.step]at hs ⊢;split at hs
  ·split at hs
   ·rename_i hc;simp only[oH]at hs;subst hs;exact⟨by rw[if_pos hc],hk⟩
   ·cases hs
  ·cases hs
 |bsl d e' sz ps=>
  simp only[AI.step]at hs ⊢;split at hs
  ·split at hs
   ·rename_i hc;rw[if_pos hc];split at hs<;>(simp only[oH]at hs;subst hs;exact⟨rfl,hk⟩)
   ·cases hs
  ·cases hs
 |s2b d x=>
  simp only[AI.step]at hs ⊢;split at hs
  ·simp only[oH]at hs;subst hs;exact⟨rfl,hk⟩
  ·cases hs
 |mksl d x z=>
  simp only[AI.step]at hs ⊢;split at hs
  ·rename_i k n hn;split at hs
   ·rename_i hc;simp only[oH]at hs;subst hs;obtain⟨h1,h2⟩:=hk.append (P:=P) (GL:=GL) (.cells (List.replicate n.toNat z));exact⟨by rw[if_pos hc,h2,DC],h1⟩
   ·cases hs
  ·cases hs
 |nilS d ne x=>cases hs
 |mkm d=>
  simp only[AI.step,oH]at hs ⊢;subst hs;obtain⟨h1,h2⟩:=hk.append (P:=P) (GL:=GL) (.map [] [] 0);exact⟨by rw[h2,DC],h1⟩
 |mput m k v st ks=>
  simp only[AI.step]at hs ⊢;split at hs
  ·rename_i r hm;split at hs
   ·rename_i es bs ck hr;simp only[hk.get (P:=P) (GL:=GL) hr (by simp)];split at hs
    ·rename_i kv vv hkv hvv;split at hs
     ·rename_i hko;rw[if_pos hko];split at hs
      ·simp only[oH]at hs;subst hs;obtain⟨h1,h2⟩:=hk.set (P:=P) (GL:=GL) (y:= .map (es++[(kv,vv)]) (bs++[ck]) (ck+1)) hr (by simp);exact⟨by rw[h2],h1⟩
      ·rename_i i hi;simp only[oH]at hs;subst hs;obtain⟨h1,h2⟩:=hk.set (P:=P) (GL:=GL) (y:= .map (es.set i (kv,vv)) bs ck) hr (by simp);exact⟨by rw[h2],h1⟩
      ·cases hs
     ·cases hs
    ·cases hs
   ·cases hs
  ·cases hs
 |ment d m k st ks=>
  simp only[AI.step]at hs ⊢;split at hs
  ·rename_i r hm;split at hs
   ·rename_i es bs ck hr;simp only[hk.get (P:=P) (GL:=GL) hr (by simp)];split at hs
    ·rename_i kv hkv;split at hs
     ·rename_i hko;rw[if_pos hko];split at hs
      ·rename_i i hi;split at hs
       ·simp only[oH]at hs;subst hs;exact⟨rfl,hk⟩
       ·cases hs
      ·cases hs
     ·cases hs
    ·cases hs
   ·cases hs
  ·cases hs
 |mest m b v=>
  simp only[AI.step]at hs ⊢;split at hs
  ·rename_i r hm;split at hs
   ·rename_i es bs ck hr;simp only[hk.get (P:=P) (GL:=GL) hr (by simp)];split at hs
    ·rename_i kk n vv hb hv;split at hs
     ·rename_i i hi;split at hs
      ·rename_i p hp;simp only[oH]at hs;subst hs;obtain⟨h1,h2⟩:=hk.set (P:=P) (GL:=GL) (y:= .map (es.set i (p.1,vv)) bs ck) hr (by simp);exact⟨by rw[h2],h1⟩
      ·cases hs
     ·cases hs
    ·cases hs
   ·cases hs
  ·cases hs
 |mdel d m k st ks=>
  simp only[AI.step]at hs ⊢;split at hs
  ·rename_i r hm;split at hs
   ·rename_i es bs ck hr;simp only[hk.get (P:=P) (GL:=GL) hr (by simp)];split at hs
    ·rename_i kv hkv;split at hs
     ·rename_i hko;rw[if_pos hko];split at hs
      ·simp only[oH]at hs;subst hs;exact⟨rfl,hk⟩
      ·rename_i i hi;simp only[oH]at hs;subst hs;obtain⟨h1,h2⟩:=hk.set (P:=P) (GL:=GL) (y:= .map (es.eraseIdx i) (bs.eraseIdx i) ck) hr (by simp);exact⟨by rw[h2],h1⟩
      ·cases hs
     ·cases hs
    ·cases hs
   ·cases hs
  ·cases hs
 |call d f args=>cases hs
 |callF d f args=>cases hs
 |callC d f args=>cases hs
 |callO d f q args=>cases hs
 |appR d x y e s b=>cases hs
 |frz d x s=>cases hs
 |callN d f args=>cases hs
 |appP d x y e s b=>cases hs
 |fin m ad p x sz=>
  simp only[AI.step]at hs ⊢;split at hs
  ·rename_i b s0 n y hp hx;split at hs
   ·rename_i b' e' s2 xs hf;split at hs
    ·rename_i hc;simp only[oH]at hs;subst hs;exact⟨by rw[if_pos hc],hk⟩
    ·cases hs
   ·rename_i hnp;split at hs
    ·rename_i r off ha;split at hs
     ·rename_i ds hr;split at hs
      ·rename_i b' e' s2 xs hd;split at hs
       ·rename_i hc;simp only[oH]at hs;subst hs;obtain⟨h1,h2⟩:=hk.set (P:=P) (GL:=GL) (y:= .cells (ds.set off (.own e' sz (xs++[y])))) hr (by simp);refine⟨?_,h1⟩;simp only[hk.get (P:=P) (GL:=GL) hr (by simp),hd,if_pos hc,h2]
       ·cases hs
      ·cases hs
     ·cases hs
    ·cases hs
  ·cases hs
 |mksz d x zs=>
  simp only[AI.step]at hs ⊢;split at hs
  ·rename_i k n hn;split at hs
   ·rename_i hc;simp only[oH]at hs;subst hs;obtain⟨h1,h2⟩:=hk.append (P:=P) (GL:=GL) (.cells (List.replicate n.toNat zs).flatten);exact⟨by rw[if_pos hc,h2,DC],h1⟩
   ·cases hs
  ·cases hs
 |cpy d x y sz=>
  simp only[AI.step]at hs ⊢;split at hs
  ·rename_i r n hx;split at hs
   ·rename_i ys hy;split at hs
    ·rename_i ds hr;simp only[hk.get (P:=P) (GL:=GL) hr (by simp)];split at hs
     ·rename_i hc;rw[if_pos hc];simp only[oH]at hs;subst hs;obtain⟨h1,h2⟩:=hk.set (P:=P) (GL:=GL) (y:= .cells ((ys.flatMap V.cells).map .v)) hr (by simp);exact⟨by rw[h2],h1⟩
     ·cases hs
    ·cases hs
   ·cases hs
  ·cases hs
end
section
variable {f i j k n:Nat} {K:St→Prop} {s:St} {bn:List Nat} {e:CB} {h':List Row}
section
variable {P:Program} {GL:Aa}
def Vy (Aq:List (List Nat)) (n:Nat) (rem:List Nat):Prop:=∀j <n,j∉rem→∀i∈(Aq[j]?).getD [],i∉rem
theorem QQ {Aq:List (List Nat)} {rem:List Nat} (h:Ui Aq rem i=true):i∈rem∧∀j∈(Aq[i]?).getD [],j∉rem:=by
 simp only[Ui,oJ,List.contains_iff_mem,oY,pd,←Bool.not_eq_true]at h;exact⟨h.1,λj hj=>by simpa using h.2 j hj⟩
theorem UA {is:List GI} {Aq:List (List Nat)} (I:List Nat→St→Prop)
  (hstep:∀rem i s,i∈rem→(∀j∈(Aq[i]?).getD [],j∉rem)→(∀j <n,j∉rem→i∉(Aq[j]?).getD [])→I rem s→∃s1,BQ P GL (is.getD i default) s s1∧I (rem.erase i) s1)
  (hfin:∀s,I [] s→K s):∀(t:AT) (rem:List Nat) (s:St),rem.Nodup→Vy Aq n rem→t.chk is Aq rem=true→I rem s→t.ok P GL is K s:=by
 have down:∀rem i,rem.Nodup→Vy Aq n rem→i∈rem→(∀j∈(Aq[i]?).getD [],j∉rem)→Vy Aq n (rem.erase i):=by
  intro rem i hnd hd hi hdep j hj hjr k hk hkr;have hk2:k∈rem:=qq hkr;by_cases hji:j=i
  ·subst hji;exact hdep k hk hk2
  ·exact hd j hj (λhm=>hjr ((sE hji).2 hm)) k hk hk2
 intro t;induction t with
 |done=>
  intro rem s _ _ hc hi;simp only[AT.chk,List.isEmpty_iff]at hc;subst hc;exact hfin s hi
 |take i t ih=>
  intro rem s hnd hd hc hi;simp only[AT.chk,oJ]at hc;obtain⟨h1,h2⟩:=QQ hc.1.1.1;obtain⟨s1,g1,g2⟩:=hstep rem i s h1 h2 (λj hj hjr hij=>hd j hj hjr i hij h1) hi;exact⟨s1,g1,ih _ _ (hnd.erase i) (down rem i hnd hd h1 h2) hc.2 g2⟩
 |pick c ih=>
  intro rem s hnd hd hc hi;simp only[AT.chk,oJ]at hc;exact ih rem s hnd hd hc.2 hi
 |alt i t r iht ihr=>
  intro rem s hnd hd hc hi;simp only[AT.chk,oJ]at hc;obtain⟨h1,h2⟩:=QQ hc.1.1.1;obtain⟨s1,g1,g2⟩:=hstep rem i s h1 h2 (λj hj hjr hij=>hd j hj hjr i hij h1) hi;exact⟨⟨s1,g1,iht _ _ (hnd.erase i) (down rem i hnd hd h1 h2) hc.1.2 g2⟩,ihr rem s hnd hd hc.2 hi⟩
 |none=>intro rem s _ _ _ _;trivial
def Cc (d:Nat→Bool) (i:Nat):Nat→Bool:=λj=>decide (j=i)||d j
theorem JI {is:List GI} {Aq:List (List Nat)} (I:(Nat→Bool)→St→Prop) {t:AT} (ht:t.chk is Aq (List.range n)=true)
  (hstep:∀d i s,i <n→d i=false→(∀j∈(Aq[i]?).getD [],d j=true)→(∀j <n,i∈(Aq[j]?).getD []→d j=false)→I d s→∃s1,BQ P GL (is.getD i default) s s1∧I (Cc d i) s1)
  (hfin:∀d s,(∀j <n,d j=true)→I d s→K s) (h0:I (λj=>decide (n≤j)) s):t.ok P GL is K s:=by
 refine UA (Aq:=Aq) (n:=n) (λrem s=>rem.Nodup∧(∀i∈rem,i <n)∧I (λj=>decide (j∉rem)) s) ?_ ?_ t (List.range n) s sG ?_ ht ⟨sG,λi hi=>oy.1 hi,?_⟩
 ·rintro rem i s hi hdep hup ⟨hnd,hlt,hI⟩;obtain⟨s1,g1,g2⟩:=hstep (λj=>decide (j∉rem)) i s (hlt i hi) (by simpa using hi) (λj hj=>by simpa using hdep j hj) (λj hj hij=>by
   have:j∈rem:=Classical.byContradiction λh=>hup j hj h hij;simpa using this) hI
  refine⟨s1,g1,hnd.erase i,λj hj=>hlt j (qq hj),?_⟩;have e:(λj=>decide (j∉rem.erase i))=Cc (λj=>decide (j∉rem)) i:=by
   funext j
   simp only[Cc,hnd.mem_erase_iff];by_cases h1:j=i<;>simp[h1]
  rw[e];exact g2
 ·rintro s ⟨_,_,hI⟩;exact hfin _ s (λj _=>by simp) hI
 ·intro j hj hjr i hi;exact absurd (oy.2 hj) hjr
 ·have e:(λj=>decide (j∉List.range n))=λj=>decide (n≤j):=by
   funext j;simp
  rw[e];exact h0
def EnvD (ns cs:List (Option Nat)) (bn:List Nat) (vs bv:Nat→D) (d:Nat→Bool) (e:CB):Prop:=
 (∀j k:Nat,ns[j]?=some (some k)→d j=true→(∀c:Nat,cs[j]?=some (some c)→d c=false)→AG e k=vs j)∧∀k∈bn,AG e k=bv k
def Ux (ns:List (Option Nat)) (bn:List Nat):Bool:=
 (List.range ns.length).all λj=>match ns[j]? with
  |some (some k)=> !bn.contains k&&(List.range ns.length).all λi=>i==j|| !(ns[i]?==some (some k))
  |_=>true
theorem Ke {ns:List (Option Nat)} (h:Ux ns bn=true) (hj:ns[j]?=some (some k)):k∉bn∧∀i,ns[i]?=some (some k)→i=j:=by
 have hjl:j <ns.length:=(oM.1 hj).1;have:=oY.1 h j (oy.2 hjl);rw[hj]at this;simp only[oJ,pd,oY,qY,beq_iff_eq]at this;refine⟨λhm=>?_,λi hi=>?_⟩
 ·have h1:=this.1;simp at h1;exact h1 hm
 ·have hil:i <ns.length:=(oM.1 hi).1;rcases this.2 i (oy.2 hil)with h2|h2
  ·exact h2
  ·rw[hi]at h2;simp at h2
theorem EnvD.step {ns cs:List (Option Nat)} {vs bv:Nat→D} {d:Nat→Bool} {e1:CB} (hE:EnvD ns cs bn vs bv d e) (hok:Ux ns bn=true) (i:Nat)
  (hnew:∀k:Nat,ns[i]?=some (some k)→AG e1 k=vs i) (hold:∀k:Nat,ns[i]?≠some (some k)→(∀j:Nat,cs[j]?=some (some i)→ns[j]?≠some (some k))→AG e1 k=AG e k):EnvD ns cs bn vs bv (Cc d i) e1:=by
 refine⟨λj k hj hd hc=>?_,λk hk=>?_⟩
 ·by_cases hji:j=i
  ·subst hji;exact hnew k hj
  ·have hdj:d j=true:=by simpa[Cc,hji]using hd
   rw[hold k (λhi=>hji ((Ke hok hi).2 j hj)) (λj' hj' hk'=>?_)]
   ·refine hE.1 j k hj hdj λc hcc=>?_;have:=hc c hcc;simp only[Cc,Bool.or_eq_false_iff]at this;exact this.2
   ·have hjj:j=j':=(Ke hok hk').2 j hj;subst hjj;have:=hc i hj';simp[Cc]at this
 ·rw[hold k (λhi=>(Ke hok hi).1 hk) (λj' _ hk'=>(Ke hok hk').1 hk)];exact hE.2 k hk
theorem EnvD.push {ns cs:List (Option Nat)} {vs bv:Nat→D} {d:Nat→Bool} (hE:EnvD ns cs bn vs bv d e) (hok:Ux ns bn=true) (i k:Nat) {v:D} (hi:ns[i]?=some (some k)) (hv:vs i=v):
  EnvD ns cs bn vs bv (Cc d i) ((k,v)::e):=by
 refine hE.step hok i (λk' hk'=>?_) (λk' hk' _=>?_)
 ·rw[hi]at hk';simp only[oH]at hk';subst hk';show (if k=k then v else AG e k)=vs i;rw[if_pos rfl,hv]
 ·show (if k=k' then v else AG e k')=AG e k';rw[if_neg (λh=>hk' (by rw[hi,h]))]
theorem EnvD.last {ns cs:List (Option Nat)} {vs bv:Nat→D} {d:Nat→Bool} (hE:EnvD ns cs bn vs bv d e) (hok:Ux ns bn=true) (i j m:Nat) (hi:ns[i]?=some none) (hj:cs[j]?=some (some i)) (hm:ns[j]?=some (some m)):
  EnvD ns cs bn vs bv (Cc d i) ((m,.any)::e):=by
 refine hE.step hok i (λk' hk'=>?_) (λk' hk' hc=>?_)
 ·rw[hi]at hk';simp at hk'
 ·show (if m=k' then .any else AG e k')=AG e k';rw[if_neg (λh=>hc j hj (by rw[hm,h]))]
theorem BO {is:List GI} {pi:PI} {v:D} {se:CB} {sh:List Row} (hx:is.getD i default=⟨none,.p k pi⟩) (hv:pi.val se sh=some v):BQ P GL (is.getD i default) ⟨se,sh⟩ ⟨(k,v)::se,sh⟩:=by
 rw[hx];refine .inl ?_;show (pi.val se sh).map (λx=>(⟨(k,x)::se,sh⟩:St))=_;rw[hv];rfl
theorem CX {is:List GI} {ai:AI} {s1:St} (hx:is.getD i default=⟨none,ai⟩) (hv:ai.step s=some s1):BQ P GL (is.getD i default) s s1:=by
 rw[hx];exact .inl hv
theorem CZ {is:List GI} {args:List Opd} {r:D} {se:CB} {sh:List Row} (hx:is.getD i default=⟨none,.callF (some k) (.c (.v (.func f []))) args⟩) (hF:FSp P GL f (Av se args) sh [r] h'):
  BQ P GL (is.getD i default) ⟨se,sh⟩ ⟨(k,r)::se,h'⟩:=by
 rw[hx];exact .inr (.inr (.inl ⟨some k,_,args,[r],h',.inl rfl,⟨f,[],rfl,by simpa using hF⟩,rfl⟩))
end
end
end Go.Va
