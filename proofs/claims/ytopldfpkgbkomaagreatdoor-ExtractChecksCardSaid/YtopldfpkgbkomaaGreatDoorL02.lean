/- Laws, part 2. No condition. -/
import Derived.OrdersIn
import Derived.Laws.Cover3
import Derived.RangeFuncRecord
import Derived.Test.YtopldfpkgbkomaaGreatDoorProg
import Derived.Shelf.SlIterI.Collect
import Derived.KernelRfl
import Derived.Test.YtopldfpkgbkomaaGreatDoorL01
set_option linter.all false
set_option maxRecDepth 100000
set_option maxHeartbeats 4000000
noncomputable section
namespace Go.Va
section
inductive AExit where
 |normal
 |exit (id:Nat)
 |ret
structure GI where
 g:Option (Nat×Bool)
 i:AI
 deriving Inhabited
def UF(P:Program)(f:Nat):Bool:=
 match P.funcs[f]? with
 |some fn=>fn.body.isSome&& !(fn.name== "runtime.NumGoroutine")
 |none=>false
def JW:List V->D
 |[x]=> .v x
 |xs=> .tup (xs.map .v)
def S8(g:Gh)(w:World):Prop:=∀b o v,g.m b o=some v->w.cell? ⟨b,o,none⟩=some v
def PSp(P:Program)(GL:Ai)(f:Nat)(args rets:List V):Prop:=
 UF P f=true/\∀(g:Gh)(w:World)(us:List Value),S8 g w->GlobOK GL g->All2 (RepV g) args us->
  Calls P f us.toArray w λe w'=>∃v g',e= .returned v/\RepD g' w' [] (JW rets) v/\Chg (λ_=>False) g w g' w'/\S8 g' w'
def WF(r:Option Nat):Fence:={Fence.wide with round:=r}
def Ky(P:Program)(GL:Ai)(r:Nat)(args:List D)(h:List Row)(b:Bool)(h':List Row):Prop:=
 ∀(g:Gh)(w:World)(μ:List Nat)(us:List Value)(O:Nat->Prop),Inv g w μ Kv NP h O->GlobOK GL g->All2 (RepG g w μ) args us->Tame args us->∀bl,μ[r]?=some bl->
  ∃fn tmps asg body,(Instr.yield bl us.toArray).run P w= .ok (.round bl fn tmps asg body) w/\
   RoundIn (WF none) 0 P bl fn tmps asg body w λe w'=>∃g' μ',e= .returned (.bool b)/\Inv g' w' μ' Kv NP h' O/\Chg (λb=>¬O b) g w g' w'/\μ <+: μ'
def FSp(P:Program)(GL:Ai)(f:Nat)(args:List D)(h:List Row)(rets:List D)(h':List Row):Prop:=
 UF P f=true/\∀(g:Gh)(w:World)(μ:List Nat)(us:List Value)(O:Nat->Prop),Inv g w μ Kv NP h O->GlobOK GL g->All2 (RepG g w μ) args us->Tame args us->
  Calls P f us.toArray w λe w'=>∃v g' μ',e= .returned v/\Inv g' w' μ' (Hc .any (Bp rets)) (Hc (.bool false) v) h' O/\Chg (λb=>¬O b) g w g' w'/\μ <+: μ'
def NO{α:Type}(z:α)(l:List α):Nat->α:=λn=>(l[n]?).getD z
def cR(P:Program)(GL:Ai)(f:Nat)(args rets:List D):Prop:=
 UF P f=true/\∀(g:Gh)(w:World)(μ:List Nat)(us:List Value)(O:Nat->Prop)(h:List Row),us.length=args.length->Inv g w μ (NO .any args) (NO undef us) h O->GlobOK GL g->
  Calls P f us.toArray w λe w'=>∃v g' μ',e= .returned v/\Inv g' w' μ' (Hc .any (Bp rets)) (Hc (.bool false) v) h O/\Chg (λb=>¬O b) g w g' w'/\μ <+: μ'
def AI.dst:AI->Option Nat
 | .p d _| .mv d _| .alloc d _| .box d _| .take d _| .app d _ _ _ _ _| .appS d _ _ _ _| .bsl d _ _ _| .s2b d _| .nilS d _ _| .mkm d| .mksl d _ _| .ment d _ _ _ _=>some d
 | .mdel d _ _ _ _=>d
 | .mput _ _ _ _ _=>none
 | .mest _ _ _=>none
 | .store _ _ _=>none
 | .call d _ _=>d
 | .callF d _ _=>d
 | .callC d _ _=>d
 | .callO d _ _ _=>d
 | .appR d _ _ _ _ _=>some d
 | .mksz d _ _=>some d
 | .cpy d _ _ _=>d
 | .callN d _ _=>d
 | .appP d _ _ _ _ _=>some d
 | .fin _ _ _ _ _=>none
def Opd.moved:Opd->Bool
 | .t _ b=>b
 |_=>false
section
variable (P:Program) (GL:Ai)
def Bo(d:Option Nat)(f:Opd)(args:List Opd)(K:St->Prop)(s:St):Prop:=
 match f.ev s.e with
 | .yld r=>∃b h',Ky P GL r (A9 s.e args) s.h b h'/\K ⟨CL s.e d (.v (.bool b)),h'⟩
 | .meth fid fs=>∃rets h',FSp P GL fid (fs++A9 s.e args) s.h rets h'/\K ⟨CL s.e d (Bp rets),h'⟩
 |fd=>match Dn fd with
  |some (fid,caps)=>∃rets h',FSp P GL fid (A9 s.e args++caps) s.h rets h'/\K ⟨CL s.e d (Bp rets),h'⟩
  |none=>False
def Du(i:AI)(K:St->Prop)(s:St):Prop:=
 match i with
 | .call d f args=>Bo P GL d f args K s
 | .callF d f args=>Bo P GL d f args K s
 | .callC d f args=>Bo P GL d f args K s
 | .callO d f q args=>∃fid rets,Dn (f.ev s.e)=some (fid,[])/\cR P GL fid (q.ev s.e::A9 s.e args) rets/\K ⟨CL (q.clear s.e) d (Bp rets),s.h⟩
 | .appP d x y e sz by_=>match EC e sz (x.ev s.e),(y.ev s.e).toV with
  |some xs,some (.list [z])=>z.cells.length=sz/\AV (xs.length+1) by_=true/\∀b,K ⟨(d,.pend b e sz xs)::x.clear s.e,s.h⟩
  |_,_=>False
 | .callN d f args=>∃fid rets h',Dn (f.ev s.e)=some (fid,[])/\FSp P GL fid (args.map λq=>(q.ev s.e).copy) s.h rets h'/\K ⟨CL s.e d (Bp rets),h'⟩
 | .appR d x y e sz by_=>match x.ev s.e,(y.ev s.e).toV with
  | .nil _ _,some (.list ys)=>BZ sz ys=true/\AV ys.length by_=true/\(x.moved=true/\K ⟨(d,.W e sz ys)::x.clear s.e,s.h⟩\/if ys.isEmpty=true then K ⟨(d,.nil e sz)::s.e,s.h⟩ else
    ∀k,K ⟨(d,.sr s.h.length ys.length)::s.e,s.h++[.cells ((ys.flatMap V.cells).map .v++List.replicate k .any)]⟩)
  | .W e' s' [],some (.list ys)=>BZ sz ys=true/\AV ys.length by_=true/\((e'=e/\s'=sz/\K ⟨(d,.W e sz ys)::x.clear s.e,s.h⟩)\/e'≠84/\if ys.isEmpty=true then K ⟨(d,.nil e sz)::s.e,s.h⟩ else
    ∀k,K ⟨(d,.sr s.h.length ys.length)::s.e,s.h++[.cells ((ys.flatMap V.cells).map .v++List.replicate k .any)]⟩)
  |_,_=>False
 | .nilS d ne x=>match (x.ev s.e).copy with
  | .v (.list [])| .nil _ _=>K ⟨(d,.v (.bool (true != ne)))::s.e,s.h⟩/\K ⟨(d,.v (.bool (false != ne)))::s.e,s.h⟩
  | .v (.list (_::_))=>K ⟨(d,.v (.bool (false != ne)))::s.e,s.h⟩
  |_=>False
 |i=>match i.step s with
  |some s'=>K s'
  |none=>False
def Ec(x:GI)(K:St->Prop)(s:St):Prop:=
 match x.g with
 |none=>Du P GL x.i K s
 |some (t,want)=>match AK s.e t with
  | .v (.bool b)=>if b=want then Du P GL x.i K s else K ⟨CL s.e x.i.dst (.tup []),s.h⟩
  | .tup []=>K ⟨CL s.e x.i.dst (.tup []),s.h⟩
  |_=>False
def Bd:List GI->(St->Prop)->St->Prop
 |[],K,s=>K s
 |x::rest,K,s=>Ec P GL x (Bd rest K) s
def Bv(e:CC):List Nat->CC
 |[]=>[]
 |n::ns=>(n,AK e n)::Bv e ns
end
def DM(P:Program)(GL:Ai)(N:Nat)(o:Oper)(ai:AI):Bool:=
 match ai with
 | .p d i=>o.dst==some d&&decide (d <N)&&V0 P GL o.op i
 | .mv d q=>o.dst==some d&&decide (d <N)&&Sb q&&(match o.op with| .move x=>oe GL x q| .assign x=>oe GL x q|_=>false)
 | .alloc d zs=>o.dst==some d&&decide (d <N)&&(match o.op with| .alloc t=>Gt P t zs|_=>false)
 | .box d q=>o.dst==some d&&decide (d <N)&&(match o.op with| .box _ x=>oe GL x q|_=>false)
 | .store p q n=>o.dst==none&&(match o.op with| .store t p' x=>oe GL p' p&&oe GL x q&&Bw P t n|_=>false)
 | .take d p=>o.dst==some d&&decide (d <N)&&(match o.op with| .load t p'=>oe GL p' p&&Gr P t (λ| .slice _=>true|_=>false)|_=>false)
 | .app d q r e s by_=>o.dst==some d&&decide (d <N)&&(match o.op with
  | .call {callee:= .builtin .append,args,argTypes}=>Hf args.toList (λx y=>oe GL x q&&oe GL y r)&&Eu q&&
    Hf argTypes.toList (λt t2=>D4 P t e&&Gr P t2 (λ| .slice _=>true|_=>false))&&GP P e s by_
  |_=>false)
 | .appS d q r e by_=>o.dst==some d&&decide (d <N)&&(match o.op with
  | .call {callee:= .builtin .append,args,argTypes}=>Hf args.toList (λx y=>oe GL x q&&oe GL y r)&&Eu q&&
    Hf argTypes.toList (λt t2=>D4 P t e&&Gr P t2 (λ| .string=>true|_=>false))&&GP P e 1 by_
  |_=>false)
 | .bsl d e s qs=>o.dst==some d&&decide (d <N)&&(match o.op with
  | .buildSlice t n ps=>D4 P t e&&(match P.info? e with|some i=>GP P e s i.bytes|none=>false)&&ps.toList.length==n&&decide (n*s<=2^24)&&G5 GL 0 ps.toList qs
  |_=>false)
 | .s2b d q=>o.dst==some d&&decide (d <N)&&(match o.op with| .convert s t x=>Gr P s (λ| .string=>true|_=>false)&&Rt P t&&oe GL x q|_=>false)
 | .mkm d=>o.dst==some d&&decide (d <N)&&(match o.op with| .makeMap _ none=>true|_=>false)
 | .mksl d q z=>o.dst==some d&&decide (d <N)&&(match o.op with
  | .makeSlice t x c=>(match x,c with| .tmp a,.tmp b=>a==b|_,_=>false)&&oe GL x q&&(match P.underlying t with|some (.slice e)=>Gt P e [z]&&Bw P e 1&&((P.info? e).map λi=>decide (i.bytes<=1048576))==some true|_=>false)
  |_=>false)
 | .mput m k v st ks=>o.dst==none&&(match o.op with| .mapUpdate t x i y=>(match P.underlying t with|some (.map kt _)=>FY P kt st ks|_=>false)&&oe GL x m&&oe GL i k&&oe GL y v|_=>false)
 | .ment d m k st ks=>o.dst==some d&&decide (d <N)&&(match o.op with| .mapEntry t x i=>(match P.underlying t with|some (.map kt _)=>FY P kt st ks|_=>false)&&oe GL x m&&oe GL i k|_=>false)
 | .mest m b v=>o.dst==none&&(match o.op with| .entryStore _ x i y=>oe GL x m&&oe GL i b&&oe GL y v|_=>false)
 | .mdel d m k st ks=>o.dst==d&&(match d with|some d=>decide (d <N)|none=>true)&&(match o.op with
  | .call {callee:= .builtin .delete,args,argTypes}=>Hf args.toList (λx y=>oe GL x m&&oe GL y k)&&Hf argTypes.toList (λt _=>match P.underlying t with|some (.map kt _)=>FY P kt st ks|_=>false)
  |_=>false)
 | .nilS d ne q=>o.dst==some d&&decide (d <N)&&(match o.op with| .binOp op t x y _=>(op==if ne then .neq else .eql)&&(match y with| .const (.slice none 0 0)=>true|_=>false)&&Gr P t (λ| .slice _=>true|_=>false)&&oe GL x q|_=>false)
 | .call d f args=>(match o.op with
  | .call {callee:= .value f',args:=asx,..}=>o.dst==d&&(match d with|some d=>decide (d <N)|none=>true)&&oe GL f' f&&A0 (oe GL) asx.toList args
  |_=>false)
 | .callF d f args=>(match o.op with
  | .call {callee:= .value f',args:=asx,..}=>o.dst==d&&(match d with|some d=>decide (d <N)|none=>true)&&oe GL f' f&&A0 (oe GL) asx.toList args
  |_=>false)
 | .callC d f args=>(match o.op with
  | .call {callee:= .value f',args:=asx,..}=>o.dst==d&&(match d with|some d=>decide (d <N)|none=>true)&&oe GL f' f&&A0 (oe GL) asx.toList args
  |_=>false)
 | .callO d f q args=>(match o.op with
  | .call {callee:= .value f',args:=asx,..}=>o.dst==d&&(match d with|some d=>decide (d <N)|none=>true)&&oe GL f' f&&A0 (oe GL) asx.toList (q::args)&&Eu q
  |_=>false)
 | .appR d q r e s by_=>o.dst==some d&&decide (d <N)&&(match o.op with
  | .call {callee:= .builtin .append,args,argTypes}=>Hf args.toList (λx y=>oe GL x q&&oe GL y r)&&
    Hf argTypes.toList (λt t2=>D4 P t e&&Gr P t2 (λ| .slice _=>true|_=>false))&&GP P e s by_&&((P.info? e).bind (·.zero)).any (λz=>z.cells.toList.all Value.oneCell')
  |_=>false)
 | .appP d q r e s by_=>o.dst==some d&&decide (d <N)&&(match o.op with
  | .call {callee:= .builtin .append,args,argTypes}=>Hf args.toList (λx y=>oe GL x q&&oe GL y r)&&Eu q&&
    Hf argTypes.toList (λt t2=>D4 P t e&&Gr P t2 (λ| .slice _=>true|_=>false))&&GP P e s by_
  |_=>false)
 | .fin m _ p q sz=>o.dst==none&&decide (m <N)&&(match o.op with| .store t p' x=>oe GL p' p&&oe GL x q&&Bw P t sz|_=>false)
 | .callN d f args=>(match o.op with
  | .call {callee:= .value f',args:=asx,..}=>o.dst==d&&(match d with|some d=>decide (d <N)|none=>true)&&oe GL f' f&&A0 (oe GL) asx.toList args
  |_=>false)
 | .mksz d q zs=>o.dst==some d&&decide (d <N)&&(match o.op with
  | .makeSlice t x c=>(match x,c with| .tmp a,.tmp b=>a==b|_,_=>false)&&oe GL x q&&(match P.underlying t with|some (.slice e)=>Gt P e zs&&Bw P e zs.length&&((P.info? e).map λi=>decide (i.bytes<=1048576))==some true|_=>false)
  |_=>false)
 | .cpy d q r sz=>o.dst==d&&(match d with|some d=>decide (d <N)|none=>true)&&(match o.op with
  | .call {callee:= .builtin .copy,args,argTypes}=>Hf args.toList (λx y=>oe GL x q&&oe GL y r)&&Hf argTypes.toList (λt _=>match P.underlying t with|some (.slice e)=>Bw P e sz|_=>false)
  |_=>false)
def Iu(P:Program)(GL:Ai)(N:Nat)(ops:Array Oper)(i:Nat)(x:GI):Bool:=
 match ops[i]? with
 |none=>false
 |some o=>(match o.guard,x.g with
  |none,none=>true
  |some (j,want),some (t,want')=>(ops[j]?).bind (·.dst)==some t&&want==want'&&x.i.dst==o.dst
  |_,_=>false)&&DM P GL N o x.i
variable {w:World} {n:Nat}
def Fx{r:Option Nat}{P:Program}{f:FuncId}{args:Array Value}{R:Ending->World->Prop}(h:Calls P f args w R):CallsIn (WF r) n P f args w R:=
 (callsIn_wide (n:=n)).2 h
def Nz(e:CC):∀(G:List Nat)(n:Nat),AK (Bv e G) n=if n∈G then AK e n else .any
 |[],n=>by simp[Bv,AK]
 |m::G,n=>by
  simp only[Bv,AK];by_cases h:m=n
  .simp[h]
  .rw[if_neg h,Nz e G n];simp[Ne.symm h]
variable {O:Nat->Prop} {a:Act} {s:St} {μ:List Nat} {g:Gh} {o:Oper} {u v:Value} {vs:List Value} {K:St->Prop} {ds:List D} {h:List Row} {q y':Opd} {by_ f i sz:Nat} {ops:Array Oper}
section
variable {P:Program} {GL:Ai} {N:Nat} {r:Option Nat}
theorem Gs.norm(hg:Gs GL N g w μ s a O)(G:List Nat):Gs GL N g w μ ⟨Bv s.e G,s.h⟩ a O where
 inv:=hg.inv.weaken _ λn=>by
  rw[Nz];by_cases h:n∈G
  .exact .inl (by simp[h])
  .exact .inr ⟨λv _=>by simp[h,RepD,RepG,RepE],λv k=>by simp only[h,if_false];cases k<;>simp[Ar,Am]⟩
 glob:=hg.glob
 sz:=hg.sz
theorem bB{ai:AI}(h:DM P GL N o ai=true)(hc:∀d f args,ai≠ .call d f args)(a7:∀d ne x,ai≠ .nilS d ne x)(a6:∀d f args,ai≠ .callF d f args/\ai≠ .callC d f args)(a8:∀d f q args,ai≠ .callO d f q args)(b0:∀d x y e s b,ai≠ .appR d x y e s b)(b1:∀d f args,ai≠ .callN d f args)(b2:∀d x y e s b,ai≠ .appP d x y e s b):EG P GL N o ai/\∀c,o.op≠ .defer c:=by
 cases ai with
 |p d i=>
  simp only[DM,rX,beq_iff_eq,decide_eq_true_eq]at h;refine⟨jd h.1.1 h.1.2 h.2,λc hc=>?_⟩;rw[hc]at h;simp[V0]at h
 |mv d q=>
  simp only[DM,rX,beq_iff_eq,decide_eq_true_eq]at h;obtain⟨⟨⟨J,h2⟩,h3⟩,G⟩:=h;split at G
  .rename_i x hx;exact⟨Yh J (.inl hx) h2 G h3,λc hc=>by rw[hx]at hc;cases hc⟩
  .rename_i x hx;exact⟨Yh J (.inr hx) h2 G h3,λc hc=>by rw[hx]at hc;cases hc⟩
  .cases G
 |alloc d zs=>
  simp only[DM,rX,beq_iff_eq,decide_eq_true_eq]at h;obtain⟨⟨J,h2⟩,G⟩:=h;split at G
  .rename_i t hx;exact⟨WS J hx h2 G,λc hc=>by rw[hx]at hc;cases hc⟩
  .cases G
 |box d q=>
  simp only[DM,rX,beq_iff_eq,decide_eq_true_eq]at h;obtain⟨⟨J,h2⟩,G⟩:=h;split at G
  .rename_i t x hx;exact⟨bf J hx h2 G,λc hc=>by rw[hx]at hc;cases hc⟩
  .cases G
 |store p q n=>
  simp only[DM,rX,beq_iff_eq]at h;obtain⟨J,G⟩:=h;split at G
  .rename_i t p' x hx;simp only[rX]at G;exact⟨Uc J hx G.1.1 G.1.2 G.2,λc hc=>by rw[hx]at hc;cases hc⟩
  .cases G
 |take d p=>
  simp only[DM,rX,beq_iff_eq,decide_eq_true_eq]at h;obtain⟨⟨J,h2⟩,G⟩:=h;split at G
  .rename_i t p' hx;simp only[rX]at G;obtain⟨el,b4⟩:=Fi G.2;exact⟨Wg J hx h2 G.1 b4,λc hc=>by rw[hx]at hc;cases hc⟩
  .cases G
 |app d q r e s by_=>
  simp only[DM,rX,beq_iff_eq,decide_eq_true_eq]at h;obtain⟨⟨J,h2⟩,G⟩:=h;split at G
  .rename_i a1 ts hx;simp only[rX]at G;obtain⟨⟨⟨Z,k2⟩,U⟩,k4⟩:=G;obtain⟨x,y,rfl,W⟩:=DZ Z;obtain⟨t,t2,rfl,j3⟩:=DZ U;simp only[rX]at W j3;obtain⟨e2,b3⟩:=Fi j3.2;exact⟨b8 J hx h2 W.1 W.2 k2 j3.1 (e2:=e2) (by simp[D4,b3]) k4,λc hc=>by rw[hx]at hc;cases hc⟩
  .cases G
 |appS d q r e by_=>
  simp only[DM,rX,beq_iff_eq,decide_eq_true_eq]at h;obtain⟨⟨J,h2⟩,G⟩:=h;split at G
  .rename_i a1 ts hx;simp only[rX]at G;obtain⟨⟨⟨Z,k2⟩,U⟩,k4⟩:=G;obtain⟨x,y,rfl,W⟩:=DZ Z;obtain⟨t,t2,rfl,j3⟩:=DZ U;simp only[rX]at W j3;exact⟨YA J hx h2 W.1 W.2 k2 j3.1 j3.2 k4,λc hc=>by rw[hx]at hc;cases hc⟩
  .cases G
 |bsl d e s qs=>
  simp only[DM,rX,beq_iff_eq,decide_eq_true_eq]at h;obtain⟨⟨J,h2⟩,G⟩:=h;split at G
  .rename_i t n ps hx;simp only[rX,beq_iff_eq,decide_eq_true_eq]at G;obtain⟨⟨⟨⟨Z,k2⟩,U⟩,k4⟩,k5⟩:=G;split at k2
   .exact⟨be J hx h2 Z k2 U k4 k5,λc hc=>by rw[hx]at hc;cases hc⟩
   .cases k2
  .cases G
 |s2b d x=>
  simp only[DM,rX,beq_iff_eq,decide_eq_true_eq]at h;obtain⟨⟨J,h2⟩,G⟩:=h;split at G
  .rename_i s t x hx;simp only[rX]at G;exact⟨Zb J hx h2 G.2 G.1.1 G.1.2,λc hc=>by rw[hx]at hc;cases hc⟩
  .cases G
 |mkm d=>
  simp only[DM,rX,beq_iff_eq,decide_eq_true_eq]at h;obtain⟨⟨J,h2⟩,G⟩:=h;split at G
  .rename_i t hx;exact⟨aE J hx rfl h2,λc hc=>by rw[hx]at hc;cases hc⟩
  .cases G
 |mksl d q z=>
  simp only[DM,rX,beq_iff_eq,decide_eq_true_eq]at h;obtain⟨⟨J,h2⟩,G⟩:=h;split at G
  .rename_i t x c hx;simp only[rX]at G;obtain⟨⟨Z,k2⟩,U⟩:=G;split at Z
   .rename_i a b;have a2:b=a:=(beq_iff_eq.1 Z).symm;split at U
    .rename_i e hu;simp only[rX,beq_iff_eq]at U;exact⟨XL J hx h2 (by rw[a2]) k2 hu U.1.1 U.1.2 U.2,λc hc=>by rw[hx]at hc;cases hc⟩
    .cases U
   .cases Z
  .cases G
 |mput m k v st ks=>
  simp only[DM,rX,beq_iff_eq]at h;obtain⟨J,G⟩:=h;split at G
  .rename_i t x i y hx;simp only[rX]at G;exact⟨XJ J hx G.1.1.1 G.1.1.2 G.1.2 G.2,λc hc=>by rw[hx]at hc;cases hc⟩
  .cases G
 |ment d m k st ks=>
  simp only[DM,rX,beq_iff_eq,decide_eq_true_eq]at h;obtain⟨⟨J,h2⟩,G⟩:=h;split at G
  .rename_i t x i hx;simp only[rX]at G;exact⟨XO J h2 hx G.1.1 G.1.2 G.2,λc hc=>by rw[hx]at hc;cases hc⟩
  .cases G
 |mest m b v=>
  simp only[DM,rX,beq_iff_eq]at h;obtain⟨J,G⟩:=h;split at G
  .rename_i t x i y hx;simp only[rX]at G;exact⟨XN J hx G.1.1 G.1.2 G.2,λc hc=>by rw[hx]at hc;cases hc⟩
  .cases G
 |mdel d m k st ks=>
  simp only[DM,rX,beq_iff_eq]at h;obtain⟨⟨J,h2⟩,G⟩:=h;split at G
  .rename_i a1 ts hx;simp only[rX]at G;obtain⟨x,y,rfl,W⟩:=DZ G.1;obtain⟨t,t2,rfl,j3⟩:=DZ G.2;simp only[rX]at W;exact⟨XP J (λn hn=>by subst hn;simpa using h2) hx j3 W.1 W.2,λc hc=>by rw[hx]at hc;cases hc⟩
  .cases G
 |nilS d ne x=>exact absurd rfl (a7 d ne x)
 |call d f args=>exact absurd rfl (hc d f args)
 |callF d f args=>exact absurd rfl (a6 d f args).1
 |callC d f args=>exact absurd rfl (a6 d f args).2
 |callO d f q args=>exact absurd rfl (a8 d f q args)
 |appR d x y e s b=>exact absurd rfl (b0 d x y e s b)
 |callN d f args=>exact absurd rfl (b1 d f args)
 |appP d x y e s b=>exact absurd rfl (b2 d x y e s b)
 |fin m ad p q sz=>
  simp only[DM,rX,beq_iff_eq,decide_eq_true_eq]at h;obtain⟨⟨J,h2⟩,G⟩:=h;split at G
  .rename_i t p' x hx;simp only[rX]at G;exact⟨aq J hx h2 G.1.1 G.1.2 G.2,λc hc=>by rw[hx]at hc;cases hc⟩
  .cases G
 |mksz d q zs=>
  simp only[DM,rX,beq_iff_eq,decide_eq_true_eq]at h;obtain⟨⟨J,h2⟩,G⟩:=h;split at G
  .rename_i t x c hx;simp only[rX]at G;obtain⟨⟨Z,k2⟩,U⟩:=G;split at Z
   .rename_i a b;have a2:b=a:=(beq_iff_eq.1 Z).symm;split at U
    .rename_i e hu;simp only[rX,beq_iff_eq]at U;exact⟨XK J hx h2 (by rw[a2]) k2 hu U.1.1 U.1.2 U.2,λc hc=>by rw[hx]at hc;cases hc⟩
    .cases U
   .cases Z
  .cases G
 |cpy d q r sz=>
  simp only[DM,rX,beq_iff_eq]at h;obtain⟨⟨J,h2⟩,G⟩:=h;split at G
  .rename_i a1 ts hx;simp only[rX]at G;obtain⟨x,y,rfl,W⟩:=DZ G.1;obtain⟨t,t2,rfl,j3⟩:=DZ G.2;simp only[rX]at W;exact⟨bF J (λn hn=>by subst hn;simpa using h2) hx W.1 W.2 j3,λc hc=>by rw[hx]at hc;cases hc⟩
  .cases G
def Hn:AExit->Exit->Prop
 | .normal,.normal=>True
 | .exit i,.exit j=>i=j
 | .ret,.ret=>True
 |_,_=>False
def After(GL:Ai)(N:Nat)(Q:St->Prop)(g:Gh)(w:World)(μ:List Nat)(a:Act)(O:Nat->Prop)(a':Act)(w':World):Prop:=
 ∃s' g' μ',Q s'/\Gs GL N g' w' μ' s' a' O/\Chg (λb=>¬O b) g w g' w'/\μ <+: μ'/\a'.defers=a.defers
def After.trans{Q:St->Prop}{g:Gh}{w:World}{μ:List Nat}{a:Act}{O:Nat->Prop}{g1:Gh}{w1:World}{μ1:List Nat}{W:Act}{Z:Act}{w2:World}(hc:Chg (λb=>¬O b) g w g1 w1)(hμ:μ <+: μ1)(hd:W.defers=a.defers)(h:After GL N Q g1 w1 μ1 W O Z w2):After GL N Q g w μ a O Z w2:=by
 obtain⟨s',g',μ',hq,hg,G,U,J⟩:=h;exact⟨s',g',μ',hq,hg,hc.trans G,hμ.trans U,J.trans hd⟩
def Cc(a:Act)(d:Option Nat)(v:Value):(a.put d v).defers=a.defers:=by cases d<;>rfl
theorem Um{rets:List V}(h:RepD g w [] (JW rets) v):RepD g w μ (JW rets) v/\∀k,Ar (JW rets) v k=none:=by
 unfold JW at h ⊢;split
 .rename_i x;exact⟨h,λk=>Ck _ _ _⟩
 .rename_i G;split at h
  .rename_i x;exact absurd rfl (G x)
  .obtain⟨vs,rfl,J⟩:=h;refine⟨⟨vs,rfl,J.1,λi x v hx U=>?_⟩,λk=>?_⟩
   .have:=J.2 i x v hx U;simp only[rk,rt]at hx;obtain⟨y,_,rfl⟩:=hx;exact this
   .simp only[Ar];cases hk:(rets.map D.v)[k]? with
    |none=>simp[Am]
    |some d=>
     simp only[rk,rt]at hk;obtain⟨y,_,rfl⟩:=hk;simp[Am]
theorem TN{caps:List D}(h:All2 (RepC g μ) caps vs):All2 (RepG g w μ) caps vs/\Tame caps vs:=by
 refine⟨h.imp λd v h=>?_,λi d v hd G=>?_⟩
 .cases d<;>first|exact h|exact h.elim
 .have:=h.2 i d v hd G;cases d<;>first|rfl|exact this.elim
theorem Gs.setR(h:Gs GL N g w μ s a O){d:Nat}(hd:d <N){x:D}(hi:Inv g w μ (λn=>if d=n then x else AK s.e n) (λn=>if d=n then v else a.tmps.getD n undef) s.h O):Gs GL N g w μ ⟨(d,x)::s.e,s.h⟩ (a.put (some d) v) O where
 inv:=by rw[D5 v (h.sz▸hd)];exact hi
 glob:=h.glob
 sz:=by rw[BP,h.sz]
theorem GJ{ai:AI}(c5:∀d f args,ai≠ .callF d f args/\ai≠ .callC d f args)(c9:∀d f q args,ai≠ .callO d f q args)(d2:∀d x y e s b,ai≠ .appR d x y e s b)(d3:∀d f args,ai≠ .callN d f args)(d4:∀d x y e s b,ai≠ .appP d x y e s b)(hk:DM P GL N o ai=true)(hg:Gs GL N g w μ s a O)(h:Du P GL ai K s){next:Act->World->Prop}{Q:Exit->Act->World->Prop}(hn:∀s' g' w' μ' a',K s'->Gs GL N g' w' μ' s' a' O->Chg (λb=>¬O b) g w g' w'->μ <+: μ'->a'.defers=a.defers->next a' w'):o.wpIn (WF r) 0 P a w next Q:=by
 refine⟨λ_ _=>trivial,?_⟩;by_cases c4:∃d ne x,ai= .nilS d ne x
 .obtain⟨d,ne,q,rfl⟩:=c4;simp only[DM,rX,beq_iff_eq,decide_eq_true_eq]at hk;obtain⟨⟨W,b0⟩,h4⟩:=hk;split at h4
  .rename_i op t x y s' a2;simp only[rX]at h4;obtain⟨⟨⟨hb,hy⟩,ht⟩,hx⟩:=h4;rw[Oper.semAt_eq _ _ _ (λc hc=>by rw[a2]at hc;cases hc)];obtain⟨el,hu⟩:=Fi ht;split at hy
   .have hr:=((hg.gd P).ev hx).copy;have fin:∀(b:Bool),(execOp a.eval o).run P w= .ok (.value (.bool b)) w->K ⟨(d,.v (.bool b))::s.e,s.h⟩->Oper.uponIn (WF r) 0 P o a next Q ((execOp a.eval o).run P w):=by intro b G hK;rw[G];refine hn _ g w μ _ hK ?_ (Chg.refl _ _ _) (ro _) (Cc _ _ _);rw[W];exact hg.set b0 (.bool b) λk=>Ck _ _ _
    have G:∀(ad:Option Addr)(n c:Nat),a.eval x= .slice ad n c->(execOp a.eval o).run P w= .ok (.value (.bool (ad.isNone != ne))) w:=by intro ad n c hv;have hg:(eqGuard op t x (.const (.slice none 0 0)) (.slice ad n c) (.slice none 0 0)).run P w= .ok () w:=EV ⟨Ac,Ac⟩;have d7:=run_equal_slice_nil (P:=P) w t el ad n c hu;have d9:a.eval (.const (.slice none 0 0))= .slice none 0 0:=rfl;have:=Io hb;subst this;cases ne<;>simp[execOp,a2,hv,d9,binOp,d7]at hg ⊢ <;>simp[hg,d7]
    simp only[Du]at h;split at h
    .rename_i hc;rw[hc]at hr;have b9:RepV g (.list []) (a.eval x):=hr;generalize hv:a.eval x=u at b9;cases b9 with
     |lnil=>exact fin _ (G none 0 0 hv) h.1
     |list _ ad cap _ _ hs=>exact fin _ (G (some ad) _ cap hv) h.2
    .rename_i hc;rw[hc]at hr;obtain⟨ad,hv,_⟩:=hr;cases ad with
     |none=>exact fin _ (G none 0 0 hv) h.1
     |some ad=>exact fin _ (G (some ad) 0 0 hv) h.2
    .rename_i y ys hc;rw[hc]at hr;have b9:RepV g (.list (y::ys)) (a.eval x):=hr;generalize hv:a.eval x=u at b9;cases b9 with
     |list _ ad cap _ _ hs=>exact fin _ (G (some ad) _ cap hv) h
    .exact h.elim
   .cases hy
  .cases h4
 by_cases hc:∀d f args,ai≠ .call d f args
 .obtain⟨d6,e1⟩:=bB hk hc (λd ne x h=>c4 ⟨d,ne,x,h⟩) c5 c9 d2 d3 d4;rw[Oper.semAt_eq _ _ _ e1];have h':∃s',ai.step s=some s'/\K s':=by
   unfold Du at h;split at h
   .exact absurd rfl (hc _ _ _)
   .exact absurd rfl (c5 _ _ _).1
   .exact absurd rfl (c5 _ _ _).2
   .exact absurd rfl (c9 _ _ _ _)
   .exact absurd rfl (d4 _ _ _ _ _ _)
   .exact absurd rfl (d3 _ _ _)
   .exact absurd rfl (d2 _ _ _ _ _ _)
   .exact absurd ⟨_,_,_,rfl⟩ c4
   .split at h
    .rename_i s' hs;exact⟨s',hs,h⟩
    .exact h.elim
  obtain⟨s',hs,hK⟩:=h';obtain⟨v,w',g',μ',G,J,U,hμ⟩:=d6 hg hs;rcases G with G|⟨G,rfl⟩
  .rw[G];exact hn s' g' w' μ' _ hK J U hμ (Cc _ _ _)
  .rw[G];exact hn s' g' w' μ' _ hK J U hμ (Cc _ _ _)
 .have:∃d f args,ai= .call d f args:=by cases ai<;>first|exact⟨_,_,_,rfl⟩|exact absurd (λ_ _ _ h=>by cases h) hc
  obtain⟨d,f,args,rfl⟩:=this;have h:(∃r b h',f.ev s.e= .yld r/\Ky P GL r (A9 s.e args) s.h b h'/\K ⟨CL s.e d (.v (.bool b)),h'⟩)\/
    (∃fid fs rets h',f.ev s.e= .meth fid fs/\FSp P GL fid (fs++A9 s.e args) s.h rets h'/\K ⟨CL s.e d (Bp rets),h'⟩)\/
    ∃fid caps rets h',Dn (f.ev s.e)=some (fid,caps)/\FSp P GL fid (A9 s.e args++caps) s.h rets h'/\K ⟨CL s.e d (Bp rets),h'⟩:=by
   simp only[Du,Bo]at h;split at h
   .rename_i r hf;obtain⟨b,h',h1,h2⟩:=h;exact .inl ⟨r,b,h',hf,h1,h2⟩
   .rename_i fid fs hf;obtain⟨rets,h',h1,h2⟩:=h;exact .inr (.inl ⟨fid,fs,rets,h',hf,h1,h2⟩)
   .split at h
    .rename_i fid caps hf;obtain⟨rets,h',h1,h2⟩:=h;exact .inr (.inr ⟨fid,caps,rets,h',hf,h1,h2⟩)
    .exact h.elim
  rcases h with ⟨rr,yb,h',hf,c1,hK⟩|⟨fid,fs,rets,h',hf,⟨a1,c1⟩,hK⟩|h
  .simp only[DM]at hk;split at hk
   .rename_i f' a6 ts a2;simp only[rX,beq_iff_eq]at hk;obtain⟨⟨⟨W,b0⟩,b6⟩,b5⟩:=hk;rw[Oper.semAt_eq _ _ _ (λc hc=>by rw[a2]at hc;cases hc)];have c0:=(hg.gd P).ev b6;rw[hf]at c0;obtain⟨bl,d8,b4⟩:=c0;obtain⟨b1,b3⟩:=Fz (hg.gd P) b5;obtain⟨fn,tmps,asg,body,hy,c3⟩:=c1 g w μ _ _ hg.inv.call hg.glob b1 b3 bl d8;have G:(execOp a.eval o).run P w= .ok (.round bl fn tmps asg body) w:=by
     have h2:a6.map a.eval=(a6.toList.map a.eval).toArray:=by rw[<-tE];simp
     simp[execOp,a2,resolve,b4,Deferred.ofValue,invoke,h2,hy]
    rw[G,Oper.uponIn_round];refine⟨(λh=>by simp[WF,Fence.wide]at h),?_⟩;refine RoundIn.mono (F:=WF r) (show RoundIn (WF r) 0 P bl fn tmps asg body w _ from c3) ?_;rintro e w' ⟨g',μ',rfl,Z,U,hμ⟩;have J:Gs GL N g' w' μ' ⟨s.e,h'⟩ a O:=⟨hg.inv.ret Z U hμ,hg.glob.mono U.le,hg.sz⟩;refine hn ⟨CL s.e d (.v (.bool yb)),h'⟩ g' w' μ' _ hK ?_ (U.mono λ_ h ho=>h (.inl ho)) hμ (Cc _ _ _);rw[W];cases d with
    |none=>exact⟨J.inv,J.glob,by rw[BP,J.sz]⟩
    |some d=>exact J.set (by simpa using b0) (.bool yb) λk=>Ck _ _ _
   .cases hk
  .simp only[DM]at hk;split at hk
   .rename_i f' a6 ts a2;simp only[rX,beq_iff_eq]at hk;obtain⟨⟨⟨W,b0⟩,b6⟩,b5⟩:=hk;rw[Oper.semAt_eq _ _ _ (λc hc=>by rw[a2]at hc;cases hc)];have c0:=(hg.gd P).ev b6;rw[hf]at c0;obtain⟨a7,b4,d5⟩:=c0;obtain⟨c2,c6⟩:=TN (w:=w) d5;obtain⟨b1,b3⟩:=Fz (hg.gd P) b5;have b2:=c2.append b1;have c8:=c6.append c2.1 b3;have a8:=c1 g w μ _ _ hg.inv.call hg.glob b2 c8;have G:(execOp a.eval o).run P w= .ok (.enter fid (a7++a6.toList.map a.eval).toArray) w:=by
     unfold UF at a1;split at a1
     .rename_i fn c7;simp only[rX,tA]at a1;have h1:¬fn.body=none:=by cases hb:fn.body<;>simp_all
      have h3:¬fn.name= "runtime.NumGoroutine" :=by simpa using a1.2
      have h2:(a7.toArray++a6.map a.eval)=(a7++a6.toList.map a.eval).toArray:=by rw[<-tE];simp
      simp[execOp,a2,resolve,b4,Deferred.ofValue,invoke,callFunc,c7,h3,h1,h2]
     .cases a1
    rw[G,Oper.uponIn_enter];refine⟨(λh=>by simp[WF,Fence.wide]at h),Fx ?_⟩;refine a8.mono ?_;rintro e w' ⟨v,g',μ',rfl,Z,U,hμ⟩;have J:Gs GL N g' w' μ' ⟨s.e,h'⟩ a O:=⟨hg.inv.ret Z.leave U hμ,hg.glob.mono U.le,hg.sz⟩;refine hn ⟨CL s.e d (Bp rets),h'⟩ g' w' μ' _ hK ?_ (U.mono λ_ h ho=>h (.inl ho)) hμ (Cc _ _ _);rw[W];cases d with
    |none=>exact⟨J.inv,J.glob,by rw[BP,J.sz]⟩
    |some d=>exact J.setR (by simpa using b0) (hg.inv.retV Z J.inv d)
   .cases hk
  obtain⟨fid,caps,rets,h',hf,⟨a1,c1⟩,hK⟩:=h;simp only[DM]at hk;split at hk
  .rename_i f' a6 ts a2;simp only[rX,beq_iff_eq]at hk;obtain⟨⟨⟨W,b0⟩,b6⟩,b5⟩:=hk;rw[Oper.semAt_eq _ _ _ (λc hc=>by rw[a2]at hc;cases hc)];obtain⟨a7,b4,c2,c6⟩:=Jv ((hg.gd P).ev b6) hf;obtain⟨b1,b3⟩:=Fz (hg.gd P) b5;have b2:=b1.append c2;have c8:=b3.append b1.1 c6;have a8:=c1 g w μ _ _ hg.inv.call hg.glob b2 c8;have G:(execOp a.eval o).run P w= .ok (.enter fid (a6.toList.map a.eval++a7).toArray) w:=by
    unfold UF at a1;split at a1
    .rename_i fn c7;simp only[rX,tA]at a1;have h1:¬fn.body=none:=by cases hb:fn.body<;>simp_all
     have h3:¬fn.name= "runtime.NumGoroutine" :=by simpa using a1.2
     have h2:(a6.map a.eval++a7.toArray)=(a6.toList.map a.eval++a7).toArray:=by rw[<-tE];simp
     simp[execOp,a2,resolve,b4,Deferred.ofValue,invoke,callFunc,c7,h3,h1,h2]
    .cases a1
   rw[G,Oper.uponIn_enter];refine⟨(λh=>by simp[WF,Fence.wide]at h),Fx ?_⟩;refine a8.mono ?_;rintro e w' ⟨v,g',μ',rfl,Z,U,hμ⟩;have J:Gs GL N g' w' μ' ⟨s.e,h'⟩ a O:=⟨hg.inv.ret Z.leave U hμ,hg.glob.mono U.le,hg.sz⟩;refine hn ⟨CL s.e d (Bp rets),h'⟩ g' w' μ' _ hK ?_ (U.mono λ_ h ho=>h (.inl ho)) hμ (Cc _ _ _);rw[W];cases d with
   |none=>exact⟨J.inv,J.glob,by rw[BP,J.sz]⟩
   |some d=>exact J.setR (by simpa using b0) (hg.inv.retV Z J.inv d)
  .cases hk
theorem Inv.callO{t t':Nat->D}{u:Nat->Value}(hi:Inv g w μ t u h O)(ht:∀n k b,Ar (t' n) (u n) k=some b->Ar (t n) (u n) k=some b){x:D}{us:List Value}(hx:RepD g w μ x v)(a1:All2 (RepG g w μ) ds us)(a8:Tame ds us)(a6:∀k b,Ar x v k=some b->∃m,Ar (t m) (u m) k=some b/\∀v k,Ar (t' m) v k=none):
  Inv g w μ (NO .any (x::ds)) (NO undef (v::us)) h (ON t' u O):=by
 have tail:∀n k,Ar (NO .any (x::ds) (n+1)) (NO undef (v::us) (n+1)) k=none:=by
  intro n k;simp only[NO,tf];cases hd:ds[n]? with
  |none=>cases k<;>simp[Ar,Am]
  |some d=>
   obtain⟨y,hy,hr⟩:=a1.get hd;rw[hy];exact Ih hr (a8 n d y hd hy) k
 have head:∀k b,Cm (NO .any (x::ds)) (NO undef (v::us)) h w μ (.tmp 0 k)=some b->∃m,Cm t u h w μ (.tmp m k)=some b/\∀v k,Ar (t' m) v k=none:=λk b Z=>a6 k b Z;refine⟨hi.agree,λb Z=>?_,λn=>?_,hi.len,hi.rows,hi.nod,λb Z G=>?_,λp q b hp hq=>?_,λp b hp=>?_⟩
 .rcases Z with Z|⟨n,k,Z⟩
  .exact hi.olt b Z
  .exact hi.blk_lt (p:= .tmp n k) (ht n k b Z)
 .cases n with
  |zero=>exact hx
  |succ n=>
   simp only[NO,tf];cases hd:ds[n]? with
   |none=>simp[RepD,RepG,RepE]
   |some d=>
    obtain⟨y,hy,hr⟩:=a1.get hd;rw[hy];exact hr.toD
 .rcases G with G|⟨n,k,G⟩
  .exact hi.mo b Z G
  .exact(hi.sep (.tmp n k) b (ht n k b G)).1 Z
 .cases p with
  |tmp n k=>
   cases n with
   |succ n=>have U:Ar _ _ k=some b:=hp;rw[tail n k]at U;cases U
   |zero=>
    obtain⟨m,hm,_⟩:=head k b hp;cases q with
    |tmp J k'=>
     cases J with
     |succ J=>have W:Ar _ _ k'=some b:=hq;rw[tail J k']at W;cases W
     |zero=>
      obtain⟨m',a2,_⟩:=head k' b hq;have:=hi.uniq _ _ b hm a2;cases this;rfl
    |cell r' k'=>have:=hi.uniq _ (.cell r' k') b hm hq;cases this
  |cell r k=>
   cases q with
   |tmp J k'=>
    cases J with
    |succ J=>have W:Ar _ _ k'=some b:=hq;rw[tail J k']at W;cases W
    |zero=>
     obtain⟨m',a2,_⟩:=head k' b hq;have:=hi.uniq (.cell r k) _ b hp a2;cases this
   |cell r' k'=>exact hi.uniq (.cell r k) (.cell r' k') b hp hq
 .cases p with
  |tmp n k=>
   cases n with
   |succ n=>have U:Ar _ _ k=some b:=hp;rw[tail n k]at U;cases U
   |zero=>
    obtain⟨m,hm,a7⟩:=head k b hp;refine⟨(hi.sep _ b hm).1,λG=>?_⟩;rcases G with G|⟨J,k',G⟩
    .exact(hi.sep _ b hm).2 G
    .have:=hi.uniq _ (.tmp J k') b hm (ht J k' b G);cases this;rw[a7]at G;cases G
  |cell r k=>
   obtain⟨h1,h2⟩:=hi.sep (.cell r k) b hp;refine⟨h1,λG=>?_⟩;rcases G with G|⟨J,k',G⟩
   .exact h2 G
   .have:=hi.uniq (.cell r k) (.tmp J k') b hp (ht J k' b G);cases this
theorem Qp{d:Option Nat}{f:Opd}{args:List Opd}(hk:DM P GL N o (.callO d f q args)=true)(hg:Gs GL N g w μ s a O)(h:Du P GL (.callO d f q args) K s){next:Act->World->Prop}{Q:Exit->Act->World->Prop}(hn:∀s' g' w' μ' a',K s'->Gs GL N g' w' μ' s' a' O->Chg (λb=>¬O b) g w g' w'->μ <+: μ'->a'.defers=a.defers->next a' w'):o.wpIn (WF r) 0 P a w next Q:=by
 refine⟨λ_ _=>trivial,?_⟩;simp only[DM]at hk;split at hk
 .rename_i f' a8 ts b5;simp only[rX,beq_iff_eq]at hk;obtain⟨⟨⟨⟨b4,c3⟩,c6⟩,W⟩,hb⟩:=hk;obtain⟨fid,rets,hf,⟨a6,c8⟩,hK⟩:=h;rw[Oper.semAt_eq _ _ _ (λc hc=>by rw[b5]at hc;cases hc)];obtain⟨b9,c2,c1,_⟩:=Jv ((hg.gd P).ev c6) hf;have b3:b9=[]:=sf (by have:=c1.1;simpa using this);subst b3;obtain⟨x,U,has⟩:∃x U,a8.toList=x::U:=by
   cases h:a8.toList with
   |nil=>rw[h]at W;simp[A0]at W
   |cons x U=>exact⟨x,U,rfl⟩
  rw[has]at W;simp only[A0,rX]at W;obtain⟨G,W⟩:=W;have c7:=(hg.gd P).ev G;obtain⟨b0,c0⟩:=Fz (hg.gd P) W;have J:(AK (q.clear s.e)=AK s.e/\∀k b,Ar (q.ev s.e) (a.eval x) k=some b->False)\/∃m,q= .t m true/\AK (q.clear s.e)=λn=>if m=n then (AK s.e m).copy else AK s.e n:=by
   cases q with
   |t m mv=>cases mv with
    |false=>simp[Eu]at hb
    |true=>exact .inr ⟨m,rfl,rfl⟩
   |c d=>
    refine .inl ⟨rfl,λk b Z=>?_⟩;cases x with
    |const v=>
     rcases ML G with G|⟨cs,xs,rfl,rfl⟩
     case inr=>cases k<;>simp[Opd.ev,Act.eval,Ar,Am]at Z
     unfold GR at G;split at G<;>first|(cases k<;>simp[Opd.ev,Act.eval,Ar,Am]at Z;done)|(rename_i h _;cases h)|cases G
     all_goals (cases k<;>simp_all [Opd.ev,Act.eval,Ar,Am])
    |tmp n=>simp[oe]at G
    |global n=>simp[oe]at G
    |func f=>cases k<;>cases d<;>first|(simp[Opd.ev,Act.eval,Ar,Am]at Z;done)|(simp[Eu]at hb;done)
   |g n cs=>simp[Eu]at hb
  have a1:Inv g w μ (AK (q.clear s.e)) (λn=>a.tmps.getD n undef) s.h O:=by
   rcases J with ⟨h,_⟩|⟨m,_,h⟩
   .rw[h];exact hg.inv
   .rw[h];refine hg.inv.weaken _ λn=>?_;by_cases hn:m=n
    .subst hn;exact .inr ⟨λv h=>by simpa using RepD.copy h,λv k=>by simpa using CN _ v k⟩
    .exact .inl (by simp[hn])
  have c5:=hg.inv.callO (t':=AK (q.clear s.e)) (ds:=A9 s.e args) (us:=U.map a.eval) (x:=q.ev s.e) (v:=a.eval x) (λn k b hb=>by
    rcases J with ⟨h,_⟩|⟨m,_,h⟩
    .rw[h]at hb;exact hb
    .rw[h]at hb;by_cases hn:m=n
     .subst hn;simp only[if_true,CN]at hb;cases hb
     .simpa[hn]using hb) c7 b0 c0 (λk b Z=>by
    rcases J with ⟨_,h⟩|⟨m,rfl,h⟩
    .exact(h k b Z).elim
    .refine⟨m,?_,λv k=>by rw[h];simp[CN]⟩;cases x with
     |tmp n=>
      simp only[oe,beq_iff_eq]at G;subst G;simpa[Opd.ev,Act.eval]using Z
     |const v=>simp[oe]at G
     |global n=>simp[oe]at G
     |func f=>simp[oe]at G)
  have b1:=c8 g w μ (a.eval x::U.map a.eval) _ s.h (by simp[b0.1.symm,A9]at *;have:=b0.1;simpa[A9]using this) c5 hg.glob;have b6:(execOp a.eval o).run P w= .ok (.enter fid (a.eval x::U.map a.eval).toArray) w:=by
   unfold UF at a6;split at a6
   .rename_i fn c4;simp only[rX,tA]at a6;have h1:¬fn.body=none:=by cases hb:fn.body<;>simp_all
    have h3:¬fn.name= "runtime.NumGoroutine" :=by simpa using a6.2
    have h2:a8.map a.eval=(a.eval x::U.map a.eval).toArray:=by rw[<-tE];simp[has]
    simp[execOp,b5,resolve,c2,Deferred.ofValue,invoke,callFunc,c4,h3,h1,h2]
   .cases a6
  rw[b6,Oper.uponIn_enter];refine⟨(λh=>by simp[WF,Fence.wide]at h),Fx ?_⟩;refine b1.mono ?_;rintro e w' ⟨v,g',μ',rfl,a7,b2,hμ⟩;have a2:Gs GL N g' w' μ' ⟨q.clear s.e,s.h⟩ a O:=⟨a1.ret a7.leave b2 hμ,hg.glob.mono b2.le,hg.sz⟩;refine hn ⟨CL (q.clear s.e) d (Bp rets),s.h⟩ g' w' μ' _ hK ?_ (b2.mono λ_ h ho=>h (.inl ho)) hμ (Cc _ _ _);rw[b4];cases d with
  |none=>exact⟨a2.inv,a2.glob,by rw[BP,a2.sz]⟩
  |some d=>exact a2.setR (by simpa using c3) (a1.retV a7 a2.inv d)
 .cases hk
theorem J5{st:St}{a:Act}{h:List Row}{O:Nat->Prop}{g:Gh}{w:World}{μ:List Nat}(hg:Gd P GL g w μ st.e a h O):∀{ps:List Operand}{G:List Opd},A0 (oe GL) ps G=true->
  All2 (RepG g w μ) (G.map λq=>(q.ev st.e).copy) (ps.map a.eval)/\Tame (G.map λq=>(q.ev st.e).copy) (ps.map a.eval)
 |[],[],_=>⟨.nil,λi d v h=>by simp at h⟩
 |[],_::_,h=>by simp[A0]at h
 |_::_,[],h=>by simp[A0]at h
 |p::ps,q::G,h=>by
  simp only[A0,rX]at h;obtain⟨U,h2⟩:=J5 hg h.2;refine⟨.cons (Y8 (hg.ev h.1)) U,λi d v hd J=>?_⟩
  match i with
  |0=>
   simp only[rq,uj,rV]at hd J;subst hd;subst J;exact Ka _ _
  |i+1=>exact h2 i d v (by simpa using hd) (by simpa using J)
theorem Rx{d:Nat}{e:Nat}(hk:DM P GL N o (.appP d q y' e sz by_)=true)(hg:Gs GL N g w μ s a O)(h:Du P GL (.appP d q y' e sz by_) K s){next:Act->World->Prop}{Q:Exit->Act->World->Prop}(hn:∀s' g' U μ' a',K s'->Gs GL N g' U μ' s' a' O->Chg (λb=>¬O b) g w g' U->μ <+: μ'->a'.defers=a.defers->next a' U):o.wpIn (WF r) 0 P a w next Q:=by
 refine⟨λ_ _=>trivial,?_⟩;simp only[DM,rX,beq_iff_eq,decide_eq_true_eq]at hk;obtain⟨⟨W,a7⟩,h4⟩:=hk;split at h4
 .rename_i b4 ts Z;simp only[rX]at h4;obtain⟨⟨⟨k1,k2⟩,k3⟩,k4⟩:=h4;obtain⟨x,y,rfl,j1⟩:=DZ k1;obtain⟨t,t2,rfl,j3⟩:=DZ k3;simp only[rX]at j1 j3;obtain⟨e2,a8⟩:=Fi j3.2;obtain⟨i,z,hi,rfl,rfl,h0,hz,b3⟩:=Fv k4;rw[Oper.semAt_eq _ _ _ (λc hc=>by rw[Z]at hc;cases hc)];simp only[Du]at h;split at h
  .rename_i xs zv hx hy;obtain⟨b2,G,hK⟩:=h;have b1:=Cv ((hg.gd P).ev j1.2) hy;obtain⟨vy,h1,h2,h3,a2⟩:=JP (P:=P) hg.inv.agree b1 h0 (by simp[BZ,b2]);obtain⟨v,U,g',b,a1,b0,a6⟩:=UD hg (ty:=o.type) (De j3.1) a8 Ac hi hz b3 h0 j1.1 hx (PS hg j1.1 k2) h1 h3 a2 G a7;have J:(execOp a.eval o).run P w= .ok (.value v) U:=by simp[execOp,Z,resolve,invoke,builtin,a1]
   rw[J];refine hn _ g' U μ _ (hK b) ?_ a6 (ro _) (Cc _ _ _);rw[W];exact b0
  .exact h.elim
 .cases h4
theorem Qq{d:Option Nat}{f:Opd}{args:List Opd}(hk:DM P GL N o (.callN d f args)=true)(hg:Gs GL N g w μ s a O)(h:Du P GL (.callN d f args) K s){next:Act->World->Prop}{Q:Exit->Act->World->Prop}(hn:∀s' g' w' μ' a',K s'->Gs GL N g' w' μ' s' a' O->Chg (λb=>¬O b) g w g' w'->μ <+: μ'->a'.defers=a.defers->next a' w'):o.wpIn (WF r) 0 P a w next Q:=by
 refine⟨λ_ _=>trivial,?_⟩;obtain⟨fid,rets,h',hf,⟨J,c0⟩,hK⟩:=h;simp only[DM]at hk;split at hk
 .rename_i f' W ts a6;simp only[rX,beq_iff_eq]at hk;obtain⟨⟨⟨a2,b4⟩,b9⟩,b6⟩:=hk;rw[Oper.semAt_eq _ _ _ (λc hc=>by rw[a6]at hc;cases hc)];obtain⟨a8,b3,b2,c1⟩:=Jv ((hg.gd P).ev b9) hf;obtain rfl:a8=[]:=by have:=b2.1;simpa using this
  obtain⟨b0,b1⟩:=J5 (hg.gd P) b6;have Z:=c0 g w μ _ _ hg.inv.call hg.glob b0 b1;have a7:(execOp a.eval o).run P w= .ok (.enter fid (W.toList.map a.eval).toArray) w:=by
   unfold UF at J;split at J
   .rename_i fn b5;simp only[rX,tA]at J;have h1:¬fn.body=none:=by cases hb:fn.body<;>simp_all
    have h3:¬fn.name= "runtime.NumGoroutine" :=by simpa using J.2
    have h2:W.map a.eval=(W.toList.map a.eval).toArray:=by rw[<-tE];simp
    simp[execOp,a6,resolve,b3,Deferred.ofValue,invoke,callFunc,b5,h3,h1,h2]
   .cases J
  rw[a7,Oper.uponIn_enter];refine⟨(λh=>by simp[WF,Fence.wide]at h),Fx ?_⟩;refine Z.mono ?_;rintro e w' ⟨v,g',μ',rfl,U,a1,hμ⟩;have G:Gs GL N g' w' μ' ⟨s.e,h'⟩ a O:=⟨hg.inv.ret U.leave a1 hμ,hg.glob.mono a1.le,hg.sz⟩;refine hn ⟨CL s.e d (Bp rets),h'⟩ g' w' μ' _ hK ?_ (a1.mono λ_ h ho=>h (.inl ho)) hμ (Cc _ _ _);rw[a2];cases d with
  |none=>exact⟨G.inv,G.glob,by rw[BP,G.sz]⟩
  |some d=>exact G.setR (by simpa using b4) (hg.inv.retV U G.inv d)
 .cases hk
def UO{g:Gh}{sz:Nat}:∀{xs:List V}{us:List Value},(∀x∈xs,x.cells.length=sz)->All2 (RepV g) (xs.flatMap V.cells) us->(∀u∈us,u.oneCell'=true)->
  ∃vs:List Value,All2 (RepV g) xs vs/\us=vs.flatMap (λv=>v.cells.toList)/\∀v∈vs,v.cells.size=sz
 |[],us,_,h,_=>by have:=h.1;simp at this;subst this;exact⟨[],.nil,rfl,Ac⟩
 |x::xs,us,hx,h,h1=>by
  rw[r7]at h;have G:=hx x Ac;have J:All2 (RepV g) x.cells (us.take sz):=by
   have:=h.take sz
   rwa [tg AE,sN AE]at this
  have hb:All2 (RepV g) (xs.flatMap V.cells) (us.drop sz):=by
   have:=h.drop sz
   rwa [<-G,List.drop_left,G]at this
  obtain⟨vs,h2,h3,h4⟩:=UO (λy W=>hx y (by simp[W])) hb (λu hu=>h1 u (tH hu));have ho:∀u∈us.take sz,u.oneCell'=true:=λu hu=>h1 u (s9 hu);have a1:(us.take sz).length=sz:=by rw[J.1,G]
  obtain⟨v,a2,U⟩:∃v,RepV g x v/\v.cells.toList=us.take sz:=by
   generalize us.take sz=Z at J ho;have one:x.cells=[x]->∃v,RepV g x v/\v.cells.toList=Z:=by
    intro hc;rw[hc]at J;obtain⟨u,rfl⟩:∃u,Z=[u]:=by
     match Z,J.1 with
     |[u],_=>exact⟨u,rfl⟩
    exact⟨u,(All2.cons_iff.1 J).1,by rw[HG (ho u Ac)]⟩
   cases x with
   |agg cs=>exact⟨.agg Z.toArray,.agg' J ho,by simp[Value.cells]⟩
   |_=>exact one rfl
  refine⟨v::vs,.cons a2 h2,by rw[r7,U,<-h3,sa],λy W=>?_⟩;rcases rj.1 W with rfl|W
  .rw[<-a1,<-U];simp
  .exact h4 y W
def VE(h:∃a:Option Addr,u= .slice a 0 0/\∀x,a=some x->x.spot=none):RepV g (.list []) u:=by
 obtain⟨a,rfl,G⟩:=h;cases a with
 |none=>exact .lnil
 |some a=>exact .list [] a 0 0 (λ_=> .bool false) (G a rfl) (ri _) Ac Ac
theorem UM{g:Gh}{w:World}{μ:List Nat}:∀{ds:List D}{xs:List V}{us:List Value},D.vs? ds=some xs->All2 (RepE g w μ) ds us->All2 (RepV g) xs us
 |[],xs,us,h,ha=>by simp only[D.vs?,rV]at h;subst h;exact⟨by simpa using ha.1,λi x v h=>by simp at h⟩
 |d::ds,xs,us,h,ha=>by
  obtain⟨u,G,rfl⟩:∃u G,us=u::G:=by
   match us,ha.1 with
   |u::G,_=>exact⟨u,G,rfl⟩
  obtain⟨J,h2⟩:=All2.cons_iff.1 ha;simp only[D.vs?]at h;split at h
  .rename_i x W hx U;simp only[rV]at h;subst h;refine .cons ?_ (UM U h2);cases d<;>simp only[D.v?,rV,reduceCtorEq]at hx<;>subst hx
   .exact J
   .exact VE J
   .exact RepOwn.list J.1
  .cases h
def Sr:∀(vs:List Value),vs.flatMap (λv=>v.cells.toList)=Ba vs.length λi=>vs.getD i (.bool false)
 |[]=>rfl
 |v::vs=>by
  have e2:Ba (v::vs).length (λi=>(v::vs).getD i (.bool false))=v.cells.toList++Ba vs.length (λi=>vs.getD i (.bool false)):=by simp[Ba,u9,un]
  rw[e2,r7,Sr vs]
theorem NE{z:Array Value}(h:v∈(Builtin.zeroCells z n).toList):v∈z.toList:=by
 simp[Builtin.zeroCells]at h;obtain⟨i,hi,rfl⟩:=h;have G:0 <z.size:=by
  rcases ur z.size with h|h
  .rw[h]at hi;omega
  .exact h
 have J:=Nat.mod_lt i G;simp[J]
theorem Qv{d:Nat}{e:Nat}(hk:DM P GL N o (.appR d q y' e sz by_)=true)(hg:Gs GL N g w μ s a O)(h:Du P GL (.appR d q y' e sz by_) K s)(a7:∀e' s',q.ev s.e= .W e' s' []\/(q.moved=true/\q.ev s.e= .nil e' s')->¬Du P GL (.app d q y' e sz by_) K s){next:Act->World->Prop}{Q:Exit->Act->World->Prop}(hn:∀s' g' w' μ' a',K s'->Gs GL N g' w' μ' s' a' O->Chg (λb=>¬O b) g w g' w'->μ <+: μ'->a'.defers=a.defers->next a' w'):o.wpIn (WF r) 0 P a w next Q:=by
 refine⟨λ_ _=>trivial,?_⟩;simp only[DM,rX,beq_iff_eq,decide_eq_true_eq]at hk;obtain⟨⟨a6,b4⟩,h4⟩:=hk;split at h4
 .rename_i e4 ts b0;simp only[rX]at h4;obtain⟨⟨⟨k1,k3⟩,k4⟩,k5⟩:=h4;obtain⟨x,y,rfl,j1⟩:=DZ k1;obtain⟨t,t2,rfl,j3⟩:=DZ k3;simp only[rX]at j1 j3;obtain⟨e2,b5⟩:=Fi j3.2;obtain⟨i,z,hi,rfl,rfl,h0,hz,e7⟩:=Fv k4;have d9:∀v∈z.cells.toList,v.oneCell'=true:=by rw[hi]at k5;simp only[sW,hz,Option.any_some]at k5;exact ry.1 k5
  have ht:=De j3.1;rw[Oper.semAt_eq _ _ _ (λc hc=>by rw[b0]at hc;cases hc)];simp only[Du]at h;obtain⟨base,G,U,a1,hy,hh,J,h⟩:∃(base:Option Addr)(G:List V),a.eval x= .slice base 0 0/\(∀x,base=some x->x.spot=none)/\(y'.ev s.e).toV=some (.list G)/\BZ i.size G=true/\AV G.length i.bytes=true/\
    if G.isEmpty=true then K ⟨(d,.nil e i.size)::s.e,s.h⟩ else ∀k,K ⟨(d,.sr s.h.length G.length)::s.e,s.h++[.cells ((G.flatMap V.cells).map .v++List.replicate k .any)]⟩:=by
   have a2:=(hg.gd P).ev j1.1;split at h
   .rename_i e' s' G hq hy;rw[hq]at a2;obtain⟨base,U,a1⟩:=a2;obtain⟨hh,J,h⟩:=h;refine⟨base,G,U,a1,hy,hh,J,h.resolve_left λ⟨hm,hK⟩=>a7 e' s' (.inr ⟨hm,hq⟩) ?_⟩;simp[Du,AI.step,hq,EC,hy,hh,J];exact hK
   .rename_i e' s' G hq hy;rw[hq]at a2;obtain⟨hh,J,h⟩:=h;obtain⟨⟨base,U,_,a1⟩|⟨b,cap,e5,vs,U,e3,_⟩,d6⟩:=a2
    .refine⟨base,G,U,a1,hy,hh,J,(h.resolve_left λ⟨he,hs,hK⟩=>a7 e' s' (.inl hq) ?_).2⟩;subst he hs;simp[Du,AI.step,hq,EC,hy,hh,J];exact hK
    .have h:=h.resolve_left λ⟨he,hs,hK⟩=>a7 e' s' (.inl hq) (by subst he hs;simp[Du,AI.step,hq,EC,hy,hh,J];exact hK)
     obtain⟨a',b3⟩:=d6 rfl h.1;rw[U]at b3;simp at b3;omega
   .exact h.elim
  have d8:=Cv ((hg.gd P).ev j1.2) hy;obtain⟨W,h1,h2,h3,c6⟩:=JP (P:=P) hg.inv.agree d8 h0 hh;by_cases b2:G=[]
  .subst b2;simp only[List.isEmpty_nil,if_true]at h;have Z:=JS (ty:=o.type) ht b5 Ac hi h1 rfl base 0 0 (ri _);have:(execOp a.eval o).run P w= .ok (.value (.slice base 0 0)) w:=by simp[execOp,b0,resolve,invoke,builtin,U,Z]
   rw[this];refine hn _ g w μ _ h ?_ (Chg.refl _ _ _) (ro _) (Cc _ _ _);rw[a6];exact hg.set b4 (x:= .nil e i.size) ⟨base,rfl,a1⟩ λk=>by cases k<;>cases base<;>simp[Ar,Am]
  .have c2:0 <G.length:=List.length_pos_iff.2 b2;rw[if_neg (by simpa using b2)]at h;obtain⟨b6,b9⟩:=I9 J c2;have Z:=Gw (ty:=o.type) (base:=base) (len:=0) (cap:=0) (olds:=[]) ht b5 Ac hi hz h1 (λw' _=>by cases base<;>simp[Builtin.firstCells,loadCells,loadCellsFrom]) AE (by simpa using b6) (by simpa using b9)
   simp only[tI]at Z;have d4:=grownCap_ge w G.length 0 e
   let zs:=Builtin.zeroCells z.cells (grownCap w G.length 0 e-G.length)
   let ob:Obj:= .cells ((#[]:Array Value)++(Ba G.length W).toArray++zs) e
   have c5:∀v∈zs.toList,v.oneCell'=true:=by intro v hv;exact d9 v (NE hv)
   have c9:Inv g w.drew μ (AK s.e) (λn=>a.tmps.getD n undef) s.h O:=hg.inv.chg ⟨Gh.le.refl g,ri _,λ_ _ _=>rfl,λ_ _ _ _=>rfl,rfl,rfl⟩ hg.inv.agree;have a8:∀o,g.m w.heap.size o=none:=λo=>Gh.lt_of hg.inv.agree (ri _) o;have d7:(w.drew.alloc ob).heap[w.heap.size]?=some (.cells ((Ba G.length W++zs.toList).toArray) e (0,0)):=by
    have:=heap_alloc_new w.drew ob;have e1:(#[]:Array Value)++(Ba G.length W).toArray++zs=(Ba G.length W++zs.toList).toArray:=by rw[<-tE];simp
    rw[<-e1];exact this
   have d3:All2 (RepV g) (G.flatMap V.cells) (Ba G.length W):=by
    have:∀(G:List V)(W:Nat->Value),(∀(j:Nat)y,G[j]?=some y->RepV g y (W j))->All2 (RepV g) (G.flatMap V.cells) (Ba G.length W):=by
     intro G;induction G with
     |nil=>intro W _;exact .nil
     |cons y G ih=>
      intro W c4;have e2:Ba (y::G).length W=(W 0).cells.toList++Ba G.length (λj=>W (j+1)):=by simp[Ba,u9,un]
      rw[e2,r7];exact(c4 0 y rfl).cells.1.append (ih _ λj x hx=>c4 (j+1) x (by simpa using hx))
    exact this G W h2
   have c8:All2 (RepE g (w.drew.alloc ob) (μ++[w.heap.size])) ((G.flatMap V.cells).map .v++List.replicate zs.size .any) (Ba G.length W++zs.toList):=by refine .append (All2.map_left (f:=D.v) (R:=RepV g) (λx y h=>h) d3) ⟨Ac,λj x v hx hv=>?_⟩;have:=(uJ.1 (rY hx)).2;subst this;trivial
   have c1:∀v∈Ba G.length W++zs.toList,v.oneCell'=true:=by
    intro v hv;rcases rp.1 hv with hv|hv
    .obtain⟨j,hj,hm⟩:=Jx hv;exact c6 j hj v hm
    .exact c5 v hv
   have c3:RowOK g (w.drew.alloc ob) (μ++[w.drew.heap.size]) w.drew.heap.size (.cells ((G.flatMap V.cells).map .v++List.replicate zs.size .any)):=⟨_,e,d7,c8,c1,a8⟩;have c0:=c9.newAny (.cells ((G.flatMap V.cells).map .v++List.replicate zs.size .any)) ob c3 (λk ds d hd hk=>by
    simp only[Row.cells.injEq]at hd;subst hd;have hm:=rY hk;rcases rp.1 hm with hm|hm
    .obtain⟨y,_,rfl⟩:=rl.1 hm;simp[Am]
    .have:=(uJ.1 hm).2;subst this;simp[Am])
   have b1:(execOp a.eval o).run P w= .ok (.value (.slice (some ⟨w.heap.size,0,none⟩) G.length (grownCap w G.length 0 e))) (w.drew.alloc ob):=by simp[execOp,b0,resolve,invoke,builtin,U,Z,ob,zs]
   rw[b1];have d2:Chg (λb=>¬O b) g w g w.drew:=⟨Gh.le.refl g,ri _,λ_ _ _=>rfl,λ_ _ _ _=>rfl,rfl,rfl⟩;have c7:Chg (λb=>¬O b) g w g (w.drew.alloc ob):=d2.trans (CO (λb=>¬O b) g w.drew ob);refine hn _ g (w.drew.alloc ob) (μ++[w.heap.size]) _ (h zs.size) ?_ c7 (tS _ _) (Cc _ _ _);rw[a6];have d5:Gs GL N g (w.drew.alloc ob) (μ++[w.heap.size]) ⟨s.e,s.h++[.cells ((G.flatMap V.cells).map .v++List.replicate zs.size .any)]⟩ a O:=⟨c0,hg.glob,hg.sz⟩;exact d5.set b4 (x:= .sr s.h.length G.length) ⟨w.heap.size,_,by rw[<-hg.inv.len];simp,rfl,d4⟩ λk=>by cases k<;>simp[Ar,Am]
 .cases h4
theorem WI{G:CC}{e s:Nat}(h:q.ev G= .W e s []):Eu q=true:=by
 cases q with
 |t n mv=>
  cases mv with
  |true=>rfl
  |false=>simp only[Opd.ev]at h;cases hf:AK G n<;>rw[hf]at h<;>cases h
 |c d=>simp only[Opd.ev]at h;subst h;rfl
 |g n cs=>cases h
theorem Rw{d:Nat}{e:Nat}(G:DM P GL N o (.appR d q y' e sz by_)=true)(hg:Gs GL N g w μ s a O)(h:Du P GL (.appR d q y' e sz by_) K s){next:Act->World->Prop}{Q:Exit->Act->World->Prop}(hn:∀s' g' w' μ' a',K s'->Gs GL N g' w' μ' s' a' O->Chg (λb=>¬O b) g w g' w'->μ <+: μ'->a'.defers=a.defers->next a' w'):o.wpIn (WF r) 0 P a w next Q:=by
 by_cases J:∃U s',(q.ev s.e= .W U s' []\/(q.moved=true/\q.ev s.e= .nil U s'))/\Du P GL (.app d q y' e sz by_) K s
 .obtain⟨U,s',W,hy⟩:=J;refine GJ (ai:= .app d q y' e sz by_) (λ_ _ _=>⟨(λh=>by cases h),(λh=>by cases h)⟩) (λ_ _ _ _ h=>by cases h) (λ_ _ _ _ _ _ h=>by cases h) (λ_ _ _ h=>by cases h) (λ_ _ _ _ _ _ h=>by cases h) ?_ hg hy hn;have hb:Eu q=true:=by
   rcases W with W|⟨Z,_⟩
   .exact WI W
   .cases q with
    |t n mv=>cases mv with
     |true=>rfl
     |false=>cases Z
    |c d=>cases Z
    |g n cs=>cases Z
  simp only[DM]at G ⊢;split at G
  .simp only[rX]at G ⊢;exact⟨G.1,⟨⟨⟨G.2.1.1.1,hb⟩,G.2.1.1.2⟩,G.2.1.2⟩⟩
  .simp at G
 .exact Qv G hg h (λU s' W hy=>J ⟨U,s',W,hy⟩) hn
theorem Rv{ai:AI}(Z:DM P GL N o ai=true)(hg:Gs GL N g w μ s a O)(h:Du P GL ai K s){next:Act->World->Prop}{Q:Exit->Act->World->Prop}(hn:∀s' g' w' μ' a',K s'->Gs GL N g' w' μ' s' a' O->Chg (λb=>¬O b) g w g' w'->μ <+: μ'->a'.defers=a.defers->next a' w'):o.wpIn (WF r) 0 P a w next Q:=by
 by_cases G:∃d f q args,ai= .callO d f q args
 .obtain⟨d,f,q,args,rfl⟩:=G;exact Qp Z hg h hn
 have G:∀d f q args,ai≠ .callO d f q args:=λd f q args h=>G ⟨d,f,q,args,h⟩;by_cases J:∃d x y e s b,ai= .appR d x y e s b
 .obtain⟨d,x,y,e,s,b,rfl⟩:=J;exact Rw Z hg h hn
 have J:∀d x y e s b,ai≠ .appR d x y e s b:=λd x y e s b h=>J ⟨d,x,y,e,s,b,h⟩;by_cases U:∃d f args,ai= .callN d f args
 .obtain⟨d,f,args,rfl⟩:=U;exact Qq Z hg h hn
 have U:∀d f args,ai≠ .callN d f args:=λd f args h=>U ⟨d,f,args,h⟩;by_cases W:∃d x y e s b,ai= .appP d x y e s b
 .obtain⟨d,x,y,e,s,b,rfl⟩:=W;exact Rx Z hg h hn
 have W:∀d x y e s b,ai≠ .appP d x y e s b:=λd x y e s b h=>W ⟨d,x,y,e,s,b,h⟩;by_cases hc:∃d f args,ai= .callF d f args
 .obtain⟨d,f,args,rfl⟩:=hc;exact GJ (ai:= .call d f args) (λ_ _ _=>⟨(λh=>by cases h),(λh=>by cases h)⟩) (λ_ _ _ _ h=>by cases h) (λ_ _ _ _ _ _ h=>by cases h) (λ_ _ _ h=>by cases h) (λ_ _ _ _ _ _ h=>by cases h) Z hg h hn
 .by_cases a1:∃d f args,ai= .callC d f args
  .obtain⟨d,f,args,rfl⟩:=a1;exact GJ (ai:= .call d f args) (λ_ _ _=>⟨(λh=>by cases h),(λh=>by cases h)⟩) (λ_ _ _ _ h=>by cases h) (λ_ _ _ _ _ _ h=>by cases h) (λ_ _ _ h=>by cases h) (λ_ _ _ _ _ _ h=>by cases h) Z hg h hn
  .exact GJ (λd f args=>⟨λh=>hc ⟨d,f,args,h⟩,λh=>a1 ⟨d,f,args,h⟩⟩) G J U W Z hg h hn
theorem HN{x:GI}(G:Iu P GL N ops i x=true)(hg:Gs GL N g w μ s a O)(h:Ec P GL x K s){next:Act->World->Prop}{Q:Exit->Act->World->Prop}(hn:∀s' g' w' μ' a',K s'->Gs GL N g' w' μ' s' a' O->Chg (λb=>¬O b) g w g' w'->μ <+: μ'->a'.defers=a.defers->next a' w'):wpOpIn (WF r) 0 P ops Q i next a w:=by
 unfold Iu at G;split at G
 .cases G
 .rename_i o ho;simp only[rX]at G;obtain⟨J,a7⟩:=G;simp only[wpOpIn,ho];have go:Du P GL x.i K s->o.wpIn (WF r) 0 P a w next Q:=λh=>Rv a7 hg h hn;cases hog:o.guard with
  |none=>
   cases hxg:x.g with
   |none=>
    simp only[Ec,hxg]at h;rw[if_pos (by simp[Region.wanted,hog])];exact go h
   |some p=>simp[hog,hxg]at J
  |some p=>
   obtain⟨j,a8⟩:=p;cases hxg:x.g with
   |none=>simp[hog,hxg]at J
   |some p'=>
    obtain⟨t,b1⟩:=p';simp only[hog,hxg,rX,beq_iff_eq]at J;obtain⟨⟨hj,rfl⟩,a6⟩:=J;simp only[Ec,hxg]at h;have W:=hg.inv.rep t;have skip:K ⟨CL s.e x.i.dst (.tup []),s.h⟩->next (a.put o.dst undef) w:=λh2=>by
     refine hn _ g w μ _ h2 ?_ (Chg.refl _ _ _) (ro _) (Cc _ _ _);rw[<-a6];cases hd:x.i.dst with
     |none=>exact⟨hg.inv,hg.glob,by rw[BP,hg.sz]⟩
     |some d=>
      have b0:d <N:=by
       have:∀(ai:AI),DM P GL N o ai=true->ai.dst=some d->d <N:=by
        intro ai U hd;cases ai<;>simp only[AI.dst,rV,reduceCtorEq]at hd<;>(try subst hd)<;>simp only[DM,rX,decide_eq_true_eq]at U
        all_goals first
         |exact U.1.2
         |exact U.1.1.2
         |(cases U;done)
         |(split at U
           .simp only[rX,beq_iff_eq,decide_eq_true_eq]at U;first|exact U.1.1.2|exact U.1.1.1.2
           .cases U)
       exact this x.i a7 hd
      exact hg.set b0 (x:= .tup []) (v:=undef) ⟨[],rfl,.nil⟩ λk=>by simp[Ar,undef,Am]
    split at h
    .rename_i b hb;rw[hb]at W;have hv:=GW W;have hy:yielded ops a.tmps j=some b:=by
      have h2:a.tmps[t]?=some (.bool b):=by
       cases hq:a.tmps[t]? with
       |none=>simp[hq,undef]at hv
       |some u=>simpa[hq]using hv
      simp[yielded,hj,h2]
     by_cases a1:b=a8
     .subst a1;simp only[if_true]at h;rw[if_pos (by simp[Region.wanted,hog,hy])];exact go h
     .simp only[a1,if_false]at h;rw[if_neg (by simp[Region.wanted,hog,hy,a1])];exact⟨λ_ _=>trivial,skip h⟩
    .rename_i hb;rw[hb]at W;obtain⟨us,hv,a2⟩:=W;have hu:us=[]:=sf a2.1;subst hu;have hy:yielded ops a.tmps j=none:=by
      have h2:∀b,a.tmps[t]?≠some (.bool b):=by intro b Z;simp[Z]at hv
      unfold yielded;rw[hj];show (match a.tmps[t]? with|some (.bool b)=>some b|_=>none)=none
      split
      .rename_i b Z;exact absurd Z (h2 b)
      .rfl
     rw[if_neg (by simp[Region.wanted,hog,hy])];exact⟨λ_ _=>trivial,skip h⟩
    .exact h.elim
def J9{ops:Array Oper}{Q:Exit->Act->World->Prop}:∀(l:List Nat)(G:List GI){K:St->Prop}{g:Gh}{w:World}{μ:List Nat}{s:St}{a:Act}{O:Nat->Prop},
  A0 (Iu P GL N ops) l G=true->Gs GL N g w μ s a O->Bd P GL G K s->(∀a' J,After GL N K g w μ a O a' J->Q .normal a' J)->wpOpsIn (WF r) 0 P ops Q l a w
 |[],[],K,g,w,μ,s,a,O,_,hg,h,hq=>by simp only[wpOpsIn];exact hq a w ⟨s,g,μ,h,hg,Chg.refl _ _ _,ro _,rfl⟩
 |[],_::_,_,_,_,_,_,_,_,hk,_,_,_=>by simp[A0]at hk
 |_::_,[],_,_,_,_,_,_,_,hk,_,_,_=>by simp[A0]at hk
 |i::l,x::G,K,g,w,μ,s,a,O,hk,hg,h,hq=>by simp only[A0,rX]at hk;rw[wpOpsIn_cons];exact HN hk.1 hg h λs' g' J μ' a' hK hgs hch hμ hd=>J9 l G hk.2 hgs hK λU W h2=>hq U W (h2.trans hch hμ hd)
theorem KY(rets:List V):Bp (rets.map .v)=JW rets:=by
 match rets with
 |[]=>rfl
 |[x]=>rfl
 |x::y::r=>rfl
theorem PSp.fsp{args rets:List V}(W:PSp P GL f args rets)(h:List Row):FSp P GL f (args.map .v) h (rets.map .v) h:=by refine⟨W.1,λg w μ us O hinv hgl hall _=>(W.2 g w us hinv.agree hgl ⟨by simpa using hall.1,λi x v hx hv=>hall.2 i (.v x) v (by simp[hx]) hv⟩).mono ?_⟩;rintro e w' ⟨v,Z,rfl,J,G,U⟩;obtain⟨h1,h2⟩:=Um (μ:=μ) J;rw[KY];exact⟨v,Z,μ,rfl,(hinv.chg G U).set (d:=0) h1 h2,G.mono λ_ h=>h.elim,ro _⟩
end
end
section
def Opd.rd:Opd->List Nat
 | .t n _=>[n]
 |_=>[]
def Opd.wr:Opd->List Nat
 | .t n true=>[n]
 |_=>[]
def Opd.rds:List Opd->List Nat
 |[]=>[]
 |x::xs=>x.rd++Opd.rds xs
def Opd.rdo:Option Opd->List Nat
 |some x=>x.rd
 |none=>[]
def PI.rd:PI->List Nat
 | .pick c a b=>c.rd++(a.rd++b.rd)
 | .build _ ps=>Opd.rds (ps.map (·.2.2))
 | .load a _ _=>a.rd
 | .nilc x=>x.rd
 | .bin _ x y=>x.rd++y.rd
 | .eqB _ x y=>x.rd++y.rd
 | .eqA _ _ x y=>x.rd++y.rd
 | .eqP _ x y=>x.rd++y.rd
 | .not x=>x.rd
 | .neg x=>x.rd
 | .cint _ x=>x.rd
 | .faddr x _ _=>x.rd
 | .fld x _ _ _=>x.rd
 | .iaddr x i _=>x.rd++i.rd
 | .iaddrA x i _ _=>x.rd++i.rd
 | .iaddrP x i _=>x.rd++i.rd
 | .idxS x i=>x.rd++i.rd
 | .slc x lo hi _=>x.rd++(Opd.rdo lo++Opd.rdo hi)
 | .ext x _=>x.rd
 | .mkf _ caps=>Opd.rds caps
 | .mkme _ caps=>Opd.rds caps
 | .idxA x i _ _ _=>x.rd++i.rd
 | .alen x=>x.rd
 | .lenS x=>x.rd
 | .b2s x=>x.rd
 | .look m k _ _ _ _ _=>m.rd++k.rd
 | .minmax _ x y=>x.rd++y.rd
inductive Kd where
 |n|r|a|w|t
 deriving DecidableEq
def AI.kd:AI->Kd
 | .p _ (.load _ _ _)=> .r
 | .p _ (.look _ _ _ _ _ _ _)=> .r
 | .alloc _ _| .box _ _| .mkm _| .mksl _ _ _| .mksz _ _ _| .callC _ _ _=> .a
 | .take _ _=> .t
 | .store _ _ _| .mput _ _ _ _ _| .mdel _ _ _ _ _| .callF _ _ _| .mest _ _ _| .ment _ _ _ _ _| .cpy _ _ _ _| .fin _ _ _ _ _=> .w
 |_=> .n
def AI.rd:AI->List Nat
 | .p _ i=>i.rd
 | .mv _ x=>x.rd
 | .alloc _ _=>[]
 | .box _ x=>x.rd
 | .store a x _=>a.rd++x.rd
 | .take _ a=>a.rd
 | .app _ x y _ _ _=>x.rd++y.rd
 | .appS _ x y _ _=>x.rd++y.rd
 | .bsl _ _ _ ps=>Opd.rds ps
 | .s2b _ x=>x.rd
 | .nilS _ _ x=>x.rd
 | .mkm _=>[]
 | .mksl _ x _=>x.rd
 | .mput m k v _ _=>m.rd++(k.rd++v.rd)
 | .ment _ m k _ _=>m.rd++k.rd
 | .mest m b v=>m.rd++(b.rd++v.rd)
 | .mdel _ m k _ _=>m.rd++k.rd
 | .call _ f args=>f.rd++Opd.rds args
 | .callF _ f args=>f.rd++Opd.rds args
 | .callC _ f args=>f.rd++Opd.rds args
 | .callO _ f q args=>f.rd++(q.rd++Opd.rds args)
 | .appR _ x y _ _ _=>x.rd++y.rd
 | .mksz _ x _=>x.rd
 | .callN _ f args=>f.rd++Opd.rds args
 | .appP _ x y _ _ _=>x.rd++y.rd
 | .fin m ad pp x _=>[m]++(ad.rd++(pp.rd++x.rd))
 | .cpy _ x y _=>x.rd++y.rd
def AI.wr:AI->List Nat
 | .p d _| .alloc d _| .box d _| .take d _| .bsl d _ _ _| .s2b d _| .nilS d _ _| .mkm d| .mksl d _ _| .ment d _ _ _ _=>[d]
 | .mput _ _ _ _ _=>[]
 | .mest _ _ _=>[]
 | .mdel d _ _ _ _=>d.toList
 | .mv d x| .app d x _ _ _ _| .appS d x _ _ _=>d::x.wr
 | .store _ x _=>x.wr
 | .call d _ _=>d.toList
 | .callF d _ _=>d.toList
 | .callC d _ _=>d.toList
 | .callO d _ q _=>d.toList++q.wr
 | .appR d _ _ _ _ _=>[d]
 | .mksz d _ _=>[d]
 | .callN d _ _=>d.toList
 | .appP d x _ _ _ _=>d::x.wr
 | .fin m _ _ _ _=>[m]
 | .cpy d _ _ _=>d.toList
def GI.rd(x:GI):List Nat:=(match x.g with|some (t,_)=>[t]|none=>[])++x.i.rd
def GI.wr(x:GI):List Nat:=x.i.dst.toList++x.i.wr
def Same(e e2:CC)(l:List Nat):Prop:=∀n∈l,AK e2 n=AK e n
variable {e:CC}
def Same.left{e2:CC}{a b:List Nat}(h:Same e e2 (a++b)):Same e e2 a:=λn G=>h n (ut _ G)
def Same.right{e2:CC}{a b:List Nat}(h:Same e e2 (a++b)):Same e e2 b:=λn G=>h n (uV _ G)
def Same.ev{e e2:CC}{x:Opd}(h:Same e e2 x.rd):x.ev e2=x.ev e:=by
 cases x with
 |t n mv=>simp[Opd.ev,h n (by simp[Opd.rd])]
 |c d=>rfl
 |g n cs=>rfl
def Same.toCells{e e2:CC}{sz:Nat}:∀{xs:List Opd},Same e e2 (Opd.rds xs)->Go.Va.SC e2 sz xs=Go.Va.SC e sz xs
 |[],_=>rfl
 |x::xs,h=>by simp only[Go.Va.SC,Same.ev (Same.left h),Same.toCells (Same.right h)]
def Same.toVs{e e2:CC}:∀{xs:List Opd},Same e e2 (Opd.rds xs)->Go.Va.I1 e2 xs=Go.Va.I1 e xs
 |[],_=>rfl
 |x::xs,h=>by simp only[Go.Va.I1,Same.ev (Same.left h),Same.toVs (Same.right h)]
def Same.argsOf{e e2:CC}:∀{xs:List Opd},Same e e2 (Opd.rds xs)->Go.Va.A9 e2 xs=Go.Va.A9 e xs
 |[],_=>rfl
 |x::xs,h=>by have:=Same.argsOf (Same.right h);simp only[Go.Va.A9]at this ⊢;simp only[rq,Same.ev (Same.left h),this]
def Same.caps{e e2:CC}:∀{xs:List Opd},Same e e2 (Opd.rds xs)->FT e2 xs=FT e xs
 |[],_=>rfl
 |x::xs,h=>by simp only[FT,Same.ev (Same.left h),Same.caps (Same.right h)]
def Same.fill{e e2:CC}:∀{ps:List (Nat×Nat×Opd)}{cs:List D},Same e e2 (Opd.rds (ps.map (·.2.2)))->Fu e2 cs ps=Fu e cs ps
 |[],_,_=>rfl
 |(o,n,x)::ps,cs,h=>by
  have G:Same e e2 x.rd:=Same.left h;have h2:Same e e2 (Opd.rds (ps.map (·.2.2))):=Same.right h;simp only[Fu,G.ev];split
  .split
   .exact Same.fill h2
   .rfl
  .rfl
def Same.opt{e2:CC}{x:Option Opd}(h:Same e e2 (Opd.rdo x)):x.map (·.ev e2)=x.map (·.ev e):=by
 cases x with
 |none=>rfl
 |some x=>simp[Same.ev (x:=x) h]
def PI.kd:PI->Kd
 | .load _ _ _=> .r
 | .look _ _ _ _ _ _ _=> .r
 |_=> .n
def LoadEq(h h2:List Row):Prop:=h2.length=h.length/\∀r:Nat,h2[r]?=h[r]?\/∃ds es:List D,h[r]?=some (.cells ds)/\h2[r]?=some (.cells es)/\es.map D.copy=ds.map D.copy
theorem LoadEq.symm{h h2:List Row}(G:LoadEq h h2):LoadEq h2 h:=⟨G.1.symm,λr=>(G.2 r).elim (λh=> .inl h.symm) λ⟨ds,es,J,h2,N⟩=> .inr ⟨es,ds,h2,J,N.symm⟩⟩
variable {xs:List V} {ds:List D} {off r sz:Nat} {h:List Row}
def LoadEq.take{e:Nat}(J:h[r]?=some (.cells ds))(hd:ds[off]?=some (.W e sz xs)):LoadEq h (h.set r (.cells (ds.set off (.v (.list xs))))):=by
 refine⟨Ac,λi=>?_⟩;by_cases hi:r=i
 .subst hi;refine .inr ⟨ds,_,J,sY (rZ.1 J).1,?_⟩;apply sl;intro j;rw[rk,rk,sr];by_cases G:off=j
  .subst G;have:=(rZ.1 hd).1;rw[if_pos rfl,if_pos this,hd];rfl
  .rw[if_neg G]
 .exact .inl (sG hi)
def Rn{es:List D}(h:es.map D.copy=ds.map D.copy)(off n:Nat)(G:Bool):D.part es off n G=D.part ds off n G:=by
 have J:es.length=ds.length:=by have:=congrArg List.length h;simpa using this
 unfold D.part;rw[J];split
 .cases G with
  |true=>
   simp only[if_true,rV,D.agg.injEq];rw[sQ,uB,h,<-uB,<-sQ]
  |false=>
   simp only[rz,if_false];rw[<-rk,h,rk]
 .rfl
theorem PI.val_same{h2:List Row}(W:LoadEq h h2){i:PI}{x:D}(G:i.val e h=some x):i.val e h2=some x:=by
 have O:∀(r:Nat)es bs ck,h[r]?=some (.map es bs ck)->h2[r]?=some (.map es bs ck):=λr es bs ck J=>by
  rcases W.2 r with h|⟨ds,_,N,_⟩
  .rw[h];exact J
  .rw[N]at J;cases J
 cases i<;>try exact G
 .rename_i a n Z;simp only[PI.val]at G ⊢;split at G
  .exact G
  .rename_i r off ha;split at G
   .rename_i ds J;rcases W.2 r with h|⟨a1,es,N,h2,h3⟩
    .rw[h,J];exact G
    .rw[J]at N;simp only[rV,Row.cells.injEq]at N;subst N;simp only[h2,Rn h3];exact G
   .cases G
  .cases G
 .rename_i m k st ks zs Z ok;simp only[PI.val]at G ⊢;split at G
  .split at G
   .rename_i U;rw[if_pos U];split at G
    .rename_i z hz;split at G
     .exact G
     .rename_i r ha;split at G
      .rename_i es bs ck J;simp only[O r es bs ck J];exact G
      .cases G
     .cases G
    .cases G
   .cases G
  .cases G
def PI.val_congr{e2:CC}{i:PI}(G:Same e e2 i.rd):i.val e2 h=i.val e h:=by
 cases i with
 |pick c a b=>simp only[PI.val,(Same.left G).ev,(Same.left (Same.right G)).ev,(Same.right (Same.right G)).ev]
 |build zs ps=>simp only[PI.val,Same.fill G]
 |load a n ag=>simp only[PI.val,Same.ev (x:=a) G]
 |nilc x=>simp only[PI.val,Same.ev (x:=x) G]
 |bin op x y=>simp only[PI.val,(Same.left G).ev,(Same.right G).ev]
 |eqB ne x y=>simp only[PI.val,(Same.left G).ev,(Same.right G).ev]
 |eqA ne ks x y=>simp only[PI.val,(Same.left G).ev,(Same.right G).ev]
 |eqP ne x y=>simp only[PI.val,(Same.left G).ev,(Same.right G).ev]
 |not x=>simp only[PI.val,Same.ev (x:=x) G]
 |neg x=>simp only[PI.val,Same.ev (x:=x) G]
 |cint k x=>simp only[PI.val,Same.ev (x:=x) G]
 |faddr x o n=>simp only[PI.val,Same.ev (x:=x) G]
 |fld x o n ag=>simp only[PI.val,Same.ev (x:=x) G]
 |iaddr x i s=>simp only[PI.val,(Same.left G).ev,(Same.right G).ev]
 |iaddrP x i s=>simp only[PI.val,(Same.left G).ev,(Same.right G).ev]
 |iaddrA x i l s=>simp only[PI.val,(Same.left G).ev,(Same.right G).ev]
 |idxS x i=>simp only[PI.val,(Same.left G).ev,(Same.right G).ev]
 |slc x lo hi s=>simp only[PI.val,(Same.left G).ev,Same.opt (Same.left (Same.right G)),Same.opt (Same.right (Same.right G))]
 |ext x i=>
  cases x with
  |t n mv=>simp only[PI.val,G n (by simp[PI.rd,Opd.rd])]
  |c d=>rfl
  |g n cs=>rfl
 |mkf f caps=>simp only[PI.val,Same.caps G]
 |mkme f caps=>simp only[PI.val,Same.caps G]
 |idxA x i n s ag=>simp only[PI.val,(Same.left G).ev,(Same.right G).ev]
 |alen x=>simp only[PI.val,Same.ev (x:=x) G]
 |lenS x=>simp only[PI.val,Same.ev (x:=x) G]
 |look m k st ks zs ag ok=>simp only[PI.val,(Same.left G).ev,(Same.right G).ev]
 |b2s x=>simp only[PI.val,Same.ev (x:=x) G]
 |minmax mx x y=>simp only[PI.val,(Same.left G).ev,(Same.right G).ev]
def PI.val_heap{h2:List Row}{i:PI}(G:i.kd= .n):i.val e h2=i.val e h:=by cases i<;>first|rfl|cases G
theorem PI.val_grow{t:List Row}{i:PI}{x:D}(G:i.val e h=some x):i.val e (h++t)=some x:=by
 cases hk:i.kd with
 |n=>rw[PI.val_heap (h2:=h++t) hk];exact G
 |r=>
  cases i with
  |load a n ag=>
   simp only[PI.val]at G ⊢;split at G
   .exact G
   .rename_i r off O;split at G
    .rename_i ds J;have:(h++t)[r]?=some (.cells ds):=by rw[sI (rZ.1 J).1];exact J
     simp only[this];exact G
    .cases G
   .cases G
  |look m k st ks zs ag ok=>
   simp only[PI.val]at G ⊢;split at G
   .split at G
    .rename_i N;rw[if_pos N];split at G
     .rename_i z U;split at G
      .exact G
      .rename_i r O;split at G
       .rename_i es bs ck J;have:(h++t)[r]?=some (.map es bs ck):=by rw[sI (rZ.1 J).1];exact J
        simp only[this];exact G
       .cases G
      .cases G
     .cases G
    .cases G
   .cases G
  |_=>cases hk
 |a=>cases i<;>cases hk
 |w=>cases i<;>cases hk
 |t=>cases i<;>cases hk
end
section
def Opd.clr(e:CC):Opd->CC
 | .t n true=>[(n,(AK e n).copy)]
 |_=>[]
theorem FH(x:Opd)(e:CC):x.clear e=x.clr e++e:=by
 cases x with
 |t n mv=>cases mv<;>rfl
 |_=>rfl
theorem Same.clr{e e2:CC}{x:Opd}(h:Same e e2 x.rd):x.clr e2=x.clr e:=by
 cases x with
 |t n mv=>cases mv<;>simp[Opd.clr,h n (by simp[Opd.rd])]
 |_=>rfl
variable {e:CC}
theorem PL{x:Opd}{p:Nat×D}(h:p∈x.clr e):p.1∈x.wr:=by
 cases x with
 |t n mv=>cases mv<;>simp_all [Opd.clr,Opd.wr]
 |_=>simp[Opd.clr]at h
structure Local (R:St->St->Prop) (rd wr:List Nat) (kd:Kd) (s:St) (δ:CC) (h':List Row):Prop where
 wr:∀p∈δ,p.1∈wr
 here:∀e2,Same s.e e2 rd->R ⟨e2,s.h⟩ ⟨δ++e2,h'⟩
 n:kd= .n->h'=s.h/\∀e2 h2,Same s.e e2 rd->R ⟨e2,h2⟩ ⟨δ++e2,h2⟩
 r:kd= .r->h'=s.h/\(∀e2 t,Same s.e e2 rd->R ⟨e2,s.h++t⟩ ⟨δ++e2,s.h++t⟩)/\∀e2 h2,LoadEq s.h h2->Same s.e e2 rd->R ⟨e2,h2⟩ ⟨δ++e2,h2⟩
 a:kd= .a->∃t,h'=s.h++t
 t:kd= .t->LoadEq s.h h'
variable {s:St}
theorem Local.ofN{R:St->St->Prop}{rd wr:List Nat}{δ:CC}{kd:Kd}(J:∀p∈δ,p.1∈wr)(h:∀e2 h2,Same s.e e2 rd->R ⟨e2,h2⟩ ⟨δ++e2,h2⟩):Local R rd wr kd s δ s.h where
 wr:=J
 here:=λe2 G=>h e2 s.h G
 n:=λ_=>⟨rfl,h⟩
 r:=λ_=>⟨rfl,λe2 t G=>h e2 _ G,λe2 h2 _ G=>h e2 h2 G⟩
 a:=λ_=>⟨[],Ac⟩
 t:=λ_=>⟨rfl,λr=> .inl rfl⟩
variable {s':St}
theorem Q7{i:AI}(h:i.step s=some s'):∃δ h',s'=⟨δ++s.e,h'⟩/\Local (λs s'=>i.step s=some s') i.rd i.wr i.kd s δ h':=by
 cases i with
 |p d i=>
  simp only[AI.step,rt]at h;obtain⟨x,hx,rfl⟩:=h;cases hk:i.kd with
  |n=>
   refine⟨[(d,x)],s.h,rfl,.ofN (by simp[AI.wr]) λe2 h2 G=>?_⟩;simp only[AI.step,PI.val_congr (i:=i) G,PI.val_heap (h:=s.h) (h2:=h2) hk,hx,sT];rfl
  |r=>
   have a1:(AI.p d i).kd= .r:=by cases i<;>first|rfl|cases hk
   refine⟨[(d,x)],s.h,rfl,by simp[AI.wr],λe2 G=>?_,λh=>(by rw[a1]at h;cases h),λ_=>⟨rfl,λe2 t G=>?_,λe2 h2 hq G=>?_⟩,λh=>(by rw[a1]at h;cases h),λh=>(by rw[a1]at h;cases h)⟩
   .simp only[AI.step,PI.val_congr (i:=i) G,hx,sT];rfl
   .simp only[AI.step,PI.val_congr (i:=i) G,PI.val_grow hx,sT];rfl
   .simp only[AI.step,PI.val_congr (i:=i) G,PI.val_same hq hx,sT];rfl
  |a=>cases i<;>cases hk
  |w=>cases i<;>cases hk
  |t=>cases i<;>cases hk
 |mv d x=>
  simp only[AI.step,rV]at h;subst h;refine⟨(d,x.ev s.e)::x.clr s.e,s.h,by rw[FH];rfl,.ofN ?_ λe2 h2 G=>?_⟩
  .intro p O;rcases rj.1 O with rfl|O
   .simp[AI.wr]
   .exact th _ (PL O)
  .simp only[AI.step,Same.ev (x:=x) G,FH,Same.clr (x:=x) G];rfl
 |alloc d zs=>
  simp only[AI.step,rV]at h;subst h;refine⟨[(d,.R s.h.length 0)],_,rfl,by simp[AI.wr],λe2 G=>rfl,(λh=>by cases h),(λh=>by cases h),(λ_=>⟨_,rfl⟩),(λh=>by cases h)⟩
 |box d x=>
  simp only[AI.step]at h;split at h
  .rename_i cs Z;simp only[rV]at h;subst h;refine⟨[(d,.R s.h.length 0)],_,rfl,by simp[AI.wr],λe2 G=>?_,(λh=>by cases h),(λh=>by cases h),(λ_=>⟨_,rfl⟩),(λh=>by cases h)⟩;simp only[AI.step,Same.ev (x:=x) G,Z];rfl
  .cases h
 |store a x n=>
  have e0:∀e2,Same s.e e2 (AI.store a x n).rd->a.ev e2=a.ev s.e/\x.ev e2=x.ev s.e:=λe2 G=>⟨(Same.left G).ev,(Same.right G).ev⟩;simp only[AI.step]at h;split at h
  .rename_i r b0 ha;split at h
   .rename_i ds N;split at h
    .rename_i e sz xs hx;split at h
     .rename_i m;split at h
      .rename_i hc;simp only[rV]at h;subst h;refine⟨[(m,.any)],_,rfl,by simp[AI.wr,Opd.wr],λe2 G=>?_,(λh=>by cases h),(λh=>by cases h),(λh=>by cases h),(λh=>by cases h)⟩;simp only[AI.step,(e0 e2 G).1,ha,N,(e0 e2 G).2,hx,hc,and_self,if_true];rfl
      .cases h
     .cases h
    .rename_i bb e sz xs hx;split at h
     .rename_i m;split at h
      .rename_i hc;simp only[rV]at h;subst h;refine⟨[(m,.pptr bb 0 xs.length)],_,rfl,by simp[AI.wr,Opd.wr],λe2 G=>?_,(λh=>by cases h),(λh=>by cases h),(λh=>by cases h),(λh=>by cases h)⟩;simp only[AI.step,(e0 e2 G).1,ha,N,(e0 e2 G).2,hx,hc,and_self,if_true];rfl
      .cases h
     .cases h
    .rename_i b1 a6;split at h
     .rename_i cs Z;split at h
      .rename_i hc;simp only[rV]at h;subst h;refine⟨[],_,rfl,Ac,λe2 G=>?_,(λh=>by cases h),(λh=>by cases h),(λh=>by cases h),(λh=>by cases h)⟩;simp only[AI.step,(e0 e2 G).1,ha,N,(e0 e2 G).2,Z];generalize b4:x.ev s.e=X at b1 a6 Z;cases X<;>simp_all
      .cases h
     .cases h
   .cases h
  .cases h
 |take d a=>
  simp only[AI.step]at h;split at h
  .rename_i r b0 ha;split at h
   .rename_i ds N;split at h
    .rename_i e sz xs hx;simp only[rV]at h;subst h;refine⟨[(d,.W e sz xs)],_,rfl,by simp[AI.wr],λe2 G=>?_,(λh=>by cases h),(λh=>by cases h),(λh=>by cases h),λ_=>LoadEq.take N hx⟩;simp only[AI.step,Same.ev (x:=a) G,ha,N,hx];rfl
    .cases h
   .cases h
  .cases h
 |app d x y e sz b=>
  have e0:∀e2,Same s.e e2 (AI.app d x y e sz b).rd->x.ev e2=x.ev s.e/\y.ev e2=y.ev s.e:=λe2 G=>⟨(Same.left G).ev,(Same.right G).ev⟩;simp only[AI.step]at h;split at h
  .rename_i xs ys hx hy;split at h
   .rename_i hc;simp only[rV]at h;subst h;refine⟨(d,.W e sz (xs++ys))::x.clr s.e,s.h,by rw[FH];rfl,.ofN ?_ λe2 h2 G=>?_⟩
    .intro p O;rcases rj.1 O with rfl|O
     .simp[AI.wr]
     .exact th _ (PL O)
    .simp only[AI.step,(e0 e2 G).1,(e0 e2 G).2,hx,hy,hc,and_self,if_true,FH,Same.clr (x:=x) (Same.left G)];rfl
   .cases h
  .cases h
 |appS d x y e b=>
  have e0:∀e2,Same s.e e2 (AI.appS d x y e b).rd->x.ev e2=x.ev s.e/\y.ev e2=y.ev s.e:=λe2 G=>⟨(Same.left G).ev,(Same.right G).ev⟩;simp only[AI.step]at h;split at h
  .rename_i xs ys hx hy;split at h
   .rename_i hc;simp only[rV]at h;subst h;refine⟨(d,.W e 1 (xs++ys.data.toList.map λc=> .int .u8 c.toNat))::x.clr s.e,s.h,by rw[FH];rfl,.ofN ?_ λe2 h2 G=>?_⟩
    .intro p O;rcases rj.1 O with rfl|O
     .simp[AI.wr]
     .exact th _ (PL O)
    .simp only[AI.step,(e0 e2 G).1,(e0 e2 G).2,hx,hy,hc,if_true,FH,Same.clr (x:=x) (Same.left G)];rfl
   .cases h
  .cases h
 |bsl d e sz ps=>
  simp only[AI.step]at h;split at h
  .rename_i vs a7;split at h
   .rename_i a2;cases vs with
    |nil=>
     simp only[rV]at h;subst h;refine⟨[(d,.nil e sz)],s.h,rfl,.ofN (by simp[AI.wr]) λe2 h2 G=>?_⟩;simp only[AI.step,Same.toVs (xs:=ps) G,a7];rfl
    |cons v vs=>
     simp only[rV]at h;subst h;refine⟨[(d,.W e sz (v::vs))],s.h,rfl,.ofN (by simp[AI.wr]) λe2 h2 G=>?_⟩;simp only[AI.step,Same.toVs (xs:=ps) G,a7,a2,if_true];rfl
   .cases h
  .cases h
 |s2b d x=>
  simp only[AI.step]at h;split at h
  .rename_i b hb;simp only[rV]at h;subst h;refine⟨[(d,.v (.list (b.data.toList.map λc=> .int .u8 c.toNat)))],s.h,rfl,.ofN (by simp[AI.wr]) λe2 h2 G=>?_⟩;simp only[AI.step,Same.ev (x:=x) G,hb];rfl
  .cases h
 |nilS d ne x=>cases h
 |mksl d x z=>
  simp only[AI.step]at h;split at h
  .rename_i k n hn;split at h
   .rename_i hc;simp only[rV]at h;subst h;refine⟨[(d,.sr s.h.length n.toNat)],_,rfl,by simp[AI.wr],λe2 G=>?_,(λh=>by cases h),(λh=>by cases h),(λ_=>⟨_,rfl⟩),(λh=>by cases h)⟩;simp only[AI.step,Same.ev (x:=x) G,hn,if_pos hc];rfl
   .cases h
  .cases h
 |mkm d=>
  simp only[AI.step,rV]at h;subst h;exact⟨[(d,.mr s.h.length)],_,rfl,by simp[AI.wr],λe2 G=>rfl,(λh=>by cases h),(λh=>by cases h),(λ_=>⟨_,rfl⟩),(λh=>by cases h)⟩
 |ment d m k st ks=>
  have e0:∀e2,Same s.e e2 (AI.ment d m k st ks).rd->m.ev e2=m.ev s.e/\k.ev e2=k.ev s.e:=λe2 G=>⟨(Same.left G).ev,(Same.right G).ev⟩;have J:∃x,s'=⟨(d,x)::s.e,s.h⟩/\∀e2,Same s.e e2 (AI.ment d m k st ks).rd->(AI.ment d m k st ks).step ⟨e2,s.h⟩=some ⟨(d,x)::e2,s.h⟩:=by
   simp only[AI.step]at h;split at h
   .rename_i r hm;split at h
    .rename_i es bs ck N;split at h
     .rename_i kv W;split at h
      .rename_i U;split at h
       .rename_i i hi;split at h
        .rename_i p n O hn;simp only[rV]at h;subst h;exact⟨_,rfl,λe2 G=>by simp only[AI.step,(e0 e2 G).1,(e0 e2 G).2,hm,N,W,U,if_true,hi,O,hn]⟩
        .cases h
       .cases h
      .cases h
     .cases h
    .cases h
   .cases h
  obtain⟨x,rfl,J⟩:=J;exact⟨[(d,x)],s.h,rfl,by simp[AI.wr],J,(λh=>by cases h),(λh=>by cases h),(λh=>by cases h),(λh=>by cases h)⟩
 |mest m b v=>
  have e0:∀e2,Same s.e e2 (AI.mest m b v).rd->m.ev e2=m.ev s.e/\b.ev e2=b.ev s.e/\v.ev e2=v.ev s.e:=λe2 G=>⟨(Same.left G).ev,(Same.left (Same.right G)).ev,(Same.right (Same.right G)).ev⟩;have J:∃h',s'=⟨s.e,h'⟩/\∀e2,Same s.e e2 (AI.mest m b v).rd->(AI.mest m b v).step ⟨e2,s.h⟩=some ⟨e2,h'⟩:=by
   simp only[AI.step]at h;split at h
   .rename_i r hm;split at h
    .rename_i es bs ck N;split at h
     .rename_i kk n vv hb hv;split at h
      .rename_i i hi;split at h
       .rename_i p O;simp only[rV]at h;subst h;exact⟨_,rfl,λe2 G=>by simp only[AI.step,(e0 e2 G).1,(e0 e2 G).2.1,(e0 e2 G).2.2,hm,N,hb,hv,hi,O]⟩
       .cases h
      .cases h
     .cases h
    .cases h
   .cases h
  obtain⟨h',rfl,J⟩:=J;exact⟨[],h',rfl,Ac,J,(λh=>by cases h),(λh=>by cases h),(λh=>by cases h),(λh=>by cases h)⟩
 |mput m k v st ks=>
  have e0:∀e2,Same s.e e2 (AI.mput m k v st ks).rd->m.ev e2=m.ev s.e/\k.ev e2=k.ev s.e/\v.ev e2=v.ev s.e:=λe2 G=>⟨(Same.left G).ev,(Same.left (Same.right G)).ev,(Same.right (Same.right G)).ev⟩;have J:∃h',s'=⟨s.e,h'⟩/\∀e2,Same s.e e2 (AI.mput m k v st ks).rd->(AI.mput m k v st ks).step ⟨e2,s.h⟩=some ⟨e2,h'⟩:=by
   simp only[AI.step]at h;split at h
   .rename_i r hm;split at h
    .rename_i es N;split at h
     .rename_i kv vv W a8;split at h
      .rename_i U;split at h
       .rename_i hf;simp only[rV]at h;subst h;exact⟨_,rfl,λe2 G=>by simp only[AI.step,(e0 e2 G).1,(e0 e2 G).2.1,(e0 e2 G).2.2,hm,N,W,a8,U,hf,if_true]⟩
       .rename_i j hf;simp only[rV]at h;subst h;exact⟨_,rfl,λe2 G=>by simp only[AI.step,(e0 e2 G).1,(e0 e2 G).2.1,(e0 e2 G).2.2,hm,N,W,a8,U,hf,if_true]⟩
       .cases h
      .cases h
     .cases h
    .cases h
   .cases h
  obtain⟨h',rfl,J⟩:=J;exact⟨[],h',rfl,Ac,J,(λh=>by cases h),(λh=>by cases h),(λh=>by cases h),(λh=>by cases h)⟩
 |mdel d m k st ks=>
  have e0:∀e2,Same s.e e2 (AI.mdel d m k st ks).rd->m.ev e2=m.ev s.e/\k.ev e2=k.ev s.e:=λe2 G=>⟨(Same.left G).ev,(Same.right G).ev⟩;have J:∃h',s'=⟨CL s.e d (.tup []),h'⟩/\∀e2,Same s.e e2 (AI.mdel d m k st ks).rd->(AI.mdel d m k st ks).step ⟨e2,s.h⟩=some ⟨CL e2 d (.tup []),h'⟩:=by
   simp only[AI.step]at h;split at h
   .rename_i r hm;split at h
    .rename_i es N;split at h
     .rename_i kv W;split at h
      .rename_i U;split at h
       .rename_i hf;simp only[rV]at h;subst h;exact⟨_,rfl,λe2 G=>by simp only[AI.step,(e0 e2 G).1,(e0 e2 G).2,hm,N,W,U,hf,if_true]⟩
       .rename_i j hf;simp only[rV]at h;subst h;exact⟨_,rfl,λe2 G=>by simp only[AI.step,(e0 e2 G).1,(e0 e2 G).2,hm,N,W,U,hf,if_true]⟩
       .cases h
      .cases h
     .cases h
    .cases h
   .cases h
  obtain⟨h',rfl,J⟩:=J;cases d with
  |none=>exact⟨[],h',rfl,Ac,J,(λh=>by cases h),(λh=>by cases h),(λh=>by cases h),(λh=>by cases h)⟩
  |some d=>exact⟨[(d,.tup [])],h',rfl,by simp[AI.wr],J,(λh=>by cases h),(λh=>by cases h),(λh=>by cases h),(λh=>by cases h)⟩
 |call d f args=>cases h
 |callF d f args=>cases h
 |callC d f args=>cases h
 |callO d f q args=>cases h
 |appR d x y e s b=>cases h
 |callN d f args=>cases h
 |appP d x y e s b=>cases h
 |fin m ad p x sz=>
  have e0:∀e2,Same s.e e2 (AI.fin m ad p x sz).rd->AK e2 m=AK s.e m/\ad.ev e2=ad.ev s.e/\p.ev e2=p.ev s.e/\x.ev e2=x.ev s.e:=λe2 G=>
   ⟨G m (by simp[AI.rd]),(Same.left (Same.right G)).ev,(Same.left (Same.right (Same.right G))).ev,(Same.right (Same.right (Same.right G))).ev⟩
  have J:∃δ h',s'=⟨δ++s.e,h'⟩/\(∀q∈δ,q.1=m)/\∀e2,Same s.e e2 (AI.fin m ad p x sz).rd->(AI.fin m ad p x sz).step ⟨e2,s.h⟩=some ⟨δ++e2,h'⟩:=by
   simp only[AI.step]at h;split at h
   .rename_i b s0 n y O hx;split at h
    .rename_i b' e s2 xs hf;split at h
     .rename_i hc;simp only[rV]at h;subst h;refine⟨[(m,.W e sz (xs++[y]))],s.h,rfl,Ac,λe2 G=>?_⟩;obtain⟨q1,q2,q3,q4⟩:=e0 e2 G;simp only[AI.step,q3,q4,O,hx,q1,hf,if_pos hc];rfl
     .cases h
    .rename_i b2;split at h
     .rename_i r b0 ha;split at h
      .rename_i ds N;split at h
       .rename_i b' e s2 xs hd;split at h
        .rename_i hc;simp only[rV]at h;subst h;refine⟨[],_,rfl,Ac,λe2 G=>?_⟩;obtain⟨q1,q2,q3,q4⟩:=e0 e2 G;simp only[AI.step,q3,q4,O,hx,q1,q2,ha];cases hfm:AK s.e m with
         |pend b3 e3 s3 xs3=>exact absurd hfm (b2 _ _ _ _)
         |_=>simp only[N,hd,if_pos hc];rfl
        .cases h
       .cases h
      .cases h
     .cases h
   .cases h
  obtain⟨δ,h',rfl,hw,J⟩:=J;exact⟨δ,h',rfl,λq hq=>by simp[AI.wr,hw q hq],J,(λh=>by cases h),(λh=>by cases h),(λh=>by cases h),(λh=>by cases h)⟩
 |mksz d x zs=>
  simp only[AI.step]at h;split at h
  .rename_i k n hn;split at h
   .rename_i hc;simp only[rV]at h;subst h;refine⟨[(d,.sr s.h.length n.toNat)],_,rfl,by simp[AI.wr],λe2 G=>?_,(λh=>by cases h),(λh=>by cases h),(λ_=>⟨_,rfl⟩),(λh=>by cases h)⟩;simp only[AI.step,Same.ev (x:=x) G,hn,if_pos hc];rfl
   .cases h
  .cases h
 |cpy d x y sz=>
  have e0:∀e2,Same s.e e2 (AI.cpy d x y sz).rd->x.ev e2=x.ev s.e/\y.ev e2=y.ev s.e:=λe2 G=>⟨(Same.left G).ev,(Same.right G).ev⟩;have J:∃v h',s'=⟨CL s.e d v,h'⟩/\∀e2,Same s.e e2 (AI.cpy d x y sz).rd->(AI.cpy d x y sz).step ⟨e2,s.h⟩=some ⟨CL e2 d v,h'⟩:=by
   simp only[AI.step]at h;split at h
   .rename_i r n hx;split at h
    .rename_i ys hy;split at h
     .rename_i ds N;split at h
      .rename_i hc;simp only[rV]at h;subst h;exact⟨_,_,rfl,λe2 G=>by simp only[AI.step,(e0 e2 G).1,(e0 e2 G).2,hx,hy,N,if_pos hc]⟩
      .cases h
     .cases h
    .cases h
   .cases h
  obtain⟨v,h',rfl,J⟩:=J;cases d with
  |none=>exact⟨[],h',rfl,Ac,J,(λh=>by cases h),(λh=>by cases h),(λh=>by cases h),(λh=>by cases h)⟩
  |some d=>exact⟨[(d,v)],h',rfl,by simp[AI.wr],J,(λh=>by cases h),(λh=>by cases h),(λh=>by cases h),(λh=>by cases h)⟩
section
variable (P:Program) (GL:Ai)
def Gq(fd:D)(args:List D)(h:List Row)(rets:List D)(h':List Row):Prop:=
 match fd with
 | .yld r=>∃b,Ky P GL r args h b h'/\rets=[.v (.bool b)]
 | .meth fid fs=>FSp P GL fid (fs++args) h rets h'
 |fd=>∃fid caps,Dn fd=some (fid,caps)/\FSp P GL fid (args++caps) h rets h'
def K4(i:AI)(s s':St):Prop:=
 i.step s=some s'\/(∃d f args fid caps vs rets,i= .call d f args/\(f.ev s.e).toV=some (.func fid caps)/\I1 s.e args=some vs/\PSp P GL fid (vs++caps) rets/\s'=⟨CL s.e d (JW rets),s.h⟩)\/
 (∃d f args rets h',(i= .callF d f args\/i= .callC d f args/\∃t,h'=s.h++t)/\Gq P GL (f.ev s.e) (A9 s.e args) s.h rets h'/\s'=⟨CL s.e d (Bp rets),h'⟩)\/
 ∃d f q args fid rets,i= .callO d f q args/\Dn (f.ev s.e)=some (fid,[])/\cR P GL fid (q.ev s.e::A9 s.e args) rets/\s'=⟨CL (q.clear s.e) d (Bp rets),s.h⟩
def Bh(x:GI)(s s':St):Prop:=
 match x.g with
 |none=>K4 P GL x.i s s'
 |some (t,want)=>match AK s.e t with
  | .v (.bool b)=>if b=want then K4 P GL x.i s s' else s'=⟨CL s.e x.i.dst (.tup []),s.h⟩
  | .tup []=>s'=⟨CL s.e x.i.dst (.tup []),s.h⟩
  |_=>False
def M7:List GI->St->St->Prop
 |[],s,s'=>s'=s
 |x::rest,s,s'=>∃s1,Bh P GL x s s1/\M7 rest s1 s'
end
variable {n:Nat}
section
variable {P:Program} {GL:Ai}
def dO(d:Option Nat)(x:D):CC:=match d with|some d=>[(d,x)]|none=>[]
def Ey(e:CC)(d:Option Nat)(x:D):CL e d x=dO d x++e:=by cases d<;>rfl
theorem Ql{d:Option Nat}{x:D}{p:Nat×D}(h:p∈dO d x):p.1∈d.toList:=by cases d<;>simp_all [dO]
def K3{i:AI}(h:K4 P GL i s s'):∃δ h',s'=⟨δ++s.e,h'⟩/\Local (K4 P GL i) i.rd i.wr i.kd s δ h':=by
 rcases h with h|⟨d,f,args,fid,caps,vs,rets,rfl,N,W,J,rfl⟩|⟨d,f,args,rets,h',hi,hc,rfl⟩|⟨d,f,q,args,fid,rets,rfl,N,J,rfl⟩
 .obtain⟨δ,h',G,l⟩:=Q7 h;exact⟨δ,h',G,l.wr,λe2 x=> .inl (l.here e2 x),λk=>⟨(l.n k).1,λe2 h2 x=> .inl ((l.n k).2 e2 h2 x)⟩,λk=>⟨(l.r k).1,λe2 h2 x=> .inl ((l.r k).2.1 e2 h2 x),λe2 h2 U x=> .inl ((l.r k).2.2 e2 h2 U x)⟩,l.a,l.t⟩
 .refine⟨dO d (JW rets),s.h,by rw[Ey],.ofN (λp J=>Ql J) λe2 h2 G=> .inr (.inl ⟨d,f,args,fid,caps,vs,rets,rfl,?_,?_,J,by rw[Ey]⟩)⟩
  .rw[Same.ev (x:=f) (Same.left G)];exact N
  .rw[Same.toVs (xs:=args) (Same.right G)];exact W
 .rcases hi with rfl|⟨rfl,O⟩
  .refine⟨dO d (Bp rets),h',by rw[Ey],λp J=>Ql J,λe2 G=> .inr (.inr (.inl ⟨d,f,args,rets,h',.inl rfl,?_,by rw[Ey]⟩)),(λh=>by cases h),(λh=>by cases h),(λh=>by cases h),(λh=>by cases h)⟩;rw[Same.ev (x:=f) (Same.left G),Same.argsOf (xs:=args) (Same.right G)];exact hc
  .refine⟨dO d (Bp rets),h',by rw[Ey],λp J=>Ql J,λe2 G=> .inr (.inr (.inl ⟨d,f,args,rets,h',.inr ⟨rfl,O⟩,?_,by rw[Ey]⟩)),(λh=>by cases h),(λh=>by cases h),(λ_=>O),(λh=>by cases h)⟩;rw[Same.ev (x:=f) (Same.left G),Same.argsOf (xs:=args) (Same.right G)];exact hc
 .refine⟨dO d (Bp rets)++q.clr s.e,s.h,by rw[Ey,FH,rn],.ofN (λp J=>?_) λe2 h2 G=> .inr (.inr (.inr ⟨d,f,q,args,fid,rets,rfl,?_,?_,by rw[Ey,FH,Same.clr (x:=q) (Same.left (Same.right G)),rn]⟩))⟩
  .rcases rp.1 J with h|h
   .exact ut _ (Ql h)
   .exact uV _ (PL h)
  .rw[Same.ev (x:=f) (Same.left G)];exact N
  .rw[Same.ev (x:=q) (Same.left (Same.right G)),Same.argsOf (xs:=args) (Same.right (Same.right G))];exact J
theorem G7{x:GI}(h:Bh P GL x s s'):∃δ h',s'=⟨δ++s.e,h'⟩/\Local (Bh P GL x) x.rd x.wr x.i.kd s δ h':=by
 obtain⟨g,i⟩:=x;cases g with
 |none=>
  obtain⟨δ,h',J,l⟩:=K3 (i:=i) h;have N:∀e2,Same s.e e2 (GI.rd ⟨none,i⟩)->Same s.e e2 i.rd:=λe2 J=>by simpa[GI.rd]using J
  exact⟨δ,h',J,λp W=>uV _ (l.wr p W),λe2 x=>l.here e2 (N e2 x),λk=>⟨(l.n k).1,λe2 h2 x=>(l.n k).2 e2 h2 (N e2 x)⟩,λk=>⟨(l.r k).1,λe2 h2 x=>(l.r k).2.1 e2 h2 (N e2 x),λe2 h2 hq x=>(l.r k).2.2 e2 h2 hq (N e2 x)⟩,l.a,l.t⟩
 |some tw=>
  obtain⟨t,G⟩:=tw;have N:∀{e2},Same s.e e2 (GI.rd ⟨some (t,G),i⟩)->Same s.e e2 i.rd:=λJ=>Same.right J;have ht:∀{e2},Same s.e e2 (GI.rd ⟨some (t,G),i⟩)->AK e2 t=AK s.e t:=λJ=>J t (by simp[GI.rd]);have skip:∀{s':St},s'=⟨CL s.e i.dst (.tup []),s.h⟩->(∀e2 h2,AK e2 t=AK s.e t->Bh P GL ⟨some (t,G),i⟩ ⟨e2,h2⟩ ⟨CL e2 i.dst (.tup []),h2⟩)->
    ∃δ h',s'=⟨δ++s.e,h'⟩/\Local (Bh P GL ⟨some (t,G),i⟩) (GI.rd ⟨some (t,G),i⟩) (GI.wr ⟨some (t,G),i⟩) i.kd s δ h':=by
   rintro s' rfl U;refine⟨dO i.dst (.tup []),s.h,by rw[Ey],.ofN (λp W=>ut _ (Ql W)) λe2 h2 J=>?_⟩;have:=U e2 h2 (ht J);rw[Ey]at this;exact this
  simp only[Bh]at h;split at h
  .rename_i b hb;split at h
   .rename_i O;obtain⟨δ,h',J,l⟩:=K3 (i:=i) h;have Z:∀{e2:CC}{h2:List Row}{s2:St},Same s.e e2 (GI.rd ⟨some (t,G),i⟩)->K4 P GL i ⟨e2,h2⟩ s2->Bh P GL ⟨some (t,G),i⟩ ⟨e2,h2⟩ s2:=by intro e2 h2 s2 J hj;simp only[Bh,ht J,hb,O,if_true];exact hj
    exact⟨δ,h',J,λp W=>uV _ (l.wr p W),λe2 x=>Z x (l.here e2 (N x)),λk=>⟨(l.n k).1,λe2 h2 x=>Z x ((l.n k).2 e2 h2 (N x))⟩,λk=>⟨(l.r k).1,λe2 h2 x=>Z x ((l.r k).2.1 e2 h2 (N x)),λe2 h2 hq x=>Z x ((l.r k).2.2 e2 h2 hq (N x))⟩,l.a,l.t⟩
   .rename_i O;refine skip h λe2 h2 hf=>?_;simp only[Bh,hf,hb,O,if_false]
  .rename_i hb;refine skip h λe2 h2 hf=>?_;simp only[Bh,hf,hb]
  .exact h.elim
def EqS(s s':St):Prop:=(∀n,AK s.e n=AK s'.e n)/\s.h=s'.h
def EqS.refl(s:St):EqS s s:=⟨λ_=>rfl,rfl⟩
theorem EqS.trans{a b c:St}(h:EqS a b)(h':EqS b c):EqS a c:=⟨λn=>(h.1 n).trans (h'.1 n),h.2.trans h'.2⟩
def Jz{δ:CC}{G:CC}(h:∀n,AK e n=AK G n)(n:Nat):AK (δ++e) n=AK (δ++G) n:=by
 induction δ with
 |nil=>exact h n
 |cons p δ ih=>simp only[sw,AK];split<;>first|rfl|exact ih
def FQ{δ:CC}(h:∀p∈δ,p.1≠n):AK (δ++e) n=AK e n:=by
 induction δ with
 |nil=>rfl
 |cons p δ ih=>
  simp only[sw,AK];rw[if_neg (h p Ac),ih λq G=>h q (by simp[G])]
def Tn{δ':CC}{p:Nat×D}(h:p.1≠n):AK (δ'++p::e) n=AK (δ'++e) n:=by
 induction δ' with
 |nil=>simp[AK,h]
 |cons q δ' ih=>simp only[sw,AK];split<;>first|rfl|exact ih
def Tm{δ δ':CC}(h:∀p∈δ,∀q∈δ',p.1≠q.1)(n:Nat):AK (δ++(δ'++e)) n=AK (δ'++(δ++e)) n:=by
 induction δ with
 |nil=>rfl
 |cons p δ N=>
  have N:=N λq J=>h q (by simp[J]);simp only[sw,AK];by_cases G:p.1=n
  .rw[if_pos G,FQ (δ:=δ') λq J=>by rw[<-G];exact(h p Ac q J).symm];simp[AK,G]
  .rw[if_neg G,N,Tn G]
theorem KW:∀{l:List GI}{s s2 t:St},M7 P GL l s t->EqS s s2->∃G,M7 P GL l s2 G/\EqS t G
 |[],s,s2,t,h,he=>by cases h;exact⟨s2,rfl,he⟩
 |x::l,s,s2,t,⟨s1,h1,h⟩,he=>by
  obtain⟨δ,h',rfl,J⟩:=G7 h1;have h2:Bh P GL x s2 ⟨δ++s2.e,h'⟩:=by have:=J.here s2.e (λn _=>(he.1 n).symm);rw[he.2]at this;exact this
  obtain⟨G,N,O⟩:=KW (s2:=⟨δ++s2.e,h'⟩) h ⟨λn=>Jz he.1 n,rfl⟩;exact⟨G,⟨_,h2,N⟩,O⟩
def Xp(a b:List Nat):Bool:=a.all λn=> !b.contains n
def Kq{a b:List Nat}(h:Xp a b=true)(G:n∈a)(J:n∈b):False:=by have:=ry.1 h n G;simp[J]at this
def na:Kd->Kd->Bool
 | .n,_=>true
 |_,.n=>true
 | .r,.r=>true
 | .r,.a=>true
 | .r,.t=>true
 | .t,.r=>true
 |_,_=>false
def ID(y x:GI):Bool:=Xp y.wr x.rd&&Xp x.wr y.rd&&Xp y.wr x.wr&&na y.i.kd x.i.kd
theorem YJ{y x:GI}(hi:ID y x=true){s1 s2:St}(hy:Bh P GL y s s1)(hx:Bh P GL x s1 s2):∃a1 a2,Bh P GL x s a1/\Bh P GL y a1 a2/\EqS s2 a2:=by
 simp only[ID,rX]at hi;obtain⟨⟨⟨d1,d2⟩,d3⟩,W⟩:=hi;obtain⟨δy,a7,rfl,N⟩:=G7 hy;obtain⟨δx,a6,rfl,lx⟩:=G7 hx;have O:Same (δy++s.e) s.e x.rd:=λn J=>(FQ λp hp Z=>Kq d1 (N.wr p hp) (Z▸J)).symm;have U:Same s.e (δx++s.e) y.rd:=λn J=>FQ λp hp Z=>Kq d2 (lx.wr p hp) (Z▸J);have G:∀n,AK (δx++(δy++s.e)) n=AK (δy++(δx++s.e)) n:=λn=>Tm (λp hp q hq h=>Kq d3 (N.wr q hq) (h▸lx.wr p hp)) n;cases hky:y.i.kd with
 |n=>
  obtain⟨rfl,J⟩:=N.n hky;exact⟨_,_,lx.here s.e O,J _ _ U,G,rfl⟩
 |r=>
  obtain⟨rfl,hr⟩:=N.r hky;cases hkx:x.i.kd with
  |n=>
   obtain⟨rfl,J⟩:=lx.n hkx;exact⟨_,_,J _ _ O,N.here _ U,G,rfl⟩
  |r=>
   obtain⟨rfl,J⟩:=lx.r hkx;have:=J.1 s.e [] O;simp only[sk]at this;exact⟨_,_,this,N.here _ U,G,rfl⟩
  |a=>
   obtain⟨t,rfl⟩:=lx.a hkx;exact⟨_,_,lx.here s.e O,hr.1 _ t U,G,rfl⟩
  |t=>exact⟨_,_,lx.here s.e O,hr.2 _ _ (lx.t hkx) U,G,rfl⟩
  |w=>rw[hky,hkx]at W;cases W
 |a=>
  cases hkx:x.i.kd with
  |n=>
   obtain⟨rfl,J⟩:=lx.n hkx;exact⟨_,_,J _ s.h O,N.here _ U,G,rfl⟩
  |_=>rw[hky,hkx]at W;cases W
 |t=>
  cases hkx:x.i.kd with
  |n=>
   obtain⟨rfl,J⟩:=lx.n hkx;exact⟨_,_,J _ s.h O,N.here _ U,G,rfl⟩
  |r=>
   obtain⟨rfl,J⟩:=lx.r hkx;exact⟨_,_,J.2 _ s.h (N.t hky).symm O,N.here _ U,G,rfl⟩
  |_=>rw[hky,hkx]at W;cases W
 |w=>
  cases hkx:x.i.kd with
  |n=>
   obtain⟨rfl,J⟩:=lx.n hkx;exact⟨_,_,J _ s.h O,N.here _ U,G,rfl⟩
  |_=>rw[hky,hkx]at W;cases W
def Ve{x:GI}{G:List GI}:∀{pre:List GI}{s t:St},(∀y∈pre,ID y x=true)->M7 P GL (pre++x::G) s t->∃t',M7 P GL (x::(pre++G)) s t'/\EqS t t'
 |[],s,t,_,h=>⟨t,h,EqS.refl t⟩
 |y::pre,s,t,hp,⟨s1,h1,h⟩=>by obtain⟨t',⟨s2,h2,Z⟩,he⟩:=Ve (λz hz=>hp z (by simp[hz])) h;obtain⟨O,U,h4,h5,J⟩:=YJ (hp y Ac) h1 h2;obtain⟨W,h6,N⟩:=KW Z J;exact⟨W,⟨O,h4,U,h5,h6⟩,he.trans N⟩
end
end
section
inductive AT where
 |done
 |take (i:Nat) (t:AT)
 |pick (c:AT)
 |alt (i:Nat) (t rest:AT)
 |none
 deriving Inhabited
inductive AC where
 |skip
 |reg (ops:List GI) (keep:List Nat)
 |regD (ops:List GI) (keep:List Nat) (Az:List (List Nat))
 |regA (ops:List GI) (keep:List Nat) (Az:List (List Nat)) (t:AT)
 |regV (ops:List GI) (keep:List Nat) (Az:List (List Nat))
 |seq (a b:AC)
 |cond (x:Opd) (a b:AC)
 |block (id:Nat) (c:AC)
 |loop (c:AC)
 |exit (id:Nat)
 |ret
 |rangeF (g:Opd) (ps:List Nat) (asg body:AC)
 |never
 deriving Inhabited
def AC.flat:AC->Bool
 | .rangeF _ _ _ _=>false
 | .seq a b=>a.flat&&b.flat
 | .cond _ a b=>a.flat&&b.flat
 | .block _ c=>c.flat
 | .loop c=>c.flat
 |_=>true
section
variable (P:Program) (GL:Ai)
def AT.ok(is:List GI):AT->(St->Prop)->St->Prop
 | .done,K,s=>K s
 | .take i t,K,s=>∃s1,Bh P GL (is.getD i default) s s1/\t.ok is K s1
 | .pick c,K,s=>c.ok is K s
 | .alt i t r,K,s=>(∃s1,Bh P GL (is.getD i default) s s1/\t.ok is K s1)/\r.ok is K s
 | .none,_,_=>True
def AnyJ(is:List GI)(Az:List (List Nat))(K:St->Prop):Nat->List Nat->St->Prop
 |0,_,s=>K s
 |n+1,rem,s=>∀i∈rem,(∀j∈(Az[i]?).getD [],j∉rem)->∃s1,Bh P GL (is.getD i default) s s1/\AnyJ is Az K n (rem.erase i) s1
def NQ(is:List GI)(Az:List (List Nat))(K:St->Prop):Nat->List Nat->St->Prop
 |0,_,s=>K s
 |n+1,rem,s=>∀i∈rem,(∀j∈(Az[i]?).getD [],j∉rem)->Ec P GL (is.getD i default) (λs1=>NQ is Az K n (rem.erase i) s1) s
end
def bI(ops:Array Oper)(is:List GI)(Az:List (List Nat)):Bool:=
 (List.range ops.size).all λi=>match ops[i]?,Az[i]?,is[i]? with
  |some o,some cl,some x=>o.after.all (λe=> !Region.binds .any e||decide (e.on <i))&&
    cl.all (λj=>o.after.any λe=>Region.binds .any e&&(e.on==j||((Az[e.on]?).getD []).contains j))&&
    (List.range i).all (λj=>cl.contains j||(match is[j]? with|some y=>ID y x|none=>false))
  |_,_,_=>false
def Tz(ops:Array Oper)(is:List GI)(Az:List (List Nat)):Bool:=
 (List.range ops.size).all λi=>match ops[i]?,Az[i]?,is[i]? with
  |some o,some cl,some _=>o.after.all (λe=> !Region.binds .any e||decide (e.on <i))&&
    cl.all (λj=>o.after.any λe=>Region.binds .any e&&(e.on==j||((Az[e.on]?).getD []).contains j))
  |_,_,_=>false
def Wu(Az:List (List Nat))(rem:List Nat)(i:Nat):Bool:=rem.contains i&&((Az[i]?).getD []).all λj=> !rem.contains j
def AT.heads:AT->List Nat
 | .alt i _ r=>i::r.heads
 |_=>[]
def AT.good:AT->Bool
 | .alt _ _ _=>false
 | .none=>false
 |_=>true
def AT.chk(is:List GI)(Az:List (List Nat)):AT->List Nat->Bool
 | .done,rem=>rem.isEmpty
 | .take i t,rem=>Wu Az rem i&&t.good&&rem.all (λj=>j==i||((Az[j]?).getD []).contains i||ID (is.getD i default) (is.getD j default))&&t.chk is Az (rem.erase i)
 | .pick c,rem=> !rem.isEmpty&&rem.all (λj=> !Wu Az rem j||c.heads.contains j)&&c.chk is Az rem
 | .alt i t r,rem=>Wu Az rem i&&t.good&&t.chk is Az (rem.erase i)&&r.chk is Az rem
 | .none,_=>true
def Do(P:Program)(GL:Ai)(N:Nat):Code->AC->Bool
 |_,.never=>true
 | .skip,.skip=>true
 | .region _ ops false,.reg is _=>A0 (Iu P GL N ops) (List.range ops.size) is
 | .region _ ops true,.regD is _ Az=>A0 (Iu P GL N ops) (List.range ops.size) is&&bI ops is Az&&P.follows .mixedOrders
 | .region _ ops true,.regA is _ Az t=>A0 (Iu P GL N ops) (List.range ops.size) is&&Tz ops is Az&&t.chk is Az (List.range ops.size)&&t.good&&P.follows .mixedOrders
 | .region _ ops true,.regV is _ Az=>A0 (Iu P GL N ops) (List.range ops.size) is&&Tz ops is Az&&P.follows .mixedOrders
 | .seq a b,.seq a' b'=>Do P GL N a a'&&Do P GL N b b'
 | .cond x a b,.cond x' a' b'=>oe GL x x'&&Do P GL N a a'&&Do P GL N b b'
 | .block id c,.block id' c'=>id==id'&&Do P GL N c c'
 | .loop c,.loop c'=>Do P GL N c c'
 | .exit id,.exit id'=>id==id'
 | .ret,.ret=>true
 | .rangeFunc g ps asg body,.rangeF g' ps' asg' body'=>oe GL g g'&&ps.toList==ps'&&ps'.all (λp=>decide (p <N))&&asg'.flat&&body'.flat&&Do P GL N asg asg'&&Do P GL N body body'
 |_,_=>false
def FI(e:CC):CC:=e.map λp=>(p.1,p.2.copy)
def ZN:Tag->Loop->Prop
 | .ready,l=>l.state= .ready/\l.pending=none
 | .busy,l=>l.state= .busy
 | .done none,l=>l.state≠ .busy/\l.pending=some .ret
 | .done (some i),l=>l.state≠ .busy/\l.pending=some (.exit i)
def LoopP(P:Program)(GL:Ai)(tag:Tag)(e:CC)(ps:List Nat)(asg body:AC)(g:Gh)(μ:List Nat)(o:Obj):Prop:=
 ∃(l:Loop)(N:Nat),o= .loop l/\l.params=ps.toArray/\l.tmps.size=N/\(∀n w,RepD g w μ (AK e n) (l.tmps.getD n undef)/\∀k,Ar (AK e n) (l.tmps.getD n undef) k=none)/\
  Do P GL N l.assign asg=true/\Do P GL N l.body body=true/\asg.flat=true/\body.flat=true/\(∀p∈ps,p <N)/\ZN tag l
variable {e:CC}
theorem LoopP.mono{P:Program}{GL:Ai}{tag:Tag}{ps:List Nat}{asg body:AC}(g J:Gh)(μ μ':List Nat)(o:Obj)(hl:g.le J)(hμ:μ <+: μ')(h:LoopP P GL tag e ps asg body g μ o):LoopP P GL tag e ps asg body J μ' o:=by
 obtain⟨l,N,W,h2,Z,G,h5⟩:=h;refine⟨l,N,W,h2,Z,λn w=>⟨?_,(G n w).2⟩,h5⟩;exact(G n w).1.chg (M:=λ_=>True) ⟨hl,ri _,λ_ _ h=>absurd trivial h,λ_ _ h=>absurd trivial h,rfl,rfl⟩ hμ λk b U=>by rw[(G n w).2 k]at U;cases U
def A5(P:Program)(GL:Ai)(tag:Tag)(e:CC)(ps:List Nat)(asg body:AC):Row:= .obj tag (LoopP P GL tag e ps asg body) LoopP.mono
def Cg(Q:AExit->St->Prop)(s:St):Tag->Prop
 | .ready=>Q .normal s
 | .busy=>False
 | .done none=>Q .ret s
 | .done (some i)=>Q (.exit i) s
section
variable (P:Program) (GL:Ai)
def awp:AC->(AExit->St->Prop)->St->Prop
 | .skip,Q,s=>Q .normal s
 | .reg ops keep,Q,s=>Bd P GL ops (λs'=>Q .normal ⟨Bv s'.e keep,s'.h⟩) s
 | .regD ops keep _,Q,s=>∃s',M7 P GL ops s s'/\Q .normal ⟨Bv s'.e keep,s'.h⟩
 | .regA ops keep _ t,Q,s=>t.ok P GL ops (λs'=>∃s2,Qy s.h.length s' s2/\Q .normal ⟨Bv s2.e keep,s2.h⟩) s
 | .regV ops keep cl,Q,s=>NQ P GL ops cl (λs'=>Q .normal ⟨Bv s'.e keep,s'.h⟩) ops.length (List.range ops.length) s
 | .seq a b,Q,s=>awp a (λe s'=>match e with| .normal=>awp b Q s'|e=>Q e s') s
 | .cond x a b,Q,s=>match x.ev s.e with
  | .v (.bool t)=>if t then awp a Q s else awp b Q s
  |_=>False
 | .block id c,Q,s=>awp c (λe s'=>match e with| .exit id'=>if id'=id then Q .normal s' else Q (.exit id') s'|e=>Q e s') s
 | .loop c,Q,s=>∃I:Nat->St->Prop,(∃m,I m s)/\∀m s,I m s->awp c (λe s'=>match e with| .normal=>∃m',m' <m/\I m' s'|e=>Q e s') s
 | .never,_,_=>False
 | .exit id,Q,s=>Q (.exit id) s
 | .ret,Q,s=>Q .ret s
 | .rangeF q ps asg body,Q,s=>∃fid caps rets h' tag,Dn (q.ev s.e)=some (fid,caps)/\
   FSp P GL fid (.yld s.h.length::caps) (s.h++[A5 P GL .ready (FI s.e) ps asg body]) rets h'/\h'[s.h.length]?=some (A5 P GL tag (FI s.e) ps asg body)/\
   Cg Q ⟨s.e,h'.set s.h.length .dead⟩ tag
end
variable {s:St} {K:St->Prop} {ops:Array Oper} {i n:Nat} {O:Nat->Prop} {a:Act} {μ:List Nat} {w:World} {g:Gh}
section
variable {P:Program} {GL:Ai} {N:Nat} {r:Option Nat}
def H7{e J:CC}(h:∀n,AK e n=AK J n):∀G,Bv e G=Bv J G
 |[]=>rfl
 |n::G=>by simp only[Bv,h n,H7 h G]
theorem L6{i:AI}{s1:St}(h:K4 P GL i s s1):Du P GL i (λx=>x=s1) s:=by
 rcases h with h|⟨d,f,args,fid,caps,vs,rets,rfl,G,hv,U,rfl⟩|⟨d,f,args,rets,h',hi,hc,rfl⟩|⟨d,f,q,args,fid,rets,rfl,G,U,rfl⟩
 .unfold Du;split
  .cases h
  .cases h
  .cases h
  .cases h
  .cases h
  .cases h
  .cases h
  .cases h
  .rw[h]
 .have a2:∀r,f.ev s.e≠ .yld r:=λr J=>by rw[J]at G;simp[D.toV,D.v?]at G
  have a1:∀g fs,f.ev s.e≠ .meth g fs:=λg fs J=>by rw[J]at G;simp[D.toV,D.v?]at G
  simp only[Du,Bo,Xf G];refine⟨rets.map .v,s.h,?_,by rw[KY]⟩;rw[OI hv,<-r9];exact U.fsp s.h
 .have e0:Du P GL i=Bo P GL d f args:=by rcases hi with rfl|⟨rfl,_⟩<;>rfl
  rw[e0];simp only[Bo];unfold Gq at hc;split at hc
  .rename_i r G;obtain⟨b,Z,rfl⟩:=hc
   first|(rw[G];exact⟨b,h',Z,rfl⟩)|exact⟨b,h',Z,rfl⟩
  .rename_i fid fs G
   first|(rw[G];exact⟨rets,h',hc,rfl⟩)|exact⟨rets,h',hc,rfl⟩
  .rename_i h1 h2;obtain⟨fid,caps,G,W⟩:=hc
   first
    |(simp only[G];exact⟨rets,h',W,rfl⟩)
    |(split
      .rename_i r J;exact absurd J (h1 r)
      .rename_i a b J;exact absurd J (h2 a b)
      .simp only[G];exact⟨rets,h',W,rfl⟩)
 .exact⟨fid,rets,G,U,rfl⟩
theorem LC{x:GI}{s1:St}(h:Bh P GL x s s1):Ec P GL x (λx=>x=s1) s:=by
 unfold Bh at h;unfold Ec;split
 .rename_i hx;rw[hx]at h;exact L6 h
 .rename_i t U hx;rw[hx]at h;simp only at h;split
  .rename_i b G;rw[G]at h;simp only at h;split
   .rename_i J;rw[if_pos J]at h;exact L6 h
   .rename_i J;rw[if_neg J]at h;exact h.symm
  .rename_i G;rw[G]at h;exact h.symm
  .rename_i W h2;split at h
   .rename_i b G;exact W b G
   .rename_i G;exact h2 G
   .exact h
theorem UE{is:List GI}{Az:List (List Nat)}(hk:∀(i:Nat)x,is[i]?=some x->Iu P GL N ops i x=true)(e3:is.length=ops.size)(hd:bI ops is Az=true)(hK:∀s1 s2,EqS s1 s2->K s1->K s2){Q:Exit->Act->World->Prop}:∀(fuel:Nat)(Z:List Nat)(G:Array Bool){g:Gh}{w:World}{μ:List Nat}{s:St}{a:Act}{O:Nat->Prop},
  Z.length=fuel->Z.Pairwise (· <·)->(∀i,i∈Z↔i <ops.size/\G.getD i true=false)->G.size=ops.size->
  (∀i cl,G.getD i false=true->Az[i]?=some cl->∀j∈cl,G.getD j false=true)->
  Gs GL N g w μ s a O->(∃t,M7 P GL (Z.map λi=>is.getD i default) s t/\K t)->(∀a' w',After GL N K g w μ a O a' w'->Q .normal a' w')->
  wpAnyIn (WF r) 0 P .any ops Q fuel G a w:=by
 have a7:∀i,i <ops.size->∃o cl x,ops[i]?=some o/\Az[i]?=some cl/\is[i]?=some x/\(∀e∈o.after,Region.binds .any e=true->e.on <i)/\
   (∀j∈cl,∃e∈o.after,Region.binds .any e=true/\(e.on=j\/∃U,Az[e.on]?=some U/\j∈U))/\(∀j,j <i->j∈cl\/∃y,is[j]?=some y/\ID y x=true):=by
  intro i hi;have h:=ry.1 hd i (sM.2 hi);split at h
  .rename_i o cl x ho b0 hx;simp only[rX]at h;obtain⟨⟨h1,h2⟩,h3⟩:=h;refine⟨o,cl,x,ho,b0,hx,λe he hb=>?_,λj hj=>?_,λj hj=>?_⟩
   .rw[Array.all_eq_true']at h1;have:=h1 e he;simpa[hb]using this
   .have h4:=ry.1 h2 j hj;rw[Array.any_eq_true']at h4;obtain⟨e,he,h5⟩:=h4;simp only[rX,ta,beq_iff_eq]at h5;refine⟨e,he,h5.1,?_⟩;rcases h5.2 with h6|h6
    .exact .inl h6
    .cases hc:Az[e.on]? with
     |none=>simp[hc]at h6
     |some U=>exact .inr ⟨U,rfl,by simpa[hc]using h6⟩
   .have h4:=ry.1 h3 j (sM.2 hj);simp only[ta]at h4;rcases h4 with h5|h5
    .exact .inl (by simpa using h5)
    .split at h5
     .rename_i y hy;exact .inr ⟨y,hy,h5⟩
     .cases h5
  .cases h
 intro fuel;induction fuel with
 |zero=>
  intro Z G g w μ s a O hl _ hmem _ _ hg h hq;have:Z=[]:=sf hl;subst this;obtain⟨t,rfl,b3⟩:=h;refine⟨?_,hq a w ⟨_,g,μ,b3,hg,Chg.refl _ _ _,ro _,rfl⟩⟩;rw[vP];intro i hi;rw[mem_ready]at hi;obtain⟨h1,o,ho,_⟩:=hi;have:=(hmem i).2 ⟨(uA.1 ho).1,h1⟩;simp at this
 |succ fuel ih=>
  intro Z G g w μ s a O hl hsort hmem hsz b0 hg h hq;refine⟨λc7=>?_,λi hi=>?_⟩
  .exfalso;cases Z with
   |nil=>simp at hl
   |cons i0 rem'=>
    obtain⟨d4,b9⟩:=(hmem i0).1 Ac;obtain⟨o,cl,x,ho,_,_,he,_⟩:=a7 i0 d4;have:i0∈Region.ready .any ops G:=by
     rw[mem_ready];refine⟨b9,o,ho,λe d2 hb=>?_⟩;have e5:=he e d2 hb;have J:e.on <G.size:=AE;cases hv:G.getD e.on true with
     |true=>simp[J]at hv ⊢;exact hv
     |false=>
      have h1:=(hmem e.on).2 ⟨AE,hv⟩;rcases rj.1 h1 with h2|h2
      .omega
      .have:=uK hsort h2;omega
    rw[c7]at this;simp at this
  .have d3:=mem_ready.1 hi;obtain⟨b9,o',c8,b4⟩:=d3;have c2:i <ops.size:=(uA.1 c8).1;have d5:=(hmem i).2 ⟨c2,b9⟩;obtain⟨pre,a8,rfl⟩:=List.append_of_mem d5;obtain⟨o,cl,x,ho,c1,hx,_,c0,c3⟩:=a7 i c2;rw[c8]at ho;cases ho;have a1:∀j∈cl,G.getD j false=true:=by
    intro j hj;obtain⟨e,he,hb,h6⟩:=c0 j hj;have h7:=b4 e he hb;rcases h6 with rfl|⟨U,a6,d6⟩
    .exact h7
    .exact b0 e.on U h7 a6 j d6
   have d9:is.getD i default=x:=by simp[List.getD,hx]
   obtain⟨t,b2,b3⟩:=h;rw[r9,rq,d9]at b2;have c9:∀y∈pre.map (λi=>is.getD i default),ID y x=true:=by
    intro y hy;obtain⟨j,hj,rfl⟩:=rl.1 hy;have W:j <i:=(tL.1 hsort).2.2 j hj i Ac;obtain⟨e4,b1⟩:=(hmem j).1 (by simp[hj]);rcases c3 j W with h1|⟨y',e1,h2⟩
    .have:=a1 j h1;have J:j <G.size:=AE;simp[J]at this b1;rw[b1]at this;cases this
    .simpa[List.getD,e1]using h2
   obtain⟨t',⟨s1,d8,b5⟩,he⟩:=Ve c9 b2;refine HN (hk i x hx) hg (LC d8) ?_;rintro s' g' w' μ' a' rfl hgs hch hμ hdf;refine ih (pre++a8) _ ?_ ?_ ?_ (by simp[hsz]) ?_ hgs ⟨t',by rw[r9];exact b5,hK _ _ he b3⟩ λa2 w2 h2=>hq a2 w2 (h2.trans hch hμ hdf)
   .simp at hl ⊢;omega
   .exact hsort.sublist (vQ (vR i a8) pre)
   .intro j;have d7:i∉pre++a8:=by
     intro hm;rcases rp.1 hm with hm|hm
     .have:=(tL.1 hsort).2.2 i hm i Ac;omega
     .have:=uK (tL.1 hsort).2.1 hm;omega
    by_cases W:j=i
    .subst W;refine⟨λhm=>absurd hm d7,λhm=>?_⟩;have h2:=hm.2;have J:j <G.size:=AE;simp[J]at h2
    .have b6:(G.setIfInBounds i true).getD j true=G.getD j true:=by simp[sH,sg,Ne.symm W]
     rw[b6];have:=hmem j;simp only[rp,rj,W,false_or]at this ⊢;exact this
   .intro k U c5 a6 j hj;by_cases c6:k=i
    .subst c6;rw[c1]at a6;cases a6;have:=a1 j hj;by_cases c4:j=k
     .subst c4;have J:j <G.size:=AE;simp[sH,sg,J]
     .rw[sH,sg,if_neg (Ne.symm c4),<-sH];exact this
    .rw[sH,sg,if_neg (Ne.symm c6),<-sH]at c5;have:=b0 k U c5 a6 j hj;by_cases W:j=i
     .subst W;have J:j <G.size:=AE;simp[sH,sg,J]
     .rw[sH,sg,if_neg (Ne.symm W),<-sH];exact this
theorem Rz{is:List GI}{Az:List (List Nat)}(hk:∀(i:Nat)x,is[i]?=some x->Iu P GL N ops i x=true)(e1:is.length=ops.size)(hd:Tz ops is Az=true){Q:Exit->Act->World->Prop}:∀(fuel:Nat)(Z:List Nat)(G:Array Bool){g:Gh}{w:World}{μ:List Nat}{s:St}{a:Act}{O:Nat->Prop},
  Z.length=fuel->Z.Pairwise (· <·)->(∀i,i∈Z↔i <ops.size/\G.getD i true=false)->G.size=ops.size->
  (∀i cl,G.getD i false=true->Az[i]?=some cl->∀j∈cl,G.getD j false=true)->
  Gs GL N g w μ s a O->AnyJ P GL is Az K fuel Z s->(∀a' w',After GL N K g w μ a O a' w'->Q .normal a' w')->
  wpAnyIn (WF r) 0 P .any ops Q fuel G a w:=by
 have b0:∀i,i <ops.size->∃o cl x,ops[i]?=some o/\Az[i]?=some cl/\is[i]?=some x/\(∀e∈o.after,Region.binds .any e=true->e.on <i)/\
   (∀j∈cl,∃e∈o.after,Region.binds .any e=true/\(e.on=j\/∃U,Az[e.on]?=some U/\j∈U)):=by
  intro i hi;have h:=ry.1 hd i (sM.2 hi);split at h
  .rename_i o cl x ho b1 hx;simp only[rX]at h;obtain⟨h1,h2⟩:=h;refine⟨o,cl,x,ho,b1,hx,λe he hb=>?_,λj hj=>?_⟩
   .rw[Array.all_eq_true']at h1;have:=h1 e he;simpa[hb]using this
   .have h4:=ry.1 h2 j hj;rw[Array.any_eq_true']at h4;obtain⟨e,he,h5⟩:=h4;simp only[rX,ta,beq_iff_eq]at h5;refine⟨e,he,h5.1,?_⟩;rcases h5.2 with h6|h6
    .exact .inl h6
    .cases hc:Az[e.on]? with
     |none=>simp[hc]at h6
     |some U=>exact .inr ⟨U,rfl,by simpa[hc]using h6⟩
  .cases h
 intro fuel;induction fuel with
 |zero=>
  intro Z G g w μ s a O hl _ hmem _ _ hg h hq;have:Z=[]:=sf hl;subst this;refine⟨?_,hq a w ⟨_,g,μ,h,hg,Chg.refl _ _ _,ro _,rfl⟩⟩;rw[vP];intro i hi;rw[mem_ready]at hi;obtain⟨h1,o,ho,_⟩:=hi;have:=(hmem i).2 ⟨(uA.1 ho).1,h1⟩;simp at this
 |succ fuel ih=>
  intro Z G g w μ s a O hl hsort hmem hsz b1 hg h hq;refine⟨λc6=>?_,λi hi=>?_⟩
  .exfalso;cases Z with
   |nil=>simp at hl
   |cons i0 rem'=>
    obtain⟨d4,b9⟩:=(hmem i0).1 Ac;obtain⟨o,cl,x,ho,_,_,he,_⟩:=b0 i0 d4;have:i0∈Region.ready .any ops G:=by
     rw[mem_ready];refine⟨b9,o,ho,λe d2 hb=>?_⟩;have e4:=he e d2 hb;have J:e.on <G.size:=AE;cases hv:G.getD e.on true with
     |true=>simp[J]at hv ⊢;exact hv
     |false=>
      have h1:=(hmem e.on).2 ⟨AE,hv⟩;rcases rj.1 h1 with h2|h2
      .omega
      .have:=uK hsort h2;omega
    rw[c6]at this;simp at this
  .have d3:=mem_ready.1 hi;obtain⟨b9,o',c7,b5⟩:=d3;have c2:i <ops.size:=(uA.1 c7).1;have c1:=(hmem i).2 ⟨c2,b9⟩;obtain⟨pre,W,rfl⟩:=List.append_of_mem c1;obtain⟨o,cl,x,ho,b3,hx,_,c0⟩:=b0 i c2;rw[c7]at ho;cases ho;have a1:∀j∈cl,G.getD j false=true:=by
    intro j hj;obtain⟨e,he,hb,h6⟩:=c0 j hj;have h7:=b5 e he hb;rcases h6 with rfl|⟨U,a7,d5⟩
    .exact h7
    .exact b1 e.on U h7 a7 j d5
   have d9:is.getD i default=x:=by simp[List.getD,hx]
   have c9:(Az[i]?).getD []=cl:=by rw[b3];rfl
   obtain⟨s1,c8,a8⟩:=h i c1 (λj hj d6=>by rw[c9]at hj;have h1:=a1 j hj;obtain⟨e3,b4⟩:=(hmem j).1 d6;have J:j <G.size:=AE;simp[J]at h1 b4;rw[b4]at h1;cases h1)
   rw[d9]at c8;have b2:(pre++i::W).erase i=pre++W:=by
    have d8:i∉pre:=λhm=>by have:=(tL.1 hsort).2.2 i hm i Ac;omega
    rw[List.erase_append_right _ d8];simp
   rw[b2]at a8;refine HN (hk i x hx) hg (LC c8) ?_;rintro s' g' w' μ' a' rfl hgs hch hμ hdf;refine ih (pre++W) _ ?_ ?_ ?_ (by simp[hsz]) ?_ hgs a8 λa2 w2 h2=>hq a2 w2 (h2.trans hch hμ hdf)
   .simp at hl ⊢;omega
   .exact hsort.sublist (vQ (vR i W) pre)
   .intro j;have d7:i∉pre++W:=by
     intro hm;rcases rp.1 hm with hm|hm
     .have:=(tL.1 hsort).2.2 i hm i Ac;omega
     .have:=uK (tL.1 hsort).2.1 hm;omega
    by_cases a6:j=i
    .subst a6;refine⟨λhm=>absurd hm d7,λhm=>?_⟩;have h2:=hm.2;have J:j <G.size:=AE;simp[J]at h2
    .have b6:(G.setIfInBounds i true).getD j true=G.getD j true:=by simp[sH,sg,Ne.symm a6]
     rw[b6];have:=hmem j;simp only[rp,rj,a6,false_or]at this ⊢;exact this
   .intro k U c4 a7 j hj;by_cases c5:k=i
    .subst c5;rw[b3]at a7;cases a7;have:=a1 j hj;by_cases c3:j=k
     .subst c3;have J:j <G.size:=AE;simp[sH,sg,J]
     .rw[sH,sg,if_neg (Ne.symm c3),<-sH];exact this
    .rw[sH,sg,if_neg (Ne.symm c5),<-sH]at c4;have:=b1 k U c4 a7 j hj;by_cases a6:j=i
     .subst a6;have J:j <G.size:=AE;simp[sH,sg,J]
     .rw[sH,sg,if_neg (Ne.symm a6),<-sH];exact this
theorem R6{is:List GI}{Az:List (List Nat)}(hk:∀(i:Nat)x,is[i]?=some x->Iu P GL N ops i x=true)(d9:is.length=ops.size)(hd:Tz ops is Az=true){Q:Exit->Act->World->Prop}:∀(fuel:Nat)(Z:List Nat)(G:Array Bool){g:Gh}{w:World}{μ:List Nat}{s:St}{a:Act}{O:Nat->Prop},
  Z.length=fuel->Z.Pairwise (· <·)->(∀i,i∈Z↔i <ops.size/\G.getD i true=false)->G.size=ops.size->
  (∀i cl,G.getD i false=true->Az[i]?=some cl->∀j∈cl,G.getD j false=true)->
  Gs GL N g w μ s a O->NQ P GL is Az K fuel Z s->(∀a' w',After GL N K g w μ a O a' w'->Q .normal a' w')->
  wpAnyIn (WF r) 0 P .any ops Q fuel G a w:=by
 have a8:∀i,i <ops.size->∃o cl x,ops[i]?=some o/\Az[i]?=some cl/\is[i]?=some x/\(∀e∈o.after,Region.binds .any e=true->e.on <i)/\
   (∀j∈cl,∃e∈o.after,Region.binds .any e=true/\(e.on=j\/∃U,Az[e.on]?=some U/\j∈U)):=by
  intro i hi;have h:=ry.1 hd i (sM.2 hi);split at h
  .rename_i o cl x ho b0 hx;simp only[rX]at h;obtain⟨h1,h2⟩:=h;refine⟨o,cl,x,ho,b0,hx,λe he hb=>?_,λj hj=>?_⟩
   .rw[Array.all_eq_true']at h1;have:=h1 e he;simpa[hb]using this
   .have h4:=ry.1 h2 j hj;rw[Array.any_eq_true']at h4;obtain⟨e,he,h5⟩:=h4;simp only[rX,ta,beq_iff_eq]at h5;refine⟨e,he,h5.1,?_⟩;rcases h5.2 with h6|h6
    .exact .inl h6
    .cases hc:Az[e.on]? with
     |none=>simp[hc]at h6
     |some U=>exact .inr ⟨U,rfl,by simpa[hc]using h6⟩
  .cases h
 intro fuel;induction fuel with
 |zero=>
  intro Z G g w μ s a O hl _ hmem _ _ hg h hq;have:Z=[]:=sf hl;subst this;refine⟨?_,hq a w ⟨_,g,μ,h,hg,Chg.refl _ _ _,ro _,rfl⟩⟩;rw[vP];intro i hi;rw[mem_ready]at hi;obtain⟨h1,o,ho,_⟩:=hi;have:=(hmem i).2 ⟨(uA.1 ho).1,h1⟩;simp at this
 |succ fuel ih=>
  intro Z G g w μ s a O hl hsort hmem hsz b0 hg h hq;refine⟨λc6=>?_,λi hi=>?_⟩
  .exfalso;cases Z with
   |nil=>simp at hl
   |cons i0 rem'=>
    obtain⟨d3,b9⟩:=(hmem i0).1 Ac;obtain⟨o,cl,x,ho,_,_,he,_⟩:=a8 i0 d3;have:i0∈Region.ready .any ops G:=by
     rw[mem_ready];refine⟨b9,o,ho,λe c9 hb=>?_⟩;have e3:=he e c9 hb;have J:e.on <G.size:=AE;cases hv:G.getD e.on true with
     |true=>simp[J]at hv ⊢;exact hv
     |false=>
      have h1:=(hmem e.on).2 ⟨AE,hv⟩;rcases rj.1 h1 with h2|h2
      .omega
      .have:=uK hsort h2;omega
    rw[c6]at this;simp at this
  .have d2:=mem_ready.1 hi;obtain⟨b9,o',c7,b4⟩:=d2;have c2:i <ops.size:=(uA.1 c7).1;have c1:=(hmem i).2 ⟨c2,b9⟩;obtain⟨pre,W,rfl⟩:=List.append_of_mem c1;obtain⟨o,cl,x,ho,b2,hx,_,c0⟩:=a8 i c2;rw[c7]at ho;cases ho;have a1:∀j∈cl,G.getD j false=true:=by
    intro j hj;obtain⟨e,he,hb,h6⟩:=c0 j hj;have h7:=b4 e he hb;rcases h6 with rfl|⟨U,a7,d4⟩
    .exact h7
    .exact b0 e.on U h7 a7 j d4
   have d8:is.getD i default=x:=by simp[List.getD,hx]
   have c8:(Az[i]?).getD []=cl:=by rw[b2];rfl
   have b5:=h i c1 (λj hj d5=>by rw[c8]at hj;have h1:=a1 j hj;obtain⟨e1,b3⟩:=(hmem j).1 d5;have J:j <G.size:=AE;simp[J]at h1 b3;rw[b3]at h1;cases h1)
   rw[d8]at b5;have b1:(pre++i::W).erase i=pre++W:=by
    have d7:i∉pre:=λhm=>by have:=(tL.1 hsort).2.2 i hm i Ac;omega
    rw[List.erase_append_right _ d7];simp
   rw[b1]at b5;refine HN (hk i x hx) hg b5 ?_;rintro s' g' w' μ' a' hrun' hgs hch hμ hdf;refine ih (pre++W) _ ?_ ?_ ?_ (by simp[hsz]) ?_ hgs hrun' λa2 w2 h2=>hq a2 w2 (h2.trans hch hμ hdf)
   .simp at hl ⊢;omega
   .exact hsort.sublist (vQ (vR i W) pre)
   .intro j;have d6:i∉pre++W:=by
     intro hm;rcases rp.1 hm with hm|hm
     .have:=(tL.1 hsort).2.2 i hm i Ac;omega
     .have:=uK (tL.1 hsort).2.1 hm;omega
    by_cases a6:j=i
    .subst a6;refine⟨λhm=>absurd hm d6,λhm=>?_⟩;have h2:=hm.2;have J:j <G.size:=AE;simp[J]at h2
    .have b6:(G.setIfInBounds i true).getD j true=G.getD j true:=by simp[sH,sg,Ne.symm a6]
     rw[b6];have:=hmem j;simp only[rp,rj,a6,false_or]at this ⊢;exact this
   .intro k U c4 a7 j hj;by_cases c5:k=i
    .subst c5;rw[b2]at a7;cases a7;have:=a1 j hj;by_cases c3:j=k
     .subst c3;have J:j <G.size:=AE;simp[sH,sg,J]
     .rw[sH,sg,if_neg (Ne.symm c3),<-sH];exact this
    .rw[sH,sg,if_neg (Ne.symm c5),<-sH]at c4;have:=b0 k U c4 a7 j hj;by_cases a6:j=i
     .subst a6;have J:j <G.size:=AE;simp[sH,sg,J]
     .rw[sH,sg,if_neg (Ne.symm a6),<-sH];exact this
def AnyJ.congr{J:List GI}{Az:List (List Nat)}{K:St->Prop}(U:∀s1 s2,EqS s1 s2->K s1->K s2):∀(n:Nat)(G:List Nat){s s2:St},EqS s s2->AnyJ P GL J Az K n G s->AnyJ P GL J Az K n G s2
 |0,_,_,_,he,h=>U _ _ he h
 |n+1,G,s,s2,he,h=>by intro i hi hr;obtain⟨s1,W,h2⟩:=h i hi hr;obtain⟨t2,⟨x,Z,h4⟩,h5⟩:=KW (l:=[J.getD i default]) (t:=s1) ⟨s1,W,rfl⟩ he;cases h4;exact⟨t2,Z,AnyJ.congr U n _ h5 h2⟩
def AnyJ.take{Z:List GI}{Az:List (List Nat)}(hK:∀s1 s2,EqS s1 s2->K s1->K s2):∀(n:Nat)(G:List Nat){s s1:St},G.length=n+1->G.Nodup->i∈G->
  (∀j∈G,j=i\/i∈(Az[j]?).getD []\/ID (Z.getD i default) (Z.getD j default)=true)->Bh P GL (Z.getD i default) s s1->AnyJ P GL Z Az K n (G.erase i) s1->(∀j∈(Az[i]?).getD [],j∉G)->AnyJ P GL Z Az K (n+1) G s:=by
 intro n;induction n with
 |zero=>
  intro G s s1 hl a1 hi _ h1 h2 _ j hj hr;have:G=[i]:=by
   match G,hl with
   |[x],_=>simp at hi;rw[hi]
  subst this;simp at hj;subst hj;exact⟨s1,h1,h2⟩
 |succ n ih=>
  intro G s s1 hl a1 hi U h1 h2 a7 j hj hr;by_cases J:j=i
  .subst J;exact⟨s1,h1,h2⟩
  .have a6:j∈G.erase i:=(vB J).2 hj;obtain⟨s2,h3,h4⟩:=h2 j a6 λk hk W=>hr k hk (uL W);have a2:ID (Z.getD i default) (Z.getD j default)=true:=by
    rcases U j hj with h|h|h
    .exact absurd h J
    .exact absurd hi (hr i h)
    .exact h
   obtain⟨a8,b0,h5,h6,he⟩:=YJ a2 h1 h3;refine⟨a8,h5,ih (G.erase j) (by rw[vC hj];omega) (a1.erase _) ((vB (Ne.symm J)).2 hi) (λk hk=>U k (uL hk)) h6 ?_ λk hk W=>a7 k hk (uL W)⟩;rw[List.erase_comm];exact AnyJ.congr hK n _ he h4
def Py{Az:List (List Nat)}{G:List Nat}:Wu Az G i=true↔i∈G/\∀j∈(Az[i]?).getD [],j∉G:=by simp[Wu]
theorem AT.any{is:List GI}{Az:List (List Nat)}(hK:∀s1 s2,EqS s1 s2->K s1->K s2):∀(t:AT)(G:List Nat){s:St},G.Nodup->t.chk is Az G=true->t.ok P GL is K s->
  (t.good=true->AnyJ P GL is Az K G.length G s)/\
  (∀i∈t.heads,i∈G->∃s1,Bh P GL (is.getD i default) s s1/\AnyJ P GL is Az K (G.length-1) (G.erase i) s1):=by
 intro t;induction t with
 |done=>
  intro G s _ hc h;have:G=[]:=by simpa[AT.chk]using hc
  subst this;exact⟨λ_=>h,λi hi=>by simp[AT.heads]at hi⟩
 |take i t ih=>
  intro G s J hc h;simp only[AT.chk,rX]at hc;obtain⟨⟨⟨h1,h0⟩,h2⟩,h3⟩:=hc;obtain⟨s1,Z,h5⟩:=h;obtain⟨hi,hr⟩:=Py.1 h1;have U:(G.erase i).length=G.length-1:=vC hi;have a2:0 <G.length:=List.length_pos_of_mem hi;refine⟨λ_=>?_,λj W=>by simp[AT.heads]at W⟩;have:=(ih (G.erase i) (J.erase _) h3 h5).1 h0;rw[U]at this;have h6:=AnyJ.take hK (G.length-1) G AE J hi (λj W=>by
    have:=ry.1 h2 j W;simp only[ta,beq_iff_eq]at this;rcases this with (h|h)|h
    .exact .inl h
    .exact .inr (.inl (by simpa using h))
    .exact .inr (.inr h)) Z this hr
  rwa [show G.length-1+1=G.length by omega]at h6
 |pick c ih=>
  intro G s J hc h;simp only[AT.chk,rX]at hc;obtain⟨⟨h0,h1⟩,h2⟩:=hc;have a2:0 <G.length:=by cases G<;>simp at h0 ⊢
  refine⟨λ_=>?_,λj W=>by simp[AT.heads]at W⟩;have h3:=(ih G J h2 h).2;obtain⟨n,hn⟩:∃n,G.length=n+1:=⟨G.length-1,AE⟩;rw[hn];intro i hi hr;have Z:=ry.1 h1 i hi;simp only[Py.2 ⟨hi,hr⟩,Bool.not_true,Bool.false_or]at Z;have:=h3 i (by simpa using Z) hi
  rwa [hn]at this
 |alt i t r iht ihr=>
  intro G s J hc h;simp only[AT.chk,rX]at hc;obtain⟨⟨⟨h1,h2⟩,h3⟩,Z⟩:=hc;refine⟨λh=>by simp[AT.good]at h,λj W a1=>?_⟩;simp only[AT.heads,rj]at W;rcases W with rfl|W
  .obtain⟨⟨s1,h5,h6⟩,_⟩:=h;have U:(G.erase j).length=G.length-1:=vC a1;have:=(iht (G.erase j) (J.erase _) h3 h6).1 h2;rw[U]at this;exact⟨s1,h5,this⟩
  .exact(ihr G J Z h.2).2 j W a1
 |none=>intro G s _ _ _;exact⟨λh=>by simp[AT.good]at h,λi hi=>by simp[AT.heads]at hi⟩
theorem RF{G:List GI}{Az:List (List Nat)}(hk:A0 (Iu P GL N ops) (List.range ops.size) G=true)(hd:bI ops G Az=true)(hK:∀s1 s2,EqS s1 s2->K s1->K s2){Q:Exit->Act->World->Prop}(hg:Gs GL N g w μ s a O)(h:∃t,M7 P GL G s t/\K t)(hq:∀a' w',After GL N K g w μ a O a' w'->Q .normal a' w'):
  wpAnyIn (WF r) 0 P .any ops Q ops.size (Array.replicate ops.size false) a w:=by
 have J:All2 (λy x=>Iu P GL N ops x y=true) G (List.range ops.size):=Co (λx y h=>h) hk;have W:G.length=ops.size:=by have:=J.1;simp at this;omega
 refine UE (λi x hx=>?_) W hd hK ops.size (List.range ops.size) _ Ac uW (λi=>?_) Ac (λi cl hi=>?_) hg ?_ hq
 .have a1:=(rZ.1 hx).1;have Z:(List.range ops.size)[i]?=some i:=tT AE;exact J.2 i x i hx Z
 .rw[sM]
  constructor
  .intro h;exact⟨h,by simp[sH,h]⟩
  .exact λh=>h.1
 .exfalso;by_cases U:i <ops.size<;>simp[sH,U]at hi
 .have:(List.range ops.size).map (λi=>G.getD i default)=G:=by
   apply sl;intro i;by_cases U:i <ops.size
   .have:i <G.length:=AE;simp[U,List.getD,this]
   .have:G[i]?=none:=by rw[sU];omega
    rw[this];simp;omega
  rw[this];exact h
theorem RG{J:List GI}{Az:List (List Nat)}{t:AT}(hk:A0 (Iu P GL N ops) (List.range ops.size) J=true)(hd:Tz ops J Az=true)(ht:t.chk J Az (List.range ops.size)=true)(a1:t.good=true)(hK:∀s1 s2,EqS s1 s2->K s1->K s2){Q:Exit->Act->World->Prop}(hg:Gs GL N g w μ s a O)(h:t.ok P GL J K s)(hq:∀a' w',After GL N K g w μ a O a' w'->Q .normal a' w'):
  wpAnyIn (WF r) 0 P .any ops Q ops.size (Array.replicate ops.size false) a w:=by
 have G:All2 (λy x=>Iu P GL N ops x y=true) J (List.range ops.size):=Co (λx y h=>h) hk;have U:J.length=ops.size:=by have:=G.1;simp at this;omega
 refine Rz (λi x hx=>?_) U hd ops.size (List.range ops.size) _ Ac uW (λi=>?_) Ac (λi cl hi=>?_) hg ?_ hq
 .have a2:=(rZ.1 hx).1;have Z:(List.range ops.size)[i]?=some i:=tT AE;exact G.2 i x i hx Z
 .rw[sM]
  constructor
  .intro h;exact⟨h,by simp[sH,h]⟩
  .exact λh=>h.1
 .exfalso;by_cases W:i <ops.size<;>simp[sH,W]at hi
 .have:=(AT.any hK t (List.range ops.size) vD ht h).1 a1;simpa using this
theorem RE{U:List GI}{Az:List (List Nat)}(hk:A0 (Iu P GL N ops) (List.range ops.size) U=true)(hd:Tz ops U Az=true){Q:Exit->Act->World->Prop}(hg:Gs GL N g w μ s a O)(h:NQ P GL U Az K U.length (List.range U.length) s)(hq:∀a' w',After GL N K g w μ a O a' w'->Q .normal a' w'):
  wpAnyIn (WF r) 0 P .any ops Q ops.size (Array.replicate ops.size false) a w:=by
 have G:All2 (λy x=>Iu P GL N ops x y=true) U (List.range ops.size):=Co (λx y h=>h) hk;have J:U.length=ops.size:=by have:=G.1;simp at this;omega
 refine R6 (λi x hx=>?_) J hd ops.size (List.range ops.size) _ Ac uW (λi=>?_) Ac (λi cl hi=>?_) hg ?_ hq
 .have a1:=(rZ.1 hx).1;have Z:(List.range ops.size)[i]?=some i:=tT AE;exact G.2 i x i hx Z
 .rw[sM]
  constructor
  .intro h;exact⟨h,by simp[sH,h]⟩
  .exact λh=>h.1
 .exfalso;by_cases W:i <ops.size<;>simp[sH,W]at hi
 .rw[J]at h;exact h
def Il(g:Gh)(w:World)(n:Nat)(M:Nat->Prop):Chg M g w g {w with drawn:=n}:=⟨Gh.le.refl g,ri _,λ_ _ _=>rfl,λ_ _ _ _=>rfl,rfl,rfl⟩
def Gs.drawn{g:Gh}{w:World}{μ:List Nat}{s:St}{a:Act}{O:Nat->Prop}(hg:Gs GL N g w μ s a O):Gs GL N g {w with drawn:=w.drawn+1} μ s a O:=
 ⟨hg.inv.chg (Il g w _ _) hg.inv.agree,hg.glob,hg.sz⟩
theorem M2{F:Fence}{c:Code}{Q:Exit->Act->World->Prop}(I:Nat->Act->World->Prop)(W:∀m a w,I m a w->c.wpIn F n P (Exit.then (λa' w'=>∃m',m' <m/\I m' a' w') Q) a w):∀m a w,I m a w->(Code.loop c).wpIn F n P Q a w:=by
 intro m a w h₀ b k cs a7 hb hr;have key:∀j a w,I j a w->
   ∃e a' w',Q e a' w'/\ArrivesIn (Machine.fenced P F) P (lone (b.atR a (.code c:: .inLoop c::k)) cs w) b k cs e a' w':=by
  intro j;induction j using Nat.strongRecOn with
  |_ j ih=>
   intro a w hI;obtain⟨e,Z,w₁,J,G⟩:=W j a w hI b (.inLoop c::k) cs a7 hb hr;cases e with
   |normal=>
    obtain⟨m',a2,a1⟩:=J;obtain⟨e₂,a₂,w₂,a6,U⟩:=ih m' a2 Z w₁ a1;exact⟨e₂,a₂,w₂,a6,.of_steps (StepsIn.trans G (.one (fenced_calm hb hr rfl) stepR_inLoop)) U⟩
   |exit id=>exact⟨_,Z,w₁,J,.pass (x:= .inLoop c) rfl (λ_ _=> .inl Ac) G⟩
   |goto l=>exact⟨_,Z,w₁,J,.pass (x:= .inLoop c) rfl (λ_ _=> .inl Ac) G⟩
   |ret=>exact⟨_,Z,w₁,J,.pass (x:= .inLoop c) rfl (λ_ _=> .inl Ac) G⟩
   |panic ch=>exact⟨_,Z,w₁,J,.pass (x:= .inLoop c) rfl (λ_ _=> .inl Ac) G⟩
   |outgrown=>exact⟨_,Z,w₁,J,.pass (x:= .inLoop c) rfl (λ_ _=> .inl Ac) G⟩
 obtain⟨e,a',w',J,G⟩:=key m a w h₀;exact⟨e,a',w',J,.of_steps (.one (fenced_calm hb hr rfl) stepR_loop) G⟩
end
end
section
variable {u:Value} {d:D} {μ:List Nat} {w w':World} {g:Gh} {O:Nat->Prop} {h:List Row} {b:Nat} {a:Act} {s:St} {Q:AExit->St->Prop} {q:Opd}
section
variable {P:Program} {GL:Ai} {N:Nat} {r:Option Nat}
def Mh:∀(e:CC)(n:Nat),AK (FI e) n=(AK e n).copy
 |[],n=>rfl
 |(k,d)::e,n=>by
  simp only[FI,rq,AK];by_cases h:k=n
  .simp[h]
  .rw[if_neg h,if_neg h];exact Mh e n
def Pv(h:RepE g w μ d u)(G:∀v,Am d v=none):RepE g w' μ d u:=by
 cases d<;>first
  |exact h
  |(have:=G (.slice (some ⟨0,0,none⟩) 0 1);simp[Am]at this;done)
def Tx(h:RepD g w μ d.copy u):RepD g w' μ d.copy u:=by
 cases d<;>simp only[D.copy]at h ⊢ <;>first
  |exact h
  |exact Pv h λv=>rfl
  |trivial
  |(obtain⟨vs,rfl,G,J,h2⟩:=h
    exact⟨vs,rfl,⟨G.1,λi x v hx U=>Pv (G.2 i x v hx U) (h2 x (rY hx))⟩,J,h2⟩)
def TS(b:Nat):Deferred:={target:= .collected b,args:= #[]}
def Marks(O':Nat->Prop)(w w':World)(ds ds':List Deferred):Prop:=
 ∃ms:List Nat,ds'=ms.map TS++ds/\ms.Nodup/\∀b∈ms,O' b/\w.heap.size<=b/\w'.heap[b]?=some (.deferred (some []))
def AfterM(GL:Ai)(N:Nat)(Q:St->Prop)(g:Gh)(w:World)(μ:List Nat)(a:Act)(O:Nat->Prop)(a':Act)(w':World):Prop:=
 ∃s' g' μ' O',Q s'/\Gs GL N g' w' μ' s' a' O'/\(∀b,O b->O' b)/\Chg (λb=>¬O b) g w g' w'/\μ <+: μ'/\Marks O' w w' a.defers a'.defers
def Marks.nil{J:Nat->Prop}{ds G:List Deferred}(h:G=ds):Marks J w w' ds G:=⟨[],by simp[h],List.nodup_nil,Ac⟩
theorem Marks.trans{Z O2:Nat->Prop}{g1 g2:Gh}{w W w2:World}{d0 d1 d2:List Deferred}(h1:Marks Z w W d0 d1)(hs:w.heap.size<=W.heap.size)(hO:∀b,Z b->O2 b)(hc:Chg (λb=>¬Z b) g1 W g2 w2)(h2:Marks O2 W w2 d1 d2):Marks O2 w w2 d0 d2:=by
 obtain⟨m1,rfl,n1,p1⟩:=h1;obtain⟨m2,rfl,n2,p2⟩:=h2;refine⟨m2++m1,Ac,?_,λb G=>?_⟩
 .rw[List.nodup_append];refine⟨n2,n1,λa ha b G a1=>?_⟩;subst a1;have:=Bq (p1 a G).2.2;have:=(p2 a ha).2.1;omega
 .rcases rp.1 G with G|G
  .obtain⟨J,q2,U⟩:=p2 b G;exact⟨J,AE,U⟩
  .obtain⟨J,q2,U⟩:=p1 b G;exact⟨hO b J,q2,(hc.heap b (Bq U) (λh=>h J)).trans U⟩
def AfterM.trans{Q:St->Prop}{g:Gh}{w:World}{μ:List Nat}{a:Act}{O U:Nat->Prop}{g1:Gh}{w1:World}{μ1:List Nat}{a1:Act}{a2:Act}{w2:World}(hO:∀b,O b->U b)(hc:Chg (λb=>¬O b) g w g1 w1)(hμ:μ <+: μ1)(hd:Marks U w w1 a.defers a1.defers)(h:AfterM GL N Q g1 w1 μ1 a1 U a2 w2):AfterM GL N Q g w μ a O a2 w2:=by
 obtain⟨s',g',μ',O2,hq,hg,G,J,a6,Z⟩:=h;exact⟨s',g',μ',O2,hq,hg,λb W=>G b (hO b W),hc.trans (J.mono λb h W=>h (hO b W)),hμ.trans a6,hd.trans hc.size G J Z⟩
def PostM(GL:Ai)(N:Nat)(Q:AExit->St->Prop)(g:Gh)(w:World)(μ:List Nat)(a:Act)(O:Nat->Prop)(e':Exit)(a':Act)(w':World):Prop:=
 ∃e,Hn e e'/\AfterM GL N (Q e) g w μ a O a' w'
def PostM.trans{Q:AExit->St->Prop}{g:Gh}{w:World}{μ:List Nat}{a:Act}{O G:Nat->Prop}{g1:Gh}{J:World}{μ1:List Nat}{U:Act}(hO:∀b,O b->G b)(hc:Chg (λb=>¬O b) g w g1 J)(hμ:μ <+: μ1)(hd:Marks G w J a.defers U.defers){Z:Exit}{W:Act}{w2:World}(h:PostM GL N Q g1 J μ1 U G Z W w2):PostM GL N Q g w μ a O Z W w2:=by
 obtain⟨e,he,h2⟩:=h;exact⟨e,he,h2.trans hO hc hμ hd⟩
def Inv.addO{t:Nat->D}{u:Nat->Value}(hi:Inv g w μ t u h O){J:Nat}(U:J <w.heap.size)(Z:J∉μ)(hp:∀p,Cm t u h w μ p≠some J):
  Inv g w μ t u h (λb=>O b\/b=J) where
 agree:=hi.agree
 olt:=λb h=>by rcases h with h|rfl;exact hi.olt b h;exact U
 rep:=hi.rep
 len:=hi.len
 rows:=hi.rows
 nod:=hi.nod
 mo:=λb W G=>by rcases G with G|G;exact hi.mo b W G;exact Z (G▸W)
 uniq:=hi.uniq
 sep:=λp b h=>⟨(hi.sep p b h).1,λG=>by rcases G with G|G;exact(hi.sep p b h).2 G;exact hp p (G▸h)⟩
def Inv.subO{t:Nat->D}{u:Nat->Value}{U:Nat->Prop}(hi:Inv g w μ t u h O)(J:∀b,U b->O b):Inv g w μ t u h U where
 agree:=hi.agree
 olt:=λb h=>hi.olt b (J b h)
 rep:=hi.rep
 len:=hi.len
 rows:=hi.rows
 nod:=hi.nod
 mo:=λb W G=>hi.mo b W (J b G)
 uniq:=hi.uniq
 sep:=λp b h=>⟨(hi.sep p b h).1,λG=>(hi.sep p b h).2 (J b G)⟩
def Ek{o:Obj}(g:Gh):Chg (λx=>x=b) g w g (w.putObj b o):=
 ⟨Gh.le.refl g,Ac,λJ _ G=>World.putObj_heap_other G,λ_ _ _ _=>rfl,rfl,rfl⟩
theorem Gy{o:Obj}(hg:∀o,g.m b o=none)(U:∀b o v,g.m b o=some v->w.cell? ⟨b,o,none⟩=some v):
  ∀G o' v,g.m G o'=some v->(w.putObj b o).cell? ⟨G,o',none⟩=some v:=by
 intro G o' v W;by_cases J:G=b
 .subst J;rw[hg]at W;cases W
 .rw[World.cell?_of_block (a:=⟨G,o',none⟩) (World.putObj_heap_other J)];exact U G o' v W
theorem Pz{g0:Operand}{c2:Array Tmp}{a6 Z:Code}{ps:List Nat}{asg body:AC}(hk:Do P GL N (.rangeFunc g0 c2 a6 Z) (.rangeF q ps asg body)=true)(hg:Gs GL N g w μ s a O)(h:awp P GL (.rangeF q ps asg body) Q s):
  (Code.rangeFunc g0 c2 a6 Z).wpIn (WF none) 0 P (PostM GL N Q g w μ a O) a w:=by
 simp only[Do,rX,beq_iff_eq]at hk;obtain⟨⟨⟨⟨⟨⟨k1,k2⟩,k3⟩,k4⟩,k5⟩,k6⟩,k7⟩:=hk;obtain⟨fid,caps,rets,h',tag,hf,⟨b0,e7⟩,b5,a1⟩:=h;refine wpIn_rangeFunc λfn _=>?_;obtain⟨J,d8,c5,c7⟩:=Jv ((hg.gd P).ev k1) hf;have d2:(w.alloc (.deferred (some []))).heap.size=w.heap.size+1:=Ac;have d3:∀G,((w.alloc (.deferred (some []))).alloc (.loop G)).heap.size=w.heap.size+2:=λG=>Ac;have i1:Inv g (w.alloc (.deferred (some []))) μ (AK s.e) (λn=>a.tmps.getD n undef) s.h O:=hg.inv.chg (CO _ g w _) (Dl hg.inv.agree _);have b6:∀b,b∈μ->b <w.heap.size:=λb hb=>hg.inv.mem_lt hb;have i2:Inv g (w.alloc (.deferred (some []))) μ (AK s.e) (λn=>a.tmps.getD n undef) s.h (λb=>O b\/b=w.heap.size):=by
  refine i1.addO AE (λhm=>by have:=b6 _ hm;omega) λp hp=>?_;have e5:Cm (AK s.e) (λn=>a.tmps.getD n undef) s.h w μ p=some w.heap.size:=by
   cases p with
   |tmp n k=>exact hp
   |cell r k=>
    simp only[Cm]at hp ⊢;have e2:BT (w.alloc (.deferred (some []))) μ r k=BT w μ r k:=by
     simp only[BT];cases hm:μ[r]? with
     |none=>rfl
     |some b'=>
      simp only[sW];rw[World.cell?_alloc_lt w _ ⟨b',k,none⟩ (b6 b' (rY hm))]
    rw[e2]at hp;exact hp
  have:=hg.inv.blk_lt e5;omega
 let G:Loop:={state:= .ready,pending:=none,fn,tmps:=a.tmps,params:=c2,assign:=a6,body:=Z,defers:=w.heap.size}
 have b1:μ <+: μ++[(w.alloc (.deferred (some []))).heap.size]:=tS _ _;have c1:LoopP P GL .ready (FI s.e) ps asg body g (μ++[(w.alloc (.deferred (some []))).heap.size]) (.loop G):=by
  refine⟨G,N,rfl,by rw[<-k2],hg.sz,λn w'=>⟨?_,λk=>?_⟩,k6,k7,k4,k5,λp hp=>by simpa using ry.1 k3 p hp,rfl,rfl⟩
  .rw[Mh];refine Tx (w:=w) ?_;exact(hg.inv.rep n).copy.chg (M:=λ_=>True) (Chg.refl _ _ _) b1 λk b hb=>by rw[CN]at hb;cases hb
  .rw[Mh];exact CN _ _ _
 have i3:=i2.newAny (A5 P GL .ready (FI s.e) ps asg body) (.loop G) ⟨.loop G,heap_alloc_new _ _,c1,λo=>Gh.lt_of i2.agree (ri _) o⟩ (λk ds d h=>by cases h);have i4:=i3.call;have d4:(μ++[(w.alloc (.deferred (some []))).heap.size])[s.h.length]?=some (w.heap.size+1):=by rw[<-hg.inv.len,d2];simp
 have c6:All2 (RepG g ((w.alloc (.deferred (some []))).alloc (.loop G)) (μ++[(w.alloc (.deferred (some []))).heap.size])) caps J:=by refine⟨c5.1,λi x v hx hv=>?_⟩;have a2:Chg (λ_=>False) g w g ((w.alloc (.deferred (some []))).alloc (.loop G)):=(CO _ g w _).trans (CO _ g _ _);exact(c5.2 i x v hx hv).chg a2 b1 λb hb=>by rw[c7 i x v hx hv]at hb;cases hb
 have b9:=e7 g _ _ (.func (.yield (w.heap.size+1)) #[] #[]::J) _ i4 hg.glob (.cons ⟨w.heap.size+1,d4,rfl⟩ c6) (λi d v hd hv=>by
  cases i with
  |zero=>simp at hd hv;subst hd;rfl
  |succ i=>exact c7 i d v (by simpa using hd) (by simpa using hv))
 have a8:(invoke (.fn (.func fid) J.toArray) #[.func (.yield (w.heap.size+1)) #[] #[]]).run P ((w.alloc (.deferred (some []))).alloc (.loop G))=
   .ok (.enter fid (Value.func (.yield (w.heap.size+1)) #[] #[]::J).toArray) ((w.alloc (.deferred (some []))).alloc (.loop G)):=by
  unfold UF at b0;split at b0
  .rename_i fn d9;simp only[rX,tA]at b0;have h1:¬fn.body=none:=by cases hb:fn.body<;>simp_all
   have h3:¬fn.name= "runtime.NumGoroutine" :=by simpa using b0.2
   have h2:(#[Value.func (.yield (w.heap.size+1)) #[] #[]]++J.toArray)=(Value.func (.yield (w.heap.size+1)) #[] #[]::J).toArray:=by rw[<-tE];simp
   simp[invoke,callFunc,d9,h3,h1,h2]
  .cases b0
 have c9:(resolve a.eval (rangeCall g0 (w.heap.size+1)) 0).run P ((w.alloc (.deferred (some []))).alloc (.loop G))=
   .ok {target:= .fn (.func fid) J.toArray,args:= #[.func (.yield (w.heap.size+1)) #[] #[]]} ((w.alloc (.deferred (some []))).alloc (.loop G)):=by
  have c8:a.eval g0= .func (.func fid) #[] J.toArray:=d8;have he:∀v,a.eval (.const v)=v:=λ_=>rfl;simp[resolve,rangeCall,c8,Deferred.ofValue,he]
 refine⟨w.heap.size+1,[TS w.heap.size],(w.alloc (.deferred (some []))).alloc (.loop G),_,_,fid,_,_,run_enterLoop_outer ..,c9,λ_ _=>trivial,a8,(λh=>by simp[WF,Fence.wide]at h),Fx ?_⟩;refine b9.mono ?_;rintro e w3 ⟨v,g',μ',rfl,c0,a2,hμ⟩;have b4:=c0.leave;have c4:μ'[s.h.length]?=some (w.heap.size+1):=Fa hμ d4;obtain⟨o,ho,⟨W,N',rfl,l1,l2,l3,l4,l5,l6,l7,l8,U⟩,e3⟩:=b4.rows s.h.length _ _ b5 c4;have a7:tag≠ .busy:=by rintro rfl;exact a1
 have b3:W.state≠ .busy:=by
  cases tag with
  |ready=>intro h;rw[U.1]at h;cases h
  |busy=>exact absurd rfl a7
  |done e=>cases e<;>exact U.1
 have i5:=i3.ret b4 a2 hμ;have i6:=i5.setAny b5 c4 .dead (Ek g') (Gy (o:= .loop {W with state:= .exhausted}) e3 i5.agree) (show _ <_ by rw[World.putObj_size];exact Bq ho) (λk ds d h=>by cases h);have e4:Gs GL N g' (w3.putObj (w.heap.size+1) (.loop {W with state:= .exhausted})) μ' ⟨s.e,h'.set s.h.length .dead⟩ {a with defers:=[TS w.heap.size]++a.defers} (λb=>O b\/b=w.heap.size):=
  ⟨i6,hg.glob.mono a2.le,hg.sz⟩
 have c3:∀b,O b->b <w.heap.size:=hg.inv.olt;have d5:Chg (λb=>¬O b) g w g ((w.alloc (.deferred (some []))).alloc (.loop G)):=(CO _ g w _).trans (CO _ g _ _);have d6:Chg (λb=>¬O b) g ((w.alloc (.deferred (some []))).alloc (.loop G)) g' w3:=a2.mono λb h hb=>h (.inl (.inl hb));have d7:Chg (λb=>¬O b) g' w3 g' (w3.putObj (w.heap.size+1) (.loop {W with state:= .exhausted})):=(Ek g').mono λb h hb=>by subst h;have:=c3 _ hb;omega
 have b2:Marks (λb=>O b\/b=w.heap.size) w (w3.putObj (w.heap.size+1) (.loop {W with state:= .exhausted})) a.defers ([TS w.heap.size]++a.defers):=by
  refine⟨[w.heap.size],rfl,Ac,λb hb=>?_⟩;simp only[rm]at hb;subst hb;refine⟨.inr rfl,ri _,?_⟩;rw[World.putObj_heap_other AE,a2.heap w.heap.size (by rw[d3];omega) (λh=>h (.inl (.inr rfl)))];have e1:((w.alloc (.deferred (some []))).alloc (.loop G)).heap[w.heap.size]?=(w.alloc (.deferred (some []))).heap[w.heap.size]?:=
   (CO (λ_=>False) g (w.alloc (.deferred (some []))) (.loop G)).heap w.heap.size AE (λh=>h)
  rw[e1];exact heap_alloc_new _ _
 have fin:∀e,Q e ⟨s.e,h'.set s.h.length .dead⟩->AfterM GL N (Q e) g w μ a O {a with defers:=[TS w.heap.size]++a.defers} (w3.putObj (w.heap.size+1) (.loop {W with state:= .exhausted})):=λe he=>
  ⟨_,g',μ',_,he,e4,λb h=> .inl h,d5.trans (d6.trans d7),b1.trans hμ,b2⟩
 refine⟨W.pending,_,run_endLoop ho b3,?_⟩;generalize w3.putObj (w.heap.size+1) (.loop {W with state:= .exhausted})=w4 at fin ⊢;cases tag with
 |ready=>rw[U.2];exact⟨.normal,trivial,fin _ a1⟩
 |busy=>exact absurd rfl a7
 |done e=>
  cases e with
  |none=>rw[U.2];exact wpIn_ret ⟨.ret,trivial,fin _ a1⟩
  |some i=>rw[U.2];exact wpIn_exit ⟨.exit i,rfl,fin _ a1⟩
end
end
section
variable {h h':List Row} {args:List D}
section
variable {P:Program} {GL:Ai} {N:Nat} {r:Option Nat}
def DU:∀(ac:AC){c:Code},Do P GL N c ac=true->(r=none\/ac.flat=true)->∀{Q:AExit->St->Prop}{g:Gh}{w:World}{μ:List Nat}{s:St}{a:Act}{O:Nat->Prop},
  Gs GL N g w μ s a O->awp P GL ac Q s->c.wpIn (WF r) 0 P (PostM GL N Q g w μ a O) a w
 | .skip,c,G,hr,Q,g,w,μ,s,a,O,hg,h=>by
  cases c<;>simp[Do]at G
  exact wpIn_skip ⟨.normal,trivial,s,g,μ,O,h,hg,λ_ h=>h,Chg.refl _ _ _,ro _,.nil rfl⟩
 | .reg is keep,c,G,hr,Q,g,w,μ,s,a,O,hg,h=>by
  cases c<;>(try simp only[Do,rz]at G)
  rename_i id b4 dr;cases dr with
  |true=>simp[Do]at G
  |false=>
  simp only[Do]at G;refine wpIn_region (J9 _ _ G hg h λa' w' h2=>?_);obtain⟨s',g',μ',W,U,J,hμ,hd⟩:=h2;exact⟨.normal,trivial,_,g',μ',O,W,U.norm keep,λ_ h=>h,J,hμ,.nil hd⟩
 | .regD is keep Az,c,G,hr,Q,g,w,μ,s,a,O,hg,h=>by
  cases c<;>(try simp only[Do,rz]at G)
  rename_i id b4 dr;cases dr with
  |false=>simp[Do]at G
  |true=>
  simp only[Do,rX]at G;refine wpIn_region_any G.2 (RF G.1.1 G.1.2 (K:=λs'=>Q .normal ⟨Bv s'.e keep,s'.h⟩) ?_ hg.drawn h λa' w' h2=>?_)
  .intro s1 s2 Z h;rw[<-H7 Z.1,<-Z.2];exact h
  .obtain⟨s',g',μ',W,U,J,hμ,hd⟩:=h2;exact⟨.normal,trivial,_,g',μ',O,W,U.norm keep,λ_ h=>h,(Il g w _ _).trans J,hμ,.nil hd⟩
 | .regA is keep Az t,c,G,hr,Q,g,w,μ,s,a,O,hg,h=>by
  cases c<;>(try simp only[Do,rz]at G)
  rename_i id b4 dr;cases dr with
  |false=>simp[Do]at G
  |true=>
  simp only[Do,rX]at G;refine wpIn_region_any G.2 (RG G.1.1.1.1 G.1.1.1.2 G.1.1.2 G.1.2 (K:=λs'=>∃s2,Qy s.h.length s' s2/\Q .normal ⟨Bv s2.e keep,s2.h⟩) ?_ hg.drawn h λa' w' h2=>?_)
  .rintro s1 s2 Z ⟨s3,hr,W⟩;rcases hr with rfl|⟨π,hp,ho,hf,hh⟩
   .exact⟨s2,.inl rfl,by rw[<-H7 Z.1,<-Z.2];exact W⟩
   .exact⟨s3,.inr ⟨π,by rw[<-Z.2];exact hp,by rw[<-Z.2];exact ho,λn=>by rw[<-Z.1];exact hf n,by rw[<-Z.2];exact hh⟩,W⟩
  .obtain⟨s',g',μ',⟨s2,hr,W⟩,U,J,hμ,hd⟩:=h2;obtain⟨μ2,b6,b9⟩:=U.ren hr;exact⟨.normal,trivial,_,g',μ2,O,W,b6.norm keep,λ_ h=>h,(Il g w _ _).trans J,b9 μ (by rw[hg.inv.len];exact ri _) hμ,.nil hd⟩
 | .regV is keep Az,c,G,hr,Q,g,w,μ,s,a,O,hg,h=>by
  cases c<;>(try simp only[Do,rz]at G)
  rename_i id b4 dr;cases dr with
  |false=>simp[Do]at G
  |true=>
  simp only[Do,rX]at G;refine wpIn_region_any G.2 (RE G.1.1 G.1.2 (K:=λs'=>Q .normal ⟨Bv s'.e keep,s'.h⟩) hg.drawn h λa' w' h2=>?_);obtain⟨s',g',μ',W,U,J,hμ,hd⟩:=h2;exact⟨.normal,trivial,_,g',μ',O,W,U.norm keep,λ_ h=>h,(Il g w _ _).trans J,hμ,.nil hd⟩
 | .seq x y,c,G,hr,Q,g,w,μ,s,a,O,hg,h=>by
  cases c<;>simp only[Do,rz,rX]at G
  have b1:r=none\/x.flat=true:=hr.imp_right λh=>by simp only[AC.flat,rX]at h;exact h.1
  have b2:r=none\/y.flat=true:=hr.imp_right λh=>by simp only[AC.flat,rX]at h;exact h.2
  refine wpIn_seq (wpIn_mono (DU x G.1 b1 hg h) ?_);rintro e a' w' ⟨e1,Z,s',g',μ',O',W,U,hO,J,hμ,hd⟩;cases e1 with
  |normal=>
   cases e<;>simp only[Hn]at Z
   exact wpIn_mono (DU y G.2 b2 U W) λe2 a2 w2 h2=>h2.trans hO J hμ hd
  |exit i=>
   cases e<;>simp only[Hn]at Z
   subst Z;exact⟨.exit i,rfl,s',g',μ',O',W,U,hO,J,hμ,hd⟩
  |ret=>
   cases e<;>simp only[Hn]at Z
   exact⟨.ret,trivial,s',g',μ',O',W,U,hO,J,hμ,hd⟩
 | .cond x y z,c,G,hr,Q,g,w,μ,s,a,O,hg,h=>by
  cases c<;>simp only[Do,rz,rX]at G
  simp only[awp]at h;have b1:r=none\/y.flat=true:=hr.imp_right λh=>by simp only[AC.flat,rX]at h;exact h.1
  have b2:r=none\/z.flat=true:=hr.imp_right λh=>by simp only[AC.flat,rX]at h;exact h.2
  have c0:=(hg.gd P).ev G.1.1;split at h
  .rename_i t ht;rw[ht]at c0;refine wpIn_cond (GW c0) ?_;cases t with
   |true=>exact DU y G.1.2 b1 hg h
   |false=>exact DU z G.2 b2 hg h
  .exact h.elim
 | .block id x,c,G,hr,Q,g,w,μ,s,a,O,hg,h=>by
  cases c<;>simp only[Do,rz,rX,beq_iff_eq]at G
  obtain⟨rfl,G⟩:=G;refine wpIn_block (wpIn_mono (DU x G hr hg h) ?_);rintro e a' w' ⟨e1,Z,s',g',μ',O',W,U,hO,J,hμ,hd⟩;cases e1 with
  |normal=>
   cases e<;>simp only[Hn]at Z
   exact⟨.normal,trivial,s',g',μ',O',W,U,hO,J,hμ,hd⟩
  |exit i=>
   cases e<;>simp only[Hn]at Z
   subst Z;simp only[Exit.inBlock];split
   .rename_i hi;simp only[hi,if_true]at W;exact⟨.normal,trivial,s',g',μ',O',W,U,hO,J,hμ,hd⟩
   .rename_i hi;simp only[hi,if_false]at W;exact⟨.exit i,rfl,s',g',μ',O',W,U,hO,J,hμ,hd⟩
  |ret=>
   cases e<;>simp only[Hn]at Z
   exact⟨.ret,trivial,s',g',μ',O',W,U,hO,J,hμ,hd⟩
 | .loop x,c,G,hr,Q,g,w,μ,s,a,O,hg,h=>by
  cases c<;>simp only[Do,rz]at G
  obtain⟨I,⟨m,hm⟩,a8⟩:=h;refine M2 (λm a' w'=>∃s' g' μ' O',I m s'/\Gs GL N g' w' μ' s' a' O'/\(∀b,O b->O' b)/\Chg (λb=>¬O b) g w g' w'/\μ <+: μ'/\Marks O' w w' a.defers a'.defers) ?_ m a w ⟨s,g,μ,O,hm,hg,λ_ h=>h,Chg.refl _ _ _,ro _,.nil rfl⟩;rintro m a1 w1 ⟨s1,g1,μ1,O1,hI,b5,a7,a6,b3,b0⟩;refine wpIn_mono (DU x G hr b5 (a8 m s1 hI)) ?_;rintro e a' w' ⟨e1,Z,s',g',μ',O',W,U,hO,J,hμ,hd⟩;cases e1 with
  |normal=>
   cases e<;>simp only[Hn]at Z
   obtain⟨m',c2,c1⟩:=W;exact⟨m',c2,s',g',μ',O',c1,U,λb hb=>hO b (a7 b hb),a6.trans (J.mono λb h hb=>h (a7 b hb)),b3.trans hμ,b0.trans a6.size hO J hd⟩
  |exit i=>
   cases e<;>simp only[Hn]at Z
   subst Z;exact⟨.exit i,rfl,s',g',μ',O',W,U,λb hb=>hO b (a7 b hb),a6.trans (J.mono λb h hb=>h (a7 b hb)),b3.trans hμ,b0.trans a6.size hO J hd⟩
  |ret=>
   cases e<;>simp only[Hn]at Z
   exact⟨.ret,trivial,s',g',μ',O',W,U,λb hb=>hO b (a7 b hb),a6.trans (J.mono λb h hb=>h (a7 b hb)),b3.trans hμ,b0.trans a6.size hO J hd⟩
 | .exit id,c,G,hr,Q,g,w,μ,s,a,O,hg,h=>by
  cases c<;>simp[Do]at G
  subst G;exact wpIn_exit ⟨.exit _,rfl,s,g,μ,O,h,hg,λ_ h=>h,Chg.refl _ _ _,ro _,.nil rfl⟩
 | .ret,c,G,hr,Q,g,w,μ,s,a,O,hg,h=>by
  cases c<;>simp[Do]at G
  exact wpIn_ret ⟨.ret,trivial,s,g,μ,O,h,hg,λ_ h=>h,Chg.refl _ _ _,ro _,.nil rfl⟩
 | .never,c,G,hr,Q,g,w,μ,s,a,O,hg,h=>h.elim
 | .rangeF q ps asg body,c,G,hr,Q,g,w,μ,s,a,O,hg,h=>by
  have c3:r=none:=by
   rcases hr with h|h
   .exact h
   .simp[AC.flat]at h
  subst c3;cases c<;>(try (simp only[Do,rz]at G;done))
  exact Pz G hg h
def E5(e:CC)(ps:List Nat)(args:List D):CC:=(ps.zip args).foldl (λe p=>p::e) e
def BH(P:Program)(GL:Ai)(e0:CC)(ps:List Nat)(asg body:AC)(rr:Nat):AExit->List Row->Bool->List Row->Prop
 | .normal,h,b,h'=>b=true/\h'=h.set rr (A5 P GL .ready e0 ps asg body)
 | .ret,h,b,h'=>b=false/\h'=h.set rr (A5 P GL (.done none) e0 ps asg body)
 | .exit i,h,b,h'=>b=false/\h'=h.set rr (A5 P GL (.done (some i)) e0 ps asg body)
abbrev ZO(g:Gh)(w:World)(μ:List Nat)(e:CC)(ts:Array Value):Prop:=∀n,RepD g w μ (AK e n) (ts.getD n undef)/\∀k,Ar (AK e n) (ts.getD n undef) k=none
def L7{g:Gh}{w:World}{μ:List Nat}{N:Nat}:∀{ps:List Nat}{args:List D}{us:List Value}{e:CC}{ts:Array Value},args.length=ps.length->(∀p∈ps,p <N)->All2 (RepG g w μ) args us->Tame args us->ts.size=N->
  ZO g w μ e ts->ZO g w μ (E5 e ps args) ((ps.zip us).foldl (λt p=>t.setIfInBounds p.1 p.2) ts)/\((ps.zip us).foldl (λt p=>t.setIfInBounds p.1 p.2) ts).size=N
 |[],args,us,e,ts,_,_,_,_,hs,hg=>by simpa[E5]using ⟨hg,hs⟩
 |p::ps,[],us,e,ts,hl,_,_,_,_,_=>by simp at hl
 |p::ps,a::args,[],e,ts,_,_,ha,_,_,_=>by have:=ha.1;simp at this
 |p::ps,a::args,u::us,e,ts,hl,hp,ha,ht,hs,hg=>by
  rw[All2.cons_iff]at ha;have:=L7 (ps:=ps) (args:=args) (us:=us) (e:=(p,a)::e) (ts:=ts.setIfInBounds p u) (by simpa using hl) (λq O=>hp q (by simp[O])) ha.2
   (λi d v hd U=>ht (i+1) d v (by simpa using hd) (by simpa using U)) (by simpa using hs) (λn=>by
    simp only[AK];by_cases h:p=n
    .subst h;have J:p <ts.size:=hs▸hp p Ac;have G:(ts.setIfInBounds p u).getD p undef=u:=by simp[sH,J]
     rw[if_pos rfl,G];exact⟨ha.1.toD,Ih ha.1 (ht 0 a u rfl rfl)⟩
    .have G:(ts.setIfInBounds p u).getD n undef=ts.getD n undef:=by simp[sH,sg,h]
     rw[if_neg h,G];exact hg n)
  exact this
theorem CK{Z:Nat}{e0:CC}{ps:List Nat}{asg body:AC}{b:Bool}(c4:h[Z]?=some (A5 P GL .ready e0 ps asg body))(hl:args.length=ps.length)(hw:awp P GL asg (λe s=>e= .normal/\s.h[Z]?=some (A5 P GL .ready e0 ps asg body)/\
   awp P GL body (λe s'=>s'.h[Z]?=some (A5 P GL .busy e0 ps asg body)/\BH P GL e0 ps asg body Z e s'.h b h') ⟨s.e,s.h.set Z (A5 P GL .busy e0 ps asg body)⟩) ⟨E5 e0 ps args,h⟩):
  Ky P GL Z args h b h':=by
 intro g w μ us O hinv hgl hall htame bl hbl;obtain⟨o,ho,⟨lp,N,rfl,l1,l2,l3,l4,l5,l6,l7,l8,d8⟩,d9⟩:=hinv.rows Z _ bl c4 hbl;have c1:us.length=args.length:=hall.1;have d4:us.toArray.size=lp.params.size:=by rw[l1];simp[c1,hl]
 refine⟨_,_,_,_,run_yield ho d4,?_⟩;obtain⟨W,b3⟩:=L7 hl l8 hall htame l2 λn=>l3 n w;have e1:(lp.params.zip us.toArray).foldl (λtmps x=>match x with|(t,a)=>tmps.setIfInBounds t a) lp.tmps=(ps.zip us).foldl (λt p=>t.setIfInBounds p.1 p.2) lp.tmps:=by rw[l1,<-Array.foldl_toList];simp
 refine roundIn_of_wpIn trivial ?_;rw[e1];generalize (ps.zip us).foldl (λt p=>t.setIfInBounds p.1 p.2) lp.tmps=ts at W b3;have d2:Gs GL N g w μ ⟨E5 e0 ps args,h⟩ {tmps:=ts,defers:=[]} O:=⟨hinv.enter (λn=>(W n).1) (λn=>(W n).2),hgl,b3⟩;refine wpIn_mono (DU (r:=some bl) asg l4 (.inr l6) d2 hw) ?_;rintro e a1 w1 ⟨ee,he,s1,g1,μ1,O1,⟨rfl,a7,d7⟩,U,b5,b6,c5,_⟩;cases e<;>simp only[Hn]at he
 have a2:μ1[Z]?=some bl:=Fa c5 hbl;obtain⟨o1,c2,⟨c7,N1,rfl,j1,j2,j3,j4,j5,j6,j7,j8,b4⟩,b1⟩:=U.inv.rows Z _ bl a7 a2;refine⟨_,run_beginRound c2 b4.1,?_⟩;have i2:=U.inv.setAny a7 a2 (A5 P GL .busy e0 ps asg body) (Ek g1) (Gy (o:= .loop {c7 with state:= .busy}) b1 U.inv.agree)
  ⟨_,World.putObj_heap_same (Bq c2),⟨_,N1,rfl,j1,j2,j3,j4,j5,j6,j7,j8,rfl⟩,b1⟩ (λk ds d h=>by cases h)
 have c0:Gs GL N g1 (w1.putObj bl (.loop {c7 with state:= .busy})) μ1 ⟨s1.e,s1.h.set Z (A5 P GL .busy e0 ps asg body)⟩ a1 O1:=⟨i2,U.glob,U.sz⟩;refine wpIn_mono (DU (r:=some bl) body l5 (.inr l7) c0 d7) ?_;rintro e a3 w3 ⟨ee,he,s3,g3,μ3,O3,⟨a8,J⟩,a6,c9,b9,c6,_⟩;have b0:μ3[Z]?=some bl:=Fa c6 a2;obtain⟨o3,c3,⟨c8,N3,rfl,m1,m2,m3,m4,m5,m6,m7,m8,d5⟩,b2⟩:=a6.inv.rows Z _ bl a8 b0;have d3:¬O bl:=hinv.mo bl (rY hbl);have fin:∀(G:Option Code)(tag:Tag),ZN tag {c8 with state:=if G.isNone then .ready else .done,pending:=G}->b=G.isNone->h'=s3.h.set Z (A5 P GL tag e0 ps asg body)->
   ∃v w',(Instr.endRound bl G).run P w3= .ok v w'/\∃g' μ',Ending.returned v= .returned (.bool b)/\Inv g' w' μ' Kv NP h' O/\Chg (λb=>¬O b) g w g' w'/\μ <+: μ':=by
  intro G tag d6 hb hh;have i4:=a6.inv.setAny a8 b0 (A5 P GL tag e0 ps asg body) (Ek g3) (Gy (o:= .loop {c8 with state:=if G.isNone then .ready else .done,pending:=G}) b2 a6.inv.agree)
   ⟨_,World.putObj_heap_same (Bq c3),⟨_,N3,rfl,m1,m2,m3,m4,m5,m6,m7,m8,d6⟩,b2⟩ (λk ds d h=>by cases h)
  refine⟨_,_,run_endRound G c3,g3,μ3,by rw[hb],?_,?_,c5.trans (c6)⟩
  .rw[hh];exact(i4.leave).subO λb hb=>c9 b (b5 b hb)
  .have hm:∀x,x=bl->¬O x:=λx h hb=>d3 (h▸hb);exact b6.trans (Chg.trans ((Ek g1).mono hm) (Chg.trans (b9.mono λb h hb=>h (b5 b hb)) ((Ek g3).mono hm)))
 cases ee with
 |normal=>
  cases e<;>simp only[Hn]at he
  exact fin none .ready ⟨rfl,rfl⟩ J.1 J.2
 |exit i=>
  cases e<;>simp only[Hn]at he
  subst he;exact fin (some (.exit i)) (.done (some i)) ⟨Ac,rfl⟩ J.1 J.2
 |ret=>
  cases e<;>simp only[Hn]at he
  exact fin (some .ret) (.done none) ⟨Ac,rfl⟩ J.1 J.2
end
end
section
inductive AR where
 |t (n:Nat)
 |c (n sz:Nat) (ag:Bool)
def AR.val(s:St):AR->Option V
 | .t n=>(AK s.e n).toV
 | .c n sz ag=>((PI.load (.t n false) sz ag).val s.e s.h).bind D.toV
def Cf(s:St):List AR->Option (List V)
 |[]=>some []
 |r::rs=>match r.val s,Cf s rs with
  |some x,some xs=>some (x::xs)
  |_,_=>none
def Ad(args:List V):CC:=args.zipIdx.map λp=>(p.2,.v p.1)
def D.one?:D->Option D
 | .tup _=>none
 |d=>some d
def D.keep:D->D
 | .W e s xs=> .W e s xs
 |d=>d.arg
def AR.d(s:St):AR->Option D
 | .t n=>some (AK s.e n).keep
 | .c n sz ag=>((PI.load (.t n false) sz ag).val s.e s.h).bind λd=>d.arg.one?
def Dg(s:St):List AR->Option (List D)
 |[]=>some []
 |r::rs=>match r.d s,Dg s rs with
  |some x,some xs=>some (x::xs)
  |_,_=>none
def AZ(args:List D):CC:=args.zipIdx.map λp=>(p.2,p.1)
def Ks(P:Program):ResultVar->AR->Bool
 | .tmp t,.t n=>t==n
 | .cell a T,.c n sz ag=>a==n&&Bw P T sz&&IU P T ag&&(ag||sz==1)
 |_,_=>false
def FU:List AR->List Nat
 |[]=>[]
 | .t n::rs=>n::FU rs
 | .c _ _ _::rs=>FU rs
def DD(P:Program)(GL:Ai)(f n:Nat)(ac:AC)(rs:List AR):Bool:=
 match P.funcs[f]? with
 |some fn=> !(fn.name== "runtime.NumGoroutine")&&(match fn.body with|some c=>Do P GL fn.ntmps c ac|none=>false)&&A0 (Ks P) fn.results.toList rs&&decide (n<=fn.ntmps)&&decide (FU rs).Nodup
 |none=>false
def Mx(tmps:Array Value):ResultVar->Sem Value
 | .tmp t=>pure (tmps.getD t undef)
 | .cell a t=>do loadVar t (<-asAddr (tmps.getD a undef))
def L9(fn:Func)(tmps:Array Value):results fn tmps=(do
  let vs <-fn.results.mapM (Mx tmps)
  pure (if h:vs.size=1 then vs[0] else .tuple vs)):=by
 unfold results
 congr 1
variable {N f n:Nat} {M O:Nat->Prop} {a:Act} {s:St} {μ:List Nat} {w w':World} {g g':Gh} {vs:List Value} {xs:List V} {h h':List Row} {u v:Value} {d:D} {args rets:List D}
section
variable {P:Program} {GL:Ai}
def HX:∀(args:List V)(k n:Nat),AK ((args.zipIdx k).map λp=>(p.2,D.v p.1)) n=if k<=n then ((args[n-k]?).map D.v).getD .any else .any
 |[],k,n=>by simp[AK]
 |x::xs,k,n=>by
  simp only[u5,rq,AK];by_cases h:k=n
  .subst h;simp
  .rw[if_neg h,HX xs (k+1) n];by_cases h2:k+1<=n
   .rw[if_pos h2,CF,show n-k=(n-(k+1))+1 by omega,tf]
   .rw[if_neg h2,Bj]
def JC(args:List V)(n:Nat):AK (Ad args) n=((args[n]?).map D.v).getD .any:=by have:=HX args 0 n;simpa[Ad]using this
theorem b7(hg:Gs GL N g w μ s a O){rv:ResultVar}{r:AR}(J:Ks P rv r=true){x:V}(hx:r.val s=some x):
  ∃v,(Mx a.tmps rv).run P w= .ok v w/\RepV g x v:=by
 cases rv with
 |tmp t=>
  cases r with
  |t n=>
   have:t=n:=by simpa[Ks]using J
   subst this;exact⟨_,rfl,Cv (hg.inv.rep t) hx⟩
  |c n sz ag=>simp[Ks]at J
 |cell b t=>
  cases r with
  |t n=>simp[Ks]at J
  |c n sz ag=>
   simp only[Ks,rX,beq_iff_eq]at J;obtain⟨⟨⟨rfl,hs⟩,W⟩,h1⟩:=J;simp only[AR.val,vS]at hx;obtain⟨d,hd,Z⟩:=hx;have:=On (P:=P) (GL:=GL) (a:= .tmp b) (a':= .t b false) (t:=t) (by simp[oe]) hs W h1 (hg.gd P) hd
    {(default:Oper)with op:= .load t (.tmp b)} rfl
   obtain⟨v,G,U,_⟩:=this;refine⟨v,?_,Cv U Z⟩;have a1:a.eval (.tmp b)=a.tmps.getD b undef:=rfl;simp only[execOp,Instr.loadAt,a1,Sem.run_bind,Sem.run_map]at G;simp only[Mx,Sem.run_bind];cases hp:a.tmps.getD b undef with
   |pointer p=>
    cases p with
    |none=>simp[hp,Instr.sureAddr]at G
    |some p=>
     simp only[hp,Instr.sureAddr,Sem.run_pure,Result.andThen_ok,asAddr]at G ⊢;cases hl:(loadVar t p).run P w with
     |ok v' w'=>simp[hl]at G;obtain⟨rfl,rfl⟩:=G;rfl
     |halt h w'=>simp[hl]at G
   |_=>simp[hp,Instr.sureAddr]at G
def K7{g:Gh}{w:World}{μ:List Nat}{s:St}{a:Act}{O:Nat->Prop}{N:Nat}(hg:Gs GL N g w μ s a O):∀{G:List ResultVar}{rs:List AR}{xs:List V},A0 (Ks P) G rs=true->Cf s rs=some xs->
  ∃vs:List Value,(G.mapM (Mx a.tmps)).run P w= .ok vs w/\All2 (RepV g) xs vs
 |[],[],xs,_,h=>by simp only[Cf,rV]at h;subst h;exact⟨[],rfl,.nil⟩
 |rv::G,r::rs,xs,hk,h=>by
  simp only[A0,rX]at hk;simp only[Cf]at h;split at h
  .rename_i y ys hy J;simp only[rV]at h;subst h;obtain⟨v,U,h2⟩:=b7 hg hk.1 hy;obtain⟨vs,W,Z⟩:=K7 hg hk.2 J;refine⟨v::vs,?_,.cons h2 Z⟩;rw[List.mapM_cons,Sem.run_bind,U,Result.andThen_ok,Sem.run_bind,W];rfl
  .cases h
 |[],_::_,_,hk,_=>by simp[A0]at hk
 |_::_,[],_,hk,_=>by simp[A0]at hk
theorem Ws(h:All2 (RepV g) xs vs):RepD g w [] (JW xs) (if h:vs.toArray.size=1 then vs.toArray[0] else .tuple vs.toArray):=by
 unfold JW;split
 .rename_i x;have G:=h.1
  match vs,G with
  |[v],_=>
   simp only[uI,sF,t6,dite_true];exact(All2.cons_iff.1 h).1
 .rename_i J;have G:¬vs.toArray.size=1:=by
   intro U;have:xs.length=1:=by rw[<-h.1];simpa using U
   match xs,this with
   |[x],_=>exact J x rfl
  rw[dif_neg G];exact⟨vs,rfl,by simp[h.1],λi x v hx W=>by simp only[rk,rt]at hx;obtain⟨y,Z,rfl⟩:=hx;exact h.2 i y v Z W⟩
theorem Inv.chgO{t:Nat->D}{u:Nat->Value}(hi:Inv g w μ t u h O)(hc:Chg M g w g' w')(Z:∀b,M b->O b)(a1:∀b o v,g'.m b o=some v->w'.cell? ⟨b,o,none⟩=some v):Inv g' w' μ t u h O:=by
 have G:∀r k,BT w' μ r k=BT w μ r k:=by
  intro r k;simp only[BT];cases hm:μ[r]? with
  |none=>rfl
  |some b=>
   have W:=rY hm;simp only[sW];rw[World.cell?_of_block (a:=⟨b,k,none⟩) (hc.heap b (hi.mem_lt W) (λh=>hi.mo b W (Z b h)))]
 refine hi.upd hc a1 (λn=>EX hi hc (ro μ) n λk U a2 h=>(hi.sep _ U a2).2 (Z U h)) hi.len
  (λr row b hr hb=>hi.rowChg hc (ro μ) hr hb (λh=>hi.mo b (rY hb) (Z b h)) (λp U J h=>absurd (Z U h) (hi.sep p U J).2)) hi.nod (λb hb=> .inl hb)
  (λp=>some p) (λp q r J hq=>by simp at J hq;rw[J,hq]) (.tmp 0 0) ?_
 intro p b J;cases p with
 |tmp m j=>exact .inl ⟨.tmp m j,rfl,J⟩
 |cell r k=>simp only[Cm,G]at J;exact .inl ⟨.cell r k,rfl,J⟩
def Jm{F:Fence}{n:Nat}{fn:Func}{tmps:Array Value}{R:Ending->World->Prop}:∀(J:List Nat){w:World},J.Nodup->(∀b∈J,w.heap[b]?=some (.deferred (some [])))->
  (∀w':World,w'.heap.size=w.heap.size->w'.os=w.os->w'.output=w.output->(∀b,b∉J->w'.heap[b]?=w.heap[b]?)->∃v,(results fn tmps).run P w'= .ok v w'/\R (.returned v) w')->LeavesInM F n P fn tmps R (J.map TS) .returning w
 |[],w,_,_,h=>h w rfl rfl rfl λ_ _=>rfl
 |b::J,w,hn,hd,h=>by
  rw[tj]at hn;refine⟨Ac,.inl ⟨b,_,rfl,run_takeDeferred (hd b Ac),?_⟩⟩;refine Jm J hn.2 (λU G=>?_) λw' Z W hu hw=>h w' (Z.trans World.putObj_size) W hu λU G=>?_
  .rw[World.putObj_heap_other (λ(h:U=b)=>hn.1 (h▸G))];exact hd U (by simp[G])
  .simp only[rj,not_or]at G;rw[hw U G.2,World.putObj_heap_other G.1]
def Qs{F:Fence}{fn:Func}{Q:St->Prop}{R:Ending->World->Prop}{a':Act}{w1:World}(hd:a.defers=[])(U:∀b,O b->b <w.heap.size)(h:AfterM GL N Q g w μ a O a' w1)(hR:∀s' g' μ' w',Q s'->Gs GL N g' w' μ' s' a' O->Chg (λb=>¬O b) g w g' w'->μ <+: μ'->∃v,(results fn a'.tmps).run P w'= .ok v w'/\R (.returned v) w'):
  LeavesInM F n P fn a'.tmps R a'.defers .returning w1:=by
 obtain⟨s',g',μ',O',hq,hg,hO,hc,hμ,ms,a2,a7,hp⟩:=h;rw[a2,hd,sk];have J:∀b∈ms,∀o,g'.m b o=none:=by
  intro b G o;cases hx:g'.m b o with
  |none=>rfl
  |some v=>
   have:=hg.inv.agree b o v hx;simp[World.cell?,(hp b G).2.2]at this
 have a6:∀b∈ms,¬O b\/False:=λb G=> .inl λho=>by have h1:=(hp b G).2.1;have h3:=U b ho;omega
 refine Jm ms a7 (λb G=>(hp b G).2.2) λw' hs ho hu hw=>?_;have W:Chg (λb=>b∈ms) g' w1 g' w':=⟨Gh.le.refl _,AE,λb _ G=>hw b G,λ_ _ _ _=>rfl,ho,hu⟩;have a1:∀b o v,g'.m b o=some v->w'.cell? ⟨b,o,none⟩=some v:=by
  intro b o v hv;by_cases G:b∈ms
  .rw[J b G]at hv;cases hv
  .rw[World.cell?_of_block (a:=⟨b,o,none⟩) (hw b G)];exact hg.inv.agree b o v hv
 have Z:=(hg.inv.chgO W (λb G=>(hp b G).1) a1).subO hO;exact hR s' g' μ' w' hq ⟨Z,hg.glob,hg.sz⟩ (hc.trans (W.mono λb G ho=>(a6 b G).elim (λh=>h ho) id)) hμ
theorem I4{ac:AC}{rs:List AR}{args rets:List V}(hk:DD P GL f n ac rs=true)(hn:args.length=n)(h:awp P GL ac (λe s=>(match e with| .exit _=>False|_=>True)/\Cf s rs=some rets) ⟨Ad args,[]⟩):PSp P GL f args rets:=by
 unfold DD at hk;split at hk
 .rename_i fn a6;simp only[rX]at hk;obtain⟨⟨⟨⟨b5,G⟩,b0⟩,b6⟩,_⟩:=hk;have c2:args.length<=fn.ntmps:=by rw[hn];simpa using b6
  split at G
  .rename_i c hc;refine⟨by simp[UF,a6,hc,b5],λg w us b2 b3 a1=>(callsIn_wide (n:=0)).1 ?_⟩;have c1:us.length=args.length:=a1.1;refine callsIn_of_wp_marks a6 hc trivial ?_ rfl;have a7:Gs GL fn.ntmps g w [] ⟨Ad args,[]⟩ {tmps:=us.toArray++Array.replicate (fn.ntmps-us.toArray.size) undef,defers:=[]} (λb=>b <w.heap.size):=by
    refine⟨⟨b2,λb J=>J,λn=>?_,rfl,λr row b hr=>by simp at hr,λr r' b hr=>by simp at hr,λb J=>by simp at J,λp q b W=>?_,λp b W=>?_⟩,b3,by simp;omega⟩
    .simp only[JC];cases hx:args[n]? with
     |none=>simp[RepD,RepG,RepE]
     |some x=>
      obtain⟨v,hv,hr⟩:=a1.get hx;have b4:=(rZ.1 hv).1;have:(us.toArray++Array.replicate (fn.ntmps-us.toArray.size) undef).getD n undef=v:=by simp[Array.getElem?_append,b4];exact(rZ.1 hv).2
      simp only[sT,sA,this];exact hr
    .exfalso;cases p with
     |tmp n k=>
      simp only[Cm,JC]at W;cases hx:args[n]?<;>simp only[hx,Option.map_none,sT,Option.getD_none,sA]at W<;>cases k<;>simp[Ar,Am]at W
     |cell r k=>simp[Cm,BJ,Am]at W
    .exfalso;cases p with
     |tmp n k=>
      simp only[Cm,JC]at W;cases hx:args[n]?<;>simp only[hx,Option.map_none,sT,Option.getD_none,sA]at W<;>cases k<;>simp[Ar,Am]at W
     |cell r k=>simp[Cm,BJ,Am]at W
   refine wpIn_mono (DU (r:=none) ac G (.inl rfl) a7 h) ?_;rintro e a' w1 ⟨e1,he,Z⟩;have fin:(match e1 with| .exit _=>False|_=>True)->LeavesInM (WF none) 0 P fn a'.tmps (λe w'=>∃v g',e= .returned v/\RepD g' w' [] (JW rets) v/\Chg (λ_=>False) g w g' w'/\S8 g' w') a'.defers .returning w1:=by
    intro _;refine Qs rfl (λb J=>J) Z ?_;rintro s' g' μ' w' ⟨_,c0⟩ hgs hch _;obtain⟨vs,b1,a8⟩:=K7 hgs b0 c0;have U:(results fn a'.tmps).run P w'= .ok (if h:vs.toArray.size=1 then vs.toArray[0] else .tuple vs.toArray) w':=by rw[L9,Array.mapM_eq_mapM_toList];simp only[Sem.run_bind,Sem.run_map];rw[b1];rfl
    have a2:Chg (λ_=>False) g w g' w':=⟨hch.le,hch.size,λb J _=>hch.heap b J (λh=>h J),λb J _=>hch.gh b J (λh=>h J),hch.os,hch.out⟩;exact⟨_,U,_,g',rfl,Ws a8,a2,hgs.inv.agree⟩
   cases e1 with
   |normal=>cases e<;>simp only[Hn]at he;exact fin trivial
   |exit i=>obtain⟨_,_,_,_,⟨b9,_⟩,_⟩:=Z;exact b9.elim
   |ret=>cases e<;>simp only[Hn]at he;exact fin trivial
  .cases G
 .cases hk
def Gm:∀(args:List D)(k n:Nat),AK ((args.zipIdx k).map λp=>(p.2,p.1)) n=if k<=n then (args[n-k]?).getD .any else .any
 |[],k,n=>by simp[AK]
 |x::xs,k,n=>by
  simp only[u5,rq,AK];by_cases h:k=n
  .subst h;simp
  .rw[if_neg h,Gm xs (k+1) n];by_cases h2:k+1<=n
   .rw[if_pos h2,CF,show n-k=(n-(k+1))+1 by omega,tf]
   .rw[if_neg h2,Bj]
def Qb(args:List D)(n:Nat):AK (AZ args) n=(args[n]?).getD .any:=by have:=Gm args 0 n;simpa[AZ]using this
def VP(h:RepD g w μ d u):RepG g w μ d.keep u:=by
 have:=h.arg;cases d<;>first
  |exact h
  |exact this
def VQ(d:D)(u:Value)(b:Nat)(h:Am d.keep u=some b):Ar d u 0=some b:=by
 cases d<;>first
  |(simp only[D.keep]at h;rw[MJ]at h;cases h;done)
  |exact h
theorem X0(hg:Gs GL N g w μ s a O){rv:ResultVar}{r:AR}(W:Ks P rv r=true){x:D}(hx:r.d s=some x):
  ∃v,(Mx a.tmps rv).run P w= .ok v w/\RepG g w μ x v/\∀b,Am x v=some b->∃n,r= .t n/\Ar (AK s.e n) (a.tmps.getD n undef) 0=some b:=by
 cases rv with
 |tmp t=>
  cases r with
  |t n=>
   have:t=n:=by simpa[Ks]using W
   subst this;simp only[AR.d,rV]at hx;subst hx;exact⟨_,rfl,VP (hg.inv.rep t),λb hb=>⟨t,rfl,VQ _ _ _ hb⟩⟩
  |c n sz ag=>simp[Ks]at W
 |cell b t=>
  cases r with
  |t n=>simp[Ks]at W
  |c n sz ag=>
   simp only[Ks,rX,beq_iff_eq]at W;obtain⟨⟨⟨rfl,hs⟩,a1⟩,h1⟩:=W;simp only[AR.d,vS]at hx;obtain⟨d,hd,J⟩:=hx;have a6:d.arg=x:=by cases hq:d.arg<;>rw[hq]at J<;>simp[D.one?]at J<;>exact J
   subst a6;have:=On (P:=P) (GL:=GL) (a:= .tmp b) (a':= .t b false) (t:=t) (by simp[oe]) hs a1 h1 (hg.gd P) hd
    {(default:Oper)with op:= .load t (.tmp b)} rfl
   obtain⟨v,G,Z,_⟩:=this;refine⟨v,?_,Z.arg,λb' U=>by rw[MJ]at U;cases U⟩;have a2:a.eval (.tmp b)=a.tmps.getD b undef:=rfl;simp only[execOp,Instr.loadAt,a2,Sem.run_bind,Sem.run_map]at G;simp only[Mx,Sem.run_bind];cases hp:a.tmps.getD b undef with
   |pointer p=>
    cases p with
    |none=>simp[hp,Instr.sureAddr]at G
    |some p=>
     simp only[hp,Instr.sureAddr,Sem.run_pure,Result.andThen_ok,asAddr]at G ⊢;cases hl:(loadVar t p).run P w with
     |ok v' w'=>simp[hl]at G;obtain⟨rfl,rfl⟩:=G;rfl
     |halt h w'=>simp[hl]at G
   |_=>simp[hp,Instr.sureAddr]at G
theorem JX{g:Gh}{w:World}{μ:List Nat}{s:St}{a:Act}{O:Nat->Prop}{N:Nat}(hg:Gs GL N g w μ s a O):∀{G:List ResultVar}{rs:List AR}{xs:List D},A0 (Ks P) G rs=true->Dg s rs=some xs->
  ∃vs:List Value,(G.mapM (Mx a.tmps)).run P w= .ok vs w/\All2 (RepG g w μ) xs vs/\∀(k:Nat)d v b,xs[k]?=some d->vs[k]?=some v->Am d v=some b->∃n,rs[k]?=some (.t n)/\Ar (AK s.e n) (a.tmps.getD n undef) 0=some b
 |[],[],xs,_,h=>by simp only[Dg,rV]at h;subst h;exact⟨[],rfl,.nil,λi d v b h=>by simp at h⟩
 |rv::G,r::rs,xs,hk,h=>by
  simp only[A0,rX]at hk;simp only[Dg]at h;split at h
  .rename_i y ys hy Z;simp only[rV]at h;subst h;obtain⟨v,h1,h2,J⟩:=X0 hg hk.1 hy;obtain⟨vs,h3,h4,U⟩:=JX hg hk.2 Z;refine⟨v::vs,?_,.cons h2 h4,λi d u b hd W hb=>?_⟩
   .rw[List.mapM_cons,Sem.run_bind,h1,Result.andThen_ok,Sem.run_bind,h3];rfl
   .cases i with
    |zero=>
     simp at hd W;subst hd;subst W;obtain⟨n,rfl,h⟩:=J b hb;exact⟨n,rfl,h⟩
    |succ i=>exact U i d u b (by simpa using hd) (by simpa using W) hb
  .cases h
 |[],_::_,_,hk,_=>by simp[A0]at hk
 |_::_,[],_,hk,_=>by simp[A0]at hk
theorem Ul{xs:List D}(h:All2 (RepG g w μ) xs vs):
  RepD g w μ (Bp xs) (if h:vs.toArray.size=1 then vs.toArray[0] else .tuple vs.toArray)/\
   ∀k b,Ar (Bp xs) (if h:vs.toArray.size=1 then vs.toArray[0] else .tuple vs.toArray) k=some b->∃d v,xs[k]?=some d/\vs[k]?=some v/\Am d v=some b:=by
 unfold Bp;split
 .rename_i x;have U:=h.1
  match vs,U with
  |[v],_=>
   simp only[uI,sF,t6,dite_true];have hx:=(All2.cons_iff.1 h).1;refine⟨hx.toD,λk b G=>?_⟩;have J:∀ds,x≠ .tup ds:=λds he=>by subst he;exact hx.elim
   cases k with
   |zero=>
    refine⟨x,v,rfl,rfl,?_⟩;cases x<;>first
     |exact G
     |exact absurd rfl (J _)
   |succ k=>
    exfalso;cases x<;>first
     |(simp[Ar]at G;done)
     |exact absurd rfl (J _)
 .rename_i W;have U:¬vs.toArray.size=1:=by
   intro h1;have:xs.length=1:=by rw[<-h.1];simpa using h1
   match xs,this with
   |[x],_=>exact W x rfl
  rw[dif_neg U];refine⟨⟨vs,rfl,h⟩,λk b G=>?_⟩;simp only[Ar,uT]at G;cases hx:xs[k]? with
  |none=>simp[hx,Am]at G
  |some x=>
   obtain⟨v,Z,_⟩:=h.get hx;simp only[hx,Z,sA]at G;exact⟨x,v,rfl,Z,G⟩
def HO:∀{rs:List AR}{k n:Nat},rs[k]?=some (.t n)->n∈FU rs
 |[],k,n,h=>by simp at h
 | .t m::rs,0,n,h=>by simp at h;simp[FU,h]
 | .t m::rs,k+1,n,h=>by simp only[FU,rj];exact .inr (HO (rs:=rs) (k:=k) (by simpa using h))
 | .c _ _ _::rs,0,n,h=>by simp at h
 | .c _ _ _::rs,k+1,n,h=>by simp only[FU];exact HO (rs:=rs) (k:=k) (by simpa using h)
def JL:∀{rs:List AR},(FU rs).Nodup->∀{k k' n:Nat},rs[k]?=some (.t n)->rs[k']?=some (.t n)->k=k'
 |[],_,k,k',n,h,_=>by simp at h
 | .t m::rs,hd,k,k',n,h,h'=>by
  simp only[FU,tj]at hd;cases k with
  |zero=>cases k' with
   |zero=>rfl
   |succ k'=>
    simp at h;subst h;exact absurd (HO (rs:=rs) (k:=k') (by simpa using h')) hd.1
  |succ k=>cases k' with
   |zero=>
    simp at h';subst h';exact absurd (HO (rs:=rs) (k:=k) (by simpa using h)) hd.1
   |succ k'=>rw[JL hd.2 (k:=k) (k':=k') (by simpa using h) (by simpa using h')]
 | .c _ _ _::rs,hd,k,k',n,h,h'=>by
  simp only[FU]at hd;cases k with
  |zero=>simp at h
  |succ k=>cases k' with
   |zero=>simp at h'
   |succ k'=>rw[JL hd (k:=k) (k':=k') (by simpa using h) (by simpa using h')]
theorem Wr{t:Nat->D}{u:Nat->Value}(hi:Inv g w μ t u h O){rs:List AR}(a6:(FU rs).Nodup){x:D}(hx:RepD g w μ x v)(ho:∀k b,Ar x v k=some b->∃n,rs[k]?=some (.t n)/\Ar (t n) (u n) 0=some b):Inv g w μ (Hc .any x) (Hc (.bool false) v) h O:=by
 refine hi.upd (Chg.refl (λ_=>False) g w) hi.agree (λn=>?_) hi.len hi.rows hi.nod (λb U=> .inl U)
  (λp=>match p with| .tmp 0 k=>(match rs[k]? with|some (.t n)=>some (.tmp n 0)|_=>none)| .tmp (_+1) _=>none| .cell r k=>some (.cell r k)) ?_ (.tmp 0 0) ?_
 .simp only[Hc];split
  .exact hx
  .trivial
 .intro p q z J G;cases p with
  |tmp n k=>
   cases n with
   |succ n=>cases J
   |zero=>
    simp only at J;split at J
    .rename_i n hn;simp only[rV]at J;subst J;cases q with
     |tmp W k'=>
      cases W with
      |succ W=>cases G
      |zero=>
       simp only at G;split at G
       .rename_i W a2;simp only[rV,Pl.tmp.injEq,and_true]at G;subst G;rw[JL a6 hn a2]
       .cases G
     |cell r k'=>simp at G
    .cases J
  |cell r k=>
   simp only[rV]at J;subst J;cases q with
   |tmp W k'=>
    cases W with
    |succ W=>cases G
    |zero=>
     simp only at G;split at G
     .simp at G
     .cases G
   |cell r' k'=>simpa[eq_comm]using G
 .intro p b U;refine .inl ?_;cases p with
  |tmp n k=>
   cases n with
   |succ n=>simp only[Cm,Hc]at U;cases k<;>simp[Ar,Am]at U
   |zero=>
    have Z:Ar x v k=some b:=by simpa[Cm,Hc]using U
    obtain⟨n,hn,a1⟩:=ho k b Z;exact⟨.tmp n 0,by simp only[hn],a1⟩
  |cell r k=>exact⟨.cell r k,rfl,U⟩
theorem HH{ac:AC}{rs:List AR}(hk:DD P GL f n ac rs=true)(hn:args.length=n)(hw:awp P GL ac (λe s=>(match e with| .exit _=>False|_=>True)/\∃y,Dg s rs=some y/\∀g w μ v O,Inv g w μ (Hc .any (Bp y)) (Hc (.bool false) v) s.h O->
   ∃g2 μ2,(∀μ0:List Nat,μ0.length=h.length->μ0 <+: μ->μ0 <+: μ2)/\Inv g2 w μ2 (Hc .any (Bp rets)) (Hc (.bool false) v) h' O/\Chg (λb=>¬O b) g w g2 w) ⟨AZ args,h⟩):
  UF P f=true/\∀(g:Gh)(w:World)(μ:List Nat)(us:List Value)(O:Nat->Prop),us.length=args.length->Inv g w μ (NO .any args) (NO undef us) h O->GlobOK GL g->
  Calls P f us.toArray w λe w'=>∃v g' μ',e= .returned v/\Inv g' w' μ' (Hc .any (Bp rets)) (Hc (.bool false) v) h' O/\Chg (λb=>¬O b) g w g' w'/\μ <+: μ':=by
 unfold DD at hk;split at hk
 .rename_i fn a8;simp only[rX]at hk;obtain⟨⟨⟨⟨b5,G⟩,b2⟩,b6⟩,J⟩:=hk;have J:(FU rs).Nodup:=by simpa using J
  have c2:args.length<=fn.ntmps:=by rw[hn];simpa using b6
  split at G
  .rename_i c hc;refine⟨by simp[UF,a8,hc,b5],λg w μ us O hlen hinv0 hgl=>(callsIn_wide (n:=0)).1 ?_⟩;refine callsIn_of_wp_marks a8 hc trivial ?_ rfl;have hu:(λn=>(us.toArray++Array.replicate (fn.ntmps-us.toArray.size) undef).getD n undef)=NO undef us:=by
    funext n
    by_cases a2:n <us.length
    .simp[NO,Array.getElem?_append,a2]
    .have e2:(us.toArray++Array.replicate (fn.ntmps-us.toArray.size) undef)[n]?.getD undef=undef:=by rw[Array.getElem?_append_right (by simpa using a2),Array.getElem?_replicate];split<;>rfl
     have e3:NO undef us n=undef:=by simp[NO,sU (Nat.le_of_not_lt a2)]
     rw[e3,sH];exact e2
   have Z:Gs GL fn.ntmps g w μ ⟨AZ args,h⟩ {tmps:=us.toArray++Array.replicate (fn.ntmps-us.toArray.size) undef,defers:=[]} O:=by refine⟨?_,hgl,by simp;omega⟩;show Inv g w μ (AK (AZ args)) (λn=>(us.toArray++Array.replicate (fn.ntmps-us.toArray.size) undef).getD n undef) h O;rw[hu,show AK (AZ args)=NO .any args from funext (Qb args)];exact hinv0
   refine wpIn_mono (DU (r:=none) ac G (.inl rfl) Z hw) ?_;rintro e a' w1 ⟨e1,he,W⟩;have fin:(match e1 with| .exit _=>False|_=>True)->LeavesInM (WF none) 0 P fn a'.tmps (λe w'=>∃v g' μ',e= .returned v/\Inv g' w' μ' (Hc .any (Bp rets)) (Hc (.bool false) v) h' O/\Chg (λb=>¬O b) g w g' w'/\μ <+: μ') a'.defers .returning w1:=by
    intro _;refine Qs rfl Z.inv.olt W ?_;rintro s' g' μ' w' ⟨_,y,c0,a6⟩ hgs hch hμ;obtain⟨vs,b4,b1,b0⟩:=JX hgs b2 c0;have U:(results fn a'.tmps).run P w'= .ok (if h:vs.toArray.size=1 then vs.toArray[0] else .tuple vs.toArray) w':=by rw[L9,Array.mapM_eq_mapM_toList];simp only[Sem.run_bind,Sem.run_map];rw[b4];rfl
    obtain⟨r1,r2⟩:=Ul b1;have b3:=Wr hgs.inv J r1 (λk b hb=>by obtain⟨d,v,hd,hv,ho⟩:=r2 k b hb;exact b0 k d v b hd hv ho)
    obtain⟨g2,μ2,c1,a1,a7⟩:=a6 _ _ _ _ _ b3;exact⟨_,U,_,g2,μ2,rfl,a1,hch.trans a7,c1 μ hinv0.len hμ⟩
   cases e1 with
   |normal=>cases e<;>simp only[Hn]at he;exact fin trivial
   |exit i=>obtain⟨_,_,_,_,⟨b9,_⟩,_⟩:=W;exact b9.elim
   |ret=>cases e<;>simp only[Hn]at he;exact fin trivial
  .cases G
 .cases hk
end
end
section
attribute [simp] Opd.moved Du Bo AI.step AI.dst CL Opd.ev Opd.clear AK D.copy PI.val V.bin D.isNil D.isNilP NM D.cells? Fu FT D.isCap D.toRow I1 SC EC Bv D.toV D.v? D.vs? Cf AR.val V.part D.part V.getI JW
variable {s:St} {K:St->Prop} {h h':List Row} {args rets:List D} {f n:Nat} {Q:AExit->St->Prop}
section
variable {P:Program} {GL:Ai}
@[simp] theorem bu (K:St->Prop) (s:St):Bd P GL [] K s=K s:=rfl
@[simp] theorem Xw (i:AI) (G:List GI) (K:St->Prop) (s:St):Bd P GL (⟨none,i⟩::G) K s=Du P GL i (Bd P GL G K) s:=rfl
@[simp] theorem Xx (t:Nat) (J:Bool) (i:AI) (G:List GI) (K:St->Prop) (s:St):Bd P GL (⟨some (t,J),i⟩::G) K s=
  match AK s.e t with
  | .v (.bool b)=>if b=J then Du P GL i (Bd P GL G K) s else Bd P GL G K ⟨CL s.e i.dst (.tup []),s.h⟩
  | .tup []=>Bd P GL G K ⟨CL s.e i.dst (.tup []),s.h⟩
  |_=>False:=rfl
def OG(P:Program)(GL:Ai)(i:AI)(K:St->Prop)(s:St):Prop:=
 match i with
 | .call d f args=>∃fid caps vs rets,(f.ev s.e).toV=some (.func fid caps)/\I1 s.e args=some vs/\PSp P GL fid (vs++caps) rets/\K ⟨CL s.e d (JW rets),s.h⟩
 | .callF d f args=>Bo P GL d f args K s
 | .callC d f args=>Bo P GL d f args (λs'=>(∃t,s'.h=s.h++t)/\K s') s
 | .callO d f q args=>∃fid rets,Dn (f.ev s.e)=some (fid,[])/\cR P GL fid (q.ev s.e::A9 s.e args) rets/\K ⟨CL (q.clear s.e) d (Bp rets),s.h⟩
 |i=>match i.step s with
  |some s'=>K s'
  |none=>False
def KB(P:Program)(GL:Ai)(ops:List GI)(K:St->Prop)(s:St):Prop:=∃s',M7 P GL ops s s'/\K s'
theorem Qo{d:Option Nat}{f:Opd}{args:List Opd}(h:Bo P GL d f args K s):∃rets h',Gq P GL (f.ev s.e) (A9 s.e args) s.h rets h'/\K ⟨CL s.e d (Bp rets),h'⟩:=by
 unfold Bo at h;split at h
 .rename_i r J;obtain⟨b,h',W,G⟩:=h;exact⟨[.v (.bool b)],h',by simp only[Gq,J];exact⟨b,W,rfl⟩,G⟩
 .rename_i fid fs J;obtain⟨rets,h',O,G⟩:=h;exact⟨rets,h',by simp only[Gq,J];exact O,G⟩
 .rename_i U h2;split at h
  .rename_i fid caps J;obtain⟨rets,h',O,G⟩:=h;refine⟨rets,h',?_,G⟩;unfold Gq;split
   .rename_i r N;exact absurd N (U r)
   .rename_i a b N;exact absurd N (h2 a b)
   .exact⟨fid,caps,J,O⟩
  .exact h.elim
theorem NY{i:AI}:(∃s1,K4 P GL i s s1/\K s1)↔OG P GL i K s:=by
 constructor
 .rintro⟨s1,h|⟨d,f,args,fid,caps,vs,rets,rfl,J,Z,N,rfl⟩|⟨d,f,args,rets,h',hi,hc,rfl⟩|⟨d,f,q,args,fid,rets,rfl,J,N,rfl⟩,G⟩
  .unfold OG;split
   .cases h
   .cases h
   .cases h
   .cases h
   .rw[h];exact G
  .exact⟨fid,caps,vs,rets,J,Z,N,G⟩
  .have key:∀K:St->Prop,K ⟨CL s.e d (Bp rets),h'⟩->Bo P GL d f args K s:=by
    intro K G;simp only[Bo];unfold Gq at hc;split at hc
    .rename_i r J;obtain⟨b,hy,rfl⟩:=hc
     first|(rw[J];exact⟨b,h',hy,G⟩)|exact⟨b,h',hy,G⟩
    .rename_i fid fs J
     first|(rw[J];exact⟨rets,h',hc,G⟩)|exact⟨rets,h',hc,G⟩
    .rename_i h1 h2;obtain⟨fid,caps,J,O⟩:=hc
     first
      |(simp only[J];exact⟨rets,h',O,G⟩)
      |(split
        .rename_i r U;exact absurd U (h1 r)
        .rename_i a b U;exact absurd U (h2 a b)
        .simp only[J];exact⟨rets,h',O,G⟩)
   rcases hi with rfl|⟨rfl,W⟩
   .exact key K G
   .exact key (λs'=>(∃t,s'.h=s.h++t)/\K s') ⟨W,G⟩
  .exact⟨fid,rets,J,N,G⟩
 .intro h;unfold OG at h;split at h
  .rename_i d f args;obtain⟨fid,caps,vs,rets,J,Z,N,G⟩:=h;exact⟨_,.inr (.inl ⟨d,f,args,fid,caps,vs,rets,rfl,J,Z,N,rfl⟩),G⟩
  .rename_i d f args;obtain⟨rets,h',hc,G⟩:=Qo h;exact⟨_,.inr (.inr (.inl ⟨d,f,args,rets,h',.inl rfl,hc,rfl⟩)),G⟩
  .rename_i d f args;obtain⟨rets,h',hc,hq⟩:=Qo (K:=λs'=>(∃t,s'.h=s.h++t)/\K s') h;obtain⟨W,G⟩:=hq;exact⟨_,.inr (.inr (.inl ⟨d,f,args,rets,h',.inr ⟨rfl,W⟩,hc,rfl⟩)),G⟩
  .rename_i d f q args;obtain⟨fid,rets,J,N,G⟩:=h;exact⟨_,.inr (.inr (.inr ⟨d,f,q,args,fid,rets,rfl,J,N,rfl⟩)),G⟩
  .split at h
   .rename_i s' O;exact⟨s',.inl O,h⟩
   .exact h.elim
@[simp] theorem ij (K:St->Prop) (s:St):KB P GL [] K s↔K s:=⟨λ⟨_,h,G⟩=>by cases h;exact G,λh=>⟨s,rfl,h⟩⟩
@[simp] theorem bw (i:AI) (G:List GI) (K:St->Prop) (s:St):KB P GL (⟨none,i⟩::G) K s↔OG P GL i (KB P GL G K) s:=by
 rw[<-NY]
 constructor
 .rintro⟨t,⟨s1,J,h2⟩,N⟩;exact⟨s1,J,t,h2,N⟩
 .rintro⟨s1,J,t,h2,N⟩;exact⟨t,⟨s1,J,h2⟩,N⟩
@[simp] theorem bx (t:Nat) (J:Bool) (i:AI) (G:List GI) (K:St->Prop) (s:St):KB P GL (⟨some (t,J),i⟩::G) K s↔
  match AK s.e t with
  | .v (.bool b)=>if b=J then OG P GL i (KB P GL G K) s else KB P GL G K ⟨CL s.e i.dst (.tup []),s.h⟩
  | .tup []=>KB P GL G K ⟨CL s.e i.dst (.tup []),s.h⟩
  |_=>False:=by
 have W:KB P GL (⟨some (t,J),i⟩::G) K s↔∃s1,Bh P GL ⟨some (t,J),i⟩ s s1/\KB P GL G K s1:=by
  constructor
  .rintro⟨t,⟨s1,N,h2⟩,O⟩;exact⟨s1,N,t,h2,O⟩
  .rintro⟨s1,N,t,h2,O⟩;exact⟨t,⟨s1,N,h2⟩,O⟩
 rw[W];simp only[Bh];cases hf:AK s.e t with
 |v x=>
  cases x with
  |bool b=>
   simp only[];by_cases U:b=J
   .simp only[U,if_true];exact NY
   .simp only[U,if_false];exact⟨λ⟨_,N,h2⟩=>N▸h2,λh=>⟨_,rfl,h⟩⟩
  |_=>simp only[];exact⟨λ⟨_,N,_⟩=>N,λh=>h.elim⟩
 |tup ds=>
  cases ds with
  |nil=>simp only[];exact⟨λ⟨_,N,h2⟩=>N▸h2,λh=>⟨_,rfl,h⟩⟩
  |cons d ds=>simp only[];exact⟨λ⟨_,N,_⟩=>N,λh=>h.elim⟩
 |_=>simp only[];exact⟨λ⟨_,N,_⟩=>N,λh=>h.elim⟩
attribute [simp] OG
theorem Aa(G:List GI)(keep:List Nat)(cl:List (List Nat))(Q:AExit->St->Prop)(s:St):awp P GL (.regD G keep cl) Q s=KB P GL G (λs'=>Q .normal ⟨Bv s'.e keep,s'.h⟩) s:=rfl
theorem Bf(G:List GI)(keep:List Nat)(cl:List (List Nat))(t:AT)(Q:AExit->St->Prop)(s:St):awp P GL (.regA G keep cl t) Q s=t.ok P GL G (λs'=>∃s2,Qy s.h.length s' s2/\Q .normal ⟨Bv s2.e keep,s2.h⟩) s:=rfl
@[simp] theorem cP (G:List GI) (K:St->Prop) (s:St):AT.done.ok P GL G K s=K s:=rfl
@[simp] theorem cL (J:List GI) (i:Nat) (t:AT) (K:St->Prop) (s:St):(AT.take i t).ok P GL J K s↔KB P GL [J.getD i default] (t.ok P GL J K) s:=
 ⟨λ⟨s1,G,h2⟩=>⟨s1,⟨s1,G,rfl⟩,h2⟩,λ⟨s1,⟨s2,G,h2⟩,N⟩=>by cases h2;exact⟨_,G,N⟩⟩
@[simp] theorem cN (G:List GI) (c:AT) (K:St->Prop) (s:St):(AT.pick c).ok P GL G K s=c.ok P GL G K s:=rfl
@[simp] theorem ik (G:List GI) (i:Nat) (t r:AT) (K:St->Prop) (s:St):(AT.alt i t r).ok P GL G K s↔KB P GL [G.getD i default] (t.ok P GL G K) s/\r.ok P GL G K s:=
 ⟨λ⟨⟨s1,J,h2⟩,h⟩=>⟨⟨s1,⟨s1,J,rfl⟩,h2⟩,h⟩,λ⟨⟨s1,⟨s2,J,h2⟩,N⟩,h⟩=>by cases h2;exact⟨⟨_,J,N⟩,h⟩⟩
@[simp] theorem cO (G:List GI) (K:St->Prop) (s:St):AT.none.ok P GL G K s=True:=rfl
theorem Bc{O:List GI}(t:AT):∀{K J:St->Prop}{s:St},(∀s,K s->J s)->t.ok P GL O K s->t.ok P GL O J s:=by
 induction t with
 |done=>intro K J s G h;exact G _ h
 |take i t ih=>rintro K J s G ⟨s1,N,h2⟩;exact⟨s1,N,ih G h2⟩
 |pick c ih=>intro K J s G h;exact ih (s:=s) G h
 |alt i t r iht ihr=>rintro K J s G ⟨⟨s1,N,h2⟩,h⟩;exact⟨⟨s1,N,iht G h2⟩,ihr G h⟩
 |none=>intro K J s G h;trivial
theorem AJ(G:List GI)(keep:List Nat)(Q:AExit->St->Prop)(s:St):awp P GL (.reg G keep) Q s=Bd P GL G (λs'=>Q .normal ⟨Bv s'.e keep,s'.h⟩) s:=rfl
theorem AH(a b:AC)(Q:AExit->St->Prop)(s:St):awp P GL (.seq a b) Q s=awp P GL a (λe s'=>match e with| .normal=>awp P GL b Q s'|e=>Q e s') s:=rfl
theorem AO(x:Opd)(a b:AC)(Q:AExit->St->Prop)(s:St):awp P GL (.cond x a b) Q s=match x.ev s.e with| .v (.bool t)=>if t then awp P GL a Q s else awp P GL b Q s|_=>False:=rfl
theorem AY(id:Nat)(c:AC)(Q:AExit->St->Prop)(s:St):awp P GL (.block id c) Q s=awp P GL c (λe s'=>match e with| .exit id'=>if id'=id then Q .normal s' else Q (.exit id') s'|e=>Q e s') s:=rfl
theorem AD(Q:AExit->St->Prop)(s:St):awp P GL .skip Q s=Q .normal s:=rfl
theorem AN(id:Nat)(Q:AExit->St->Prop)(s:St):awp P GL (.exit id) Q s=Q (.exit id) s:=rfl
theorem AA(Q:AExit->St->Prop)(s:St):awp P GL .ret Q s=Q .ret s:=rfl
theorem Mw(q:Opd)(ps:List Nat)(asg body:AC)(Q:AExit->St->Prop)(s:St):awp P GL (.rangeF q ps asg body) Q s=
  ∃fid caps rets h' tag,Dn (q.ev s.e)=some (fid,caps)/\FSp P GL fid (.yld s.h.length::caps) (s.h++[A5 P GL .ready (FI s.e) ps asg body]) rets h'/\
   h'[s.h.length]?=some (A5 P GL tag (FI s.e) ps asg body)/\Cg Q ⟨s.e,h'.set s.h.length .dead⟩ tag:=rfl
theorem WM(G:List GI)(keep:List Nat)(cl:List (List Nat))(Q:AExit->St->Prop)(s:St):awp P GL (.regV G keep cl) Q s=NQ P GL G cl (λs'=>Q .normal ⟨Bv s'.e keep,s'.h⟩) G.length (List.range G.length) s:=rfl
theorem OH{i:AI}{W:St->Prop}(G:∀s,K s->W s)(h:Du P GL i K s):Du P GL i W s:=by
 have J:∀{d f args},Bo P GL d f args K s->Bo P GL d f args W s:=by
  intro d f args h;unfold Bo at h ⊢;split at h
  .obtain⟨a,b,N,O⟩:=h;exact⟨a,b,N,G _ O⟩
  .obtain⟨a,b,N,O⟩:=h;exact⟨a,b,N,G _ O⟩
  .split at h
   .obtain⟨a,b,N,O⟩:=h;exact⟨a,b,N,G _ O⟩
   .exact h
 unfold Du at h ⊢;split at h
 .exact J h
 .exact J h
 .exact J h
 .obtain⟨a,b,N,h2,O⟩:=h;exact⟨a,b,N,h2,G _ O⟩
 .split at h
  .exact⟨h.1,h.2.1,λb=>G _ (h.2.2 b)⟩
  .exact h
 .obtain⟨a,b,c,N,h2,O⟩:=h;exact⟨a,b,c,N,h2,G _ O⟩
 .split at h
  .refine⟨h.1,h.2.1,?_⟩;rcases h.2.2 with ⟨N,h2⟩|h
   .exact .inl ⟨N,G _ h2⟩
   .refine .inr ?_;split at h
    .rename_i U;rw[if_pos U];exact G _ h
    .rename_i U;rw[if_neg U];exact λk=>G _ (h k)
  .refine⟨h.1,h.2.1,?_⟩;rcases h.2.2 with ⟨N,h2,O⟩|h
   .exact .inl ⟨N,h2,G _ O⟩
   .refine .inr ⟨h.1,?_⟩;have h:=h.2;split at h
    .rename_i U;rw[if_pos U];exact G _ h
    .rename_i U;rw[if_neg U];exact λk=>G _ (h k)
  .exact h
 .split at h
  .exact⟨G _ h.1,G _ h.2⟩
  .exact⟨G _ h.1,G _ h.2⟩
  .exact G _ h
  .exact h
 .split at h
  .exact G _ h
  .exact h
theorem Ku{x:GI}{N:St->Prop}(G:∀s,K s->N s)(h:Ec P GL x K s):Ec P GL x N s:=by
 unfold Ec at h ⊢;split at h
 .exact OH G h
 .split at h
  .split at h
   .rename_i J;rw[if_pos J];exact OH G h
   .rename_i J;rw[if_neg J];exact G _ h
  .exact G _ h
  .exact h
def LS:∀{G:List GI}{K J:St->Prop}{s:St},(∀s,K s->J s)->Bd P GL G K s->Bd P GL G J s
 |[],_,_,_,hk,h=>hk _ h
 |x::rest,_,_,_,hk,h=>Ku (λs h=>LS hk h) h
def OJ{N:List GI}{cl:List (List Nat)}:∀(n:Nat){G:List Nat}{K J:St->Prop}{s:St},(∀s,K s->J s)->NQ P GL N cl K n G s->NQ P GL N cl J n G s
 |0,_,_,_,s,hk,h=>hk s h
 |n+1,G,_,_,s,hk,h=>λi hi O=>Ku (λs h=>OJ n hk h) (h i hi O)
theorem Ap:∀(c:AC){Q J:AExit->St->Prop}{s:St},(∀e s,Q e s->J e s)->awp P GL c Q s->awp P GL c J s:=by
 intro c;induction c with
 |skip=>intro Q J s G h;exact G _ _ h
 |reg ops keep=>intro Q J s G h;exact LS (λs h=>G _ _ h) h
 |regA ops keep cl t=>intro Q J s G h;exact Bc t (λs ⟨s2,N,h2⟩=>⟨s2,N,G _ _ h2⟩) h
 |regV ops keep cl=>intro Q J s G h;exact OJ _ (λs h=>G _ _ h) h
 |regD ops keep cl=>rintro Q J s G ⟨t,N,h2⟩;exact⟨t,N,G _ _ h2⟩
 |seq a b iha ihb=>
  intro Q J s G h;refine iha ?_ h;intro e s h;cases e with
  |normal=>exact ihb G h
  |exit i=>exact G _ _ h
  |ret=>exact G _ _ h
 |cond x a b iha ihb=>
  intro Q J s G h;simp only[awp]at h ⊢;split at h
  .rename_i t Z;cases t with
   |true=>exact iha G h
   |false=>exact ihb G h
  .exact h
 |block id c ih=>
  intro Q J s G h;refine ih ?_ h;intro e s h;cases e with
  |exit i=>simp only at h ⊢;split at h<;>rename_i hi<;>simp only[hi,if_true,if_false]<;>exact G _ _ h
  |normal=>exact G _ _ h
  |ret=>exact G _ _ h
 |loop c ih=>
  intro Q J s G h;obtain⟨I,U,h⟩:=h;refine⟨I,U,λm s hi=>ih ?_ (h m s hi)⟩;intro e s h;cases e with
  |normal=>exact h
  |exit i=>exact G _ _ h
  |ret=>exact G _ _ h
 |exit id=>intro Q J s G h;exact G _ _ h
 |ret=>intro Q J s G h;exact G _ _ h
 |never=>intro Q J s G h;exact h
 |rangeF q ps asg body _ _=>
  rintro Q J s G ⟨fid,caps,rets,h',tag,N,h2,W,O⟩;refine⟨fid,caps,rets,h',tag,N,h2,W,?_⟩;cases tag with
  |ready=>exact G _ _ O
  |busy=>exact O
  |done e=>cases e<;>exact G _ _ O
theorem Ki(H:UF P f=true/\∀(g:Gh)(w:World)(μ:List Nat)(us:List Value)(O:Nat->Prop),us.length=args.length->Inv g w μ (NO .any args) (NO undef us) h O->GlobOK GL g->
  Calls P f us.toArray w λe N=>∃v g' μ',e= .returned v/\Inv g' N μ' (Hc .any (Bp rets)) (Hc (.bool false) v) h' O/\Chg (λb=>¬O b) g w g' N/\μ <+: μ'):FSp P GL f args h rets h':=by
 obtain⟨U,h2⟩:=H;refine⟨U,λg w μ us O hinv hgl hall htame=>h2 g w μ us O hall.1 (hinv.enter (λn=>?_) (λn k=>?_)) hgl⟩
 .simp only[NO];cases hx:args[n]? with
  |none=>simp[RepD,RepG,RepE]
  |some x=>
   obtain⟨v,G,J⟩:=hall.get hx;rw[G];exact J.toD
 .simp only[NO];cases hx:args[n]? with
  |none=>cases k<;>simp[Ar,Am]
  |some x=>
   obtain⟨v,G,J⟩:=hall.get hx;rw[G];exact Ih J (htame n x v hx G) k
def QZ{G:AC}{rs:List AR}(W:DD P GL f n G rs=true)(Z:args.length=n)(hw:awp P GL G (λe s=>(match e with| .exit _=>False|_=>True)/\∃y,Dg s rs=some y/\∀g w μ t u O,Inv g w μ t u s.h O->y=rets/\Inv g w μ t u h' O) ⟨AZ args,h⟩):FSp P GL f args h rets h':=by
 refine Ki (HH (rets:=rets) (h':=h') W Z (Ap G (λe s=>by rintro⟨J,y,h2,N⟩;exact⟨J,y,h2,λg w μ v O hi=>⟨g,μ,λ_ _ h=>h,by obtain⟨rfl,U⟩:=N _ _ _ _ _ _ hi;exact U,Chg.refl _ _ _⟩⟩) hw))
def JA{G:AC}{rs:List AR}(N:DD P GL f n G rs=true)(W:args.length=n)(Z:awp P GL G (λe s=>(match e with| .exit _=>False|_=>True)/\Dg s rs=some rets/\s.h=h') ⟨AZ args,h⟩):FSp P GL f args h rets h':=by
 refine QZ N W ?_;have U:∀e s,((match e with|AExit.exit _=>False|_=>True)/\Dg s rs=some rets/\s.h=h')->((match e with|AExit.exit _=>False|_=>True)/\∃y,Dg s rs=some y/\∀g w μ t u O,Inv g w μ t u s.h O->y=rets/\Inv g w μ t u h' O):=by rintro e s ⟨J,h2,rfl⟩;exact⟨J,rets,h2,λ_ _ _ _ _ _ hi=>⟨rfl,hi⟩⟩
 exact Ap G U Z
theorem MK{G:AC}{rs:List AR}(N:DD P GL f n G rs=true)(U:args.length=n)(W:∀h,awp P GL G (λe s=>(match e with| .exit _=>False|_=>True)/\Dg s rs=some rets/\s.h=h) ⟨AZ args,h⟩):cR P GL f args rets:=by
 have key:∀h,_:=λh=>HH (h':=h) N U (Ap G (λe s=>by rintro⟨J,h2,rfl⟩;exact⟨J,rets,h2,λg _ μ _ _ hi=>⟨g,μ,λ_ _ h=>h,hi,Chg.refl _ _ _⟩⟩) (W h))
 exact⟨(key []).1,λg w μ us O h hl hi hg=>(key h).2 g w μ us O hl hi hg⟩
def Ew{c:AC}{G:St}{e0:AExit}(h:awp P GL c (λe s=>e=e0/\s=G) s)(J:Q e0 G):awp P GL c Q s:=
 Ap c (λe s h=>by obtain⟨rfl,rfl⟩:=h;exact J) h
theorem EY{c:AC}(n:Nat)(S:Nat->St)(h:∀k,k<=n->awp P GL c (λe s'=>match e with| .normal=>k <n/\s'=S (k+1)|e=>Q e s') (S k))(k:Nat)(G:k<=n):awp P GL (.loop c) Q (S k):=by
 refine⟨λm s=>∃k,k<=n/\m=n-k/\s=S k,⟨n-k,k,G,rfl,rfl⟩,?_⟩;rintro m s ⟨k,G,rfl,rfl⟩;refine Ap c ?_ (h k G);intro e s' h;cases e with
 |normal=>obtain⟨J,rfl⟩:=h;exact⟨n-(k+1),AE,k+1,J,rfl,rfl⟩
 |exit i=>exact h
 |ret=>exact h
end
end
abbrev BK:Ai:=[(0,[.int .i64 12,.int .i64 0])]
def iZ:List GI:=[⟨none,.mv 4 (.c (.v (.int .i64 0)))⟩]
def iY:List GI:=[⟨none,.mv 6 (.t 0 false)⟩,⟨none,.p 7 (.alen (.t 6 false))⟩,⟨none,.mv 8 (.c (.v (.int .i64 0)))⟩]
def Xr:List GI:=[⟨none,.p 9 (.bin .lss (.t 8 false) (.t 7 false))⟩]
def bQ:List GI:=[⟨none,.mv 10 (.t 8 false)⟩,⟨none,.mv 5 (.t 10 false)⟩]
def bP(s:Nat)(g:Bool):List GI:=[⟨none,.mv 11 (.t 1 false)⟩,⟨none,.mv 12 (.t 0 false)⟩,⟨none,.mv 13 (.t 5 false)⟩,⟨none,.p 14 (.iaddr (.t 12 false) (.t 13 false) s)⟩,⟨none,.p 15 (.load (.t 14 false) s g)⟩,⟨none,.call (some 16) (.t 11 false) [(.t 15 false)]⟩]
def bN:List GI:=[⟨none,.mv 17 (.t 5 false)⟩,⟨none,.mv 4 (.t 17 false)⟩]
def bM:List GI:=[⟨none,.p 18 (.bin .add (.t 8 false) (.c (.v (.int .i64 1))))⟩,⟨none,.mv 8 (.t 18 false)⟩]
def iX:List GI:=[⟨none,.mv 4 (.c (.v (.int .i64 (-1))))⟩]
def T1(s:Nat)(g:Bool):AC:=(.seq (.reg Xr [0,1,7,8,9]) (.seq (.cond (.t 9 false) .skip (.exit 0)) (.seq (.block 1 (.seq (.reg bQ [0,1,5,7,8]) (.seq (.reg (bP s g) [0,1,5,7,8,16]) (.cond (.t 16 false) (.seq (.reg bN [4]) .ret) .skip)))) (.reg bM [0,1,7,8]))))
def cI(s:Nat)(g:Bool):AC:=(.seq (.reg iZ [0,1]) (.seq (.seq (.reg iY [0,1,7,8]) (.block 0 (.loop (T1 s g)))) (.seq (.reg iX [4]) .ret)))
def NK:List AR:=[.t 4]
def iW:List GI:=[⟨none,.mv 4 (.c (.v (.bool false)))⟩]
def iV(f:Nat):List GI:=[⟨none,.mv 5 (.t 0 true)⟩,⟨none,.mv 6 (.t 1 false)⟩,⟨none,.call (some 7) (.c (.v (.func f []))) [(.t 5 false),(.t 6 false)]⟩,⟨none,.p 8 (.bin .geq (.t 7 false) (.c (.v (.int .i64 0))))⟩,⟨none,.mv 4 (.t 8 false)⟩]
def cJ(f:Nat):AC:=(.seq (.reg iW [0,1]) (.seq (.reg (iV f) [4]) .ret))
abbrev PX:=PSp Go.Proofs.Tryz.prog BK
abbrev FX:=FSp Go.Proofs.Tryz.prog BK
abbrev AX:=awp Go.Proofs.Tryz.prog BK
section
def AM(k:IntKind)(xs:List Int):V:= .list (xs.map (.int k))
def Iz(bs:List Int):Int:=bs.foldr (λb w=>256*w+b) 0
def Au(bs:List Int):List Int:=(List.range ((bs.length+7)/8)).map λk=>Iz ((bs.drop (8*k)).take 8)
def AS{a:Int}(h1: -9223372036854775808<=a:=by omega)(h2:a <9223372036854775808:=by omega):IntKind.i64.wrap a=a:=by unfold IntKind.wrap;simp only[IntKind.bits,IntKind.signed];have e1:((2:Int)^64)=18446744073709551616:=Ah;have e2:((2:Int)^(64-1))=9223372036854775808:=Ah;simp only[e1,e2,sV,decide_eq_true_eq,ge_iff_le];split<;>omega
def BL{a:Int}(J:0<=a)(h2:a <18446744073709551616):IntKind.u64.wrap a=a:=by unfold IntKind.wrap;simp only[IntKind.bits,IntKind.signed];have G:((2:Int)^64)=18446744073709551616:=Ah;simp only[G,uM,rz,if_false];omega
variable {b:Nat}
def Ox{a:Nat}(h:a<=b):(256:Int)^a<=256^b:=by have:=uX (n:=256) Ah h;have h2:((256^a:Nat):Int)<=((256^b:Nat):Int):=Int.ofNat_le.2 this;rw[vE,vE]at h2;exact h2
def Nt:∀(l:List Int),(∀b∈l,0<=b/\b <256)->0<=Iz l/\Iz l <256^l.length
 |[],_=>by simp[Iz]
 |b::l,h=>by obtain⟨G,h2⟩:=Nt l λx hx=>h x (by simp[hx]);obtain⟨J,N⟩:=h b Ac;have e:Iz (b::l)=256*Iz l+b:=rfl;rw[e,sF,sb];omega
def MU(bs:List Int)(J:∀b∈bs,0<=b/\b <256)(a j:Nat)(N:j<=8):0<=Iz ((bs.drop a).take j)/\Iz ((bs.drop a).take j) <256^j:=by obtain⟨G,h2⟩:=Nt ((bs.drop a).take j) λb h=>J b (tH (s9 h));refine⟨G,Int.lt_of_lt_of_le h2 ?_⟩;exact Ox Dd
def EI(a:Int):0<=IntKind.u64.wrap a/\IntKind.u64.wrap a <18446744073709551616:=by unfold IntKind.wrap;simp only[IntKind.bits,IntKind.signed];have G:((2:Int)^64)=18446744073709551616:=Ah;simp only[G,uM,rz,if_false];omega
def ZQ(a b:Int):Int:=IntKind.u64.wrap ((a%2^IntKind.u64.bits).toNat ^^^ (b%2^IntKind.u64.bits).toNat:Nat)
def EA(a b:Int):Int:=ZQ (IntKind.u64.wrap (ZQ a b*11400714819323198485)) (IntKind.u64.wrap (ZQ a b*11400714819323198485)/4294967296)
def Bt(k:Nat)(h:k <4611686018427387904:=by omega):IntKind.i64.wrap ((k:Int)+1)=k+1:=AS
end
def i64(n:Int):Prop:= -9223372036854775808<=n/\n <9223372036854775808
def u64(n:Int):Prop:=0<=n/\n <18446744073709551616
def Dq:Nat->Int->List Int
 |0,n=>[n]
 |k+1,n=>if n <128 then [n] else (128+n%128)::Dq k (n/128)
def Fk(n:Int):List Int:=Dq 9 n
def Ip(n:Int):Int:=if n <0 then 2*(-(n+1))+1 else 2*n
def Aj(n:Int):List Int:=Fk (Ip n)
def BR(b:List Int):List Int:=Fk b.length++b
def BI(l:List Int):List Int:=Fk l.length++l.flatMap Aj
def Hr{n:Int}(h:i64 n):u64 (Ip n):=by unfold Ip u64;unfold i64 at h;split<;>omega
def IX:∀(k:Nat)(n:Int),(Dq k n).length<=k+1
 |0,n=>by simp[Dq]
 |k+1,n=>by
  simp only[Dq];split
  .simp
  .have:=IX k (n/128);simp;omega
def Cu(n:Int):(Fk n).length<=10:=IX 9 n
def Al(n:Int):(Aj n).length<=10:=Cu _
def CQ:∀l:List Int,(l.flatMap Aj).length<=10*l.length
 |[]=>Ac
 |x::l=>by have:=Al x;have:=CQ l;simp only[r7,re,sF];omega
def wr(xs:List Int):Row:= .cells [.W 5 1 (xs.map (.int .u8))]
def Ld{a:Int}(J:0<=a)(h2:a <256):IntKind.u8.wrap a=a:=by unfold IntKind.wrap;simp only[IntKind.bits,IntKind.signed];have G:((2:Int)^8)=256:=Ah;simp only[G,uM,rz,if_false];omega
def Hs(a:Int):IntKind.u8.wrap a=a%256:=by unfold IntKind.wrap;simp only[IntKind.bits,IntKind.signed];have G:((2:Int)^8)=256:=Ah;simp only[G,uM,rz,if_false]
def EJ(a:Int):IntKind.u64.wrap a=a%18446744073709551616:=by unfold IntKind.wrap;simp only[IntKind.bits,IntKind.signed];have G:((2:Int)^64)=18446744073709551616:=Ah;simp only[G,uM,rz,if_false]
def em(m:Nat)(h:m <256):m ||| 128=128+m%128:=by
 have key:∀m:Fin 256,m.val ||| 128=128+m.val%128:=by decide+kernel
 exact key ⟨m,h⟩
def Pc(m:Nat)(h:m <2^64):m ^^^ (2^64-1)=2^64-1-m:=by
 rw[Nat.xor_comm];apply Nat.eq_of_testBit_eq;intro i;rw[Nat.testBit_xor,Nat.testBit_two_pow_sub_one];have:(2^64-1-m)=2^64-(m+1):=AE;rw[this,Nat.testBit_two_pow_sub_succ h];cases hb:m.testBit i<;>by_cases hi:i <64<;>simp[hi]
 rw[Nat.testBit_lt_two_pow (ui h (uX Ah AE))]at hb;cases hb
section
open Go.Proofs Go.Shelf Go.Maps
def pd:Ren:=⟨λ|8=>298|10=>300|11=>326|n=>n,λ|0=>0|4=>4|23=>138|24=>22|26=>3|28=>352|33=>248|3=>62|n=>n,λn=>n⟩
def nl:SlLaysZI.n8 Tryz.prog pd where
 mixed:=by kernel_rfl
 f8:=⟨Tryz.f298.name,by kernel_rfl,Tryz.func298.trans (congrArg some (by kernel_rfl))⟩
 f11:=⟨Tryz.f326.name,by kernel_rfl,Tryz.func326.trans (congrArg some (by kernel_rfl))⟩
 t0:=Tryz.underlying0
 a0:=Tryz.isAgg0
 z0:=Tryz.sizeOf0
 v0:=Tryz.zeroValue0
 t24:=Tryz.underlying22
 a24:=Tryz.isAgg22
 z24:=Tryz.sizeOf22
 v24:=Tryz.zeroValue22
 t26:=Tryz.underlying3
 a26:=Tryz.isAgg3
 z26:=Tryz.sizeOf3
 v26:=Tryz.zeroValue3
 t28:=Tryz.underlying352
 a28:=Tryz.isAgg352
 z28:=Tryz.sizeOf352
 v28:=Tryz.zeroValue352
 i26:=by kernel_rfl
def Yk:SlLaysZI.n10 Tryz.prog pd where
 mixed:=by kernel_rfl
 f10:=⟨Tryz.f300.name,by kernel_rfl,Tryz.func300.trans (congrArg some (by kernel_rfl))⟩
 t0:=Tryz.underlying0
 a0:=Tryz.isAgg0
 z0:=Tryz.sizeOf0
 v0:=Tryz.zeroValue0
 t4:=Tryz.underlying4
 a4:=Tryz.isAgg4
 z4:=Tryz.sizeOf4
 v4:=Tryz.zeroValue4
 t23:=Tryz.underlying138
 a23:=Tryz.isAgg138
 z23:=Tryz.sizeOf138
 v23:=Tryz.zeroValue138
 t26:=Tryz.underlying3
 a26:=Tryz.isAgg3
 z26:=Tryz.sizeOf3
 v26:=Tryz.zeroValue3
 t33:=Tryz.underlying248
 a33:=Tryz.isAgg248
 z33:=Tryz.sizeOf248
 v33:=Tryz.zeroValue248
def RK:Value->Option (DataW Unit×List MemPlace):=λ_=>some (.nil,[])
variable {m r:Nat} {h:List Row}
theorem dY{es:List (V×V)}{st:List Nat}{ck:Nat}{ks:List Int}(hr:h[r]?=some (.cells [.mr m]))(hm:h[m]?=some (.map es st ck))(he:es.map (·.1)=ks.map (.int .i64))(h1:ks.length<=1)(hw:∀k∈ks,i64 k):
  FX 298 [.func 300 [.R r 0]] h [.W 3 1 (ks.map (.int .i64))] h:=by
 refine⟨by kernel_rfl,λg w μ us O hinv hgl hall htame=>?_⟩;obtain⟨c0,Bz⟩:=hall;obtain⟨u,rfl⟩:∃u,us=[u]:=by
  match us,c0 with
  |[u],_=>exact⟨u,rfl⟩
 have hu:RepE g w μ (.func 300 [.R r 0]) u:=Bz 0 _ u rfl rfl;obtain⟨vs,rfl,c5⟩:=hu;obtain⟨c,rfl⟩:∃c,vs=[c]:=by
  match vs,c5.1 with
  |[c],_=>exact⟨c,rfl⟩
 have hc:RepC g μ (.R r 0) c:=c5.2 0 _ c rfl rfl;obtain⟨br,c8,rfl⟩:=hc;obtain⟨rs,T,hb,ha,d9,e4⟩:=hinv.rows r _ br hr c8;obtain⟨x,rfl⟩:∃x,rs=[x]:=by
  match rs,ha.1 with
  |[x],_=>exact⟨x,rfl⟩
 have hx:RepE g w μ (.mr m) x:=ha.2 0 _ x rfl rfl;obtain⟨bm,c6,rfl⟩:=hx;obtain⟨G,d4,d6,c7,a7,d8⟩:=hinv.rows m _ bm hm c6;have a1:G.toList.length=ks.length:=by have e1:=congrArg List.length he;simp only[sD]at e1;rw[a7.1,e1]
 have b6:∀(i:Nat)(y:MapEntry),G.toList[i]?=some y->∃k,ks[i]?=some k/\y.key= .int .i64 k:=by
  intro i y hy;have hi:i <G.toList.length:=(rZ.1 hy).1;obtain⟨kv,b9⟩:∃kv,es[i]?=some kv:=⟨_,rW (by rw[<-a7.1];exact hi)⟩;have h2:=(a7.2 i kv y b9 hy).1;have h3:(es.map (·.1))[i]?=some kv.1:=by simp[b9]
  rw[he]at h3;simp only[rk,rt]at h3;obtain⟨k,hk,c9⟩:=h3;refine⟨k,hk,?_⟩;rw[<-c9]at h2;generalize y.key=yk at h2 ⊢;cases h2;rfl
 have d2:∀k∈ks,keyOf Tryz.prog 3 (.int .i64 k)=some (.int .i64 k):=by
  intro k hk;have h2:=hw k hk;simp only[i64]at h2;have h3:(Lit.int .i64 k).wf=true:=by simp only[Lit.wf,rX,decide_eq_true_eq,IntKind.min,IntKind.max,IntKind.signed,IntKind.bits];simp;omega
  simp[keyOf,mapKey,Tryz.underlying3,h3]
 have b1:∀(i:Nat)(y:MapEntry),G.toList[i]?=some y->∃k,ks[i]?=some k/\Go.WideElems.rd Tryz.prog 3 RK y=some (.int .i64 k,.nil):=by intro i y hy;obtain⟨k,hk,d7⟩:=b6 i y hy;refine⟨k,hk,?_⟩;simp[Go.WideElems.rd,d7,d2 k (rY hk),RK]
 have c2:w.ownsMap Tryz.prog 3 RK bm 1 (.map ((G.toList.map (Go.WideElems.rg Tryz.prog 3 RK)).foldr DataW.insert [])):=by
  refine⟨G,ck,d4,⟨?_,d6,?_⟩,?_,rfl⟩
  .have:G.size<=1:=by rw[<-uq,a1];exact h1
   exact sS this Ah
  .intro y hy;obtain⟨i,hi⟩:=tK.1 hy;obtain⟨k,_,hk⟩:=b1 i y hi;exact⟨_,hk⟩
  .rw[<-uq,a1];exact h1
 have a8:intKeys (.map ((G.toList.map (Go.WideElems.rg Tryz.prog 3 RK)).foldr DataW.insert []):DataW Unit)=ks/\Maps.size (.map ((G.toList.map (Go.WideElems.rg Tryz.prog 3 RK)).foldr DataW.insert []):DataW Unit)=ks.length:=by
  generalize G.toList=el at a1 b1
  match ks,el,h1,a1 with
  |[],[],_,_=>exact⟨rfl,rfl⟩
  |[k],[y],_,_=>
   obtain⟨k',b5,hk⟩:=b1 0 y rfl;simp at b5;subst b5;simp[Go.WideElems.rg,hk,intKeys,Maps.size,DataW.insert,intOf]
 have d3:br <w.heap.size:=Bq hb;have c4:=AnyZI.keys_gives Yk Fence.wide 2 trivial rfl AE br bm 1 _ w d3 (by simp[World.cell?,hb]) c2;have cS:=AnyZI.collect_in nl Fence.wide 4 trivial trivial rfl AE 300 #[.pointer (some ⟨br,0,none⟩)] trivial (enters_of Tryz.func300 (by kernel_rfl) rfl) _ _ (by rw[a8.2];exact sS h1 Ah) (by rw[a8.2];omega) w c4;refine(callsIn_wide.1 cS).mono ?_;rintro e w' ⟨v,ss,rfl,hS,c3,c1,J⟩;rw[a8.1]at hS;have d5:ss=ks:=by
  match ks,h1 with
  |[],_=>exact List.perm_nil.1 hS
  |[k],_=>exact List.perm_singleton.1 hS
 subst d5;rcases c3 with ⟨e3,⟨rfl,hz⟩|⟨gb,cap,a2,rfl,Z,b4,r1,r2,r3,r4⟩⟩
 .obtain rfl:ss=[]:=sf hz;have hc:Chg (λ_=>False) g w g w':=⟨Gh.le.refl g,J.size,λb hb _=>J.block b hb,λb hb _ o=>rfl,J.os,J.output⟩;have a6:∀b o v,g.m b o=some v->w'.cell? ⟨b,o,none⟩=some v:=by
   intro b o v N;have h2:=hinv.agree b o v N;have h3:b <w.heap.size:=by
    rcases sL b w.heap.size with h'|h'
    .exact h'
    .simp[World.cell?,uF h']at h2
   rw[World.cell?_of_block (a:=⟨b,o,none⟩) (J.block b h3)];exact h2
  exact⟨_,g,μ,rfl,hinv.newOwn (d:=0) hc a6 (.inl ⟨none,rfl,rfl,Ac⟩) (λ_ _=>⟨none,rfl⟩) (by simp[Am]),hc.mono λ_ h=>h.elim,ro _⟩
 .obtain⟨k,rfl⟩:∃k,ss=[k]:=by
   match ss,h1 with
   |[k],_=>exact⟨k,rfl⟩
   |[],_=>simp at c1
  have b0:∀b,w.heap.size<=b->∀o,g.m b o=none:=by
   intro b U o;cases h4:g.m b o with
   |none=>rfl
   |some v=>
    have h2:=hinv.agree b o v h4;simp[World.cell?,uF U]at h2
  let g':Gh:=⟨λb o=>if b=gb then (if o=0 then some (.int .i64 k) else none) else g.m b o⟩
  have hc:Chg (λ_=>False) g w g' w':=by
   refine⟨λb o v N=>?_,J.size,λb hb _=>J.block b hb,λb hb _ o=>?_,J.os,J.output⟩
   .by_cases W:b=gb
    .subst W;rw[b0 b Z]at N;cases N
    .simpa[g',W]using N
   .have W:b≠gb:=AE;simp[g',W]
  have b3:a2[0]?=some (.int .i64 k):=by
   have h2:(a2.toList.take 1)[0]?=some (.int .i64 k):=by simp only[u6,Nat.mul_one]at r4;rw[r4];rfl
   rw[List.getElem?_take_of_lt AE]at h2;rw[<-su];exact h2
  have a6:∀b o v,g'.m b o=some v->w'.cell? ⟨b,o,none⟩=some v:=by
   intro b o v N;by_cases W:b=gb
   .subst W;simp only[g',if_true]at N;split at N
    .rename_i ho;subst ho;simp only[rV]at N;subst N;simp[World.cell?,b4,b3]
    .cases N
   .simp only[g',W,if_false]at N;have h2:=hinv.agree b o v N;have h3:b <w.heap.size:=by
     rcases sL b w.heap.size with h'|h'
     .exact h'
     .simp[World.cell?,uF h']at h2
    rw[World.cell?_of_block (a:=⟨b,o,none⟩) (J.block b h3)];exact h2
  have b2:0 <cap:=by
   have:1<=cap:=by simpa using r1
   omega
  refine⟨_,g',μ,rfl,hinv.newOwn (d:=0) hc a6 (.inr ⟨gb,cap,a2,λ_=> .int .i64 k,rfl,b2,b4,by simpa using r1,by simpa using r3,?_,?_,?_⟩) (λh=>by simp at h) ?_,hc.mono λ_ h=>h.elim,ro _⟩
  .intro i x hx
   match i with
   |0=>simp at hx;subst hx;exact .int _ _
   |i+1=>simp at hx
  .intro i hi;obtain rfl:i=0:=by simpa using hi
   refine⟨rfl,λj v N=>?_⟩
   match j with
   |0=>simp[Value.cells]at N;subst N;simp[g']
   |j+1=>simp[Value.cells]at N
  .intro o ho;have:o≠0:=by simp at ho;omega
   simp[g',this]
  .intro b U;simp only[Am]at U;split at U
   .cases U
   .simp only[rV]at U;rw[<-U];exact Z
end
def mb(n:Nat):Nat:=Nat.shiftLeft 1 n
def mh(m n:Nat):Bool:=Nat.beq (Nat.land (Nat.shiftRight m n) 1) 1
def md(m n:Nat):Nat:=Nat.xor (Nat.lor m (mb n)) (mb n)
def nh:Nat->Nat->Nat->List Nat
 |0,_,_=>[]
 |k+1,m,i=>bif Nat.beq m 0 then [] else bif Nat.beq (Nat.land m 1) 1 then i::nh k (Nat.shiftRight m 1) (Nat.add i 1) else nh k (Nat.shiftRight m 1) (Nat.add i 1)
def ml(m:Nat):List Nat:=nh 500 m 0
def um:List Operand->Nat
 |[]=>0
 | .tmp t::l=>Nat.lor (mb t) (um l)
 |_::l=>um l
def YI(o:Oper):Nat:=um o.op.operands.toList
def XE{α:Type}:List α->Nat->Option α
 |[],_=>none
 |x::_,0=>some x
 |_::l,n+1=>XE l n
inductive Tr (α:Type) where
 |lf
 |nd (l:Tr α) (x:α) (r:Tr α)
def Tr.get{α:Type}:Tr α->Nat->Option α
 | .lf,_=>none
 | .nd l x r,n=>bif Nat.beq n 0 then some x else bif Nat.beq (Nat.land n 1) 1 then l.get (Nat.shiftRight n 1) else r.get (Nat.sub (Nat.shiftRight n 1) 1)
def Z8{α:Type}:List α->List α
 |x::_::l=>x::Z8 l
 |l=>l
def Tr.mk{α:Type}:Nat->List α->Tr α
 |n+1,x::l=> .nd (Tr.mk n (Z8 l)) x (Tr.mk n (Z8 l.tail))
 |_,_=> .lf
inductive Bx (α:Type) where
 |mk {x:α}
inductive TD where
 |none
 |bool
 |int (k:IntKind)
 |string
 |pointer (e:Nat)
 |slice (e:Nat)
 |array (n e:Nat)
 |map (k e:Nat)
 |struct (fs:List (Nat×Nat))
 |R
 |tuple (es:List Nat)
 |func
 |named (u:Nat)
structure TI where
 d:TD
 size:Nat
 bytes:Nat
def qL(i:TypeInfo):TI:=⟨match i.desc with
 | .bool=> .bool
 | .int k=> .int k
 | .string=> .string
 | .pointer e=> .pointer e
 | .slice e=> .slice e
 | .array n e=> .array n e
 | .map k e=> .map k e
 | .struct fs=> .struct (fs.toList.map λf=>(f.offset,f.type))
 | .interface _=> .R
 | .chan _ _=> .R
 | .tuple es=> .tuple es.toList
 | .func _ _ _=> .func
 | .named _ u=> .named u
 |_=> .none,i.size,i.bytes⟩
structure Pg where
 T:Tr TI
 F:Tr (Bx Func)
def Pg.inf(P:Pg)(t:Nat):Option TI:=P.T.get t
def Pg.und(P:Pg)(t:Nat):Option TD:=match P.inf t with
 |some ⟨.named u,_,_⟩=>(match P.inf u with|some i=>some i.d|none=>none)
 |some i=>some i.d
 |none=>none
def ZL:List Func->List (Bx Func)
 |[]=>[]
 |x::l=> @Bx.mk Func x::ZL l
section
variable (P:Pg)
def Mz(t:Nat):Nat:=match P.inf t with|some i=>i.size|none=>0
def jJ(t:Nat):Nat:=match P.inf t with|some i=>i.bytes|none=>0
def Q2(t:Nat):Nat:=match P.und t with|some (.slice e)=>e|some (.pointer e)=>e|some (.map _ e)=>e|some (.array _ e)=>e|_=>0
def cQ(t:Nat):Bool:=match P.und t with|some (.struct _)=>true|some (.array _ _)=>true|_=>false
def qN(t:Nat):Bool:=match P.und t with|some (.slice _)=>true|_=>false
def qM(t:Nat):Bool:=match P.und t with|some .string=>true|_=>false
def pz(t:Nat):Bool:=match P.und t with|some (.slice _)=>true|some (.tuple _)=>true|_=>false
def pK(t:Nat):List (Nat×Nat):=match P.und t with|some (.struct fs)=>fs|_=>[]
def cc{α:Type}:Nat->List α->List α
 |0,_=>[]
 |n+1,l=>l++cc n l
def iI:Nat->Nat->List Nat
 |0,t=>[t]
 |n+1,t=>match P.und t with
  |some (.struct fs)=>fs.flatMap λf=>iI n f.2
  |some (.array k e)=>cc k (iI n e)
  |_=>[t]
def cD:Nat->Nat->Bool
 |0,_=>false
 |n+1,t=>match P.und t with
  |some (.pointer _)=>true
  |some (.map _ _)=>true
  |some .func=>true
  |some .R=>true
  |some (.struct fs)=>fs.any λf=>cD n f.2
  |some (.tuple es)=>es.any (cD n)
  |_=>false
variable (I J:Nat->Int) (GL:Ai)
def z0(row:Bool)(t:Nat):D:=match P.und t with
 |some (.int k)=> .v (.int k (I 0))
 |some .bool=> .v (.bool false)
 |some .string=> .v (.str .empty)
 |some (.slice e)=>bif row then .W e (Mz P e) [] else .nil e (Mz P e)
 |some (.pointer _)=> .v .nilp
 |some (.map _ _)=> .v .nilm
 |some .func=> .v .nilf
 |_=> .any
def zs(row:Bool)(t:Nat):List D:=(iI P 5 t).map (z0 P I row)
def cV:Value->V
 | .int k (.ofNat n)=> .int k (I n)
 | .int k (.negSucc n)=> .int k (J (Nat.add n 1))
 | .bool b=> .bool b
 | .string s=> .str s
 | .pointer _=> .nilp
 | .map _=> .nilm
 | .slice _ _ _=> .list []
 | .agg cs=> .agg (cs.toList.map fun
  | .int k (.ofNat n)=> .int k (I n)
  | .int k (.negSucc n)=> .int k (J (Nat.add n 1))
  | .bool b=> .bool b
  | .string s=> .str s
  | .map _=> .nilm
  | .slice _ _ _=> .list []
  | .nilFunc=> .nilf
  |_=> .nilp)
 |_=> .nilf
def oq(mv own:Bool)(t:Nat):Operand->Opd
 | .tmp n=> .t n mv
 | .const (.slice _ _ _)=> .c (bif own then .W (Q2 P t) (Mz P (Q2 P t)) [] else .nil (Q2 P t) (Mz P (Q2 P t)))
 | .const v=> .c (.v (cV I J v))
 | .func f=> .c (.v (.func f []))
 | .global g=> .g g (match GL.find? λp=>Nat.beq p.1 g with|some p=>p.2.map (cV I J)|none=>[])
def eo(ts:List Nat):List Operand->List Opd
 |[]=>[]
 |x::xs=>(match ts with|t::_=>oq P I J GL false false t x|[]=>oq P I J GL false false 0 x)::eo ts.tail xs
def oo:Option Operand->Option Opd
 |none=>none
 |some x=>some (oq P I J GL false false 0 x)
def kq(t:Nat):Nat:=match P.und t with|some .bool=>1|some .string=>2|_=>0
def kS(t:Nat):Bool:=match P.und t with|some (.map k _)=>cQ P k|_=>false
def kK(t:Nat):List Nat:=match P.und t with|some (.map k _)=>(iI P 5 k).map (kq P)|_=>[]
def rU:Option Operand->Bool
 |some (.const (.int _ (.ofNat 0)))=>true
 |_=>false
def rN(o:Operand):Nat:=match o with| .func f=>f|_=>1000000
def jF(o:Operand):Bool:=match o with| .tmp _=>true|_=>false
def jE:BinOp->Bool
 | .neq=>true
 |_=>false
abbrev WY:=Nat->Nat->Nat
variable (H:WY) (dr:Bool) (fn:Nat) (ops:List Oper)
def gw(d:Option Nat)(ty:Nat)(f:Operand)(args:List Operand)(ats:List Nat):AI:=
 let q:=oq P I J GL false false 0 f
 let asx:=eo P I J GL ats args
 match H fn (rN f)with
 |3=> .callN d q asx
 |4=>match args with
  |x::xs=> .callO d q (oq P I J GL (jF x) false (ats.headD 0) x) (eo P I J GL ats.tail xs)
  |[]=> .call d q asx
 |5=>bif dr then .callC d q asx else .call d q asx
 |6=>bif dr&&(ats.any (cD P 5)||cD P 5 ty||jF f) then .callC d q asx else .call d q asx
 |_=>bif dr&&(ats.any (cD P 5)||cD P 5 ty||jF f) then .callF d q asx else .call d q asx
def aO(d:Nat)(o:Oper):Bool:=match o.op with
 | .call c=>(match c.callee with| .builtin .append=>(match c.args.toList with| .tmp n::_=>Nat.beq n d|_=>false)|_=>false)
 |_=>false
def pF(dd:Nat->Bool)(o:Oper):Option AI:=
 let O:=oq P I J GL false false
 let mO (t:Nat) (x:Operand):=match x with| .tmp n=> .t n (pz P t&&dd n)|x=>O t x
 let d:=o.dst.getD 0
 let p (i:PI):Option AI:=some (.p d i)
 let h:=H fn (Nat.add 2000000 d)
 let mI (x:Operand):AI:=match h with
  |0=> .mv d (match x with| .tmp n=> .t n (pz P o.type&&dd n)|x=>oq P I J GL false true o.type x)
  |1=> .mv d (oq P I J GL true true o.type x)
  |2=> .mv d (oq P I J GL false true o.type x)
  |_=> .mv d (oq P I J GL false true o.type x)
 match o.op with
 | .move x=>some (mI x)
 | .assign x=>some (mI x)
 | .pick c a b=>p (.pick (O 0 c) (O o.type a) (O o.type b))
 | .alloc t=>some (.alloc d (zs P I true t))
 | .box t x=>some (.box d (O t x))
 | .build t ps=>p (.build (zs P I false t) (ps.toList.map λq=>match P.und t with
  |some (.array _ e)=>(Nat.mul q.1 (Mz P e),Mz P e,O e q.2)
  |_=>match XE (pK P t) q.1 with|some f=>(f.1,Mz P f.2,O f.2 q.2)|none=>(0,0,O 0 q.2)))
 | .buildSlice t _ ps=>some (.bsl d (Q2 P t) (Mz P (Q2 P t)) (ps.toList.map λq=>O (Q2 P t) q.2))
 | .load t a=>bif qN P t&&ops.any (aO d) then some (.take d (O 0 a)) else p (.load (O 0 a) (Mz P t) (cQ P t))
 | .store t a x=>some (.store (O 0 a) (mO t x) (Mz P t))
 | .nilCheck x=>p (.nilc (O 0 x))
 | .binOp b t x y _=>match P.und t with
  |some (.int _)=>p (.bin b (O t x) (O t y))
  |some .string=>p (.bin b (O t x) (O t y))
  |some .bool=>p (.eqB (jE b) (O t x) (O t y))
  |some (.pointer _)=>p (.eqP (jE b) (O t x) (O t y))
  |some (.slice _)=>some (.nilS d (jE b) (O 0 x))
  |some (.struct _)=>p (.eqA (jE b) ((iI P 5 t).map (kq P)) (O t x) (O t y))
  |_=>none
 | .unOp u _ x=>match u with
  | .not=>p (.not (O 0 x))
  | .neg=>p (.neg (O 0 x))
  |_=>none
 | .convert a b x=>match P.und b with
  |some (.int k)=>p (.cint k (O 0 x))
  |some (.slice _)=>some (.s2b d (O 0 x))
  |some .string=>p (.b2s (O a x))
  |_=>none
 | .fieldAddr t x i=>match XE (pK P t) i with
  |some f=>p (.faddr (O 0 x) f.1 (Mz P f.2))
  |none=>none
 | .field t x i=>match XE (pK P t) i with
  |some f=>p (.fld (O 0 x) f.1 (Mz P f.2) (cQ P f.2))
  |none=>none
 | .indexAddr t x i=>match P.und t with
  |some (.slice e)=>p (.iaddr (O t x) (O 0 i) (Mz P e))
  |some (.array n e)=>p (.iaddrA (O 0 x) (O 0 i) n (Mz P e))
  |_=>none
 | .index t x i=>match P.und t with
  |some .string=>p (.idxS (O 0 x) (O 0 i))
  |some (.array n e)=>p (.idxA (O 0 x) (O 0 i) n (Mz P e) (cQ P e))
  |_=>none
 | .slice t x lo hi mx=>match P.und t with
  |some (.slice e)=>match mx with
   |none=>p (.slc (O t x) (oo P I J GL lo) (oo P I J GL hi) (Mz P e))
   |_=>none
  |_=>none
 | .makeSlice t x _=>bif Nat.beq (Mz P (Q2 P t)) 1&&Nat.beq (H fn 1000001) 0 then some (.mksl d (O 0 x) (z0 P I true (Q2 P t))) else some (.mksz d (O 0 x) (zs P I true (Q2 P t)))
 | .makeMap _ _=>some (.mkm d)
 | .lookup t x i ok=>p (.look (O 0 x) (O 0 i) (kS P t) (kK P t) (zs P I false (Q2 P t)) (cQ P (Q2 P t)) ok)
 | .mapUpdate t x i v=>some (.mput (O 0 x) (O 0 i) (O (Q2 P t) v) (kS P t) (kK P t))
 | .mapEntry t x i=>some (.ment d (O 0 x) (O 0 i) (kS P t) (kK P t))
 | .entryStore t x i v=>some (.mest (O 0 x) (O 0 i) (O (Q2 P t) v))
 | .extract x i=>p (.ext (O 0 x) i)
 | .makeFunc (.func f) first caps=>match first.toList with
  |[]=>p (.mkf f (eo P I J GL [] caps.toList))
  |l=>p (.mkme f (eo P I J GL [] l))
 | .call c=>
  let ats:=c.argTypes.toList
  let t0:=ats.headD 0
  match c.callee with
  | .value f=>some (gw P I J GL H dr fn o.dst o.type f c.args.toList ats)
  | .builtin .len=>match c.args.toList with
   |x::_=>match P.und t0 with
    |some (.slice _)=>p (.alen (O t0 x))
    |some .string=>p (.lenS (O 0 x))
    |_=>none
   |[]=>none
  | .builtin .delete=>match c.args.toList with
   |x::y::_=>some (.mdel o.dst (O 0 x) (O 0 y) (kS P t0) (kK P t0))
   |_=>none
  | .builtin .max=>match c.args.toList with
   |[x,y]=>p (.minmax true (O o.type x) (O o.type y))
   |_=>none
  | .builtin .min=>match c.args.toList with
   |[x,y]=>p (.minmax false (O o.type x) (O o.type y))
   |_=>none
  | .builtin .append=>match c.args.toList with
   |x::y::_=>
    let t1:=ats.tail.headD 0
    let e:=Q2 P t0
    let b:=oq P I J GL (jF x) false t0 x
    bif qM P t1 then some (.appS d b (O 0 y) e (jJ P e)) else match h with
     |0=>some (.app d b (O t1 y) e (Mz P e) (jJ P e))
     |1=>some (.appR d b (O t1 y) e (Mz P e) (jJ P e))
     |_=>some (.appR d (O t0 x) (O t1 y) e (Mz P e) (jJ P e))
   |_=>none
  | .builtin .copy=>match c.args.toList with
   |x::y::_=>some (.cpy o.dst (O t0 x) (O (ats.tail.headD 0) y) (Mz P (Q2 P t0)))
   |_=>none
  |_=>none
 |_=>none
def jG(j:Nat):Nat:=match XE ops j with|some o=>(match o.dst with|some t=>mb t|none=>0)|none=>0
def cF:List Oper->Nat->Nat
 |[],out=>out
 |o::r,out=>match o.guard,o.dst with
  |none,some d=>Nat.lor (md (cF r out) d) (YI o)
  |none,none=>Nat.lor (cF r out) (YI o)
  |some g,some d=>bif mh (YI o) d then Nat.lor (Nat.lor (cF r out) (YI o)) (jG ops g.1) else md (Nat.lor (Nat.lor (cF r out) (YI o)) (jG ops g.1)) d
  |some g,none=>Nat.lor (Nat.lor (cF r out) (YI o)) (jG ops g.1)
def qI(o:Oper):Nat:=match o.guard with|some g=>Nat.lor (YI o) (jG ops g.1)|none=>(YI o)
def Vp:List Oper->Nat->Nat->Bool
 |[],out,n=> !mh out n
 |o::r,out,n=>bif mh (qI ops o) n then false else match o.guard,o.dst with
  |none,some d=>bif Nat.beq d n then true else Vp r out n
  |_,_=>Vp r out n
def aj:Nat->List Oper->Option (List GI)
 |_,[]=>some []
 |out,o::r=>match pF P I J GL H dr fn ops (Vp ops r out) o,aj out r with
  |some i,some l=>some (⟨match o.guard with|none=>none|some g=>(match XE ops g.1 with|some q=>(match q.dst with|some t=>some (t,g.2)|none=>none)|none=>none),i⟩::l)
  |_,_=>none
end
def ni:List (Nat×Nat)->Nat->Nat
 |[],_=>0
 |(k,m)::l,n=>bif Nat.beq k n then m else ni l n
def Xh(ex:List (Nat×Nat))(ret:Nat):Code->Nat
 | .seq a b=>Nat.lor (Xh ex ret a) (Xh ex ret b)
 | .cond _ a b=>Nat.lor (Xh ex ret a) (Xh ex ret b)
 | .block _ c=>Xh ex ret c
 | .loop c=>Xh ex ret c
 | .rangeFunc _ _ a b=>Nat.lor (Xh ex ret a) (Xh ex ret b)
 | .exit i=>ni ex i
 | .ret=>ret
 |_=>0
def qA(m:Nat):List Nat->Nat
 |[]=>m
 |t::l=>qA (md m t) l
def UH:List (Nat×Nat)->List (Nat×Nat)
 |[]=>[]
 |(k,_)::l=>(k,0)::UH l
def QJ:List (Nat×Nat)->Nat->Code->Nat->Nat
 |_,ret,.ret,_=>ret
 |ex,ret,.seq a b,out=>QJ ex ret a (QJ ex ret b out)
 |_,_,.region _ ops _,out=>cF ops.toList ops.toList out
 |ex,ret,.cond x a b,out=>Nat.lor (Nat.lor (QJ ex ret a out) (QJ ex ret b out)) (um [x])
 |ex,ret,.block i c,out=>QJ ((i,out)::ex) ret c out
 |ex,ret,.loop c,_=>QJ ex ret c 0
 |ex,ret,.rangeFunc g ps a b,out=>Nat.lor (Nat.lor (um [g]) (qA (QJ (UH ex) 0 a (QJ (UH ex) 0 b 0)) ps.toList)) (Nat.lor out (Xh ex ret b))
 |ex,_,.exit i,_=>ni ex i
 |_,_,_,out=>out
def pT(acc:List Nat):List Edge->Nat
 |[]=>0
 |e::l=>bif Region.binds .any e then Nat.lor (Nat.lor (mb e.on) ((XE acc e.on).getD 0)) (pT acc l) else pT acc l
def cls:List Nat->List Oper->List Nat
 |acc,[]=>acc
 |acc,o::l=>cls (acc++[pT acc o.after.toList]) l
def Az(ops:List Oper):List (List Nat):=(cls [] ops).map ml
def pG(is:List GI)(cl:List (List Nat)):Bool:=
 (is.zipIdx.all λp=>match XE cl p.2 with
  |some c=>is.zipIdx.all λq=>bif Nat.blt q.2 p.2 then c.any (Nat.beq q.2)||ID q.1 p.1 else true
  |none=>false)
def ZW(is:List GI)(cl:List (List Nat)):Nat->List Nat->AT
 |0,_=> .none
 |n+1,rem=>match rem with
  |[]=> .done
  |_=>match rem.find? λi=>Wu cl rem i&&rem.all λj=>Nat.beq j i||((XE cl j).getD []).any (Nat.beq i)||ID (is.getD i default) (is.getD j default)with
   |some i=> .take i (ZW is cl n (rem.filter λj=> !Nat.beq j i))
   |none=> .pick ((rem.filter (Wu cl rem)).foldr (λi r=> .alt i (ZW is cl n (rem.filter λj=> !Nat.beq j i)) r) .none)
def iP(n:Nat):Int:= @OfNat.ofNat Int n _
def iN(n:Nat):Int:= -@OfNat.ofNat Int n _
def jU(P:Pg)(GL:Ai)(H:WY)(f:Nat)(r:Nat->List GI)(id:Nat)(ops:List Oper)(dr:Bool)(out:Nat):AC:=
 match aj P iP iN GL H dr f ops out ops with
 |none=> .never
 |some is=>bif Nat.beq (H f (Nat.add 3000000 id)) 1 then .regV (r id) (ml out) (Az ops) else bif dr then (bif pG is (Az ops) then .regD (r id) (ml out) (Az ops) else .regA (r id) (ml out) (Az ops) (ZW is (Az ops) (Nat.add is.length 1) (List.range is.length))) else .reg (r id) (ml out)
def nL:Code->Nat
 | .seq a b=>Nat.add (nL a) (nL b)
 | .cond _ a b=>Nat.add (nL a) (nL b)
 | .block _ c=>nL c
 | .loop c=>Nat.add (nL c) 1
 | .rangeFunc _ _ a b=>Nat.add (Nat.add (nL a) (nL b)) 1
 |_=>0
section
variable (P:Pg) (GL:Ai) (H:WY) (f:Nat) (r:Nat->List GI) (l:Nat->AC)
def O7:List (Nat×Nat)->Nat->Code->Nat->Nat->AC
 |_,_,.skip,_,_=> .skip
 |_,_,.ret,_,_=> .ret
 |_,_,.exit i,_,_=> .exit i
 |_,_,.region id ops dr,out,_=>jU P GL H f r id ops.toList dr out
 |ex,ret,.seq a b,out,n=> .seq (O7 ex ret a (QJ ex ret b out) n) (O7 ex ret b out (Nat.add n (nL a)))
 |ex,ret,.cond x a b,out,n=> .cond (oq P iP iN GL false false 0 x) (O7 ex ret a out n) (O7 ex ret b out (Nat.add n (nL a)))
 |ex,ret,.block i c,out,n=> .block i (O7 ((i,out)::ex) ret c out n)
 |_,_,.loop _,_,n=> .loop (l n)
 |_,_,.rangeFunc g ps _ _,_,n=> .rangeF (oq P iP iN GL false false 0 g) ps.toList (l n) (l (Nat.add n 1000))
 |_,_,_,_,_=> .never
def O6(k:Nat):List (Nat×Nat)->Nat->Code->Nat->Nat->AC
 |ex,ret,.seq a b,out,n=>bif Nat.blt (Nat.mod k 1000) (Nat.add n (nL a)) then O6 k ex ret a (QJ ex ret b out) n else O6 k ex ret b out (Nat.add n (nL a))
 |ex,ret,.cond _ a b,out,n=>bif Nat.blt (Nat.mod k 1000) (Nat.add n (nL a)) then O6 k ex ret a out n else O6 k ex ret b out (Nat.add n (nL a))
 |ex,ret,.block i c,out,n=>O6 k ((i,out)::ex) ret c out n
 |ex,ret,.loop c,_,n=>bif Nat.beq n k then O7 P GL H f r l ex ret c (QJ ex ret c 0) (Nat.add n 1) else O6 k ex ret c (QJ ex ret c 0) (Nat.add n 1)
 |ex,_,.rangeFunc _ _ a b,_,n=>bif Nat.beq n k then O7 P GL H f r l (UH ex) 0 a (QJ (UH ex) 0 b 0) (Nat.add n 1)
  else bif Nat.beq (Nat.add n 1000) k then O7 P GL H f r l (UH ex) 0 b 0 (Nat.add (Nat.add n 1) (nL a))
  else bif Nat.blt (Nat.mod k 1000) (Nat.add (Nat.add n 1) (nL a)) then O6 k (UH ex) 0 a (QJ (UH ex) 0 b 0) (Nat.add n 1) else O6 k (UH ex) 0 b 0 (Nat.add (Nat.add n 1) (nL a))
 |_,_,_,_,_=> .never
def fO(id:Nat):List (Nat×Nat)->Nat->Code->Nat->Option (List Oper×Bool×Nat)
 |ex,ret,.seq a b,out=>match fO id ex ret a (QJ ex ret b out)with
  |some x=>some x
  |none=>fO id ex ret b out
 |ex,ret,.cond _ a b,out=>match fO id ex ret a out with
  |some x=>some x
  |none=>fO id ex ret b out
 |ex,ret,.block i c,out=>fO id ((i,out)::ex) ret c out
 |ex,ret,.loop c,_=>fO id ex ret c (QJ ex ret c 0)
 |ex,_,.rangeFunc _ _ a b,_=>match fO id (UH ex) 0 a (QJ (UH ex) 0 b 0)with
  |some x=>some x
  |none=>fO id (UH ex) 0 b 0
 |_,_,.region j ops dr,out=>bif Nat.beq j id then some (ops.toList,dr,out) else none
 |_,_,_,_=>none
def pH:Code:=match P.F.get f with|some (@Bx.mk _ fn)=>(match fn.body with|some c=>c|none=> .skip)|none=> .skip
def Yb:List ResultVar->Nat
 |[]=>0
 | .tmp t::l=>Nat.lor (mb t) (Yb l)
 | .cell t _::l=>Nat.lor (mb t) (Yb l)
def am:List ResultVar:=match P.F.get f with|some (@Bx.mk _ fn)=>fn.results.toList|none=>[]
def Xd:AC:=O7 P GL H f r l [] (Yb (am P f)) (pH P f) (Yb (am P f)) 0
def Sp(k:Nat):AC:=O6 P GL H f r l k [] (Yb (am P f)) (pH P f) (Yb (am P f)) 0
def QY(I J:Nat->Int)(k:Nat):List GI:=match fO k [] (Yb (am P f)) (pH P f) (Yb (am P f))with
 |some (ops,dr,out)=>(aj P I J GL H dr f ops out ops).getD []
 |none=>[]
def gu:List AR:=(am P f).map fun
 | .tmp t=> .t t
 | .cell a t=> .c a (Mz P t) (cQ P t)
def gv:Nat:=match P.F.get f with|some (@Bx.mk _ fn)=>Nat.add fn.params.size fn.nfree|none=>0
end
open Go.Proofs
section
abbrev lit{α:Type}(l:α){x:α}(_h:l=x:=by conv=>lhs;reduce):α:=x
set_option maxHeartbeats 2000000
noncomputable def qK:List TypeInfo:=Tryz.prog.types.toList
noncomputable def rM:List (Bx Func):=ZL Tryz.prog.funcs.toList
noncomputable def PT:Tr TI:=lit (Tr.mk 1000 (qK.map qL))
noncomputable def PF:Tr (Bx Func):=lit (Tr.mk 1000 rM)
noncomputable def PG:Pg:=⟨PT,PF⟩
noncomputable def IE:WY
 |22,61=>3
 |23,61=>3
 |72,61=>3
 |140,245=>3
 |_,135=>4
 |180,n=>bif Nat.blt n 1000001 then 6 else 0
 |132,n=>bif Nat.blt n 1000001 then 6 else 0
 |297,104=>5
 |59,61=>3
 |62,1000001=>1
 |3,2000029=>2
 |3,2000072=>18
 |7,2000141=>2
 |8,2000170=>2
 |8,2000186=>11
 |36,2000014=>1
 |36,2000030=>1
 |115,2000016=>1
 |26,2000020=>1
 |26,2000032=>1
 |320,2000074=>2
 |331,2000042=>1
 |331,2000044=>2
 |64,3000004=>1
 |_,_=>0
def GH:List GI:=[⟨none,.take 22 (.t 6 false)⟩,
 ⟨none,.p 23 (.load (.t 8 false) 4 true)⟩,
 ⟨none,.p 24 (.alen (.t 22 false))⟩,
 ⟨none,.bsl 25 84 4 [(.c (.v (.agg [.int .i64 0,.int .i64 0,.list [],.list []])))]⟩,
 ⟨none,.appP 26 (.t 22 true) (.t 25 false) 84 4 64⟩,
 ⟨none,.p 27 (.iaddrP (.t 26 true) (.t 24 false) 4)⟩,
 ⟨none,.fin 26 (.t 6 false) (.t 27 false) (.t 23 false) 4⟩,
 ⟨none,.store (.t 6 false) (.t 26 true) 1⟩]
noncomputable def oG (f k:Nat):List GI:=bif Nat.beq f 64&&Nat.beq k 4 then GH else QY PG BK IE f iP iN k
theorem nb:oG 64 4=GH:=rfl
noncomputable def qB (f:Nat):Nat->Nat->AC
 |0,_=> .never
 |n+1,k=>Sp PG BK IE f (oG f) (qB f n) k
noncomputable def lG (f k:Nat):AC:=qB f 9 k
noncomputable def gA (f:Nat):AC:=Xd PG BK IE f (oG f) (lG f)
noncomputable def gR (f:Nat):List AR:=gu PG f
noncomputable def gN (f:Nat):Nat:=gv PG f
def qv(f k:Nat)(G:(Nat.beq f 64&&Nat.beq k 4)=false):oG f k=QY PG BK IE f iP iN k:=by rw[oG,G,cond_false]
def AB(f k:Nat){x:(Nat->Int)->(Nat->Int)->List GI}(h:(λI J=>QY PG BK IE f I J k)=x:=by conv=>lhs;reduce)(G:(Nat.beq f 64&&Nat.beq k 4)=false:=by rfl):oG f k=x (λn=> @OfNat.ofNat Int n _) (λn=> -@OfNat.ofNat Int n _):=(qv f k G).trans (congrFun (congrFun h iP) iN)
def As(f:Nat){x:(Nat->List GI)->(Nat->AC)->AC}(h:(λr l=>Xd PG BK IE f r l)=x:=by conv=>lhs;reduce):gA f=x (oG f) (lG f):=by subst h;rfl
def BG(f k:Nat){x:(Nat->List GI)->(Nat->AC)->AC}(h:(λr l=>Sp PG BK IE f r l k)=x:=by conv=>lhs;reduce)(h2:lG f k=x (oG f) (lG f):=by kernel_rfl):lG f k=x (oG f) (lG f):=h2
abbrev la(f:Nat){x:(Nat->List GI)->(Nat->AC)->AC}(_h:(λr l=>Xd PG BK IE f r l)=x:=by conv=>lhs;reduce):AC:=x (oG f) (lG f)
abbrev ll(f k:Nat){x:(Nat->List GI)->(Nat->AC)->AC}(_h:(λr l=>Sp PG BK IE f r l k)=x:=by conv=>lhs;reduce):AC:=x (oG f) (lG f)
def AW(f:Nat){x:List AR}(h:gR f=x:=by conv=>lhs;reduce):gR f=x:=h
def D6(f:Nat)(h:DD Tryz.prog BK f (gN f) (gA f) (gR f)=true:=by kernel_rfl):DD Tryz.prog BK f (gN f) (gA f) (gR f)=true:=h
def BS(f:Nat){args rets:List V}(h:awp Tryz.prog BK (gA f) (λe s=>(match e with| .exit _=>False|_=>True)/\Cf s (gR f)=some rets) ⟨Ad args,[]⟩)(G:DD Tryz.prog BK f (gN f) (gA f) (gR f)=true:=by kernel_rfl)(J:args.length=gN f:=by rfl):PX f args rets:=I4 G J h
variable {h h':List Row} {args rets:List D}
def EH(f:Nat)(N:awp Tryz.prog BK (gA f) (λe s=>(match e with| .exit _=>False|_=>True)/\Dg s (gR f)=some rets/\s.h=h') ⟨AZ args,h⟩)(G:DD Tryz.prog BK f (gN f) (gA f) (gR f)=true:=by kernel_rfl)(J:args.length=gN f:=by rfl):FX f args h rets h':=JA G J N
def HR{p:Prop}(h:p:=by kernel_rfl):p:=h
def Zw{P:Program}{GL:Ai}:=And.intro (@AH P GL) (And.intro (@AJ P GL) (And.intro (@AY P GL) (@AO P GL)))
end
def pB:DD Tryz.prog BK 149 2 (cJ 251) NK=true:=HR
def pA:DD Tryz.prog BK 151 2 (cJ 252) NK=true:=HR
def o9:DD Tryz.prog BK 153 2 (cJ 253) NK=true:=HR
def o8:DD Tryz.prog BK 183 2 (cJ 272) NK=true:=HR
def oz:DD Tryz.prog BK 251 2 (cI 4 true) NK=true:=HR
def oy:DD Tryz.prog BK 252 2 (cI 1 false) NK=true:=HR
def ov:DD Tryz.prog BK 253 2 (cI 3 true) NK=true:=HR
def ou:DD Tryz.prog BK 254 2 (cI 3 true) NK=true:=HR
def ot:DD Tryz.prog BK 256 2 (cJ 307) NK=true:=HR
def om:DD Tryz.prog BK 272 2 (cI 3 true) NK=true:=HR
def ol:DD Tryz.prog BK 275 2 (cI 8 true) NK=true:=HR
def oj:DD Tryz.prog BK 277 2 (cJ 318) NK=true:=HR
def oi:DD Tryz.prog BK 293 2 (cJ 323) NK=true:=HR
def oh:DD Tryz.prog BK 307 2 (cI 8 true) NK=true:=HR
def og:DD Tryz.prog BK 318 2 (cI 4 true) NK=true:=HR
def od:DD Tryz.prog BK 323 2 (cI 4 true) NK=true:=HR
mutual
def V.beq:V->V->Bool
 | .int k n,.int k' n'=>decide (k=k')&&decide (n=n')
 | .bool b,.bool b'=>b==b'
 | .str s,.str s'=>decide (s=s')
 | .list xs,.list ys=>V.beqs xs ys
 | .agg xs,.agg ys=>V.beqs xs ys
 | .ptr xs,.ptr ys=>V.beqs xs ys
 | .nilp,.nilp=>true
 | .func f cs,.func g ds=>f==g&&V.beqs cs ds
 | .nilf,.nilf=>true
 | .nilm,.nilm=>true
 |_,_=>false
def V.beqs:List V->List V->Bool
 |[],[]=>true
 |x::xs,y::ys=>V.beq x y&&V.beqs xs ys
 |_,_=>false
end
mutual
def V.beq_eq:∀{x y:V},V.beq x y=true->x=y
 | .int k n,y,h=>by cases y<;>simp_all [V.beq]
 | .bool b,y,h=>by cases y<;>simp_all [V.beq]
 | .str s,y,h=>by cases y<;>simp_all [V.beq]
 | .list xs,y,h=>by cases y<;>simp only[V.beq,rz]at h;rw[V.beqs_eq h]
 | .agg xs,y,h=>by cases y<;>simp only[V.beq,rz]at h;rw[V.beqs_eq h]
 | .ptr xs,y,h=>by cases y<;>simp only[V.beq,rz]at h;rw[V.beqs_eq h]
 | .nilp,y,h=>by cases y<;>simp_all [V.beq]
 | .func f cs,y,h=>by
  cases y<;>simp only[V.beq,rz,rX,beq_iff_eq]at h
  rw[h.1,V.beqs_eq h.2]
 | .nilf,y,h=>by cases y<;>simp_all [V.beq]
 | .nilm,y,h=>by cases y<;>simp_all [V.beq]
def V.beqs_eq:∀{xs ys:List V},V.beqs xs ys=true->xs=ys
 |[],ys,h=>by cases ys<;>simp_all [V.beqs]
 |x::xs,ys,h=>by
  cases ys with
  |nil=>simp[V.beqs]at h
  |cons y ys=>
   simp only[V.beqs,rX]at h;rw[V.beq_eq h.1,V.beqs_eq h.2]
end
mutual
def D.beq:D->D->Bool
 | .v x,.v y=>V.beq x y
 | .any,.any=>true
 | .nil e s,.nil e' s'=>e==e'&&s==s'
 | .W e s xs,.W e' s' ys=>e==e'&&s==s'&&V.beqs xs ys
 | .agg ds,.agg es=>D.beqs ds es
 | .tup ds,.tup es=>D.beqs ds es
 | .R r o,.R r' o'=>r==r'&&o==o'
 | .sr r n,.sr r' n'=>r==r'&&n==n'
 | .mr r,.mr r'=>r==r'
 | .func f cs,.func g ds=>f==g&&D.beqs cs ds
 | .meth f cs,.meth g ds=>f==g&&D.beqs cs ds
 | .yld r,.yld r'=>r==r'
 |_,_=>false
def D.beqs:List D->List D->Bool
 |[],[]=>true
 |x::xs,y::ys=>D.beq x y&&D.beqs xs ys
 |_,_=>false
end
mutual
def D.beq_eq:∀{x y:D},D.beq x y=true->x=y
 | .v x,y,h=>by cases y<;>simp only[D.beq,rz]at h;rw[V.beq_eq h]
 | .any,y,h=>by cases y<;>simp_all [D.beq]
 | .nil e s,y,h=>by cases y<;>simp_all [D.beq]
 | .W e s xs,y,h=>by
  cases y<;>simp only[D.beq,rz,rX,beq_iff_eq]at h
  rw[h.1.1,h.1.2,V.beqs_eq h.2]
 | .agg ds,y,h=>by cases y<;>simp only[D.beq,rz]at h;rw[D.beqs_eq h]
 | .tup ds,y,h=>by cases y<;>simp only[D.beq,rz]at h;rw[D.beqs_eq h]
 | .R r o,y,h=>by cases y<;>simp_all [D.beq]
 | .sr r n,y,h=>by cases y<;>simp_all [D.beq]
 | .mr r,y,h=>by cases y<;>simp_all [D.beq]
 | .func f cs,y,h=>by
  cases y<;>simp only[D.beq,rz,rX,beq_iff_eq]at h
  rw[h.1,D.beqs_eq h.2]
 | .meth f cs,y,h=>by
  cases y<;>simp only[D.beq,rz,rX,beq_iff_eq]at h
  rw[h.1,D.beqs_eq h.2]
 | .yld r,y,h=>by cases y<;>simp_all [D.beq]
 | .pend b e s xs,y,h=>by simp[D.beq]at h
 | .pptr b s n,y,h=>by simp[D.beq]at h
def D.beqs_eq:∀{xs ys:List D},D.beqs xs ys=true->xs=ys
 |[],ys,h=>by cases ys<;>simp_all [D.beqs]
 |x::xs,ys,h=>by
  cases ys with
  |nil=>simp[D.beqs]at h
  |cons y ys=>
   simp only[D.beqs,rX]at h;rw[D.beq_eq h.1,D.beqs_eq h.2]
end
def Lb{α:Type}(f:α->α->Bool):List α->List α->Bool
 |[],[]=>true
 |x::xs,y::ys=>f x y&&Lb f xs ys
 |_,_=>false
def Lw{α:Type}{f:α->α->Bool}(J:∀x y,f x y=true->x=y):∀{xs G:List α},Lb f xs G=true->xs=G
 |[],G,h=>by cases G<;>simp_all [Lb]
 |x::xs,G,h=>by
  cases G with
  |nil=>simp[Lb]at h
  |cons y G=>
   simp only[Lb,rX]at h;rw[J _ _ h.1,Lw J h.2]
def Row.beq:Row->Row->Bool
 | .cells ds,.cells es=>D.beqs ds es
 | .map es bs ck,.map fs cs dk=>Lb (λp q=>V.beq p.1 q.1&&V.beq p.2 q.2) es fs&&Lb (λa b:Nat=>a==b) bs cs&&ck==dk
 | .dead,.dead=>true
 |_,_=>false
def Row.beq_eq{x y:Row}(h:Row.beq x y=true):x=y:=by
 cases x<;>cases y<;>simp only[Row.beq,rz]at h
 .rw[D.beqs_eq h]
 .simp only[rX,beq_iff_eq]at h;rw[Lw (λp q h=>by simp only[rX]at h;exact uu (V.beq_eq h.1) (V.beq_eq h.2)) h.1.1,Lw (λa b h=>by simpa using h) h.1.2,h.2]
 .rfl
mutual
def D.lt(n:Nat):D->Bool
 | .R r _=>decide (r <n)
 | .sr r _=>decide (r <n)
 | .mr r=>decide (r <n)
 | .yld r=>decide (r <n)
 | .agg ds=>D.lts n ds
 | .tup ds=>D.lts n ds
 | .func _ ds=>D.lts n ds
 | .meth _ ds=>D.lts n ds
 |_=>true
def D.lts(n:Nat):List D->Bool
 |[]=>true
 |d::ds=>D.lt n d&&D.lts n ds
end
def Row.lt(n:Nat):Row->Bool
 | .cells ds=>D.lts n ds
 |_=>true
def NG(n:Nat)(h:List Row):List Row:=h.take n++List.replicate (h.length-n) .dead
def QS(n:Nat)(h:List Row):(NG n h).length=h.length:=by simp[NG];omega
def IB(n:Nat)(h:List Row)(r:Nat):(NG n h)[r]?=if r <n then h[r]? else if r <h.length then some .dead else none:=by
 simp only[NG];by_cases G:r <n
 .rw[if_pos G];by_cases h2:r <h.length
  .rw[sI Dd,sP,if_pos G]
  .rw[sU Dd,sU AE]
 .rw[if_neg G];by_cases h2:r <h.length
  .rw[if_pos h2,sO Dd,List.getElem?_replicate,if_pos Dd]
  .rw[if_neg h2,sU Dd]
theorem Inv.kill{g:Gh}{w:World}{μ:List Nat}{t:Nat->D}{u:Nat->Value}{h:List Row}{O:Nat->Prop}(hi:Inv g w μ t u h O)(n:Nat):Inv g w μ t u (Go.Va.NG n h) O:=by
 have U:∀r k v b,Am (BJ (Go.Va.NG n h) r k) v=some b->Am (BJ h r k) v=some b:=by
  intro r k v b J;simp only[BJ,IB]at J ⊢;by_cases Z:r <n
  .simp only[Z,if_true]at J;exact J
  .simp only[Z,if_false]at J;by_cases h2:r <h.length
   .simp[h2,Am]at J
   .simp[h2,Am]at J
 have G:∀p b,Cm t u (Go.Va.NG n h) w μ p=some b->Cm t u h w μ p=some b:=by
  intro p b W;cases p with
  |tmp m k=>exact W
  |cell r k=>exact U r k _ b W
 refine⟨hi.agree,hi.olt,hi.rep,by rw[QS];exact hi.len,?_,hi.nod,hi.mo,λp q b W hq=>hi.uniq p q b (G p b W) (G q b hq),λp b W=>hi.sep p b (G p b W)⟩;intro r row b N J;rw[IB]at N;by_cases Z:r <n
 .rw[if_pos Z]at N;exact hi.rows r row b N J
 .rw[if_neg Z]at N;by_cases h2:r <h.length
  .rw[if_pos h2]at N;simp only[rV]at N;subst N;exact(hi.rows r _ b (rW h2) J).lt
  .rw[if_neg h2]at N;cases N
theorem FSp.kill{P:Program}{GL:Ai}{f:Nat}{args rets:List D}{h h':List Row}(G:FSp P GL f args h rets h')(n:Nat):FSp P GL f args h rets (Go.Va.NG n h'):=by refine⟨G.1,λg w μ us O hinv hgl hall htame=>(G.2 g w μ us O hinv hgl hall htame).mono ?_⟩;rintro e W ⟨v,J,μ',rfl,N,U⟩;exact⟨v,J,μ',rfl,N.kill n,U⟩
structure LD where
 e:CC
 ps:List Nat
 asg:AC
 body:AC
abbrev Lp:=List (Nat×Tag×LD)
def Lp.get:Lp->Nat->Option (Tag×LD)
 |[],_=>none
 |x::t,r=>if x.1=r then some x.2 else Lp.get t r
def Lp.tag:Lp->Nat->Tag->Lp
 |[],_,_=>[]
 |x::t,r,g=>if x.1=r then (r,g,x.2.2)::t else x::Lp.tag t r g
def Tag.beq:Tag->Tag->Bool
 | .ready,.ready=>true
 | .busy,.busy=>true
 | .done none,.done none=>true
 | .done (some i),.done (some j)=>i==j
 |_,_=>false
theorem Tag.beq_eq{x y:Tag}(h:Tag.beq x y=true):x=y:=by unfold Tag.beq at h;split at h<;>simp_all
def Lp.beq:Lp->Lp->Bool
 |[],[]=>true
 |x::t,y::u=>x.1==y.1&&Tag.beq x.2.1 y.2.1&&Lp.beq t u
 |_,_=>false
structure ES where
 e:CC
 h:List Row
 t:Lp
section
variable (P:Program) (GL:Ai)
def Lp.ins:Lp->List Row->List Row
 |[],h=>h
 |x::t,h=>(Lp.ins t h).set x.1 (A5 P GL x.2.1 x.2.2.e x.2.2.ps x.2.2.asg x.2.2.body)
end
def Lp.has(t:Lp)(r:Nat):Prop:=r∈t.map (·.1)
structure OKT (t:Lp) (h:List Row):Prop where
 dead:∀r,t.has r->h[r]?=some .dead
 nod:(t.map (·.1)).Nodup
def Lp.kin:Lp->Lp->Prop
 |[],[]=>True
 |x::t,y::u=>x.1=y.1/\x.2.2=y.2.2/\Lp.kin t u
 |_,_=>False
def Lp.kin.refl:∀t:Lp,t.kin t
 |[]=>trivial
 |x::t=>⟨rfl,rfl,Lp.kin.refl t⟩
def Lp.kin.trans:∀{a b c:Lp},a.kin b->b.kin c->a.kin c
 |[],[],[],_,_=>trivial
 |x::a,y::b,z::c,h,h'=>⟨h.1.trans h'.1,h.2.1.trans h'.2.1,Lp.kin.trans h.2.2 h'.2.2⟩
 |[],[],_::_,_,h=>h.elim
 |[],_::_,_,h,_=>h.elim
 |_::_,[],_,h,_=>h.elim
 |_::_,_::_,[],_,h=>h.elim
def Lp.kin.map:∀{a b:Lp},a.kin b->a.map (·.1)=b.map (·.1)
 |[],[],_=>rfl
 |x::a,y::b,h=>by simp only[rq,h.1,Lp.kin.map h.2.2]
 |[],_::_,h=>h.elim
 |_::_,[],h=>h.elim
def Lp.kin_tag:∀(t:Lp)(r:Nat)(g:Tag),t.kin (t.tag r g)
 |[],_,_=>trivial
 |x::t,r,g=>by
  simp only[Lp.tag];split
  .rename_i h;exact⟨h,rfl,Lp.kin.refl t⟩
  .exact⟨rfl,rfl,Lp.kin_tag t r g⟩
def Lp.beq_eq:∀{a t u:Lp},a.kin t->a.kin u->Lp.beq t u=true->t=u
 |[],[],[],_,_,_=>rfl
 |x::a,y::t,z::u,h,h',hb=>by simp only[Lp.beq,rX,beq_iff_eq]at hb;have G:=Tag.beq_eq hb.1.2;have h2:=Lp.beq_eq h.2.2 h'.2.2 hb.2;have J:y=z:=uu hb.1.1 (uu G (h.2.1.symm.trans h'.2.1));rw[h2,J]
 |[],[],_::_,_,h,_=>h.elim
 |[],_::_,_,h,_,_=>h.elim
 |_::_,[],_,h,_,_=>h.elim
 |_::_,_::_,[],_,h,_=>h.elim
variable {r:Nat} {h:List Row} {e:CC} {s':St}
section
variable {P:Program} {GL:Ai}
def Db:∀(t:Lp)(h:List Row),(t.ins P GL h).length=h.length
 |[],h=>rfl
 |x::t,h=>by simp only[Lp.ins,so,Db t h]
def Oz:∀(t:Lp){h:List Row}{r:Nat},¬t.has r->(t.ins P GL h)[r]?=h[r]?
 |[],h,r,_=>rfl
 |x::t,h,r,hn=>by simp only[Lp.has,rq,rj,not_or]at hn;simp only[Lp.ins];rw[sG (Ne.symm hn.1)];exact Oz t hn.2
def Jq:∀(t:Lp){h:List Row}{r:Nat}{g:Tag}{l:LD},r <h.length->t.get r=some (g,l)->(t.ins P GL h)[r]?=some (A5 P GL g l.e l.ps l.asg l.body)
 |[],h,r,g,l,_,hg=>by simp[Lp.get]at hg
 |x::t,h,r,g,l,hl,hg=>by
  simp only[Lp.get]at hg;simp only[Lp.ins];by_cases hx:x.1=r
  .simp only[hx,if_true,rV]at hg;rw[hx,sY (by rw[Db];exact hl),hg]
  .simp only[hx,if_false]at hg;rw[sG hx];exact Jq t hl hg
def Sk:∀(t:Lp){h:List Row}{r:Nat}(x:Row),¬t.has r->t.ins P GL (h.set r x)=(t.ins P GL h).set r x
 |[],h,r,x,_=>rfl
 |y::t,h,r,x,hn=>by simp only[Lp.has,rq,rj,not_or]at hn;simp only[Lp.ins,Sk t x hn.2];rw[List.set_comm _ _ hn.1]
def Ma:∀(t:Lp){h:List Row}(x:Row),(∀r,t.has r->r <h.length)->t.ins P GL (h++[x])=t.ins P GL h++[x]
 |[],h,x,_=>rfl
 |y::t,h,x,hn=>by simp only[Lp.ins];rw[Ma t x λr G=>hn r (by simp only[Lp.has,rq,rj];exact .inr G)];rw[uC _ _ (by rw[Db];exact hn y.1 (by simp[Lp.has]))]
def IC:∀(t:Lp){h:List Row}(l:List Row),(∀r,t.has r->r <h.length)->t.ins P GL (h++l)=t.ins P GL h++l
 |[],h,l,_=>rfl
 |y::t,h,l,hn=>by simp only[Lp.ins];rw[IC t l λr G=>hn r (by simp only[Lp.has,rq,rj];exact .inr G)];rw[uC _ _ (by rw[Db];exact hn y.1 (by simp[Lp.has]))]
def Ln:∀(t:Lp){r:Nat}{x:Tag×LD},t.get r=some x->t.has r
 |[],r,x,h=>by simp[Lp.get]at h
 |y::t,r,x,h=>by
  simp only[Lp.get]at h;simp only[Lp.has,rq,rj];split at h
  .rename_i G;exact .inl G.symm
  .exact .inr (Ln t h)
def Oy:∀(t:Lp){h:List Row}{r:Nat}{g G:Tag}{l:LD},(t.map (·.1)).Nodup->t.get r=some (g,l)->(t.tag r G).ins P GL h=(t.ins P GL h).set r (A5 P GL G l.e l.ps l.asg l.body)
 |[],h,r,g,G,l,_,hg=>by simp[Lp.get]at hg
 |x::t,h,r,g,G,l,hn,hg=>by
  simp only[rq,tj]at hn;simp only[Lp.get]at hg;simp only[Lp.tag,Lp.ins];by_cases hx:x.1=r
  .simp only[hx,if_true,rV]at hg;simp only[hx,if_true,Lp.ins,tm,hg]
  .simp only[hx,if_false]at hg;simp only[hx,if_false,Lp.ins];rw[Oy t hn.2 hg,List.set_comm _ _ (Ne.symm hx)]
def O5:∀{t u:Lp}{r:Nat}{g J:Tag}{l G:LD},t.kin u->t.get r=some (g,l)->u.get r=some (J,G)->l=G
 |[],[],r,g,J,l,G,_,h,_=>by simp[Lp.get]at h
 |x::t,y::u,r,g,J,l,G,hk,h,h'=>by
  simp only[Lp.get]at h h';by_cases hx:x.1=r
  .rw[<-hk.1]at h';simp only[hx,if_true,rV]at h h';have:=hk.2.1;rw[h,h']at this;exact this
  .rw[<-hk.1]at h';simp only[hx,if_false]at h h';exact O5 hk.2.2 h h'
 |[],_::_,_,_,_,_,_,h,_,_=>h.elim
 |_::_,[],_,_,_,_,_,h,_,_=>h.elim
def OKT.nothas{t:Lp}(N:OKT t h){x:Row}(G:h[r]?=some x)(hx:x≠ .dead):¬t.has r:=λJ=>by rw[N.dead r J]at G;simp only[rV]at G;exact hx G.symm
def OKT.get{t:Lp}(J:OKT t h){x:Row}(G:h[r]?=some x)(hx:x≠ .dead):(t.ins P GL h)[r]?=some x:=by rw[Oz t (J.nothas G hx)];exact G
def OKT.set{t:Lp}{h:List Row}(J:OKT t h){r:Nat}{x y:Row}(O:h[r]?=some x)(hx:x≠ .dead):OKT t (h.set r y)/\t.ins P GL (h.set r y)=(t.ins P GL h).set r y:=by refine⟨⟨λU G=>?_,J.nod⟩,Sk t y (J.nothas O hx)⟩;have N:r≠U:=λW=>J.nothas O hx (W▸G);rw[sG N];exact J.dead U G
def OKT.lt{t:Lp}(G:OKT t h)(J:t.has r):r <h.length:=(rZ.1 (G.dead r J)).1
theorem OKT.append{t:Lp}(G:OKT t h)(x:Row):OKT t (h++[x])/\t.ins P GL (h++[x])=t.ins P GL h++[x]:=by refine⟨⟨λr J=>?_,G.nod⟩,Ma t x λr J=>G.lt J⟩;rw[sI (G.lt J)];exact G.dead r J
theorem OKT.kin{t u:Lp}{h:List Row}(G:OKT t h)(J:t.kin u):OKT u h:=by
 refine⟨λr N=>G.dead r ?_,?_⟩
 .simp only[Lp.has,J.map];exact N
 .rw[<-J.map];exact G.nod
def OKT.kill{t:Lp}{h:List Row}(U:OKT t h){n:Nat}(G:∀r,t.has r->r <n):OKT t (NG n h)/\t.ins P GL (NG n h)=NG n (t.ins P GL h):=by
 refine⟨⟨λr J=>?_,U.nod⟩,?_⟩
 .rw[IB,if_pos (G r J)];exact U.dead r J
 .have Bz:∀(t:Lp),(∀r,t.has r->r <n)->t.ins P GL (Go.Va.NG n h)=Go.Va.NG n (t.ins P GL h):=by
   intro t;induction t with
   |nil=>intro _;rfl
   |cons x t ih=>
    intro G;have N:∀r,Lp.has t r->r <n:=λr J=>G r (by simp only[Lp.has,rq,rj];exact .inr J);simp only[Lp.ins,ih N];have hx:x.1 <n:=G x.1 (by simp[Lp.has]);apply sl;intro r;rw[IB,sr,sr,IB,QS,so];by_cases O:x.1=r
    .subst O;simp[hx]
    .simp[O]
  exact Bz t G
theorem Pd{t:Lp}(O:OKT t h){i:PI}{x:D}(G:i.val e h=some x):i.val e (t.ins P GL h)=some x:=by
 cases hkd:i.kd with
 |n=>rw[PI.val_heap (h2:=t.ins P GL h) hkd];exact G
 |r=>
  cases i with
  |load a n ag=>
   simp only[PI.val]at G ⊢;split at G
   .exact G
   .rename_i r W U;split at G
    .rename_i ds N;simp only[O.get (P:=P) (GL:=GL) N Ac];exact G
    .cases G
   .cases G
  |look m k st ks zs ag ok=>
   simp only[PI.val]at G ⊢;split at G
   .split at G
    .rename_i J;rw[if_pos J];split at G
     .rename_i z Z;split at G
      .exact G
      .rename_i r U;split at G
       .rename_i es bs ck N;simp only[O.get (P:=P) (GL:=GL) N Ac];exact G
       .cases G
      .cases G
     .cases G
    .cases G
   .cases G
  |_=>cases hkd
 |a=>cases i<;>cases hkd
 |w=>cases i<;>cases hkd
 |t=>cases i<;>cases hkd
theorem NX{t:Lp}(J:OKT t h){i:AI}(G:i.step ⟨e,h⟩=some s'):i.step ⟨e,t.ins P GL h⟩=some ⟨s'.e,t.ins P GL s'.h⟩/\OKT t s'.h:=by
 cases i with
 |p d i=>
  simp only[AI.step,rt]at G ⊢;obtain⟨x,hx,rfl⟩:=G;exact⟨⟨x,Pd J hx,rfl⟩,J⟩
 |mv d x=>simp only[AI.step,rV]at G ⊢;subst G;exact⟨rfl,J⟩
 |alloc d zs=>
  simp only[AI.step,rV]at G ⊢;subst G;obtain⟨N,h2⟩:=J.append (P:=P) (GL:=GL) (.cells zs);exact⟨by rw[h2,Db],N⟩
 |box d x=>
  simp only[AI.step]at G ⊢;split at G
  .rename_i cs hc;simp only[rV]at G;subst G;obtain⟨N,h2⟩:=J.append (P:=P) (GL:=GL) (.cells (cs.map D.toRow));exact⟨by rw[h2,Db],N⟩
  .cases G
 |store a x n=>
  simp only[AI.step]at G ⊢;split at G
  .rename_i r U ha;split at G
   .rename_i ds O;simp only[J.get (P:=P) (GL:=GL) O Ac];split at G
    .rename_i Z sz xs hx;split at G
     .rename_i m;split at G
      .rename_i hc;simp only[rV]at G;subst G;obtain⟨N,h2⟩:=J.set (P:=P) (GL:=GL) (y:= .cells (ds.set U (.W Z sz xs))) O Ac;exact⟨by rw[if_pos hc,h2],N⟩
      .cases G
     .cases G
    .rename_i bb Z sz xs hx;split at G
     .rename_i m;split at G
      .rename_i hc;simp only[rV]at G;subst G;obtain⟨N,h2⟩:=J.set (P:=P) (GL:=GL) (y:= .cells (ds.set U (.pend bb Z sz xs))) O Ac;exact⟨by rw[if_pos hc,h2],N⟩
      .cases G
     .cases G
    .rename_i a7 a6;split at G
     .rename_i cs hc;split at G
      .rename_i a1;simp only[rV]at G;subst G;obtain⟨N,h2⟩:=J.set (P:=P) (GL:=GL) (y:= .cells (AQ ds U (cs.map D.toRow))) O Ac;exact⟨by simp only[hc,a1,h2];simp[a1],N⟩
      .cases G
     .cases G
   .cases G
  .cases G
 |take d a=>
  simp only[AI.step]at G ⊢;split at G
  .rename_i r U ha;split at G
   .rename_i ds O;simp only[J.get (P:=P) (GL:=GL) O Ac];split at G
    .rename_i Z sz xs hx;simp only[rV]at G;subst G;obtain⟨N,h2⟩:=J.set (P:=P) (GL:=GL) (y:= .cells (ds.set U (.v (.list xs)))) O Ac;exact⟨by simp only[h2],N⟩
    .cases G
   .cases G
  .cases G
 |app d x y Z sz by_=>
  simp only[AI.step]at G ⊢;split at G
  .split at G
   .rename_i hc;simp only[rV]at G;subst G;exact⟨by rw[if_pos hc],J⟩
   .cases G
  .cases G
 |appS d x y Z by_=>
  simp only[AI.step]at G ⊢;split at G
  .split at G
   .rename_i hc;simp only[rV]at G;subst G;exact⟨by rw[if_pos hc],J⟩
   .cases G
  .cases G
 |bsl d Z sz ps=>
  simp only[AI.step]at G ⊢;split at G
  .split at G
   .rename_i hc;rw[if_pos hc];split at G<;>(simp only[rV]at G;subst G;exact⟨rfl,J⟩)
   .cases G
  .cases G
 |s2b d x=>
  simp only[AI.step]at G ⊢;split at G
  .simp only[rV]at G;subst G;exact⟨rfl,J⟩
  .cases G
 |mksl d x z=>
  simp only[AI.step]at G ⊢;split at G
  .rename_i k n hn;split at G
   .rename_i hc;simp only[rV]at G;subst G;obtain⟨N,h2⟩:=J.append (P:=P) (GL:=GL) (.cells (List.replicate n.toNat z));exact⟨by rw[if_pos hc,h2,Db],N⟩
   .cases G
  .cases G
 |nilS d ne x=>cases G
 |mkm d=>
  simp only[AI.step,rV]at G ⊢;subst G;obtain⟨N,h2⟩:=J.append (P:=P) (GL:=GL) (.map [] [] 0);exact⟨by rw[h2,Db],N⟩
 |mput m k v st ks=>
  simp only[AI.step]at G ⊢;split at G
  .rename_i r hm;split at G
   .rename_i es bs ck O;simp only[J.get (P:=P) (GL:=GL) O Ac];split at G
    .rename_i kv vv a2 b0;split at G
     .rename_i W;rw[if_pos W];split at G
      .simp only[rV]at G;subst G;obtain⟨N,h2⟩:=J.set (P:=P) (GL:=GL) (y:= .map (es++[(kv,vv)]) (bs++[ck]) (ck+1)) O Ac;exact⟨by rw[h2],N⟩
      .rename_i i hi;simp only[rV]at G;subst G;obtain⟨N,h2⟩:=J.set (P:=P) (GL:=GL) (y:= .map (es.set i (kv,vv)) bs ck) O Ac;exact⟨by rw[h2],N⟩
      .cases G
     .cases G
    .cases G
   .cases G
  .cases G
 |ment d m k st ks=>
  simp only[AI.step]at G ⊢;split at G
  .rename_i r hm;split at G
   .rename_i es bs ck O;simp only[J.get (P:=P) (GL:=GL) O Ac];split at G
    .rename_i kv a2;split at G
     .rename_i W;rw[if_pos W];split at G
      .rename_i i hi;split at G
       .simp only[rV]at G;subst G;exact⟨rfl,J⟩
       .cases G
      .cases G
     .cases G
    .cases G
   .cases G
  .cases G
 |mest m b v=>
  simp only[AI.step]at G ⊢;split at G
  .rename_i r hm;split at G
   .rename_i es bs ck O;simp only[J.get (P:=P) (GL:=GL) O Ac];split at G
    .rename_i kk n vv hb hv;split at G
     .rename_i i hi;split at G
      .rename_i p hp;simp only[rV]at G;subst G;obtain⟨N,h2⟩:=J.set (P:=P) (GL:=GL) (y:= .map (es.set i (p.1,vv)) bs ck) O Ac;exact⟨by rw[h2],N⟩
      .cases G
     .cases G
    .cases G
   .cases G
  .cases G
 |mdel d m k st ks=>
  simp only[AI.step]at G ⊢;split at G
  .rename_i r hm;split at G
   .rename_i es bs ck O;simp only[J.get (P:=P) (GL:=GL) O Ac];split at G
    .rename_i kv a2;split at G
     .rename_i W;rw[if_pos W];split at G
      .simp only[rV]at G;subst G;exact⟨rfl,J⟩
      .rename_i i hi;simp only[rV]at G;subst G;obtain⟨N,h2⟩:=J.set (P:=P) (GL:=GL) (y:= .map (es.eraseIdx i) (bs.eraseIdx i) ck) O Ac;exact⟨by rw[h2],N⟩
      .cases G
     .cases G
    .cases G
   .cases G
  .cases G
 |call d f args=>cases G
 |callF d f args=>cases G
 |callC d f args=>cases G
 |callO d f q args=>cases G
 |appR d x y e s b=>cases G
 |callN d f args=>cases G
 |appP d x y e s b=>cases G
 |fin m ad p x sz=>
  simp only[AI.step]at G ⊢;split at G
  .rename_i b s0 n y hp hx;split at G
   .rename_i b' Z s2 xs hf;split at G
    .rename_i hc;simp only[rV]at G;subst G;exact⟨by rw[if_pos hc],J⟩
    .cases G
   .rename_i a8;split at G
    .rename_i r U ha;split at G
     .rename_i ds O;split at G
      .rename_i b' Z s2 xs hd;split at G
       .rename_i hc;simp only[rV]at G;subst G;obtain⟨N,h2⟩:=J.set (P:=P) (GL:=GL) (y:= .cells (ds.set U (.W Z sz (xs++[y])))) O Ac;refine⟨?_,N⟩;simp only[J.get (P:=P) (GL:=GL) O Ac,hd,if_pos hc,h2]
       .cases G
      .cases G
     .cases G
    .cases G
  .cases G
 |mksz d x zs=>
  simp only[AI.step]at G ⊢;split at G
  .rename_i k n hn;split at G
   .rename_i hc;simp only[rV]at G;subst G;obtain⟨N,h2⟩:=J.append (P:=P) (GL:=GL) (.cells (List.replicate n.toNat zs).flatten);exact⟨by rw[if_pos hc,h2,Db],N⟩
   .cases G
  .cases G
 |cpy d x y sz=>
  simp only[AI.step]at G ⊢;split at G
  .rename_i r n hx;split at G
   .rename_i ys hy;split at G
    .rename_i ds O;simp only[J.get (P:=P) (GL:=GL) O Ac];split at G
     .rename_i hc;rw[if_pos hc];simp only[rV]at G;subst G;obtain⟨N,h2⟩:=J.set (P:=P) (GL:=GL) (y:= .cells ((ys.flatMap V.cells).map .v)) O Ac;exact⟨by rw[h2],N⟩
     .cases G
    .cases G
   .cases G
  .cases G
end
section
structure Ev where
 F:Nat->List D->List Row->Lp->Option (List D×List Row×Lp)
 Pf:Nat->List V->Option (List V)
 C:AC->ES->Option (List (AExit×ES))
abbrev iq:=Nat->Option (Nat×AC×List AR)
def IR{α β:Type}(f:α->Option (List β)):List α->Option (List β)
 |[]=>some []
 |x::xs=>match f x,IR f xs with
  |some ys,some zs=>some (ys++zs)
  |_,_=>none
def Ol{α β:Type}(f:α->Option β):List α->Option (List β)
 |[]=>some []
 |x::xs=>match f x,Ol f xs with
  |some y,some zs=>some (y::zs)
  |_,_=>none
def Nk{α:Type}(eq:α->α->Bool):List α->Option α
 |[]=>none
 |x::xs=>if xs.all (eq x) then some x else none
def In{α β:Type}{f:α->Option (List β)}:∀{xs:List α}{G:List β},IR f xs=some G->∀x∈xs,∃zs,f x=some zs/\∀z∈zs,z∈G
 |[],G,_,x,hx=>by simp at hx
 |x::xs,G,h,y,hy=>by
  simp only[IR]at h;split at h
  .rename_i J bs U W;simp only[rV]at h;subst h;rcases rj.1 hy with rfl|hy
   .exact⟨J,U,λz N=>ut _ N⟩
   .obtain⟨zs,O,h2⟩:=In W y hy;exact⟨zs,O,λz N=>uV _ (h2 z N)⟩
  .cases h
def Jf{α β:Type}{f:α->Option β}:∀{xs:List α}{G:List β},Ol f xs=some G->∀x∈xs,∃z,f x=some z/\z∈G
 |[],G,_,x,hx=>by simp at hx
 |x::xs,G,h,y,hy=>by
  simp only[Ol]at h;split at h
  .rename_i a bs N O;simp only[rV]at h;subst h;rcases rj.1 hy with rfl|hy
   .exact⟨a,N,Ac⟩
   .obtain⟨z,J,h2⟩:=Jf O y hy;exact⟨z,J,by simp[h2]⟩
  .cases h
def MS{α β:Type}{f:α->Option β}:∀{xs:List α}{G:List β},Ol f xs=some G->∀y∈G,∃x∈xs,f x=some y
 |[],G,h,y,hy=>by simp only[Ol,rV]at h;subst h;simp at hy
 |x::xs,G,h,y,hy=>by
  simp only[Ol]at h;split at h
  .rename_i a bs N O;simp only[rV]at h;subst h;rcases rj.1 hy with rfl|hy
   .exact⟨x,Ac,N⟩
   .obtain⟨z,J,h2⟩:=MS O y hy;exact⟨z,by simp[J],h2⟩
  .cases h
theorem Kb{α:Type}{N:α->α->Bool}{xs:List α}{x:α}(h:Nk N xs=some x):x∈xs/\∀y∈xs,y=x\/N x y=true:=by
 cases xs with
 |nil=>simp[Nk]at h
 |cons a xs=>
  simp only[Nk]at h;split at h
  .rename_i G;simp only[rV]at h;subst h;refine⟨Ac,λy J=>?_⟩;rcases rj.1 J with rfl|J
   .exact .inl rfl
   .exact .inr (ry.1 G y J)
  .cases h
def UL(t:Lp)(r:Nat):AExit->Bool×Lp
 | .normal=>(true,t.tag r .ready)
 | .ret=>(false,t.tag r (.done none))
 | .exit i=>(false,t.tag r (.done (some i)))
def pX(x y:Bool×List Row×Lp):Bool:=x.1==y.1&&Lb Row.beq x.2.1 y.2.1&&Lp.beq x.2.2 y.2.2
def qC(x y:List D×List Row×Lp):Bool:=D.beqs x.1 y.1&&Lb Row.beq x.2.1 y.2.1&&Lp.beq x.2.2 y.2.2
def jH(E:Ev)(r:Nat)(args:List D)(h:List Row)(t:Lp):Option (Bool×List Row×Lp):=
 match t.get r with
 |some (.ready,l)=>if args.length=l.ps.length then
   match E.C l.asg ⟨E5 l.e l.ps args,h,t⟩with
   |some [(.normal,s1)]=>match s1.t.get r with
    |some (.ready,_)=>match E.C l.body ⟨s1.e,s1.h,s1.t.tag r .busy⟩with
     |some o2=>match Ol (λo=>match o.2.t.get r with
       |some (.busy,_)=>some ((UL o.2.t r o.1).1,o.2.h,(UL o.2.t r o.1).2)
       |_=>none) o2 with
      |some rs=>Nk pX rs
      |none=>none
     |none=>none
    |_=>none
   |_=>none
  else none
 |_=>none
def WT:List D->Option (List V)
 |[]=>some []
 | .v x::ds=>match WT ds with
  |some xs=>some (x::xs)
  |none=>none
 |_=>none
def Qw:∀{ds:List D}{vs:List V},WT ds=some vs->ds=vs.map .v
 |[],vs,h=>by simp only[WT,rV]at h;subst h;rfl
 |d::ds,vs,h=>by
  cases d<;>simp only[WT,reduceCtorEq]at h
  split at h
  .rename_i xs G;simp only[rV]at h;subst h;simp only[rq,Qw G]
  .cases h
def Kn(E:Ev)(f:Nat)(args:List D)(h:List Row)(t:Lp):Option (List D×List Row×Lp):=
 match WT args with
 |some vs=>match E.Pf f vs with
  |some rets=>some (rets.map .v,h,t)
  |none=>E.F f args h t
 |none=>E.F f args h t
def Vm(E:Ev)(d:Option Nat)(f:Opd)(args:List Opd)(s:ES):Option (List ES):=
 match f.ev s.e with
 | .yld r=>(jH E r (A9 s.e args) s.h s.t).map λx=>[⟨CL s.e d (.v (.bool x.1)),x.2.1,x.2.2⟩]
 | .meth fid fs=>(Kn E fid (fs++A9 s.e args) s.h s.t).map λx=>[⟨CL s.e d (Bp x.1),x.2.1,x.2.2⟩]
 |fd=>match Dn fd with
  |some (fid,caps)=>(Kn E fid (A9 s.e args++caps) s.h s.t).map λx=>[⟨CL s.e d (Bp x.1),x.2.1,x.2.2⟩]
  |none=>none
def cH(E:Ev)(i:AI)(s:ES):Option (List ES):=
 match i with
 | .call d f args=>Vm E d f args s
 | .callF d f args=>Vm E d f args s
 | .callC d f args=>Vm E d f args s
 | .nilS d ne x=>match (x.ev s.e).copy with
  | .v (.list [])| .nil _ _=>some [⟨(d,.v (.bool (true != ne)))::s.e,s.h,s.t⟩,⟨(d,.v (.bool (false != ne)))::s.e,s.h,s.t⟩]
  | .v (.list (_::_))=>some [⟨(d,.v (.bool (false != ne)))::s.e,s.h,s.t⟩]
  |_=>none
 |i=>(i.step ⟨s.e,s.h⟩).map λs'=>[⟨s'.e,s'.h,s.t⟩]
def pO(E:Ev)(x:GI)(s:ES):Option (List ES):=
 match x.g with
 |none=>cH E x.i s
 |some (t,want)=>match AK s.e t with
  | .v (.bool b)=>if b=want then cH E x.i s else some [⟨CL s.e x.i.dst (.tup []),s.h,s.t⟩]
  | .tup []=>some [⟨CL s.e x.i.dst (.tup []),s.h,s.t⟩]
  |_=>none
def N2(E:Ev):List GI->ES->Option (List ES)
 |[],s=>some [s]
 |x::xs,s=>match pO E x s with
  |some ss=>IR (N2 E xs) ss
  |none=>none
def Xj(E:Ev)(t:Lp)(fd:D)(args:List D)(h:List Row):Option (List D×List Row):=
 match (match fd with
  | .yld r=>(jH E r args h t).map λx=>([.v (.bool x.1)],x.2)
  | .meth fid fs=>Kn E fid (fs++args) h t
  |fd=>match Dn fd with
   |some (fid,caps)=>Kn E fid (args++caps) h t
   |none=>none:Option (List D×List Row×Lp))with
 |some x=>if Lp.beq t x.2.2 then some (x.1,x.2.1) else none
 |none=>none
def Xi(E:Ev)(t:Lp)(i:AI)(s:St):Option St:=
 match i with
 | .callF d f args=>(Xj E t (f.ev s.e) (A9 s.e args) s.h).map λx=>⟨CL s.e d (Bp x.1),x.2⟩
 | .callC d f args=>match Xj E t (f.ev s.e) (A9 s.e args) s.h with
  |some x=>if Lb Row.beq (x.2.take s.h.length) s.h then some ⟨CL s.e d (Bp x.1),x.2⟩ else none
  |none=>none
 | .call d f args=>match (f.ev s.e).toV,I1 s.e args with
  |some (.func fid caps),some vs=>(E.Pf fid (vs++caps)).map λrets=>⟨CL s.e d (JW rets),s.h⟩
  |_,_=>none
 |i=>i.step s
def Vl(E:Ev)(t0:Lp)(x:GI)(s:St):Option St:=
 match x.g with
 |none=>Xi E t0 x.i s
 |some (t,want)=>match AK s.e t with
  | .v (.bool b)=>if b=want then Xi E t0 x.i s else some ⟨CL s.e x.i.dst (.tup []),s.h⟩
  | .tup []=>some ⟨CL s.e x.i.dst (.tup []),s.h⟩
  |_=>none
def gz(E:Ev)(t0:Lp):List GI->St->Option St
 |[],s=>some s
 |x::xs,s=>match Vl E t0 x s with
  |some s1=>gz E t0 xs s1
  |none=>none
def Vk(E:Ev)(t0:Lp)(is:List GI):AT->St->Option (List St)
 | .done,s=>some [s]
 | .take i t,s=>match Vl E t0 (is.getD i default) s with
  |some s1=>Vk E t0 is t s1
  |none=>none
 | .pick c,s=>Vk E t0 is c s
 | .alt i t r,s=>match Vl E t0 (is.getD i default) s with
  |some s1=>match Vk E t0 is t s1,Vk E t0 is r s with
   |some a,some b=>some (a++b)
   |_,_=>none
  |none=>none
 | .none,_=>some []
def aG(o s1:St):List (Nat×Nat):=s1.e.filterMap λp=>match p.2,AK o.e p.1 with
 | .R a _,.R b _=>some (b,a)
 | .sr a _,.sr b _=>some (b,a)
 | .mr a,.mr b=>some (b,a)
 |_,_=>none
def SM(π:List (Nat×Nat))(s:St):St:=⟨s.e.map λp=>(p.1,p.2.ren π),BD π s.h⟩
def Qg(keep:List Nat)(a b:St):Bool:=D.beqs ((Bv a.e keep).map (·.2)) ((Bv b.e keep).map (·.2))&&Lb Row.beq a.h b.h
def WU(n0:Nat)(t:Lp)(keep:List Nat)(o s1:St):Bool:=
 Qg keep o s1||(t.isEmpty&&(let π:=aG o s1;MG n0 o.h.length π&&Nn o.h&&Qg keep (SM π o) s1))
def G3(n0:Nat)(t:Lp)(keep:List Nat):List St->List St
 |[]=>[]
 |s1::ss=>s1::ss.filter λo=> !WU n0 t keep o s1
def Ko(E:Ev)(ac:AC)(s:ES):Option (List (AExit×ES)):=
 match ac with
 | .skip=>some [(.normal,s)]
 | .reg ops keep=>(N2 E ops s).map λss=>ss.map λs'=>(.normal,⟨Bv s'.e keep,s'.h,s'.t⟩)
 | .regD ops keep _=>(gz E s.t ops ⟨s.e,s.h⟩).map λs'=>[(.normal,⟨Bv s'.e keep,s'.h,s.t⟩)]
 | .regA ops keep _ t=>(Vk E s.t ops t ⟨s.e,s.h⟩).map λss=>(G3 s.h.length s.t keep ss).map λs'=>(.normal,⟨Bv s'.e keep,s'.h,s.t⟩)
 | .regV _ _ _=>none
 | .seq a b=>match E.C a s with
  |some os=>IR (λo=>match o.1 with| .normal=>E.C b o.2|e=>some [(e,o.2)]) os
  |none=>none
 | .cond x a b=>match x.ev s.e with
  | .v (.bool t)=>if t then E.C a s else E.C b s
  |_=>none
 | .block id c=>(E.C c s).map λos=>os.map λo=>match o.1 with| .exit id'=>if id'=id then (.normal,o.2) else o|_=>o
 | .loop c=>match E.C c s with
  |some os=>IR (λo=>match o.1 with| .normal=>E.C (.loop c) o.2|e=>some [(e,o.2)]) os
  |none=>none
 | .never=>none
 | .exit id=>some [(.exit id,s)]
 | .ret=>some [(.ret,s)]
 | .rangeF q ps asg body=>match Dn (q.ev s.e)with
  |some (fid,caps)=>match E.F fid (.yld s.h.length::caps) (s.h++[.dead]) ((s.h.length,.ready,⟨FI s.e,ps,asg,body⟩)::s.t)with
   |some (_,h',x::t')=>match x.2.1 with
    | .ready=>some [(.normal,⟨s.e,h',t'⟩)]
    | .busy=>none
    | .done none=>some [(.ret,⟨s.e,h',t'⟩)]
    | .done (some i)=>some [(.exit i,⟨s.e,h',t'⟩)]
   |_=>none
  |none=>none
abbrev Qz:=Nat->List D->List Row->Option (List D×List Row)
def M4(n:Nat)(x:List D×List Row×Lp):List D×List Row×Lp:=
 if D.lts n x.1&&(x.2.1.take n).all (Row.lt n) then (x.1,NG n x.2.1,x.2.2) else x
def pP(T:iq)(Pr:Qz)(E:Ev)(f:Nat)(args:List D)(h:List Row)(t:Lp):Option (List D×List Row×Lp):=
 match T f with
 |some (n,ac,rs)=>if args.length=n then
   match E.C ac ⟨AZ args,h,t⟩with
   |some os=>match Ol (λo=>match o.1 with
     | .exit _=>none
     |_=>(Dg ⟨o.2.e,o.2.h⟩ rs).map λr=>M4 h.length (r,o.2.h,o.2.t)) os with
    |some xs=>Nk qC xs
    |none=>none
   |none=>none
  else none
 |none=>(Pr f args h).map λx=>(x.1,h++x.2,t)
def pN(T:iq)(E:Ev)(f:Nat)(vs:List V):Option (List V):=
 match T f with
 |some (n,ac,rs)=>if vs.length=n then
   match E.C ac ⟨Ad vs,[],[]⟩with
   |some os=>match Ol (λo=>match o.1 with
     | .exit _=>none
     |_=>Cf ⟨o.2.e,o.2.h⟩ rs) os with
    |some xs=>Nk V.beqs xs
    |none=>none
   |none=>none
  else none
 |none=>none
def ev(T:iq)(Pr:Qz):Nat->Ev
 |0=>⟨λ_ _ _ _=>none,λ_ _=>none,λ_ _=>none⟩
 |n+1=>⟨pP T Pr (ev T Pr n),pN T (ev T Pr n),Ko (ev T Pr n)⟩
section
variable (P:Program) (GL:Ai)
def ES.real(s:ES):St:=⟨s.e,s.t.ins P GL s.h⟩
structure Snd (E:Ev):Prop where
 F:∀{f args h t r},E.F f args h t=some r->OKT t h->FSp P GL f args (t.ins P GL h) r.1 (r.2.2.ins P GL r.2.1)/\t.kin r.2.2/\OKT r.2.2 r.2.1
 Pf:∀{f vs rets},E.Pf f vs=some rets->PSp P GL f vs rets
 K:∀{ac s os},E.C ac s=some os->OKT s.t s.h->∀o∈os,s.t.kin o.2.t/\OKT o.2.t o.2.h
 C:∀{ac s os},E.C ac s=some os->OKT s.t s.h->awp P GL ac (λe s'=>∃o∈os,e=o.1/\s'=o.2.real P GL) (s.real P GL)
end
variable {h h':List Row} {args:List D} {f m n r:Nat} {s s':St} {e:CC} {Q:AExit->St->Prop}
section
variable {P:Program} {GL:Ai} {E:Ev} {T:iq} {Pr:Qz}
def OS(G:Lb Row.beq h h'=true):h=h':=Lw (λ_ _ h=>Row.beq_eq h) G
def Lz(t:Lp)(r:Nat)(e:AExit):t.kin (UL t r e).2:=by cases e<;>exact Lp.kin_tag _ _ _
theorem N0(hE:Snd P GL E){t:Lp}{x:Bool×List Row×Lp}(O:jH E r args h t=some x)(hk:OKT t h):
  Ky P GL r args (t.ins P GL h) x.1 (x.2.2.ins P GL x.2.1)/\t.kin x.2.2/\OKT x.2.2 x.2.1:=by
 unfold jH at O;split at O
 .rename_i l Bz;split at O
  .rename_i b2;split at O
   .rename_i s1 h1;split at O
    .rename_i l1 G;split at O
     .rename_i o2 h2;split at O
      .rename_i rs b9;obtain⟨b5,a7⟩:=Kb O;have c1:r <h.length:=hk.lt (Ln t Bz);have a8:=hE.C h1 hk;obtain⟨a6,U⟩:=hE.K h1 hk (.normal,s1) Ac;simp only at a6 U;have c0:l1=l:=(O5 a6 Bz G).symm;subst c0;have a1:OKT (s1.t.tag r .busy) s1.h:=U.kin (Lp.kin_tag _ _ _);have a2:=hE.C h2 a1;have hK:=hE.K h2 a1;have J:∀o∈o2,t.kin o.2.t/\OKT o.2.t o.2.h:=λo N=>⟨(a6.trans (Lp.kin_tag _ _ _)).trans (hK o N).1,(hK o N).2⟩;have b1:t.kin x.2.2/\OKT x.2.2 x.2.1:=by
        obtain⟨o,N,Z⟩:=MS b9 x b5;split at Z
        .simp only[rV]at Z;subst Z;exact⟨(J o N).1.trans (Lz _ _ _),(J o N).2.kin (Lz _ _ _)⟩
        .cases Z
       have b0:∀o∈o2,∃lb,o.2.t.get r=some (.busy,lb)/\lb=l1/\(UL o.2.t r o.1).1=x.1/\o.2.h=x.2.1/\(UL o.2.t r o.1).2=x.2.2:=by
        intro o N;obtain⟨z,Z,c2⟩:=Jf b9 o N;split at Z
        .rename_i lb W;simp only[rV]at Z;subst Z;refine⟨lb,W,(O5 (J o N).1 Bz W).symm,?_⟩;rcases a7 _ c2 with rfl|heq
         .exact⟨rfl,rfl,rfl⟩
         .simp only[pX,rX,beq_iff_eq]at heq;exact⟨heq.1.1.symm,(OS heq.1.2).symm,(Lp.beq_eq b1.1 ((J o N).1.trans (Lz _ _ _)) heq.2).symm⟩
        .cases Z
       refine⟨?_,b1⟩;refine CK (Jq t c1 Bz) b2 (Ap _ ?_ a8);rintro e s' ⟨o,N,rfl,rfl⟩;simp only[rm]at N;subst N;have b3:r <s1.h.length:=U.lt (Ln _ G);refine⟨rfl,Jq _ b3 G,?_⟩;have e1:(s1.t.tag r .busy).ins P GL s1.h=(s1.t.ins P GL s1.h).set r (A5 P GL .busy l1.e l1.ps l1.asg l1.body):=Oy _ U.nod G;simp only[ES.real,<-e1];refine Ap _ ?_ a2;rintro e s' ⟨o,N,rfl,rfl⟩;obtain⟨lb,W,rfl,q1,q2,q3⟩:=b0 o N;have b6:=(J o N).2;have b4:r <o.2.h.length:=b6.lt (Ln _ W);refine⟨Jq _ b4 W,?_⟩;rw[<-q1,<-q2,<-q3];cases o.1<;>exact⟨rfl,Oy _ b6.nod W⟩
      .cases O
     .cases O
    .cases O
   .cases O
  .cases O
 .cases O
theorem Fd(J:Snd P GL E){t:Lp}{r:List D×List Row×Lp}(G:Kn E f args h t=some r)(N:OKT t h):
  FSp P GL f args (t.ins P GL h) r.1 (r.2.2.ins P GL r.2.1)/\t.kin r.2.2/\OKT r.2.2 r.2.1:=by
 unfold Kn at G;split at G
 .rename_i vs O;split at G
  .rename_i rets U;simp only[rV]at G;subst G;rw[Qw O];exact⟨(J.Pf U).fsp _,Lp.kin.refl _,N⟩
  .exact J.F G N
 .exact J.F G N
theorem JF(hE:Snd P GL E){d:Option Nat}{f:Opd}{args:List Opd}{s:ES}{os:List ES}(J:Vm E d f args s=some os)(hk:OKT s.t s.h):
  (∀o∈os,s.t.kin o.t/\OKT o.t o.h)/\∀K:St->Prop,(∀o∈os,K (o.real P GL))->Bo P GL d f args K (s.real P GL):=by
 unfold Vm at J;split at J
 .rename_i r hf;simp only[rt]at J;obtain⟨x,hx,rfl⟩:=J;obtain⟨U,h2,W⟩:=N0 hE hx hk;refine⟨λo N=>by simp only[rm]at N;subst N;exact⟨h2,W⟩,λK Z=>?_⟩;have O:f.ev (s.real P GL).e= .yld r:=hf;simp only[Bo,O];have G:=Z _ (rm.2 rfl);exact⟨x.1,_,U,G⟩
 .rename_i fid fs hf;simp only[rt]at J;obtain⟨x,hx,rfl⟩:=J;obtain⟨U,h2,W⟩:=Fd hE hx hk;refine⟨λo N=>by simp only[rm]at N;subst N;exact⟨h2,W⟩,λK Z=>?_⟩;have O:f.ev (s.real P GL).e= .meth fid fs:=hf;simp only[Bo,O];have G:=Z _ (rm.2 rfl);exact⟨x.1,_,U,G⟩
 .rename_i a7 a6;split at J
  .rename_i fid caps a2;simp only[rt]at J;obtain⟨x,hx,rfl⟩:=J;obtain⟨U,h2,W⟩:=Fd hE hx hk;refine⟨λo N=>by simp only[rm]at N;subst N;exact⟨h2,W⟩,λK Z=>?_⟩;simp only[Bo];split
   .rename_i r hr;exact absurd hr (a7 r)
   .rename_i a b hr;exact absurd hr (a6 a b)
   .have a1:Dn (f.ev (s.real P GL).e)=some (fid,caps):=a2;simp only[a1];have G:=Z _ (rm.2 rfl);exact⟨x.1,_,U,G⟩
  .cases J
theorem N4(Z:Snd P GL E){i:AI}{s:ES}{os:List ES}(J:cH E i s=some os)(N:OKT s.t s.h):
  (∀o∈os,s.t.kin o.t/\OKT o.t o.h)/\∀K:St->Prop,(∀o∈os,K (o.real P GL))->Du P GL i K (s.real P GL):=by
 by_cases hc:∃d f args,i= .call d f args\/i= .callF d f args\/i= .callC d f args
 .obtain⟨d,f,args,rfl|rfl|rfl⟩:=hc
  .exact JF Z J N
  .exact JF Z J N
  .exact JF Z J N
 .by_cases hn:∃d ne x,i= .nilS d ne x
  .obtain⟨d,ne,x,rfl⟩:=hn;simp only[cH]at J;have hx:∀(s':ES),(x.ev (ES.real P GL s').e)=x.ev s'.e:=λ_=>rfl;split at J<;>simp only[rV,reduceCtorEq]at J<;>subst J
   all_goals
    rename_i a2;refine⟨λo O=>?_,λK W=>?_⟩
    .simp only[rj,sK,or_false]at O
     first
      |(rcases O with rfl|rfl<;>exact⟨Lp.kin.refl _,N⟩)
      |(subst O;exact⟨Lp.kin.refl _,N⟩)
    .simp only[Du,hx,a2]
     first
      |(have U:=W _ (uY ..)
        have h2:=W _ (th _ (uY ..));exact⟨U,h2⟩)
      |(have U:=W _ (uY ..)
        exact U)
  .have hs:cH E i s=(i.step ⟨s.e,s.h⟩).map λs'=>[⟨s'.e,s'.h,s.t⟩]:=by
    unfold cH;split
    .exact absurd ⟨_,_,_,.inl rfl⟩ hc
    .exact absurd ⟨_,_,_,.inr (.inl rfl)⟩ hc
    .exact absurd ⟨_,_,_,.inr (.inr rfl)⟩ hc
    .exact absurd ⟨_,_,_,rfl⟩ hn
    .rfl
   rw[hs]at J;simp only[rt]at J;obtain⟨s',G,rfl⟩:=J;obtain⟨U,h2⟩:=NX (P:=P) (GL:=GL) N G;refine⟨λo O=>by simp only[rm]at O;subst O;exact⟨Lp.kin.refl _,h2⟩,λK W=>?_⟩;unfold Du;split
   .exact absurd ⟨_,_,_,.inl rfl⟩ hc
   .exact absurd ⟨_,_,_,.inr (.inl rfl)⟩ hc
   .exact absurd ⟨_,_,_,.inr (.inr rfl)⟩ hc
   .cases G
   .cases G
   .cases G
   .cases G
   .exact absurd ⟨_,_,_,rfl⟩ hn
   .have a1:=W _ (rm.2 rfl);simp only[ES.real,U];exact a1
theorem Tq(hE:Snd P GL E){x:GI}{s:ES}{os:List ES}(J:pO E x s=some os)(hk:OKT s.t s.h):
  (∀o∈os,s.t.kin o.t/\OKT o.t o.h)/\∀K:St->Prop,(∀o∈os,K (o.real P GL))->Ec P GL x K (s.real P GL):=by
 unfold pO at J;split at J
 .rename_i hg;obtain⟨N,h2⟩:=N4 hE J hk;refine⟨N,λK G=>?_⟩;simp only[Ec,hg];exact h2 K G
 .rename_i t a1 hg;have skip:some [(⟨CL s.e x.i.dst (.tup []),s.h,s.t⟩:ES)]=some os->(∀o∈os,s.t.kin o.t/\OKT o.t o.h)/\∀K:St->Prop,(∀o∈os,K (o.real P GL))->K ⟨CL s.e x.i.dst (.tup []),s.t.ins P GL s.h⟩:=by intro h;simp only[rV]at h;subst h;exact⟨λo ho=>by simp only[rm]at ho;subst ho;exact⟨Lp.kin.refl _,hk⟩,λK G=>by have Z:=G _ (rm.2 rfl);exact Z⟩
  have U:AK (s.real P GL).e t=AK s.e t:=rfl;split at J
  .rename_i b W;split at J
   .rename_i O;obtain⟨N,h2⟩:=N4 hE J hk;refine⟨N,λK G=>?_⟩;simp only[Ec,hg,U,W,O,if_true];exact h2 K G
   .rename_i O;obtain⟨N,h2⟩:=skip J;refine⟨N,λK G=>?_⟩;simp only[Ec,hg,U,W,O,if_false];exact h2 K G
  .rename_i W;obtain⟨N,h2⟩:=skip J;refine⟨N,λK G=>?_⟩;simp only[Ec,hg,U,W];exact h2 K G
  .cases J
theorem GG(hE:Snd P GL E):∀{U:List GI}{s:ES}{os:List ES},N2 E U s=some os->OKT s.t s.h->
  (∀o∈os,s.t.kin o.t/\OKT o.t o.h)/\∀K:St->Prop,(∀o∈os,K (o.real P GL))->Bd P GL U K (s.real P GL)
 |[],s,os,he,hk=>by simp only[N2,rV]at he;subst he;exact⟨λo G=>by simp only[rm]at G;subst G;exact⟨Lp.kin.refl _,hk⟩,λK hK=>hK _ Ac⟩
 |x::xs,s,os,he,hk=>by
  simp only[N2]at he;split at he
  .rename_i ss N;obtain⟨Z,h2⟩:=Tq hE N hk;refine⟨λo G=>?_,λK hK=>?_⟩
   .have:∃y∈ss,∃zs,N2 E xs y=some zs/\o∈zs:=by
     clear Z h2 N;induction ss generalizing os with
     |nil=>simp only[IR,rV]at he;subst he;simp at G
     |cons y ss ih=>
      simp only[IR]at he;split at he
      .rename_i a1 bs ha hb;simp only[rV]at he;subst he;rcases rp.1 G with G|G
       .exact⟨y,Ac,a1,ha,G⟩
       .obtain⟨y',a2,zs,W,J⟩:=ih _ hb G;exact⟨y',by simp[a2],zs,W,J⟩
      .cases he
    obtain⟨y,O,zs,W,J⟩:=this;obtain⟨r1,_⟩:=GG hE W (Z y O).2;exact⟨(Z y O).1.trans (r1 o J).1,(r1 o J).2⟩
   .refine h2 _ λy O=>?_;obtain⟨zs,W,J⟩:=In he y O;exact(GG hE W (Z y O).2).2 K λo G=>hK o (J o G)
  .cases he
def Kt{α β:Type}{f:α->Option (List β)}:∀{xs:List α}{G:List β},IR f xs=some G->∀y∈G,∃x∈xs,∃zs,f x=some zs/\y∈zs
 |[],G,h,y,hy=>by simp only[IR,rV]at h;subst h;simp at hy
 |x::xs,G,h,y,hy=>by
  simp only[IR]at h;split at h
  .rename_i J bs O U;simp only[rV]at h;subst h;rcases rp.1 hy with hy|hy
   .exact⟨x,Ac,J,O,hy⟩
   .obtain⟨x',N,zs,W,Z⟩:=Kt U y hy;exact⟨x',by simp[N],zs,W,Z⟩
  .cases h
theorem Mi(hE:Snd P GL E){i:AI}{t:Lp}(G:Xi E t i ⟨e,h⟩=some s')(Z:OKT t h):K4 P GL i ⟨e,t.ins P GL h⟩ ⟨s'.e,t.ins P GL s'.h⟩/\OKT t s'.h:=by
 unfold Xi at G;have call:∀{d:Option Nat}{f:Opd}{args:List Opd}{x:List D×List Row},Xj E t (f.ev e) (A9 e args) h=some x->Gq P GL (f.ev e) (A9 e args) (t.ins P GL h) x.1 (t.ins P GL x.2)/\OKT t x.2:=by
  intro d f args x hx;unfold Xj at hx;split at hx
  .rename_i y W;split at hx
   .rename_i N;simp only[rV]at hx;subst hx;have fin:∀{rets:List D}{z:List Row×Lp},Gq P GL (f.ev e) (A9 e args) (t.ins P GL h) rets (z.2.ins P GL z.1)->t.kin z.2->OKT z.2 z.1->Lp.beq t z.2=true->
      Gq P GL (f.ev e) (A9 e args) (t.ins P GL h) rets (t.ins P GL z.1)/\OKT t z.1:=by
     intro rets z hc a1 a2 N;have:=Lp.beq_eq (Lp.kin.refl t) a1 N;rw[<-this]at hc a2;exact⟨hc,a2⟩
    split at W
    .rename_i r hf;simp only[rt]at W;obtain⟨z,hz,rfl⟩:=W;obtain⟨J,h2,h3⟩:=N0 hE hz Z;have O:f.ev e= .yld r:=hf;exact fin (z:=z.2) (by simp only[Gq,O];exact⟨z.1,J,rfl⟩) h2 h3 N
    .rename_i fid fs hf;obtain⟨J,h2,h3⟩:=Fd hE W Z;have O:f.ev e= .meth fid fs:=hf;exact fin (z:=y.2) (by simp only[Gq,O];exact J) h2 h3 N
    .rename_i a8 a7;split at W
     .rename_i fid caps a6;obtain⟨J,h2,h3⟩:=Fd hE W Z;refine fin (z:=y.2) ?_ h2 h3 N;unfold Gq;split
      .rename_i r U;exact absurd U (a8 r)
      .rename_i a b U;exact absurd U (a7 a b)
      .exact⟨fid,caps,a6,J⟩
     .cases W
   .cases hx
  .cases hx
 split at G
 .rename_i d f args;simp only[rt]at G;obtain⟨x,hx,rfl⟩:=G;obtain⟨J,h2⟩:=call (d:=d) hx;exact⟨.inr (.inr (.inl ⟨d,f,args,x.1,_,.inl rfl,J,rfl⟩)),h2⟩
 .rename_i d f args;split at G
  .rename_i x hx;split at G
   .rename_i N;simp only[rV]at G;subst G;obtain⟨J,h2⟩:=call (d:=d) hx;refine⟨.inr (.inr (.inl ⟨d,f,args,x.1,_,.inr ⟨rfl,x.2.drop h.length,?_⟩,J,rfl⟩)),h2⟩;have e1:x.2=h++x.2.drop h.length:=by have:=OS N;conv=>lhs;rw[<-sa h.length x.2,this]
    have e2:∀(l:List Row),Lp.ins P GL t (h++l)=Lp.ins P GL t h++l:=λl=>IC t l λr U=>Z.lt U;show Lp.ins P GL t x.2=Lp.ins P GL t h++x.2.drop h.length;rw[<-e2,<-e1]
   .cases G
  .cases G
 .rename_i d f args;split at G
  .rename_i fid caps vs hf hv;simp only[rt]at G;obtain⟨rets,U,rfl⟩:=G;exact⟨.inr (.inl ⟨d,f,args,fid,caps,vs,rets,rfl,hf,hv,hE.Pf U,rfl⟩),Z⟩
  .cases G
 .obtain⟨J,h2⟩:=NX (P:=P) (GL:=GL) Z G;exact⟨.inl J,h2⟩
theorem JE(W:Snd P GL E){x:GI}{t:Lp}(G:Vl E t x ⟨e,h⟩=some s')(O:OKT t h):Bh P GL x ⟨e,t.ins P GL h⟩ ⟨s'.e,t.ins P GL s'.h⟩/\OKT t s'.h:=by
 unfold Vl at G;split at G
 .rename_i hg;simp only[Bh,hg];exact Mi W G O
 .rename_i Z a1 hg;split at G
  .rename_i b U;have J:AK e Z= .v (.bool b):=U;split at G
   .rename_i N;simp only[Bh,hg,J,N,if_true];exact Mi W G O
   .rename_i N;simp only[rV]at G;subst G;simp only[Bh,hg,J,N,if_false];exact⟨trivial,O⟩
  .rename_i U;have J:AK e Z= .tup []:=U;simp only[rV]at G;subst G;simp only[Bh,hg,J];exact⟨trivial,O⟩
  .cases G
def Km(J:Snd P GL E){t:Lp}:∀{G:List GI}{e:CC}{h:List Row}{s':St},gz E t G ⟨e,h⟩=some s'->OKT t h->M7 P GL G ⟨e,t.ins P GL h⟩ ⟨s'.e,t.ins P GL s'.h⟩/\OKT t s'.h
 |[],e,h,s',he,hk=>by simp only[gz,rV]at he;subst he;exact⟨rfl,hk⟩
 |x::xs,e,h,s',he,hk=>by
  simp only[gz]at he;split at he
  .rename_i s1 N;obtain⟨O,U⟩:=JE J N hk;obtain⟨W,Z⟩:=Km J he U;exact⟨⟨_,O,W⟩,Z⟩
  .cases he
theorem Kl(hE:Snd P GL E){t:Lp}{is:List GI}:∀(U:AT){e:CC}{h:List Row}{os:List St},Vk E t is U ⟨e,h⟩=some os->OKT t h->
  (∀o∈os,OKT t o.h)/\∀K:St->Prop,(∀o∈os,K ⟨o.e,t.ins P GL o.h⟩)->U.ok P GL is K ⟨e,t.ins P GL h⟩:=by
 intro U;induction U with
 |done=>
  intro e h os G J;simp only[Vk,rV]at G;subst G;exact⟨λo N=>by simp only[rm]at N;subst N;exact J,λK O=>by have Z:=O _ (rm.2 rfl);exact Z⟩
 |take i U ih=>
  intro e h os G J;simp only[Vk]at G;split at G
  .rename_i s1 W;obtain⟨q1,q2⟩:=JE hE W J;obtain⟨q3,q4⟩:=ih G q2;exact⟨q3,λK O=>⟨_,q1,q4 K O⟩⟩
  .cases G
 |pick c ih=>intro e h os G J;exact ih G J
 |alt i U r iht ihr=>
  intro e h os G J;simp only[Vk]at G;split at G
  .rename_i s1 W;obtain⟨q1,q2⟩:=JE hE W J;split at G
   .rename_i a b ha hb;simp only[rV]at G;subst G;obtain⟨q3,q4⟩:=iht ha q2;obtain⟨q5,q6⟩:=ihr hb J;refine⟨λo N=>(rp.1 N).elim (q3 o) (q5 o),λK O=>⟨⟨_,q1,q4 K λo N=>O o (ut _ N)⟩,q6 K λo N=>O o (uV _ N)⟩⟩
   .cases G
  .cases G
 |none=>
  intro e h os G J;simp only[Vk,rV]at G;subst G;exact⟨Ac,λK _=>trivial⟩
def RN{n0:Nat}{t:Lp}{keep:List Nat}{G:List St}{o:St}(h:o∈G3 n0 t keep G):o∈G:=by
 cases G with
 |nil=>exact h
 |cons s1 G=>
  simp only[G3,rj,sx]at h ⊢;rcases h with h|h
  .exact .inl h
  .exact .inr h.1
def Nl:∀(e G:CC)(keep:List Nat),(Bv e keep).map (·.2)=(Bv G keep).map (·.2)->Bv e keep=Bv G keep
 |_,_,[],_=>rfl
 |e,G,n::ns,h=>by simp only[Bv,rq,List.cons.injEq]at h ⊢;exact⟨by rw[h.1],Nl e G ns h.2⟩
def Mj{keep:List Nat}{a b:St}(h:Qg keep a b=true):Bv a.e keep=Bv b.e keep/\a.h=b.h:=by simp only[Qg,rX]at h;exact⟨Nl _ _ _ (D.beqs_eq h.1),OS h.2⟩
def FC(π:List (Nat×Nat)):∀(e:CC)(n:Nat),AK (e.map λp=>(p.1,p.2.ren π)) n=(AK e n).ren π
 |[],n=>by simp only[sq,AK,D.ren]
 |p::e,n=>by
  simp only[rq,AK];by_cases h:p.1=n
  .simp[h]
  .rw[if_neg h,if_neg h,FC π e n]
def Oj{n0:Nat}{t:Lp}{keep:List Nat}{G:List St}{o:St}(h:o∈G):
  ∃s1∈G3 n0 t keep G,∃s2,Qy n0 ⟨o.e,t.ins P GL o.h⟩ s2/\(⟨Bv s2.e keep,s2.h⟩:St)=ES.real P GL ⟨Bv s1.e keep,s1.h,t⟩:=by
 cases G with
 |nil=>simp at h
 |cons s1 G=>
  have own:∀o,o∈G3 n0 t keep (s1::G)->∃J∈G3 n0 t keep (s1::G),∃s2,Qy n0 ⟨o.e,t.ins P GL o.h⟩ s2/\(⟨Bv s2.e keep,s2.h⟩:St)=ES.real P GL ⟨Bv J.e keep,J.h,t⟩:=
   λo ho=>⟨o,ho,_,.inl rfl,rfl⟩
  rcases rj.1 h with rfl|h
  .exact own _ (by simp[G3])
  .cases ha:WU n0 t keep o s1 with
   |false=>exact own o (by simp only[G3,rj,sx];exact .inr ⟨h,by simp[ha]⟩)
   |true=>
    refine⟨s1,by simp[G3],?_⟩;simp only[WU,ta,rX]at ha;rcases ha with ha|⟨U,⟨hp,O⟩,Z⟩
    .obtain⟨N,h2⟩:=Mj ha;exact⟨⟨o.e,t.ins P GL o.h⟩,.inl rfl,by simp only[ES.real,N,h2]⟩
    .have W:t=[]:=by simpa using U
     subst W;obtain⟨N,h2⟩:=Mj Z;refine⟨SM (aG o s1) o,.inr ⟨aG o s1,hp,O,λn=>FC _ _ _,rfl⟩,?_⟩;simp only[ES.real,Lp.ins,N,h2]
theorem iA(O:Snd P GL E){ac:AC}{s:ES}{os:List (AExit×ES)}(G:Ko E ac s=some os)(N:OKT s.t s.h):∀o∈os,s.t.kin o.2.t/\OKT o.2.t o.2.h:=by
 have here:∀(e:AExit),∀o∈[(e,s)],s.t.kin o.2.t/\OKT o.2.t o.2.h:=λe o J=>by simp only[rm]at J;subst J;exact⟨Lp.kin.refl _,N⟩
 cases ac with
 |skip=>simp only[Ko,rV]at G;subst G;exact here _
 |reg ops keep=>
  simp only[Ko,rt]at G;obtain⟨ss,W,rfl⟩:=G;intro o J;obtain⟨y,hy,rfl⟩:=rl.1 J;exact(GG O W N).1 y hy
 |regD ops keep cl=>
  simp only[Ko,rt]at G;obtain⟨s',W,rfl⟩:=G;intro o J;simp only[rm]at J;subst J;exact⟨Lp.kin.refl _,(Km O W N).2⟩
 |regV ops keep cl=>simp[Ko]at G
 |regA ops keep cl t=>
  simp only[Ko,rt]at G;obtain⟨ss,W,rfl⟩:=G;intro o J;obtain⟨y,hy,rfl⟩:=rl.1 J;exact⟨Lp.kin.refl _,(Kl O t W N).1 y (RN hy)⟩
 |seq a b=>
  simp only[Ko]at G;split at G
  .rename_i o1 h1;intro o J;obtain⟨x,hx,zs,U,q2⟩:=Kt G o J;have Z:=O.K h1 N x hx;split at U
   .have k2:=O.K U Z.2 o q2;exact⟨Z.1.trans k2.1,k2.2⟩
   .simp only[rV]at U;subst U;simp only[rm]at q2;subst q2;exact Z
  .cases G
 |cond x a b=>
  simp only[Ko]at G;split at G
  .split at G
   .exact O.K G N
   .exact O.K G N
  .cases G
 |block id c=>
  simp only[Ko,rt]at G;obtain⟨ss,W,rfl⟩:=G;intro o J;obtain⟨y,hy,rfl⟩:=rl.1 J;have:=O.K W N y hy;split
  .split
   .exact this
   .exact this
  .exact this
 |loop c=>
  simp only[Ko]at G;split at G
  .rename_i o1 h1;intro o J;obtain⟨x,hx,zs,U,q2⟩:=Kt G o J;have Z:=O.K h1 N x hx;split at U
   .have k2:=O.K U Z.2 o q2;exact⟨Z.1.trans k2.1,k2.2⟩
   .simp only[rV]at U;subst U;simp only[rm]at q2;subst q2;exact Z
  .cases G
 |never=>cases G
 |exit id=>simp only[Ko,rV]at G;subst G;exact here _
 |ret=>simp only[Ko,rV]at G;subst G;exact here _
 |rangeF q ps asg body=>
  simp only[Ko]at G;split at G
  .rename_i fid caps hf;split at G
   .rename_i rets h' x t' hF;have a1:OKT ((s.h.length,Tag.ready,(⟨FI s.e,ps,asg,body⟩:LD))::s.t) (s.h++[.dead]):=by
     obtain⟨h1,_⟩:=N.append (P:=P) (GL:=GL) .dead;refine⟨λr hr=>?_,?_⟩
     .simp only[Lp.has,rq,rj]at hr;rcases hr with rfl|hr
      .simp
      .exact h1.dead r hr
     .rw[rq,tj];exact⟨λhh=>by have:=N.lt hh;simp at this,N.nod⟩
    obtain⟨_,k2,k3⟩:=O.F hF a1;have k4:s.t.kin t':=k2.2.2;have k5:OKT t' h':=⟨λr hr=>k3.dead r (by simp only[Lp.has,rq,rj];exact .inr hr),by have:=k3.nod;rw[rq,tj]at this;exact this.2⟩;intro o J;split at G<;>simp only[rV,reduceCtorEq]at G<;>subst G<;>simp only[rm]at J<;>subst J<;>exact⟨k4,k5⟩
   .cases G
  .cases G
def LoopW(P:Program)(GL:Ai)(c:AC)(Q:AExit->St->Prop):Nat->St->Prop
 |0,_=>False
 |n+1,s=>awp P GL c (λe s'=>match e with| .normal=>LoopW P GL c Q n s'|e=>Q e s') s
def LoopW.step{c:AC}{Q:AExit->St->Prop}:∀{n:Nat}{s:St},LoopW P GL c Q n s->LoopW P GL c Q (n+1) s
 |0,s,h=>h.elim
 |n+1,s,h=>by
  refine Ap c ?_ h;intro e s' h;cases e with
  |normal=>exact LoopW.step h
  |exit i=>exact h
  |ret=>exact h
def LoopW.le{c:AC}(h:LoopW P GL c Q n s)(G:n<=m):LoopW P GL c Q m s:=by
 induction G with
 |refl=>exact h
 |step _ ih=>exact ih.step
theorem LoopW.awp{c:AC}{Q:AExit->St->Prop}{n:Nat}{s:St}(h:LoopW P GL c Q n s):Go.Va.awp P GL (.loop c) Q s:=by
 refine⟨λm s=>LoopW P GL c Q m s,⟨n,h⟩,λm s h=>?_⟩;cases m with
 |zero=>exact h.elim
 |succ m=>
  refine Ap c ?_ h;intro e s' h;cases e with
  |normal=>exact⟨m,AE,h⟩
  |exit i=>exact h
  |ret=>exact h
theorem OF{c:AC}(h:awp P GL (.loop c) Q s):∃n,LoopW P GL c Q n s:=by
 obtain⟨I,⟨m,N⟩,h⟩:=h
 suffices ∀m s,I m s->LoopW P GL c Q (m+1) s from⟨_,this m s N⟩
 intro m;induction m using Nat.strongRecOn with
 |_ m ih=>
  intro s O;refine Ap c ?_ (h m s O);intro e s' h;cases e with
  |normal=>obtain⟨U,G,J⟩:=h;exact(ih U G s' J).le G
  |exit i=>exact h
  |ret=>exact h
def S3{α:Type}{p:Nat->α->Prop}(J:∀n m x,n<=m->p n x->p m x):∀{xs:List α},(∀x∈xs,∃n,p n x)->∃n,∀x∈xs,p n x
 |[],_=>⟨0,Ac⟩
 |x::xs,h=>by
  obtain⟨n,O⟩:=h x Ac;obtain⟨m,N⟩:=S3 J (xs:=xs) λy G=>h y (by simp[G]);refine⟨max n m,λy G=>?_⟩;rcases rj.1 G with rfl|G
  .exact J _ _ _ (Nat.le_max_left _ _) O
  .exact J _ _ _ (Nat.le_max_right _ _) (N y G)
theorem Tt(J:Snd P GL E){ac:AC}{s:ES}{os:List (AExit×ES)}(G:Ko E ac s=some os)(N:OKT s.t s.h):awp P GL ac (λe s'=>∃o∈os,e=o.1/\s'=o.2.real P GL) (s.real P GL):=by
 cases ac with
 |skip=>
  simp only[Ko,rV]at G;subst G;exact⟨_,rm.2 rfl,rfl,rfl⟩
 |reg ops keep=>
  simp only[Ko,rt]at G;obtain⟨ss,hs,rfl⟩:=G;rw[AJ];exact(GG J hs N).2 _ λo O=>⟨_,rl.2 ⟨o,O,rfl⟩,rfl,rfl⟩
 |regD ops keep cl=>
  simp only[Ko,rt]at G;obtain⟨s',hs,rfl⟩:=G;exact⟨_,(Km J hs N).1,_,rm.2 rfl,rfl,rfl⟩
 |regV ops keep cl=>simp[Ko]at G
 |regA ops keep cl t=>
  simp only[Ko,rt]at G;obtain⟨ss,hs,rfl⟩:=G;rw[Bf];obtain⟨c1,a7⟩:=Kl J t hs N;refine a7 _ λo O=>?_;obtain⟨s1,b6,hr⟩:=Oj (P:=P) (GL:=GL) (n0:=s.h.length) (t:=s.t) (keep:=keep) O;obtain⟨s2,a8,b0⟩:=hr;have hl:(s.real P GL).h.length=s.h.length:=Db _ _;rw[hl];exact⟨s2,a8,_,rl.2 ⟨s1,b6,rfl⟩,rfl,b0⟩
 |seq a b=>
  simp only[Ko]at G;split at G
  .rename_i o1 h1;rw[AH];refine Ap _ ?_ (J.C h1 N);rintro e s' ⟨o,O,rfl,rfl⟩;obtain⟨zs,W,q2⟩:=In G o O;have a1:=(J.K h1 N o O).2;split at W
   .rename_i Z
    try rw[Z]
    refine Ap _ ?_ (J.C W a1);rintro e s' ⟨o',a2,r⟩;exact⟨o',q2 o' a2,r⟩
   .rename_i Z;simp only[rV]at W;subst W;have:=q2 _ (rm.2 rfl);cases he1:o.1 with
    |normal=>exact absurd he1 Z
    |exit i=>exact⟨_,this,he1.symm▸rfl,rfl⟩
    |ret=>exact⟨_,this,he1.symm▸rfl,rfl⟩
  .cases G
 |cond x a b=>
  simp only[Ko]at G;rw[AO];have hx:x.ev (s.real P GL).e=x.ev s.e:=rfl;split at G
  .rename_i t ht;rw[hx,ht];simp only[];split at G
   .rename_i a6;rw[if_pos a6];exact J.C G N
   .rename_i a6;rw[if_neg a6];exact J.C G N
  .cases G
 |block id c=>
  simp only[Ko,rt]at G;obtain⟨ss,hs,rfl⟩:=G;rw[AY];refine Ap _ ?_ (J.C hs N);rintro e s' ⟨o,O,rfl,rfl⟩;have hm:=List.mem_map_of_mem (f:=λo:AExit×ES=>match o.1 with| .exit id'=>if id'=id then ((.normal,o.2):AExit×ES) else o|_=>o) O
  obtain⟨e,s'⟩:=o;cases e with
  |normal=>exact⟨_,hm,rfl,rfl⟩
  |ret=>exact⟨_,hm,rfl,rfl⟩
  |exit i=>
   simp only at hm ⊢;by_cases hi:i=id
   .simp only[hi,if_true]at hm ⊢;exact⟨_,hm,rfl,rfl⟩
   .simp only[hi,if_false]at hm ⊢;exact⟨_,hm,rfl,rfl⟩
 |loop c=>
  simp only[Ko]at G;split at G
  .rename_i o1 h1;have hb:∀o∈o1,∃n,(match o.1 with| .normal=>LoopW P GL c (λe s'=>∃o∈os,e=o.1/\s'=o.2.real P GL) n (o.2.real P GL)|e=>∃o'∈os,e=o'.1/\o.2.real P GL=o'.2.real P GL):=by
    intro o O;obtain⟨zs,W,q2⟩:=In G o O;have a1:=(J.K h1 N o O).2;split at W
    .rename_i Z;refine OF (Ap _ ?_ (J.C W a1));rintro e s' ⟨o',a2,r⟩;exact⟨o',q2 o' a2,r⟩
    .rename_i Z;simp only[rV]at W;subst W;have:=q2 _ (rm.2 rfl);cases he1:o.1 with
     |normal=>exact absurd he1 Z
     |exit i=>exact⟨0,_,this,he1.symm▸rfl,rfl⟩
     |ret=>exact⟨0,_,this,he1.symm▸rfl,rfl⟩
   obtain⟨n,Z⟩:=S3 (λn m x b4 h=>by
    cases hx:x.1 with
    |normal=>simp only[hx]at h ⊢;exact h.le b4
    |exit i=>simp only[hx]at h ⊢;exact h
    |ret=>simp only[hx]at h ⊢;exact h) hb
   refine LoopW.awp (n:=n+1) (Ap _ ?_ (J.C h1 N));rintro e s' ⟨o,O,rfl,rfl⟩;have:=Z o O;cases he1:o.1 with
   |normal=>simp only[he1]at this ⊢;exact this
   |exit i=>simp only[he1]at this ⊢;exact this
   |ret=>simp only[he1]at this ⊢;exact this
  .cases G
 |never=>cases G
 |exit id=>
  simp only[Ko,rV]at G;subst G;exact⟨_,rm.2 rfl,rfl,rfl⟩
 |ret=>
  simp only[Ko,rV]at G;subst G;exact⟨_,rm.2 rfl,rfl,rfl⟩
 |rangeF q ps asg body=>
  simp only[Ko]at G;split at G
  .rename_i fid caps hf;split at G
   .rename_i rets h' x t' hF;obtain⟨h1,h2⟩:=N.append (P:=P) (GL:=GL) .dead;have b3:¬s.t.has s.h.length:=λhh=>by have:=N.lt hh;simp at this
    have b1:OKT ((s.h.length,Tag.ready,(⟨FI s.e,ps,asg,body⟩:LD))::s.t) (s.h++[.dead]):=by
     refine⟨λr hr=>?_,?_⟩
     .simp only[Lp.has,rq,rj]at hr;rcases hr with rfl|hr
      .simp
      .exact h1.dead r hr
     .rw[rq,tj];exact⟨b3,N.nod⟩
    obtain⟨k1,k2,k3⟩:=J.F hF b1;have U:s.h.length=x.1:=k2.1;have b9:(⟨FI s.e,ps,asg,body⟩:LD)=x.2.2:=k2.2.1;have hl:(s.real P GL).h.length=s.h.length:=Db _ _;have e0:Lp.ins P GL ((s.h.length,Tag.ready,(⟨FI s.e,ps,asg,body⟩:LD))::s.t) (s.h++[.dead])=(s.real P GL).h++[A5 P GL .ready (FI s.e) ps asg body]:=by simp only[Lp.ins,h2,ES.real];rw[uZ _ _ (by rw[Db];exact ri _),Db,uD];rfl
    have e1:Lp.ins P GL (x::t') h'=(Lp.ins P GL t' h').set s.h.length (A5 P GL x.2.1 (FI s.e) ps asg body):=by simp only[Lp.ins,<-U,<-b9]
    have hd:=k3.dead x.1 (by simp[Lp.has]);have b2:s.h.length <h'.length:=by rw[U];exact(rZ.1 hd).1
    have b5:¬Lp.has t' s.h.length:=by have:=k3.nod;rw[rq,tj]at this;rw[U];exact this.1
    simp only[e0,e1]at k1;rw[Mw];have hq:∀Q:AExit->St->Prop,Cg Q ⟨s.e,Lp.ins P GL t' h'⟩ x.2.1->
      ∃fid caps rets h' tag,Dn (q.ev (s.real P GL).e)=some (fid,caps)/\FSp P GL fid (.yld (s.real P GL).h.length::caps) ((s.real P GL).h++[A5 P GL .ready (FI (s.real P GL).e) ps asg body]) rets h'/\
       h'[(s.real P GL).h.length]?=some (A5 P GL tag (FI (s.real P GL).e) ps asg body)/\Cg Q ⟨(s.real P GL).e,h'.set (s.real P GL).h.length .dead⟩ tag:=by
     intro Q hQ;refine⟨fid,caps,rets,(Lp.ins P GL t' h').set s.h.length (A5 P GL x.2.1 (FI s.e) ps asg body),x.2.1,hf,?_,?_,?_⟩
     .rw[hl];exact k1
     .rw[hl,sY (by rw[Db];exact b2)];rfl
     .rw[hl,tm];have:(Lp.ins P GL t' h').set s.h.length .dead=Lp.ins P GL t' h':=Hv (by rw[Oz t' b5,U];exact hd);rw[this];exact hQ
    refine hq _ ?_;split at G<;>simp only[rV,reduceCtorEq]at G<;>subst G<;>rename_i c0<;>rw[c0]<;>exact⟨_,rm.2 rfl,rfl,rfl⟩
   .cases G
  .cases G
theorem Qt{t:Lp}{e:CC}{h:List Row}(O:OKT t h):∀{rs:List AR}{xs:List D},Dg ⟨e,h⟩ rs=some xs->Dg ⟨e,t.ins P GL h⟩ rs=some xs
 |[],xs,hx=>hx
 |r::rs,xs,hx=>by
  simp only[Dg]at hx ⊢;split at hx
  .rename_i y U J N;rw[Qt O N];have:r.d ⟨e,t.ins P GL h⟩=some y:=by
    cases r with
    |t n=>exact J
    |c n sz ag=>
     simp only[AR.d,vS]at J ⊢;obtain⟨d,hd,G⟩:=J;exact⟨d,Pd O hd,G⟩
   rw[this];exact hx
  .cases hx
def L5{t:Lp}{x:List D×List Row×Lp}(J:t.kin x.2.2)(G:OKT x.2.2 x.2.1)(W:∀r,t.has r->r <n):
  t.kin (M4 n x).2.2/\OKT (M4 n x).2.2 (M4 n x).2.1/\(FSp P GL f args h x.1 (x.2.2.ins P GL x.2.1)->FSp P GL f args h (M4 n x).1 ((M4 n x).2.2.ins P GL (M4 n x).2.1)):=by
 unfold M4;split
 .have N:∀r,Lp.has x.2.2 r->r <n:=λr Z=>W r (by simp only[Lp.has,J.map];exact Z);obtain⟨O,h2⟩:=G.kill (P:=P) (GL:=GL) N;exact⟨J,O,λU=>by simp only[h2];exact U.kill n⟩
 .exact⟨J,G,id⟩
theorem Ts(hT:∀f n ac rs,T f=some (n,ac,rs)->DD P GL f n ac rs=true)(hP:∀f args h x,Pr f args h=some x->∀t,OKT t h->FSp P GL f args (t.ins P GL h) x.1 (t.ins P GL h++x.2))(hE:Snd P GL E){t:Lp}{r:List D×List Row×Lp}(G:pP T Pr E f args h t=some r)(hk:OKT t h):
  FSp P GL f args (t.ins P GL h) r.1 (r.2.2.ins P GL r.2.1)/\t.kin r.2.2/\OKT r.2.2 r.2.1:=by
 unfold pP at G;split at G
 .rename_i n ac rs b5;split at G
  .rename_i a7;split at G
   .rename_i os b0;split at G
    .rename_i xs b1;obtain⟨Z,a2⟩:=Kb G;have hK:=hE.K b0 hk;have hC:=hE.C b0 hk;simp only at hK;have hn:∀r,t.has r->r <h.length:=λr U=>hk.lt U;have b2:∀o∈os,∃y,(∀i,o.1≠ .exit i)/\Dg ⟨o.2.e,o.2.h⟩ rs=some y/\M4 h.length (y,o.2.h,o.2.t)∈xs:=by
      intro o ho;obtain⟨z,W,b9⟩:=Jf b1 o ho;split at W
      .cases W
      .rename_i a1;simp only[rt]at W;obtain⟨y,hy,rfl⟩:=W;exact⟨y,λi hi=>a1 i hi,hy,b9⟩
     have N:∀y∈xs,t.kin y.2.2/\OKT y.2.2 y.2.1:=by
      intro y hy;obtain⟨o,ho,W⟩:=MS b1 y hy;have a6:=hK o ho;split at W
      .cases W
      .simp only[rt]at W;obtain⟨z,_,rfl⟩:=W;obtain⟨q1,q2,_⟩:=L5 (P:=P) (GL:=GL) (f:=f) (args:=args) (h:=h) (n:=h.length) (x:=(z,o.2.h,o.2.t)) a6.1 a6.2 hn;exact⟨q1,q2⟩
     have b3:∀y∈xs,y=r:=by
      intro y hy;rcases a2 y hy with h|h
      .exact h
      .simp only[qC,rX]at h;exact(uu (D.beqs_eq h.1.1) (uu (OS h.1.2) (Lp.beq_eq (N r Z).1 (N y hy).1 h.2))).symm
     refine⟨?_,N r Z⟩;refine QZ (hT f n ac rs b5) a7 (Ap _ ?_ hC);rintro e s' ⟨o,ho,rfl,rfl⟩;obtain⟨y,a1,hy,b6⟩:=b2 o ho;have J:=hK o ho;obtain⟨_,_,q3⟩:=L5 (P:=P) (GL:=GL) (f:=f) (args:=args) (h:=t.ins P GL h) (n:=h.length) (x:=(y,o.2.h,o.2.t)) J.1 J.2 hn;refine⟨?_,y,Qt J.2 hy,λg w μ t' u' O hi=>?_⟩
     .cases hoe:o.1 with
      |normal=>trivial
      |ret=>trivial
      |exit i=>exact absurd hoe (a1 i)
     .rw[<-b3 _ b6];unfold M4;split
      .have b4:∀r,Lp.has o.2.t r->r <h.length:=λr U=>hn r (by simp only[Lp.has,J.1.map];exact U);obtain⟨_,h2⟩:=J.2.kill (P:=P) (GL:=GL) b4;refine⟨rfl,?_⟩;simp only[h2];exact hi.kill _
      .exact⟨rfl,hi⟩
    .cases G
   .cases G
  .cases G
 .simp only[rt]at G;obtain⟨x,U,rfl⟩:=G;have a8:∀r,t.has r->r <h.length:=λr U=>hk.lt U;refine⟨?_,Lp.kin.refl _,⟨λr U=>?_,hk.nod⟩⟩
  .have:=hP f args h x U t hk;simp only[IC t x.2 a8];exact this
  .rw[sI (a8 r U)];exact hk.dead r U
theorem Tp(hT:∀f n U rs,T f=some (n,U,rs)->DD P GL f n U rs=true)(hE:Snd P GL E){vs rets:List V}(G:pN T E f vs=some rets):PSp P GL f vs rets:=by
 unfold pN at G;split at G
 .rename_i n U rs Z;split at G
  .rename_i N;split at G
   .rename_i os O;split at G
    .rename_i xs a1;obtain⟨a7,J⟩:=Kb G;have hk:OKT ([]:Lp) ([]:List Row):=⟨λr hr=>by simp[Lp.has]at hr,Ac⟩;have hK:=hE.K O hk;have hC:=hE.C O hk;refine I4 (hT f n U rs Z) N (Ap _ ?_ hC);rintro e s' ⟨o,ho,rfl,rfl⟩;obtain⟨z,hz,a2⟩:=Jf a1 o ho;have a6:z=rets:=by
      rcases J z a2 with h|h
      .exact h
      .exact(V.beqs_eq h).symm
     have ht:o.2.t=[]:=by
      have:=(hK o ho).1;simp only at this;cases h:o.2.t with
      |nil=>rfl
      |cons a b=>rw[h]at this;exact this.elim
     split at hz
     .cases hz
     .rename_i W;refine⟨?_,?_⟩
      .cases hoe:o.1 with
       |normal=>trivial
       |ret=>trivial
       |exit i=>exact absurd hoe (W i)
      .simp only[ES.real,ht,Lp.ins];rw[<-a6];exact hz
    .cases G
   .cases G
  .cases G
 .cases G
def Rh(U:∀f n J rs,T f=some (n,J,rs)->DD P GL f n J rs=true)(W:∀f args h x,Pr f args h=some x->∀t,OKT t h->FSp P GL f args (t.ins P GL h) x.1 (t.ins P GL h++x.2)):∀n,Snd P GL (ev T Pr n)
 |0=>by
  constructor
  .intro f args h t r h;cases h
  .intro f vs rets h;cases h
  .intro J s os h;cases h
  .intro J s os h;cases h
 |n+1=>by
  have O:=Rh U W n
  constructor
  .intro f args h t r G N;exact Ts U W O G N
  .intro f vs rets G;exact Tp U O G
  .intro J s os G N;exact iA O G N
  .intro J s os G N;exact Tt O G N
def GY(N:∀f n G rs,T f=some (n,G,rs)->DD P GL f n G rs=true)(J:∀f args h x,Pr f args h=some x->∀t,OKT t h->FSp P GL f args (t.ins P GL h) x.1 (t.ins P GL h++x.2)){fuel:Nat}{vs rets:List V}(h:(ev T Pr fuel).Pf f vs=some rets):PSp P GL f vs rets:=(Rh N J fuel).Pf h
end
end
end Go.Va
set_option maxHeartbeats 4000000
namespace Go.Va
open Go.Proofs
abbrev TL:=List (Nat×Nat×AC×List AR)
noncomputable def VX:WY:=λf g=>bif Nat.beq f 59 then 0 else IE f g
noncomputable def oT (f k:Nat):List GI:=QY PG BK VX f iP iN k
noncomputable def lT (f:Nat):Nat->Nat->AC
 |0,_=> .never
 |n+1,k=>Sp PG BK VX f (oT f) (lT f n) k
abbrev te(f:Nat){n:Nat}{x:AC}{y:List AR}(_h1:gN f=n:=by conv=>lhs;reduce)(_h2:Xd PG BK VX f (oT f) (lT f 9)=x:=by conv=>lhs;reduce)(_h3:gR f=y:=by conv=>lhs;reduce):Nat×Nat×AC×List AR:=(f,n,x,y)
noncomputable def ck (x:Nat×Nat×AC×List AR):Bool:=DD Tryz.prog BK x.1 x.2.1 x.2.2.1 x.2.2.2
noncomputable def jR:Nat->TL
 |0=>[te 13,te 17,te 20]
 |1=>[te 34,te 39,te 40,te 50,te 51,te 52,te 57,te 59,te 61]
 |2=>[te 86,te 87,te 88,te 89,te 90,te 91,te 92,te 95]
 |3=>[te 96,te 98,te 99,te 100,te 102,te 117,te 120,te 121,te 122]
 |4=>[te 128,te 129,te 130,te 131,te 132,te 133,te 137,te 138,te 151]
 |5=>[te 176,te 177,te 178,te 179,te 180,te 181,te 182,te 183,te 189,te 190]
 |6=>[te 192,te 193,te 194,te 208,te 209,te 210,te 216,te 217,te 219,te 221,te 223]
 |7=>[te 225,te 228,te 230,te 233,te 234,te 237,te 238,te 239,te 240,te 252]
 |8=>[te 270,te 271,te 272,te 277,te 279,te 284]
 |9=>[te 293,te 296,te 299,te 301,te 302,te 318]
 |10=>[te 321,te 323,te 324,te 327,te 328,te 340,te 349]
 |_=>[]
def ZX(k:Nat):(jR k).all ck=true:=by unfold jR;split<;>kernel_rfl
def QO(l:TL)(f:Nat):Option (Nat×AC×List AR):=
 match l with
 |[]=>none
 |x::l=>if x.1=f then some x.2 else QO l f
theorem QN{l:TL}(h:l.all ck=true):∀f n J rs,QO l f=some (n,J,rs)->DD Tryz.prog BK f n J rs=true:=by
 induction l with
 |nil=>intro f n J rs G;cases G
 |cons x l ih=>
  intro f n J rs G;rw[tz,rX]at h;simp only[QO]at G;split at G
  .rename_i hx;simp only[rV]at G;have:=h.1;rw[ck,hx,G]at this;exact this
  .exact ih h.2 f n J rs G
noncomputable def Tb:iq:=λf=>QO (jR (f/32)) f
def Qx:∀f n G rs,Tb f=some (n,G,rs)->DD Tryz.prog BK f n G rs=true:=λf n G rs h=>QN (ZX (f/32)) f n G rs h
end Go.Va
