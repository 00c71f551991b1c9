/- Part 3 of the proof that ExtractOther returns true for every input and leaves its arguments alone. Condition: the variable that the row lists holds what the text of the program lays. Texts joined here: VaS VcA VcB VcC VcD VcE VcF VcG VcH VcI VcJ VcK VcL Vt VaT VwE VwB VwC VwF VwG VwH VwI VwJ VwK VwL VwM. -/
import Derived.KernelRfl
import Derived.Test.YtopldfpkgbkomaaGreatDoorL02
set_option linter.all false
set_option maxRecDepth 100000
namespace Go.Va
structure Ev where
 F:Nat→List D→List Row→Lp→Option (List D×List Row×Lp)
 Pf:Nat→List V→Option (List V)
 C:AC→ES→Option (List (AExit×ES))
abbrev Tbl:=Nat→Option (Nat×AC×List AR)
def GQ {α β:Type} (f:α→Option (List β)):List α→Option (List β)
 |[]=>some []
 |x::xs=>match f x,GQ f xs with
  |some ys,some zs=>some (ys++zs)
  |_,_=>none
def MF {α β:Type} (f:α→Option β):List α→Option (List β)
 |[]=>some []
 |x::xs=>match f x,MF f xs with
  |some y,some zs=>some (y::zs)
  |_,_=>none
def LT {α:Type} (eq:α→α→Bool):List α→Option α
 |[]=>none
 |x::xs=>if xs.all (eq x) then some x else none
theorem Gt {α β:Type} {f:α→Option (List β)}:∀ {xs:List α} {ys:List β},GQ f xs=some ys→∀x∈xs,∃zs,f x=some zs∧∀z∈zs,z∈ys
 |[],ys,_,x,hx=>by simp at hx
 |x::xs,ys,h,y,hy=>by
  simp only[GQ]at h;split at h
  ·rename_i asx bs ha hb;simp only[AT0]at h;subst h;rcases AT7.1 hy with rfl|hy
   ·exact⟨asx,ha,λz hz=>AV4 _ hz⟩
   ·obtain⟨zs,h1,h2⟩:=Gt hb y hy;exact⟨zs,h1,λz hz=>AVo _ (h2 z hz)⟩
  ·cases h
theorem Hn {α β:Type} {f:α→Option β}:∀ {xs:List α} {ys:List β},MF f xs=some ys→∀x∈xs,∃z,f x=some z∧z∈ys
 |[],ys,_,x,hx=>by simp at hx
 |x::xs,ys,h,y,hy=>by
  simp only[MF]at h;split at h
  ·rename_i a bs ha hb;simp only[AT0]at h;subst h;rcases AT7.1 hy with rfl|hy
   ·exact⟨a,ha,by simp⟩
   ·obtain⟨z,h1,h2⟩:=Hn hb y hy;exact⟨z,h1,by simp[h2]⟩
  ·cases h
theorem KQ {α β:Type} {f:α→Option β}:∀ {xs:List α} {ys:List β},MF f xs=some ys→∀y∈ys,∃x∈xs,f x=some y
 |[],ys,h,y,hy=>by simp only[MF,AT0]at h;subst h;simp at hy
 |x::xs,ys,h,y,hy=>by
  simp only[MF]at h;split at h
  ·rename_i a bs ha hb;simp only[AT0]at h;subst h;rcases AT7.1 hy with rfl|hy
   ·exact⟨x,by simp,ha⟩
   ·obtain⟨z,h1,h2⟩:=KQ hb y hy;exact⟨z,by simp[h1],h2⟩
  ·cases h
theorem Ii {α:Type} {eq:α→α→Bool} {xs:List α} {x:α} (h:LT eq xs=some x):x∈xs∧∀y∈xs,y=x∨eq x y=true:=by
 cases xs with
 |nil=>simp[LT]at h
 |cons a xs=>
  simp only[LT]at h;split at h
  ·rename_i hall;simp only[AT0]at h;subst h;refine⟨by simp,λy hy=>?_⟩;rcases AT7.1 hy with rfl|hy
   ·exact .inl rfl
   ·exact .inr (AUI.1 hall y hy)
  ·cases h
def Wx (t:Lp) (r:Nat):AExit→Bool×Lp
 | .normal=>(true,t.tag r .ready)
 | .ret=>(false,t.tag r (.done none))
 | .exit i=>(false,t.tag r (.done (some i)))
def yEq (x y:Bool×List Row×Lp):Bool:=x.1==y.1&&Jh Row.beq x.2.1 y.2.1&&Lp.beq x.2.2 y.2.2
def fEq (x y:List D×List Row×Lp):Bool:=D.beqs x.1 y.1&&Jh Row.beq x.2.1 y.2.1&&Lp.beq x.2.2 y.2.2
def evY (E:Ev) (r:Nat) (args:List D) (h:List Row) (t:Lp):Option (Bool×List Row×Lp):=
 match t.get r with
 |some (.ready,l)=>if args.length=l.ps.length then
   match E.C l.asg ⟨Fo l.e l.ps args,h,t⟩with
   |some [(.normal,s1)]=>match s1.t.get r with
    |some (.ready,_)=>match E.C l.body ⟨s1.e,s1.h,s1.t.tag r .busy⟩with
     |some o2=>match MF (λo=>match o.2.t.get r with
       |some (.busy,_)=>some ((Wx o.2.t r o.1).1,o.2.h,(Wx o.2.t r o.1).2)
       |_=>none) o2 with
      |some rs=>LT yEq rs
      |none=>none
     |none=>none
    |_=>none
   |_=>none
  else none
 |_=>none
def uP:List D→Option (List V)
 |[]=>some []
 | .v x::ds=>match uP ds with
  |some xs=>some (x::xs)
  |none=>none
 |_=>none
theorem PO:∀ {ds:List D} {vs:List V},uP ds=some vs→ds=vs.map .v
 |[],vs,h=>by simp only[uP,AT0]at h;subst h;rfl
 |d::ds,vs,h=>by
  cases d<;>simp only[uP,reduceCtorEq]at h
  split at h
  ·rename_i xs hxs;simp only[AT0]at h;subst h;simp only[AUD,PO hxs]
  ·cases h
def Ip (E:Ev) (f:Nat) (args:List D) (h:List Row) (t:Lp):Option (List D×List Row×Lp):=
 match uP args with
 |some vs=>match E.Pf f vs with
  |some rets=>some (rets.map .v,h,t)
  |none=>E.F f args h t
 |none=>E.F f args h t
def Xs (E:Ev) (d:Option Nat) (f:Opd) (args:List Opd) (s:ES):Option (List ES):=
 match f.ev s.e with
 | .yld r=>(evY E r (As s.e args) s.h s.t).map λx=>[⟨Bh s.e d (.v (.bool x.1)),x.2.1,x.2.2⟩]
 | .meth fid fs=>(Ip E fid (fs++As s.e args) s.h s.t).map λx=>[⟨Bh s.e d (Ba x.1),x.2.1,x.2.2⟩]
 |fd=>match Db fd with
  |some (fid,caps)=>(Ip E fid (As s.e args++caps) s.h s.t).map λx=>[⟨Bh s.e d (Ba x.1),x.2.1,x.2.2⟩]
  |none=>none
def evI (E:Ev) (i:AI) (s:ES):Option (List ES):=
 match i with
 | .call d f args=>Xs E d f args s
 | .callF d f args=>Xs E d f args s
 | .callC d f args=>Xs E d f args s
 | .nilS d ne x=>match (x.ev s.e).copy with
  | .v (.list [])| .nil _ _=>some [⟨(d,.v (.bool (true != ne)))::s.e,s.h,s.t⟩,⟨(d,.v (.bool (false != ne)))::s.e,s.h,s.t⟩]
  | .v (.list (_::_))=>some [⟨(d,.v (.bool (false != ne)))::s.e,s.h,s.t⟩]
  |_=>none
 |i=>(i.step ⟨s.e,s.h⟩).map λs'=>[⟨s'.e,s'.h,s.t⟩]
def evG (E:Ev) (x:GI) (s:ES):Option (List ES):=
 match x.g with
 |none=>evI E x.i s
 |some (t,want)=>match AH s.e t with
  | .v (.bool b)=>if b=want then evI E x.i s else some [⟨Bh s.e x.i.dst (.tup []),s.h,s.t⟩]
  | .tup []=>some [⟨Bh s.e x.i.dst (.tup []),s.h,s.t⟩]
  |_=>none
def Lh (E:Ev):List GI→ES→Option (List ES)
 |[],s=>some [s]
 |x::xs,s=>match evG E x s with
  |some ss=>GQ (Lh E xs) ss
  |none=>none
def vH (E:Ev) (t:Lp) (fd:D) (args:List D) (h:List Row):Option (List D×List Row):=
 match (match fd with
  | .yld r=>(evY E r args h t).map λx=>([.v (.bool x.1)],x.2)
  | .meth fid fs=>Ip E fid (fs++args) h t
  |fd=>match Db fd with
   |some (fid,caps)=>Ip E fid (args++caps) h t
   |none=>none:Option (List D×List Row×Lp))with
 |some x=>if Lp.beq t x.2.2 then some (x.1,x.2.1) else none
 |none=>none
def vG (E:Ev) (t:Lp) (i:AI) (s:St):Option St:=
 match i with
 | .callF d f args=>(vH E t (f.ev s.e) (As s.e args) s.h).map λx=>⟨Bh s.e d (Ba x.1),x.2⟩
 | .callC d f args=>match vH E t (f.ev s.e) (As s.e args) s.h with
  |some x=>if Jh Row.beq (x.2.take s.h.length) s.h then some ⟨Bh s.e d (Ba x.1),x.2⟩ else none
  |none=>none
 | .call d f args=>match (f.ev s.e).toV,HC s.e args with
  |some (.func fid caps),some vs=>(E.Pf fid (vs++caps)).map λrets=>⟨Bh s.e d (Hh rets),s.h⟩
  |_,_=>none
 |i=>i.step s
def Xr (E:Ev) (t0:Lp) (x:GI) (s:St):Option St:=
 match x.g with
 |none=>vG E t0 x.i s
 |some (t,want)=>match AH s.e t with
  | .v (.bool b)=>if b=want then vG E t0 x.i s else some ⟨Bh s.e x.i.dst (.tup []),s.h⟩
  | .tup []=>some ⟨Bh s.e x.i.dst (.tup []),s.h⟩
  |_=>none
def evJ (E:Ev) (t0:Lp):List GI→St→Option St
 |[],s=>some s
 |x::xs,s=>match Xr E t0 x s with
  |some s1=>evJ E t0 xs s1
  |none=>none
def evT (E:Ev) (t0:Lp) (is:List GI):AT→St→Option (List St)
 | .done,s=>some [s]
 | .take i t,s=>match Xr E t0 (is.getD i default) s with
  |some s1=>evT E t0 is t s1
  |none=>none
 | .pick c,s=>evT E t0 is c s
 | .alt i t r,s=>match Xr E t0 (is.getD i default) s with
  |some s1=>match evT E t0 is t s1,evT E t0 is r s with
   |some a,some b=>some (a++b)
   |_,_=>none
  |none=>none
 | .none,_=>some []
def AEu (o s1:St):List (Nat×Nat):=s1.e.filterMap λp=>match p.2,AH o.e p.1 with
 | .ref a _,.ref b _=>some (b,a)
 | .sref a _,.sref b _=>some (b,a)
 | .mref a,.mref b=>some (b,a)
 |_,_=>none
def S8 (π:List (Nat×Nat)) (s:St):St:=⟨s.e.map λp=>(p.1,p.2.ren π),Ap π s.h⟩
def Ol (keep:List Nat) (a b:St):Bool:=D.beqs ((BR a.e keep).map (·.2)) ((BR b.e keep).map (·.2))&&Jh Row.beq a.h b.h
def uQ (n0:Nat) (t:Lp) (keep:List Nat) (o s1:St):Bool:=
 Ol keep o s1||(t.isEmpty&&(let π:=AEu o s1;KH n0 o.h.length π&&LV o.h&&Ol keep (S8 π o) s1))
def FL (n0:Nat) (t:Lp) (keep:List Nat):List St→List St
 |[]=>[]
 |s1::ss=>s1::ss.filter λo=> !uQ n0 t keep o s1
def evC (E:Ev) (ac:AC) (s:ES):Option (List (AExit×ES)):=
 match ac with
 | .skip=>some [(.normal,s)]
 | .reg ops keep=>(Lh E ops s).map λss=>ss.map λs'=>(.normal,⟨BR s'.e keep,s'.h,s'.t⟩)
 | .regD ops keep _=>(evJ E s.t ops ⟨s.e,s.h⟩).map λs'=>[(.normal,⟨BR s'.e keep,s'.h,s.t⟩)]
 | .regA ops keep _ t=>(evT E s.t ops t ⟨s.e,s.h⟩).map λss=>(FL s.h.length s.t keep ss).map λs'=>(.normal,⟨BR s'.e keep,s'.h,s.t⟩)
 | .regV _ _ _=>none
 | .seq a b=>match E.C a s with
  |some os=>GQ (λo=>match o.1 with| .normal=>E.C b o.2|e=>some [(e,o.2)]) os
  |none=>none
 | .cond x a b=>match x.ev s.e with
  | .v (.bool t)=>if t then E.C a s else E.C b s
  |_=>none
 | .block id c=>(E.C c s).map λos=>os.map λo=>match o.1 with| .exit id'=>if id'=id then (.normal,o.2) else o|_=>o
 | .loop c=>match E.C c s with
  |some os=>GQ (λo=>match o.1 with| .normal=>E.C (.loop c) o.2|e=>some [(e,o.2)]) os
  |none=>none
 | .never=>none
 | .exit id=>some [(.exit id,s)]
 | .ret=>some [(.ret,s)]
 | .rangeF q ps asg body=>match Db (q.ev s.e)with
  |some (fid,caps)=>match E.F fid (.yld s.h.length::caps) (s.h++[.dead]) ((s.h.length,.ready,⟨cpE s.e,ps,asg,body⟩)::s.t)with
   |some (_,h',x::t')=>match x.2.1 with
    | .ready=>some [(.normal,⟨s.e,h',t'⟩)]
    | .busy=>none
    | .done none=>some [(.ret,⟨s.e,h',t'⟩)]
    | .done (some i)=>some [(.exit i,⟨s.e,h',t'⟩)]
   |_=>none
  |none=>none
abbrev PS:=Nat→List D→List Row→Option (List D×List Row)
def K5 (n:Nat) (x:List D×List Row×Lp):List D×List Row×Lp:=
 if D.lts n x.1&&(x.2.1.take n).all (Row.lt n) then (x.1,K9 n x.2.1,x.2.2) else x
def evF (T:Tbl) (Pr:PS) (E:Ev) (f:Nat) (args:List D) (h:List Row) (t:Lp):Option (List D×List Row×Lp):=
 match T f with
 |some (n,ac,rs)=>if args.length=n then
   match E.C ac ⟨AS args,h,t⟩with
   |some os=>match MF (λo=>match o.1 with
     | .exit _=>none
     |_=>(De ⟨o.2.e,o.2.h⟩ rs).map λr=>K5 h.length (r,o.2.h,o.2.t)) os with
    |some xs=>LT fEq xs
    |none=>none
   |none=>none
  else none
 |none=>(Pr f args h).map λx=>(x.1,h++x.2,t)
def evP (T:Tbl) (E:Ev) (f:Nat) (vs:List V):Option (List V):=
 match T f with
 |some (n,ac,rs)=>if vs.length=n then
   match E.C ac ⟨AY vs,[],[]⟩with
   |some os=>match MF (λo=>match o.1 with
     | .exit _=>none
     |_=>CB ⟨o.2.e,o.2.h⟩ rs) os with
    |some xs=>LT V.beqs xs
    |none=>none
   |none=>none
  else none
 |none=>none
def ev (T:Tbl) (Pr:PS):Nat→Ev
 |0=>⟨λ_ _ _ _=>none,λ_ _=>none,λ_ _=>none⟩
 |n+1=>⟨evF T Pr (ev T Pr n),evP T (ev T Pr n),evC (ev T Pr n)⟩
section
variable (P:Program) (GL:AX)
def ES.real (s:ES):St:=⟨s.e,s.t.ins P GL s.h⟩
structure Snd (E:Ev):Prop where
 F:∀ {f args h t r},E.F f args h t=some r→OKT t h→FSp P GL f args (t.ins P GL h) r.1 (r.2.2.ins P GL r.2.1)∧t.kin r.2.2∧OKT r.2.2 r.2.1
 Pf:∀ {f vs rets},E.Pf f vs=some rets→PSp P GL f vs rets
 K:∀ {ac s os},E.C ac s=some os→OKT s.t s.h→∀o∈os,s.t.kin o.2.t∧OKT o.2.t o.2.h
 C:∀ {ac s os},E.C ac s=some os→OKT s.t s.h→awp P GL ac (λe s'=>∃o∈os,e=o.1∧s'=o.2.real P GL) (s.real P GL)
end
section
variable {P:Program} {GL:AX} {E:Ev} {T:Tbl} {Pr:PS}
theorem L5 {h h':List Row} (hb:Jh Row.beq h h'=true):h=h':=Jx (λ_ _ h=>Row.beq_eq h) hb
theorem Jz (t:Lp) (r:Nat) (e:AExit):t.kin (Wx t r e).2:=by cases e<;>exact Lp.kin_tag _ _ _
theorem Lg (hE:Snd P GL E) {r:Nat} {args:List D} {h:List Row} {t:Lp} {x:Bool×List Row×Lp} (he:evY E r args h t=some x) (hk:OKT t h):
  YSp P GL r args (t.ins P GL h) x.1 (x.2.2.ins P GL x.2.1)∧t.kin x.2.2∧OKT x.2.2 x.2.1:=by
 unfold evY at he;split at he
 ·rename_i l Bc;split at he
  ·rename_i hlen;split at he
   ·rename_i s1 h1;split at he
    ·rename_i l1 hget1;split at he
     ·rename_i o2 h2;split at he
      ·rename_i rs hrs;obtain⟨hmem,hall⟩:=Ii he;have hlt:r <h.length:=hk.lt (Jp t Bc);have hasg:=hE.C h1 hk;obtain⟨hk1,hok1⟩:=hE.K h1 hk (.normal,s1) (by simp);simp only at hk1 hok1;have hl1:l1=l:=(MM hk1 Bc hget1).symm;subst hl1;have hokb:OKT (s1.t.tag r .busy) s1.h:=hok1.kin (Lp.kin_tag _ _ _);have hbody:=hE.C h2 hokb;have hK:=hE.K h2 hokb;have hkin:∀o∈o2,t.kin o.2.t∧OKT o.2.t o.2.h:=λo ho=>⟨(hk1.trans (Lp.kin_tag _ _ _)).trans (hK o ho).1,(hK o ho).2⟩;have hkx:t.kin x.2.2∧OKT x.2.2 x.2.1:=by
        obtain⟨o,ho,hz⟩:=KQ hrs x hmem;split at hz
        ·simp only[AT0]at hz;subst hz;exact⟨(hkin o ho).1.trans (Jz _ _ _),(hkin o ho).2.kin (Jz _ _ _)⟩
        ·cases hz
       have hend:∀o∈o2,∃lb,o.2.t.get r=some (.busy,lb)∧lb=l1∧(Wx o.2.t r o.1).1=x.1∧o.2.h=x.2.1∧(Wx o.2.t r o.1).2=x.2.2:=by
        intro o ho;obtain⟨z,hz,hzm⟩:=Hn hrs o ho;split at hz
        ·rename_i lb hgb;simp only[AT0]at hz;subst hz;refine⟨lb,hgb,(MM (hkin o ho).1 Bc hgb).symm,?_⟩;rcases hall _ hzm with rfl|heq
         ·exact⟨rfl,rfl,rfl⟩
         ·simp only[yEq,AT1,beq_iff_eq]at heq;exact⟨heq.1.1.symm,(L5 heq.1.2).symm,(Lp.beq_eq hkx.1 ((hkin o ho).1.trans (Jz _ _ _)) heq.2).symm⟩
        ·cases hz
       refine⟨?_,hkx⟩;refine Cn (Hv t hlt Bc) hlen (Ag _ ?_ hasg);rintro e s' ⟨o,ho,rfl,rfl⟩;simp only[AUC]at ho;subst ho;have hlt1:r <s1.h.length:=hok1.lt (Jp _ hget1);refine⟨rfl,Hv _ hlt1 hget1,?_⟩;have e1:(s1.t.tag r .busy).ins P GL s1.h=(s1.t.ins P GL s1.h).set r (An P GL .busy l1.e l1.ps l1.asg l1.body):=MJ _ hok1.nod hget1;simp only[ES.real,←e1];refine Ag _ ?_ hbody;rintro e s' ⟨o,ho,rfl,rfl⟩;obtain⟨lb,hgb,rfl,q1,q2,q3⟩:=hend o ho;have hok:=(hkin o ho).2;have hlt2:r <o.2.h.length:=hok.lt (Jp _ hgb);refine⟨Hv _ hlt2 hgb,?_⟩;rw[←q1,←q2,←q3];cases o.1<;>exact⟨rfl,MJ _ hok.nod hgb⟩
      ·cases he
     ·cases he
    ·cases he
   ·cases he
  ·cases he
 ·cases he
theorem ED (hE:Snd P GL E) {f:Nat} {args:List D} {h:List Row} {t:Lp} {r:List D×List Row×Lp} (he:Ip E f args h t=some r) (hk:OKT t h):
  FSp P GL f args (t.ins P GL h) r.1 (r.2.2.ins P GL r.2.1)∧t.kin r.2.2∧OKT r.2.2 r.2.1:=by
 unfold Ip at he;split at he
 ·rename_i vs hvs;split at he
  ·rename_i rets hr;simp only[AT0]at he;subst he;rw[PO hvs];exact⟨(hE.Pf hr).fsp _,Lp.kin.refl _,hk⟩
  ·exact hE.F he hk
 ·exact hE.F he hk
theorem HO (hE:Snd P GL E) {d:Option Nat} {f:Opd} {args:List Opd} {s:ES} {os:List ES} (he:Xs E d f args s=some os) (hk:OKT s.t s.h):
  (∀o∈os,s.t.kin o.t∧OKT o.t o.h)∧∀K:St→Prop,(∀o∈os,K (o.real P GL))→BF P GL d f args K (s.real P GL):=by
 unfold Xs at he;split at he
 ·rename_i r hf;simp only[AUA]at he;obtain⟨x,hx,rfl⟩:=he;obtain⟨h1,h2,h3⟩:=Lg hE hx hk;refine⟨λo ho=>by simp only[AUC]at ho;subst ho;exact⟨h2,h3⟩,λK hK=>?_⟩;have hf':f.ev (s.real P GL).e= .yld r:=hf;simp only[BF,hf'];have hK':=hK _ (AUC.2 rfl);exact⟨x.1,_,h1,hK'⟩
 ·rename_i fid fs hf;simp only[AUA]at he;obtain⟨x,hx,rfl⟩:=he;obtain⟨h1,h2,h3⟩:=ED hE hx hk;refine⟨λo ho=>by simp only[AUC]at ho;subst ho;exact⟨h2,h3⟩,λK hK=>?_⟩;have hf':f.ev (s.real P GL).e= .meth fid fs:=hf;simp only[BF,hf'];have hK':=hK _ (AUC.2 rfl);exact⟨x.1,_,h1,hK'⟩
 ·rename_i hny hnm;split at he
  ·rename_i fid caps hfn;simp only[AUA]at he;obtain⟨x,hx,rfl⟩:=he;obtain⟨h1,h2,h3⟩:=ED hE hx hk;refine⟨λo ho=>by simp only[AUC]at ho;subst ho;exact⟨h2,h3⟩,λK hK=>?_⟩;simp only[BF];split
   ·rename_i r hr;exact absurd hr (hny r)
   ·rename_i a b hr;exact absurd hr (hnm a b)
   ·have hfn':Db (f.ev (s.real P GL).e)=some (fid,caps):=hfn;simp only[hfn'];have hK':=hK _ (AUC.2 rfl);exact⟨x.1,_,h1,hK'⟩
  ·cases he
theorem Li (hE:Snd P GL E) {i:AI} {s:ES} {os:List ES} (he:evI E i s=some os) (hk:OKT s.t s.h):
  (∀o∈os,s.t.kin o.t∧OKT o.t o.h)∧∀K:St→Prop,(∀o∈os,K (o.real P GL))→Da P GL i K (s.real P GL):=by
 by_cases hc:∃d f args,i= .call d f args∨i= .callF d f args∨i= .callC d f args
 ·obtain⟨d,f,args,rfl|rfl|rfl⟩:=hc
  ·exact HO hE he hk
  ·exact HO hE he hk
  ·exact HO hE he hk
 ·by_cases hn:∃d ne x,i= .nilS d ne x
  ·obtain⟨d,ne,x,rfl⟩:=hn;simp only[evI]at he;have hx:∀(s':ES),(x.ev (ES.real P GL s').e)=x.ev s'.e:=λ_=>rfl;split at he<;>simp only[AT0,reduceCtorEq]at he<;>subst he
   all_goals
    rename_i hcp;refine⟨λo ho=>?_,λK hK=>?_⟩
    ·simp only[AT7,AUE,or_false]at ho
     first
      |(rcases ho with rfl|rfl<;>exact⟨Lp.kin.refl _,hk⟩)
      |(subst ho;exact⟨Lp.kin.refl _,hk⟩)
    ·simp only[Da,hx,hcp]
     first
      |(have h1:=hK _ (AWT ..)
        have h2:=hK _ (AVX _ (AWT ..));exact⟨h1,h2⟩)
      |(have h1:=hK _ (AWT ..)
        exact h1)
  ·have hs:evI E i s=(i.step ⟨s.e,s.h⟩).map λs'=>[⟨s'.e,s'.h,s.t⟩]:=by
    unfold evI;split
    ·exact absurd ⟨_,_,_,.inl rfl⟩ hc
    ·exact absurd ⟨_,_,_,.inr (.inl rfl)⟩ hc
    ·exact absurd ⟨_,_,_,.inr (.inr rfl)⟩ hc
    ·exact absurd ⟨_,_,_,rfl⟩ hn
    ·rfl
   rw[hs]at he;simp only[AUA]at he;obtain⟨s',hs',rfl⟩:=he;obtain⟨h1,h2⟩:=LK (P:=P) (GL:=GL) hk hs';refine⟨λo ho=>by simp only[AUC]at ho;subst ho;exact⟨Lp.kin.refl _,h2⟩,λK hK=>?_⟩;unfold Da;split
   ·exact absurd ⟨_,_,_,.inl rfl⟩ hc
   ·exact absurd ⟨_,_,_,.inr (.inl rfl)⟩ hc
   ·exact absurd ⟨_,_,_,.inr (.inr rfl)⟩ hc
   ·cases hs'
   ·cases hs'
   ·cases hs'
   ·cases hs'
   ·cases hs'
   ·exact absurd ⟨_,_,_,rfl⟩ hn
   ·have hK':=hK _ (AUC.2 rfl);simp only[ES.real,h1];exact hK'
theorem WX (hE:Snd P GL E) {x:GI} {s:ES} {os:List ES} (he:evG E x s=some os) (hk:OKT s.t s.h):
  (∀o∈os,s.t.kin o.t∧OKT o.t o.h)∧∀K:St→Prop,(∀o∈os,K (o.real P GL))→Dc P GL x K (s.real P GL):=by
 unfold evG at he;split at he
 ·rename_i hg;obtain⟨h1,h2⟩:=Li hE he hk;refine⟨h1,λK hK=>?_⟩;simp only[Dc,hg];exact h2 K hK
 ·rename_i t want hg;have skip:some [(⟨Bh s.e x.i.dst (.tup []),s.h,s.t⟩:ES)]=some os→(∀o∈os,s.t.kin o.t∧OKT o.t o.h)∧∀K:St→Prop,(∀o∈os,K (o.real P GL))→K ⟨Bh s.e x.i.dst (.tup []),s.t.ins P GL s.h⟩:=by
   intro h;simp only[AT0]at h;subst h;exact⟨λo ho=>by simp only[AUC]at ho;subst ho;exact⟨Lp.kin.refl _,hk⟩,λK hK=>by have hK':=hK _ (AUC.2 rfl);exact hK'⟩
  have hfe:AH (s.real P GL).e t=AH s.e t:=rfl;split at he
  ·rename_i b hb;split at he
   ·rename_i hbw;obtain⟨h1,h2⟩:=Li hE he hk;refine⟨h1,λK hK=>?_⟩;simp only[Dc,hg,hfe,hb,hbw,if_true];exact h2 K hK
   ·rename_i hbw;obtain⟨h1,h2⟩:=skip he;refine⟨h1,λK hK=>?_⟩;simp only[Dc,hg,hfe,hb,hbw,if_false];exact h2 K hK
  ·rename_i hb;obtain⟨h1,h2⟩:=skip he;refine⟨h1,λK hK=>?_⟩;simp only[Dc,hg,hfe,hb];exact h2 K hK
  ·cases he
theorem El (hE:Snd P GL E):∀ {ops:List GI} {s:ES} {os:List ES},Lh E ops s=some os→OKT s.t s.h→
  (∀o∈os,s.t.kin o.t∧OKT o.t o.h)∧∀K:St→Prop,(∀o∈os,K (o.real P GL))→BE P GL ops K (s.real P GL)
 |[],s,os,he,hk=>by
  simp only[Lh,AT0]at he;subst he;exact⟨λo ho=>by simp only[AUC]at ho;subst ho;exact⟨Lp.kin.refl _,hk⟩,λK hK=>hK _ (by simp)⟩
 |x::xs,s,os,he,hk=>by
  simp only[Lh]at he;split at he
  ·rename_i ss hss;obtain⟨h1,h2⟩:=WX hE hss hk;refine⟨λo ho=>?_,λK hK=>?_⟩
   ·have:∃y∈ss,∃zs,Lh E xs y=some zs∧o∈zs:=by
     clear h1 h2 hss;induction ss generalizing os with
     |nil=>simp only[GQ,AT0]at he;subst he;simp at ho
     |cons y ss ih=>
      simp only[GQ]at he;split at he
      ·rename_i asx bs ha hb;simp only[AT0]at he;subst he;rcases AUK.1 ho with ho|ho
       ·exact⟨y,by simp,asx,ha,ho⟩
       ·obtain⟨y',hy',zs,q1,q2⟩:=ih _ hb ho;exact⟨y',by simp[hy'],zs,q1,q2⟩
      ·cases he
    obtain⟨y,hy,zs,q1,q2⟩:=this;obtain⟨r1,_⟩:=El hE q1 (h1 y hy).2;exact⟨(h1 y hy).1.trans (r1 o q2).1,(r1 o q2).2⟩
   ·refine h2 _ λy hy=>?_;obtain⟨zs,q1,q2⟩:=Gt he y hy;exact(El hE q1 (h1 y hy).2).2 K λo ho=>hK o (q2 o ho)
  ·cases he
theorem I5 {α β:Type} {f:α→Option (List β)}:∀ {xs:List α} {ys:List β},GQ f xs=some ys→∀y∈ys,∃x∈xs,∃zs,f x=some zs∧y∈zs
 |[],ys,h,y,hy=>by simp only[GQ,AT0]at h;subst h;simp at hy
 |x::xs,ys,h,y,hy=>by
  simp only[GQ]at h;split at h
  ·rename_i asx bs ha hb;simp only[AT0]at h;subst h;rcases AUK.1 hy with hy|hy
   ·exact⟨x,by simp,asx,ha,hy⟩
   ·obtain⟨x',hx',zs,q1,q2⟩:=I5 hb y hy;exact⟨x',by simp[hx'],zs,q1,q2⟩
  ·cases h
theorem KX (hE:Snd P GL E) {i:AI} {e:Env} {h:List Row} {t:Lp} {s':St} (he:vG E t i ⟨e,h⟩=some s') (hk:OKT t h):JB P GL i ⟨e,t.ins P GL h⟩ ⟨s'.e,t.ins P GL s'.h⟩∧OKT t s'.h:=by
 unfold vG at he;have call:∀ {d:Option Nat} {f:Opd} {args:List Opd} {x:List D×List Row},vH E t (f.ev e) (As e args) h=some x→E8 P GL (f.ev e) (As e args) (t.ins P GL h) x.1 (t.ins P GL x.2)∧OKT t x.2:=by
  intro d f args x hx;unfold vH at hx;split at hx
  ·rename_i y hy;split at hx
   ·rename_i hb;simp only[AT0]at hx;subst hx;have fin:∀ {rets:List D} {z:List Row×Lp},E8 P GL (f.ev e) (As e args) (t.ins P GL h) rets (z.2.ins P GL z.1)→t.kin z.2→OKT z.2 z.1→Lp.beq t z.2=true→
      E8 P GL (f.ev e) (As e args) (t.ins P GL h) rets (t.ins P GL z.1)∧OKT t z.1:=by
     intro rets z hc hkin hok hb;have:=Lp.beq_eq (Lp.kin.refl t) hkin hb;rw[←this]at hc hok;exact⟨hc,hok⟩
    split at hy
    ·rename_i r hf;simp only[AUA]at hy;obtain⟨z,hz,rfl⟩:=hy;obtain⟨h1,h2,h3⟩:=Lg hE hz hk;have hf':f.ev e= .yld r:=hf;exact fin (z:=z.2) (by simp only[E8,hf'];exact⟨z.1,h1,rfl⟩) h2 h3 hb
    ·rename_i fid fs hf;obtain⟨h1,h2,h3⟩:=ED hE hy hk;have hf':f.ev e= .meth fid fs:=hf;exact fin (z:=y.2) (by simp only[E8,hf'];exact h1) h2 h3 hb
    ·rename_i hny hnm;split at hy
     ·rename_i fid caps hfn;obtain⟨h1,h2,h3⟩:=ED hE hy hk;refine fin (z:=y.2) ?_ h2 h3 hb;unfold E8;split
      ·rename_i r hr;exact absurd hr (hny r)
      ·rename_i a b hr;exact absurd hr (hnm a b)
      ·exact⟨fid,caps,hfn,h1⟩
     ·cases hy
   ·cases hx
  ·cases hx
 split at he
 ·rename_i d f args;simp only[AUA]at he;obtain⟨x,hx,rfl⟩:=he;obtain⟨h1,h2⟩:=call (d:=d) hx;exact⟨.inr (.inr (.inl ⟨d,f,args,x.1,_,.inl rfl,h1,rfl⟩)),h2⟩
 ·rename_i d f args;split at he
  ·rename_i x hx;split at he
   ·rename_i hb;simp only[AT0]at he;subst he;obtain⟨h1,h2⟩:=call (d:=d) hx;refine⟨.inr (.inr (.inl ⟨d,f,args,x.1,_,.inr ⟨rfl,x.2.drop h.length,?_⟩,h1,rfl⟩)),h2⟩;have e1:x.2=h++x.2.drop h.length:=by
     have:=L5 hb;conv=>lhs;rw[←AUr h.length x.2,this]
    have e2:∀(l:List Row),Lp.ins P GL t (h++l)=Lp.ins P GL t h++l:=λl=>GC t l λr hr=>hk.lt hr;show Lp.ins P GL t x.2=Lp.ins P GL t h++x.2.drop h.length;rw[←e2,←e1]
   ·cases he
  ·cases he
 ·rename_i d f args;split at he
  ·rename_i fid caps vs hf hv;simp only[AUA]at he;obtain⟨rets,hr,rfl⟩:=he;exact⟨.inr (.inl ⟨d,f,args,fid,caps,vs,rets,rfl,hf,hv,hE.Pf hr,rfl⟩),hk⟩
  ·cases he
 ·obtain⟨h1,h2⟩:=LK (P:=P) (GL:=GL) hk he;exact⟨.inl h1,h2⟩
theorem HN (hE:Snd P GL E) {x:GI} {e:Env} {h:List Row} {t:Lp} {s':St} (he:Xr E t x ⟨e,h⟩=some s') (hk:OKT t h):BD P GL x ⟨e,t.ins P GL h⟩ ⟨s'.e,t.ins P GL s'.h⟩∧OKT t s'.h:=by
 unfold Xr at he;split at he
 ·rename_i hg;simp only[BD,hg];exact KX hE he hk
 ·rename_i tt want hg;split at he
  ·rename_i b hb;have hb':AH e tt= .v (.bool b):=hb;split at he
   ·rename_i hbw;simp only[BD,hg,hb',hbw,if_true];exact KX hE he hk
   ·rename_i hbw;simp only[AT0]at he;subst he;simp only[BD,hg,hb',hbw,if_false];exact⟨trivial,hk⟩
  ·rename_i hb;have hb':AH e tt= .tup []:=hb;simp only[AT0]at he;subst he;simp only[BD,hg,hb'];exact⟨trivial,hk⟩
  ·cases he
theorem Io (hE:Snd P GL E) {t:Lp}:∀ {ops:List GI} {e:Env} {h:List Row} {s':St},evJ E t ops ⟨e,h⟩=some s'→OKT t h→K6 P GL ops ⟨e,t.ins P GL h⟩ ⟨s'.e,t.ins P GL s'.h⟩∧OKT t s'.h
 |[],e,h,s',he,hk=>by
  simp only[evJ,AT0]at he;subst he;exact⟨rfl,hk⟩
 |x::xs,e,h,s',he,hk=>by
  simp only[evJ]at he;split at he
  ·rename_i s1 h1;obtain⟨q1,q2⟩:=HN hE h1 hk;obtain⟨q3,q4⟩:=Io hE he q2;exact⟨⟨_,q1,q3⟩,q4⟩
  ·cases he
theorem In (hE:Snd P GL E) {t:Lp} {is:List GI}:∀(tr:AT) {e:Env} {h:List Row} {os:List St},evT E t is tr ⟨e,h⟩=some os→OKT t h→
  (∀o∈os,OKT t o.h)∧∀K:St→Prop,(∀o∈os,K ⟨o.e,t.ins P GL o.h⟩)→tr.ok P GL is K ⟨e,t.ins P GL h⟩:=by
 intro tr;induction tr with
 |done=>
  intro e h os he hk;simp only[evT,AT0]at he;subst he;exact⟨λo ho=>by simp only[AUC]at ho;subst ho;exact hk,λK hK=>by have hK':=hK _ (AUC.2 rfl);exact hK'⟩
 |take i tr ih=>
  intro e h os he hk;simp only[evT]at he;split at he
  ·rename_i s1 h1;obtain⟨q1,q2⟩:=HN hE h1 hk;obtain⟨q3,q4⟩:=ih he q2;exact⟨q3,λK hK=>⟨_,q1,q4 K hK⟩⟩
  ·cases he
 |pick c ih=>intro e h os he hk;exact ih he hk
 |alt i tr r iht ihr=>
  intro e h os he hk;simp only[evT]at he;split at he
  ·rename_i s1 h1;obtain⟨q1,q2⟩:=HN hE h1 hk;split at he
   ·rename_i a b ha hb;simp only[AT0]at he;subst he;obtain⟨q3,q4⟩:=iht ha q2;obtain⟨q5,q6⟩:=ihr hb hk;refine⟨λo ho=>(AUK.1 ho).elim (q3 o) (q5 o),λK hK=>⟨⟨_,q1,q4 K λo ho=>hK o (AV4 _ ho)⟩,q6 K λo ho=>hK o (AVo _ ho)⟩⟩
   ·cases he
  ·cases he
 |none=>
  intro e h os he hk;simp only[evT,AT0]at he;subst he;exact⟨by simp,λK _=>trivial⟩
theorem Pi {n0:Nat} {t:Lp} {keep:List Nat} {ss:List St} {o:St} (h:o∈FL n0 t keep ss):o∈ss:=by
 cases ss with
 |nil=>exact h
 |cons s1 ss=>
  simp only[FL,AT7,AVd]at h ⊢;rcases h with h|h
  ·exact .inl h
  ·exact .inr h.1
theorem LU:∀(e e':Env) (keep:List Nat),(BR e keep).map (·.2)=(BR e' keep).map (·.2)→BR e keep=BR e' keep
 |_,_,[],_=>rfl
 |e,e',n::ns,h=>by
  simp only[BR,AUD,List.cons.injEq]at h ⊢;exact⟨by rw[h.1],LU e e' ns h.2⟩
theorem KY {keep:List Nat} {a b:St} (h:Ol keep a b=true):BR a.e keep=BR b.e keep∧a.h=b.h:=by
 simp only[Ol,AT1]at h;exact⟨LU _ _ _ (D.beqs_eq h.1),L5 h.2⟩
theorem Dy (π:List (Nat×Nat)):∀(e:Env) (n:Nat),AH (e.map λp=>(p.1,p.2.ren π)) n=(AH e n).ren π
 |[],n=>by simp only[AVe,AH,D.ren]
 |p::e,n=>by
  simp only[AUD,AH];by_cases h:p.1=n
  ·simp[h]
  ·rw[if_neg h,if_neg h,Dy π e n]
theorem MD {n0:Nat} {t:Lp} {keep:List Nat} {ss:List St} {o:St} (h:o∈ss):
  ∃s1∈FL n0 t keep ss,∃s2,PR n0 ⟨o.e,t.ins P GL o.h⟩ s2∧(⟨BR s2.e keep,s2.h⟩:St)=ES.real P GL ⟨BR s1.e keep,s1.h,t⟩:=by
 cases ss with
 |nil=>simp at h
 |cons s1 ss=>
  have own:∀o,o∈FL n0 t keep (s1::ss)→∃s1'∈FL n0 t keep (s1::ss),∃s2,PR n0 ⟨o.e,t.ins P GL o.h⟩ s2∧(⟨BR s2.e keep,s2.h⟩:St)=ES.real P GL ⟨BR s1'.e keep,s1'.h,t⟩:=
   λo ho=>⟨o,ho,_,.inl rfl,rfl⟩
  rcases AT7.1 h with rfl|h
  ·exact own _ (by simp[FL])
  ·cases ha:uQ n0 t keep o s1 with
   |false=>exact own o (by simp only[FL,AT7,AVd];exact .inr ⟨h,by simp[ha]⟩)
   |true=>
    refine⟨s1,by simp[FL],?_⟩;simp only[uQ,AVJ,AT1]at ha;rcases ha with ha|⟨hte,⟨hp,hno⟩,he⟩
    ·obtain⟨h1,h2⟩:=KY ha;exact⟨⟨o.e,t.ins P GL o.h⟩,.inl rfl,by simp only[ES.real,h1,h2]⟩
    ·have htn:t=[]:=by simpa using hte
     subst htn;obtain⟨h1,h2⟩:=KY he;refine⟨S8 (AEu o s1) o,.inr ⟨AEu o s1,hp,hno,λn=>Dy _ _ _,rfl⟩,?_⟩;simp only[ES.real,Lp.ins,h1,h2]
theorem ALa (hE:Snd P GL E) {ac:AC} {s:ES} {os:List (AExit×ES)} (he:evC E ac s=some os) (hk:OKT s.t s.h):∀o∈os,s.t.kin o.2.t∧OKT o.2.t o.2.h:=by
 have here:∀(e:AExit),∀o∈[(e,s)],s.t.kin o.2.t∧OKT o.2.t o.2.h:=λe o ho=>by simp only[AUC]at ho;subst ho;exact⟨Lp.kin.refl _,hk⟩
 cases ac with
 |skip=>simp only[evC,AT0]at he;subst he;exact here _
 |reg ops keep=>
  simp only[evC,AUA]at he;obtain⟨ss,hs,rfl⟩:=he;intro o ho;obtain⟨y,hy,rfl⟩:=AT9.1 ho;exact(El hE hs hk).1 y hy
 |regD ops keep cl=>
  simp only[evC,AUA]at he;obtain⟨s',hs,rfl⟩:=he;intro o ho;simp only[AUC]at ho;subst ho;exact⟨Lp.kin.refl _,(Io hE hs hk).2⟩
 |regV ops keep cl=>simp[evC]at he
 |regA ops keep cl t=>
  simp only[evC,AUA]at he;obtain⟨ss,hs,rfl⟩:=he;intro o ho;obtain⟨y,hy,rfl⟩:=AT9.1 ho;exact⟨Lp.kin.refl _,(In hE t hs hk).1 y (Pi hy)⟩
 |seq a b=>
  simp only[evC]at he;split at he
  ·rename_i o1 h1;intro o ho;obtain⟨x,hx,zs,q1,q2⟩:=I5 he o ho;have k1:=hE.K h1 hk x hx;split at q1
   ·have k2:=hE.K q1 k1.2 o q2;exact⟨k1.1.trans k2.1,k2.2⟩
   ·simp only[AT0]at q1;subst q1;simp only[AUC]at q2;subst q2;exact k1
  ·cases he
 |cond x a b=>
  simp only[evC]at he;split at he
  ·split at he
   ·exact hE.K he hk
   ·exact hE.K he hk
  ·cases he
 |block id c=>
  simp only[evC,AUA]at he;obtain⟨ss,hs,rfl⟩:=he;intro o ho;obtain⟨y,hy,rfl⟩:=AT9.1 ho;have:=hE.K hs hk y hy;split
  ·split
   ·exact this
   ·exact this
  ·exact this
 |loop c=>
  simp only[evC]at he;split at he
  ·rename_i o1 h1;intro o ho;obtain⟨x,hx,zs,q1,q2⟩:=I5 he o ho;have k1:=hE.K h1 hk x hx;split at q1
   ·have k2:=hE.K q1 k1.2 o q2;exact⟨k1.1.trans k2.1,k2.2⟩
   ·simp only[AT0]at q1;subst q1;simp only[AUC]at q2;subst q2;exact k1
  ·cases he
 |never=>cases he
 |exit id=>simp only[evC,AT0]at he;subst he;exact here _
 |ret=>simp only[evC,AT0]at he;subst he;exact here _
 |rangeF q ps asg body=>
  simp only[evC]at he;split at he
  ·rename_i fid caps hf;split at he
   ·rename_i rets h' x t' hF;have hk0:OKT ((s.h.length,Tag.ready,(⟨cpE s.e,ps,asg,body⟩:LD))::s.t) (s.h++[.dead]):=by
     obtain⟨h1,_⟩:=hk.append (P:=P) (GL:=GL) .dead;refine⟨λr hr=>?_,?_⟩
     ·simp only[Lp.has,AUD,AT7]at hr;rcases hr with rfl|hr
      ·simp
      ·exact h1.dead r hr
     ·rw[AUD,AVb];exact⟨λhh=>by have:=hk.lt hh;simp at this,hk.nod⟩
    obtain⟨_,k2,k3⟩:=hE.F hF hk0;have k4:s.t.kin t':=k2.2.2;have k5:OKT t' h':=⟨λr hr=>k3.dead r (by simp only[Lp.has,AUD,AT7];exact .inr hr),by have:=k3.nod;rw[AUD,AVb]at this;exact this.2⟩;intro o ho;split at he<;>simp only[AT0,reduceCtorEq]at he<;>subst he<;>simp only[AUC]at ho<;>subst ho<;>exact⟨k4,k5⟩
   ·cases he
  ·cases he
def LoopW (P:Program) (GL:AX) (c:AC) (Q:AExit→St→Prop):Nat→St→Prop
 |0,_=>False
 |n+1,s=>awp P GL c (λe s'=>match e with| .normal=>LoopW P GL c Q n s'|e=>Q e s') s
theorem LoopW.step {c:AC} {Q:AExit→St→Prop}:∀ {n:Nat} {s:St},LoopW P GL c Q n s→LoopW P GL c Q (n+1) s
 |0,s,h=>h.elim
 |n+1,s,h=>by
  refine Ag c ?_ h;intro e s' h;cases e with
  |normal=>exact LoopW.step h
  |exit i=>exact h
  |ret=>exact h
theorem LoopW.le {c:AC} {Q:AExit→St→Prop} {n m:Nat} {s:St} (h:LoopW P GL c Q n s) (hm:n≤m):LoopW P GL c Q m s:=by
 induction hm with
 |refl=>exact h
 |step _ ih=>exact ih.step
theorem LoopW.awp {c:AC} {Q:AExit→St→Prop} {n:Nat} {s:St} (h:LoopW P GL c Q n s):Go.Va.awp P GL (.loop c) Q s:=by
 refine⟨λm s=>LoopW P GL c Q m s,⟨n,h⟩,λm s h=>?_⟩;cases m with
 |zero=>exact h.elim
 |succ m=>
  refine Ag c ?_ h;intro e s' h;cases e with
  |normal=>exact⟨m,by omega,h⟩
  |exit i=>exact h
  |ret=>exact h
theorem Lv {c:AC} {Q:AExit→St→Prop} {s:St} (h:awp P GL (.loop c) Q s):∃n,LoopW P GL c Q n s:=by
 obtain⟨I,⟨m,hm⟩,h⟩:=h
 suffices ∀m s,I m s→LoopW P GL c Q (m+1) s from⟨_,this m s hm⟩
 intro m;induction m using Nat.strongRecOn with
 |_ m ih=>
  intro s hs;refine Ag c ?_ (h m s hs);intro e s' h;cases e with
  |normal=>obtain⟨m',hlt,hI⟩:=h;exact(ih m' hlt s' hI).le hlt
  |exit i=>exact h
  |ret=>exact h
theorem V2 {α:Type} {p:Nat→α→Prop} (hp:∀n m x,n≤m→p n x→p m x):∀ {xs:List α},(∀x∈xs,∃n,p n x)→∃n,∀x∈xs,p n x
 |[],_=>⟨0,by simp⟩
 |x::xs,h=>by
  obtain⟨n,hn⟩:=h x (by simp);obtain⟨m,hm⟩:=V2 hp (xs:=xs) λy hy=>h y (by simp[hy]);refine⟨max n m,λy hy=>?_⟩;rcases AT7.1 hy with rfl|hy
  ·exact hp _ _ _ (Nat.le_max_left _ _) hn
  ·exact hp _ _ _ (Nat.le_max_right _ _) (hm y hy)
theorem WZ (hE:Snd P GL E) {ac:AC} {s:ES} {os:List (AExit×ES)} (he:evC E ac s=some os) (hk:OKT s.t s.h):awp P GL ac (λe s'=>∃o∈os,e=o.1∧s'=o.2.real P GL) (s.real P GL):=by
 cases ac with
 |skip=>
  simp only[evC,AT0]at he;subst he;exact⟨_,AUC.2 rfl,rfl,rfl⟩
 |reg ops keep=>
  simp only[evC,AUA]at he;obtain⟨ss,hs,rfl⟩:=he;rw[AA];exact(El hE hs hk).2 _ λo ho=>⟨_,AT9.2 ⟨o,ho,rfl⟩,rfl,rfl⟩
 |regD ops keep cl=>
  simp only[evC,AUA]at he;obtain⟨s',hs,rfl⟩:=he;exact⟨_,(Io hE hs hk).1,_,AUC.2 rfl,rfl,rfl⟩
 |regV ops keep cl=>simp[evC]at he
 |regA ops keep cl t=>
  simp only[evC,AUA]at he;obtain⟨ss,hs,rfl⟩:=he;rw[BO];obtain⟨hok,hall⟩:=In hE t hs hk;refine hall _ λo ho=>?_;obtain⟨s1,hs1,hr⟩:=MD (P:=P) (GL:=GL) (n0:=s.h.length) (t:=s.t) (keep:=keep) ho;obtain⟨s2,hren,heq⟩:=hr;have hl:(s.real P GL).h.length=s.h.length:=Ck _ _;rw[hl];exact⟨s2,hren,_,AT9.2 ⟨s1,hs1,rfl⟩,rfl,heq⟩
 |seq a b=>
  simp only[evC]at he;split at he
  ·rename_i o1 h1;rw[AB];refine Ag _ ?_ (hE.C h1 hk);rintro e s' ⟨o,ho,rfl,rfl⟩;obtain⟨zs,q1,q2⟩:=Gt he o ho;have hko:=(hE.K h1 hk o ho).2;split at q1
   ·rename_i hn
    try rw[hn]
    refine Ag _ ?_ (hE.C q1 hko);rintro e s' ⟨o',ho',r⟩;exact⟨o',q2 o' ho',r⟩
   ·rename_i hn;simp only[AT0]at q1;subst q1;have:=q2 _ (AUC.2 rfl);cases he1:o.1 with
    |normal=>exact absurd he1 hn
    |exit i=>exact⟨_,this,he1.symm▸rfl,rfl⟩
    |ret=>exact⟨_,this,he1.symm▸rfl,rfl⟩
  ·cases he
 |cond x a b=>
  simp only[evC]at he;rw[AE];have hx:x.ev (s.real P GL).e=x.ev s.e:=rfl;split at he
  ·rename_i t ht;rw[hx,ht];simp only[];split at he
   ·rename_i htt;rw[if_pos htt];exact hE.C he hk
   ·rename_i htt;rw[if_neg htt];exact hE.C he hk
  ·cases he
 |block id c=>
  simp only[evC,AUA]at he;obtain⟨ss,hs,rfl⟩:=he;rw[AG];refine Ag _ ?_ (hE.C hs hk);rintro e s' ⟨o,ho,rfl,rfl⟩;have hm:=List.mem_map_of_mem (f:=λo:AExit×ES=>match o.1 with| .exit id'=>if id'=id then ((.normal,o.2):AExit×ES) else o|_=>o) ho
  obtain⟨e,s'⟩:=o;cases e with
  |normal=>exact⟨_,hm,rfl,rfl⟩
  |ret=>exact⟨_,hm,rfl,rfl⟩
  |exit i=>
   simp only at hm ⊢;by_cases hi:i=id
   ·simp only[hi,if_true]at hm ⊢;exact⟨_,hm,rfl,rfl⟩
   ·simp only[hi,if_false]at hm ⊢;exact⟨_,hm,rfl,rfl⟩
 |loop c=>
  simp only[evC]at he;split at he
  ·rename_i o1 h1;have hb:∀o∈o1,∃n,(match o.1 with| .normal=>LoopW P GL c (λe s'=>∃o∈os,e=o.1∧s'=o.2.real P GL) n (o.2.real P GL)|e=>∃o'∈os,e=o'.1∧o.2.real P GL=o'.2.real P GL):=by
    intro o ho;obtain⟨zs,q1,q2⟩:=Gt he o ho;have hko:=(hE.K h1 hk o ho).2;split at q1
    ·rename_i hn;refine Lv (Ag _ ?_ (hE.C q1 hko));rintro e s' ⟨o',ho',r⟩;exact⟨o',q2 o' ho',r⟩
    ·rename_i hn;simp only[AT0]at q1;subst q1;have:=q2 _ (AUC.2 rfl);cases he1:o.1 with
     |normal=>exact absurd he1 hn
     |exit i=>exact⟨0,_,this,he1.symm▸rfl,rfl⟩
     |ret=>exact⟨0,_,this,he1.symm▸rfl,rfl⟩
   obtain⟨n,hn⟩:=V2 (λn m x hnm h=>by
    cases hx:x.1 with
    |normal=>simp only[hx]at h ⊢;exact h.le hnm
    |exit i=>simp only[hx]at h ⊢;exact h
    |ret=>simp only[hx]at h ⊢;exact h) hb
   refine LoopW.awp (n:=n+1) (Ag _ ?_ (hE.C h1 hk));rintro e s' ⟨o,ho,rfl,rfl⟩;have:=hn o ho;cases he1:o.1 with
   |normal=>simp only[he1]at this ⊢;exact this
   |exit i=>simp only[he1]at this ⊢;exact this
   |ret=>simp only[he1]at this ⊢;exact this
  ·cases he
 |never=>cases he
 |exit id=>
  simp only[evC,AT0]at he;subst he;exact⟨_,AUC.2 rfl,rfl,rfl⟩
 |ret=>
  simp only[evC,AT0]at he;subst he;exact⟨_,AUC.2 rfl,rfl,rfl⟩
 |rangeF q ps asg body=>
  simp only[evC]at he;split at he
  ·rename_i fid caps hf;split at he
   ·rename_i rets h' x t' hF;obtain⟨h1,h2⟩:=hk.append (P:=P) (GL:=GL) .dead;have hnl:¬s.t.has s.h.length:=λhh=>by have:=hk.lt hh;simp at this
    have hk0:OKT ((s.h.length,Tag.ready,(⟨cpE s.e,ps,asg,body⟩:LD))::s.t) (s.h++[.dead]):=by
     refine⟨λr hr=>?_,?_⟩
     ·simp only[Lp.has,AUD,AT7]at hr;rcases hr with rfl|hr
      ·simp
      ·exact h1.dead r hr
     ·rw[AUD,AVb];exact⟨hnl,hk.nod⟩
    obtain⟨k1,k2,k3⟩:=hE.F hF hk0;have hx1:s.h.length=x.1:=k2.1;have hx2:(⟨cpE s.e,ps,asg,body⟩:LD)=x.2.2:=k2.2.1;have hl:(s.real P GL).h.length=s.h.length:=Ck _ _;have e0:Lp.ins P GL ((s.h.length,Tag.ready,(⟨cpE s.e,ps,asg,body⟩:LD))::s.t) (s.h++[.dead])=(s.real P GL).h++[An P GL .ready (cpE s.e) ps asg body]:=by
     simp only[Lp.ins,h2,ES.real];rw[AVp _ _ (by rw[Ck];exact AT6 _),Ck,AV7];rfl
    have e1:Lp.ins P GL (x::t') h'=(Lp.ins P GL t' h').set s.h.length (An P GL x.2.1 (cpE s.e) ps asg body):=by
     simp only[Lp.ins,←hx1,←hx2]
    have hd:=k3.dead x.1 (by simp[Lp.has]);have hlt:s.h.length <h'.length:=by rw[hx1];exact(AT4.1 hd).1
    have hnt:¬Lp.has t' s.h.length:=by
     have:=k3.nod;rw[AUD,AVb]at this;rw[hx1];exact this.1
    simp only[e0,e1]at k1;rw[Kw];have hq:∀Q:AExit→St→Prop,Bo Q ⟨s.e,Lp.ins P GL t' h'⟩ x.2.1→
      ∃fid caps rets h' tag,Db (q.ev (s.real P GL).e)=some (fid,caps)∧FSp P GL fid (.yld (s.real P GL).h.length::caps) ((s.real P GL).h++[An P GL .ready (cpE (s.real P GL).e) ps asg body]) rets h'∧
       h'[(s.real P GL).h.length]?=some (An P GL tag (cpE (s.real P GL).e) ps asg body)∧Bo Q ⟨(s.real P GL).e,h'.set (s.real P GL).h.length .dead⟩ tag:=by
     intro Q hQ;refine⟨fid,caps,rets,(Lp.ins P GL t' h').set s.h.length (An P GL x.2.1 (cpE s.e) ps asg body),x.2.1,hf,?_,?_,?_⟩
     ·rw[hl];exact k1
     ·rw[hl,AUY (by rw[Ck];exact hlt)];rfl
     ·rw[hl,AVB];have:(Lp.ins P GL t' h').set s.h.length .dead=Lp.ins P GL t' h':=F3 (by rw[MK t' hnt,hx1];exact hd);rw[this];exact hQ
    refine hq _ ?_;split at he<;>simp only[AT0,reduceCtorEq]at he<;>subst he<;>rename_i hxt<;>rw[hxt]<;>exact⟨_,AUC.2 rfl,rfl,rfl⟩
   ·cases he
  ·cases he
theorem PL {t:Lp} {e:Env} {h:List Row} (hk:OKT t h):∀ {rs:List AR} {xs:List D},De ⟨e,h⟩ rs=some xs→De ⟨e,t.ins P GL h⟩ rs=some xs
 |[],xs,hx=>hx
 |r::rs,xs,hx=>by
  simp only[De]at hx ⊢;split at hx
  ·rename_i y ys hy hys;rw[PL hk hys];have:r.d ⟨e,t.ins P GL h⟩=some y:=by
    cases r with
    |t n=>exact hy
    |c n sz ag=>
     simp only[AR.d,AWk]at hy ⊢;obtain⟨d,hd,hd2⟩:=hy;exact⟨d,Nv hk hd,hd2⟩
   rw[this];exact hx
  ·cases hx
theorem J5 {f:Nat} {args:List D} {h:List Row} {t:Lp} {n:Nat} {x:List D×List Row×Lp} (hk:t.kin x.2.2) (hok:OKT x.2.2 x.2.1) (hn:∀r,t.has r→r <n):
  t.kin (K5 n x).2.2∧OKT (K5 n x).2.2 (K5 n x).2.1∧(FSp P GL f args h x.1 (x.2.2.ins P GL x.2.1)→FSp P GL f args h (K5 n x).1 ((K5 n x).2.2.ins P GL (K5 n x).2.1)):=by
 unfold K5;split
 ·have hn':∀r,Lp.has x.2.2 r→r <n:=λr hr=>hn r (by simp only[Lp.has,hk.map];exact hr);obtain⟨h1,h2⟩:=hok.kill (P:=P) (GL:=GL) hn';exact⟨hk,h1,λhf=>by simp only[h2];exact hf.kill n⟩
 ·exact⟨hk,hok,id⟩
theorem WY (hT:∀f n ac rs,T f=some (n,ac,rs)→DO P GL f n ac rs=true)
  (hP:∀f args h x,Pr f args h=some x→∀t,OKT t h→FSp P GL f args (t.ins P GL h) x.1 (t.ins P GL h++x.2)) (hE:Snd P GL E) {f:Nat} {args:List D} {h:List Row} {t:Lp} {r:List D×List Row×Lp} (he:evF T Pr E f args h t=some r) (hk:OKT t h):
  FSp P GL f args (t.ins P GL h) r.1 (r.2.2.ins P GL r.2.1)∧t.kin r.2.2∧OKT r.2.2 r.2.1:=by
 unfold evF at he;split at he
 ·rename_i n ac rs htb;split at he
  ·rename_i hlen;split at he
   ·rename_i os hos;split at he
    ·rename_i xs hxs;obtain⟨hmem,hall⟩:=Ii he;have hK:=hE.K hos hk;have hC:=hE.C hos hk;simp only at hK;have hn:∀r,t.has r→r <h.length:=λr hr=>hk.lt hr;have outs:∀o∈os,∃y,(∀i,o.1≠ .exit i)∧De ⟨o.2.e,o.2.h⟩ rs=some y∧K5 h.length (y,o.2.h,o.2.t)∈xs:=by
      intro o ho;obtain⟨z,hz,hzm⟩:=Hn hxs o ho;split at hz
      ·cases hz
      ·rename_i hne;simp only[AUA]at hz;obtain⟨y,hy,rfl⟩:=hz;exact⟨y,λi hi=>hne i hi,hy,hzm⟩
     have kinx:∀y∈xs,t.kin y.2.2∧OKT y.2.2 y.2.1:=by
      intro y hy;obtain⟨o,ho,hz⟩:=KQ hxs y hy;have hko:=hK o ho;split at hz
      ·cases hz
      ·simp only[AUA]at hz;obtain⟨z,_,rfl⟩:=hz;obtain⟨q1,q2,_⟩:=J5 (P:=P) (GL:=GL) (f:=f) (args:=args) (h:=h) (n:=h.length) (x:=(z,o.2.h,o.2.t)) hko.1 hko.2 hn;exact⟨q1,q2⟩
     have same:∀y∈xs,y=r:=by
      intro y hy;rcases hall y hy with h|h
      ·exact h
      ·simp only[fEq,AT1]at h;exact(AVK (D.beqs_eq h.1.1) (AVK (L5 h.1.2) (Lp.beq_eq (kinx r hmem).1 (kinx y hy).1 h.2))).symm
     refine⟨?_,kinx r hmem⟩;refine Oe (hT f n ac rs htb) hlen (Ag _ ?_ hC);rintro e s' ⟨o,ho,rfl,rfl⟩;obtain⟨y,hne,hy,hym⟩:=outs o ho;have hok:=hK o ho;obtain⟨_,_,q3⟩:=J5 (P:=P) (GL:=GL) (f:=f) (args:=args) (h:=t.ins P GL h) (n:=h.length) (x:=(y,o.2.h,o.2.t)) hok.1 hok.2 hn;refine⟨?_,y,PL hok.2 hy,λg w μ t' u' O hi=>?_⟩
     ·cases hoe:o.1 with
      |normal=>trivial
      |ret=>trivial
      |exit i=>exact absurd hoe (hne i)
     ·rw[←same _ hym];unfold K5;split
      ·have hn':∀r,Lp.has o.2.t r→r <h.length:=λr hr=>hn r (by simp only[Lp.has,hok.1.map];exact hr);obtain⟨_,h2⟩:=hok.2.kill (P:=P) (GL:=GL) hn';refine⟨rfl,?_⟩;simp only[h2];exact hi.kill _
      ·exact⟨rfl,hi⟩
    ·cases he
   ·cases he
  ·cases he
 ·simp only[AUA]at he;obtain⟨x,hr,rfl⟩:=he;have hlt:∀r,t.has r→r <h.length:=λr hr=>hk.lt hr;refine⟨?_,Lp.kin.refl _,⟨λr hr=>?_,hk.nod⟩⟩
  ·have:=hP f args h x hr t hk;simp only[GC t x.2 hlt];exact this
  ·rw[AUQ (hlt r hr)];exact hk.dead r hr
theorem WW (hT:∀f n ac rs,T f=some (n,ac,rs)→DO P GL f n ac rs=true) (hE:Snd P GL E) {f:Nat} {vs rets:List V} (he:evP T E f vs=some rets):PSp P GL f vs rets:=by
 unfold evP at he;split at he
 ·rename_i n ac rs htb;split at he
  ·rename_i hlen;split at he
   ·rename_i os hos;split at he
    ·rename_i xs hxs;obtain⟨hmem,hall⟩:=Ii he;have hk:OKT ([]:Lp) ([]:List Row):=⟨λr hr=>by simp[Lp.has]at hr,by simp⟩;have hK:=hE.K hos hk;have hC:=hE.C hos hk;refine AK (hT f n ac rs htb) hlen (Ag _ ?_ hC);rintro e s' ⟨o,ho,rfl,rfl⟩;obtain⟨z,hz,hzm⟩:=Hn hxs o ho;have hzr:z=rets:=by
      rcases hall z hzm with h|h
      ·exact h
      ·exact(V.beqs_eq h).symm
     have ht:o.2.t=[]:=by
      have:=(hK o ho).1;simp only at this;cases h:o.2.t with
      |nil=>rfl
      |cons a b=>rw[h]at this;exact this.elim
     split at hz
     ·cases hz
     ·rename_i hne;refine⟨?_,?_⟩
      ·cases hoe:o.1 with
       |normal=>trivial
       |ret=>trivial
       |exit i=>exact absurd hoe (hne i)
      ·simp only[ES.real,ht,Lp.ins];rw[←hzr];exact hz
    ·cases he
   ·cases he
  ·cases he
 ·cases he
theorem Ps (hT:∀f n ac rs,T f=some (n,ac,rs)→DO P GL f n ac rs=true)
  (hP:∀f args h x,Pr f args h=some x→∀t,OKT t h→FSp P GL f args (t.ins P GL h) x.1 (t.ins P GL h++x.2)):∀n,Snd P GL (ev T Pr n)
 |0=>by
  constructor
  ·intro f args h t r h;cases h
  ·intro f vs rets h;cases h
  ·intro ac s os h;cases h
  ·intro ac s os h;cases h
 |n+1=>by
  have ih:=Ps hT hP n
  constructor
  ·intro f args h t r he hk;exact WY hT hP ih he hk
  ·intro f vs rets he;exact WW hT ih he
  ·intro ac s os he hk;exact ALa ih he hk
  ·intro ac s os he hk;exact WZ ih he hk
theorem Gg (hT:∀f n ac rs,T f=some (n,ac,rs)→DO P GL f n ac rs=true)
  (hP:∀f args h x,Pr f args h=some x→∀t,OKT t h→FSp P GL f args (t.ins P GL h) x.1 (t.ins P GL h++x.2)) {fuel f:Nat} {vs rets:List V} (h:(ev T Pr fuel).Pf f vs=some rets):PSp P GL f vs rets:=(Ps hT hP fuel).Pf h
end
open Go.Proofs
def ATu:=[xw 8 false]
def ATt:=[x0 24 9,xm 9 24]
def ATs:=[xn 25 0,x1 26 10 25,xn 10 26]
def ATr:=[xo (.bsl 27 32 8 []),xm 28 10,xo (.appR 29 (xt 27) (xt 28) 32 8 144),xn 11 29]
def ATq:=[xo (.bsl 30 32 8 []),xm 31 10,xo (.app 32 (xu 30) (xt 31) 32 8 144),xn 12 32]
def ATp:=[xr 13 32 8]
def ATo:=[xm 33 10,xA 34 33,xC 35 .sub 34 1,xm 14 35]
def ATn:=[xm 36 14,xC 37 .geq 36 0]
def ATl:=[xn 40 13,xm 41 10,xm 42 14,xI 43 41 42 8,xL 44 43 8,xo (.bsl 45 32 8 [xt 44]),xo (.app 46 (xu 40) (xt 45) 32 8 144),xn 13 46]
def ATm:=[xm 38 14,xC 39 .sub 38 1,xm 14 39]
def ATw:AC:=.seq (xS ATn [1,2,3,9,10,11,12,13,14,37] (xD 37 0)) (.seq (.block 1 (.reg ATl [1,2,3,9,10,11,12,13,14])) (.reg ATm [1,2,3,9,10,11,12,13,14]))
def AMj:=[xm 47 10,xA 48 47,xC 49 .gtr 48 0]
def AMi:=[xm 50 3,xm 51 10,xA 52 51,x2 53 11 50 52,xm 15 53]
def AMh:=[xm 54 11,xm 55 15,xm 56 11,xm 57 15,xI 58 56 57 8,xL 59 58 8,xm 60 1,xm 61 2,x3 62 12 59 60 61,xI 63 54 55 8,xs 63 62 8]
def AMg:=[xn 64 12,xm 65 10,xm 66 15,xI 67 65 66 8,xL 68 67 8,xo (.bsl 69 32 8 [xt 68]),xo (.app 70 (xu 64) (xt 69) 32 8 144),xn 12 70]
def AMf:=[xm 71 10,xo (.frz 72 (xt 11) 8),xn 73 12,xn 74 13,xo (.bsl 75 25 1 [xt 71,xt 72,xt 73,xt 74,(.c (.nil 32 8))]),xn 16 75]
def AMe:=[xv 17 0]
def AMd:=[xm 76 17,xm 77 16,xA 78 77,xB 79 .lss 76 78]
def AMb:=[xm 83 9,xm 84 16,xm 85 17,xI 86 84 85 1,xl 87 86 1,x1 88 14 87,x2 89 13 83 88,xn 82 89,xe 90 82 0,xe 91 82 1,xm 18 90,xm 19 91]
def AMa:=[x0 93 16,xm 94 16,xm 95 17,xI 96 94 95 1,xl 97 96 1,xq 98 15 [xt 93,xt 97],xn 92 98,xe 99 92 0,xe 100 92 1,xm 20 99,xm 21 100]
def AMZ:=[xm 101 19,xm 102 21,xB 103 .neq 101 102,xm 104 103,xF 104 (xm 105 18),xF 104 (xp 106 (.eqP true (xt 105) (.c (.v .nilp)))),xF 104 (xm 107 19),xF 104 (xC 108 .eql 107 0),xF 104 (xp 109 (.eqB true (xt 106) (xt 108))),xO 110 104 109]
def AMY:=[xw 8 false]
def AMX:=[xm 111 18,xp 112 (.eqP true (xt 111) (.c (.v .nilp))),xm 113 112,xH 113 (xm 114 18),xH 113 (xq 115 17 [xt 114]),xH 113 (xm 116 20),xH 113 (xZ 117 116),xH 113 (xa 118 117 2 1),xH 113 (xl 119 118 1),xH 113 (xq 120 18 [xt 119]),xH 113 (xB 121 .neq 115 120),xH 113 (xm 122 121),xF 122 (xm 123 18),xF 122 (xq 124 19 [xt 123]),xF 122 (xm 125 16),xF 122 (xm 126 17),xF 122 (xI 127 125 126 1),xF 122 (xl 128 127 1),xF 122 (xA 129 128),xF 122 (xB 130 .neq 124 129),xH 113 (xO 131 122 130),xN 132 113 131]
def AMW:=[xw 8 false]
def AMc:=xV 80 17 81
def ATv:AC:=.seq (xS AMd [9,10,16,17,79] (xD 79 2)) (.seq (.block 3 (xS AMb [9,10,16,17,18,19] (.seq (.regD AMa [9,10,16,17,18,19,20,21] (xK [[],[],[],[1,2],[3],[0,4],[5],[6],[6],[7],[8,9]])) (xQ AMZ [9,10,16,17,18,20,110] 110 (xE AMY [8]) (.seq (.regA AMX [9,10,16,17,132] (xK [[],[0],[1],[2],[3],[2],[5],[6],[7],[4,8],[9],[10],[11],[12],[11],[11],[14,15],[16],[17],[13,18],[19],[20]]) (.take 0 (.take 1 (.take 2 (.take 3 (.take 5 (.take 6 (.take 7 (.pick (.alt 4 (.take 8 tq1) (.alt 8 (.take 4 tq1) .none))))))))))) (.cond (xt 132) (xE AMW [8]) .skip)))))) (.reg AMc [9,10,16,17]))
def AMV:=[xn 134 10,x1 135 14 134,xc 136 13 [(.c (.v .nilp)),xt 135],xn 133 136,xe 137 133 0,xe 138 133 1,xm 22 137,xm 23 138]
def AMU:=[xm 139 23,xC 140 .eql 139 1,xm 141 140,xH 141 (x0 142 20),xN 143 141 142,xm 8 143]
def c3:AC:=xS ATu [0,1,2,3] (xS ATt [0,1,2,3,9] (xS ATs [1,2,3,9,10] (xS ATr [1,2,3,9,10,11] (xS ATq [1,2,3,9,10,11,12] (xS ATp [1,2,3,9,10,11,12,13] (.seq (xS ATo [1,2,3,9,10,11,12,13,14] (.block 0 (.loop ATw))) (xQ AMj [1,2,3,9,10,11,12,13,49] 49 (xS AMi [1,2,9,10,11,12,13,15] (xS AMh [9,10,11,12,13,15] (.reg AMg [9,10,11,12,13]))) (xS AMf [9,10,16] (.seq (xS AMe [9,10,16,17] (.block 2 (.loop ATv))) (xS AMV [23] (xE AMU [8])))))))))))
def c3R:List AR:=[.t 8]
theorem k3:AU 3 4 c3 c3R:=by kernel_rfl
def AFa:=[xo (.mv 0 (.c (.v .nilp)))]
def AFZ:=[x0 4 16,x1 5 46 4,xn 3 5,xe 6 3 0,xe 7 3 1,xm 1 6,xm 2 7]
def AFY:=[xm 8 2,xC 9 .neq 8 0]
def ATj:=[xo (.mv 0 (.c (.v .nilp)))]
def AFX:=[xm 10 1,xm 0 10]
def c9:AC:=xS AFa [] (xS AFZ [1,2] (xQ AFY [1,9] 9 (xE ATj [0]) (xE AFX [0])))
def c9R:List AR:=[.t 0]
theorem k9:AU 9 0 c9 c9R:=by kernel_rfl
def AD8:=[xr 2 32 8]
def AD7:=[xr 3 32 8]
def AD6:=[xm 8 0,xc 9 47 [xt 8,xi 0,xi 5],xm 4 9]
def AD5:=[xv 5 0]
def tq:=[xm 10 5,xm 11 4,xB 12 .lss 10 11]
def tn:=[xm 15 0,xm 16 0,xA 17 16,xm 18 5,xb 19 .mul (xi 4) (xt 18),xb 20 .add (xi 1) (xt 19),xp 21 (.minmax false (xt 17) (xt 20)),xp 22 (.slc (xt 15) (some (xt 21)) none 1),x1 23 48 22,xo (.alloc 6 zl0),xs 6 23 8]
def tm:=[xo (.bsl 24 3 1 [xi 0,xi 7,xi 8,xi 4095,xi 2047]),xm 25 5,xm 26 4,xB 27 .add 25 26,xC 28 .rem 27 5,xI 29 24 28 1,xl 30 29 1,xa 31 6 0 1,xs 31 30 1]
def Vz:=[xm 32 5,xC 33 .rem 32 2,xC 34 .eql 33 0]
def tj:=[xa 35 6 2 1,xo (.store (xt 35) (xi 0) 1)]
def Nk:=[xL 36 6 8,x1 37 49 36,xm 7 37]
def I4:=[xm 38 7]
def Nj:=[xn 39 3,xL 40 6 8,xo (.bsl 41 32 8 [xt 40]),xo (.app 42 (xu 39) (xt 41) 32 8 144),xn 3 42]
def tp:=xV 13 5 14
def AD9:AC:=.seq (xS tq [0,3,4,5,12] (xD 12 0)) (.seq (.block 1 (xS tn [0,3,4,5,6] (xS tm [0,3,4,5,6] (xQ Vz [0,3,4,5,6,34] 34 (.reg tj [0,3,4,5,6]) (xS Nk [0,3,4,5,6,7] (xS I4 [0,3,4,5,6,38] (.cond (xt 38) (.reg Nj [0,3,4,5]) .skip))))))) (.reg tp [0,3,4,5]))
def tu:=[xn 43 3,xn 2 43]
def c10:AC:=xS AD8 [0] (xS AD7 [0,3] (xS AD6 [0,3,4] (.seq (xS AD5 [0,3,4,5] (.block 0 (.loop AD9))) (xE tu [2]))))
def AO7:List AR:=[.t 2]
theorem k10:AU 10 1 c10 AO7:=by kernel_rfl
def ADy:=[xv 4 0]
def ADx:=[xm 5 0,xC 6 .lss 5 0]
def ADw:=[xm 7 0,xC 8 .add 7 1,xp 9 (.neg (xt 8)),xm 0 9]
def ADv:=[xm 10 0,xm 11 1,xB 12 .rem 10 11,xm 4 12]
def c11:AC:=xS ADy [0,1] (xQ ADx [0,1,6] 6 (.reg ADw [0,1]) (xE ADv [4]))
def AO2:List AR:=[.t 4]
theorem k11:AU 11 2 c11 AO2:=by kernel_rfl
def ADn:=[xo (.mv 4 (.c (.v .nilp))),xv 5 0]
def ADm:=[xm 14 0,xp 15 (.eqP false (xt 14) (.c (.v .nilp)))]
def AOr:=[xo (.mv 4 (.c (.v .nilp))),xv 5 1]
def ADl:=[xm 16 0,xo (.mkm 17),x0 18 50,xp 19 (.build [.v .nilp,.v .nilm,.v .nilp] [(0,1,xt 16),(1,1,xt 17),(2,1,xt 18)]),xx 20 19,xm 6 20]
def ADk:=[xn 21 1,xA 22 21,xv 23 0]
def rN:=[xB 24 .lss 23 22]
def rM:=[xI 25 21 23 8,xL 26 25 8,xo (.alloc 8 zl1),xs 8 26 8]
def rL:=[xL 28 8 8,x1 29 51 28,xn 27 29,xe 30 27 0,xe 31 27 1,xn 9 30,xm 10 31]
def Ve:=[xm 32 10,xC 33 .neq 32 0]
def rK:=[xm 34 10,xo (.mv 4 (.c (.v .nilp))),xm 5 34]
def SF:=[xm 36 6,xZ 37 36,xa 38 37 1 1,xl 39 38 1,xa 40 8 0 1,xl 41 40 1,xp 42 (.look (xt 39) (xt 41) false [0] [.nil 5 1] false true),xn 35 42,xe 43 35 0,xe 44 35 1,xn 11 43,xm 12 44]
def NI:=[xm 45 12]
def SE:=[xo (.mv 4 (.c (.v .nilp))),xv 5 8]
def SD:=[xm 46 6,xZ 47 46,xa 48 47 2 1,xl 49 48 1,xa 50 8 0 1,xl 51 50 1,xm 52 9,xq 53 52 [xt 49,xt 51,xt 52],xm 13 53]
def NH:=[xm 54 13,xC 55 .neq 54 0]
def SC:=[xm 56 13,xo (.mv 4 (.c (.v .nilp))),xm 5 56]
def SB:=[xm 57 6,xZ 58 57,xa 59 58 1 1,xl 60 59 1,xa 61 8 0 1,xl 62 61 1,xn 63 9,xo (.mput (xt 60) (xt 62) (xt 63) false [0])]
def SA:=xW 64 23
def rQ:AC:=xS rN [6,21,22,23,24] (.seq (xD 24 0) (.seq (.block 1 (xS rM [6,8,21,22,23] (xS rL [6,8,9,10,21,22,23] (xQ Ve [6,8,9,10,21,22,23,33] 33 (xE rK [4,5]) (.seq (.seq (.regD SF [6,8,9,12,21,22,23] (xK [[],[0],[1],[2],[],[4],[3,5],[6],[7],[7],[8],[9,10]])) (xS NI [6,8,9,21,22,23,45] (.cond (xt 45) (xE SE [4,5]) .skip))) (.seq (.seq (.regD SD [6,8,9,13,21,22,23] (xK [[],[0],[1],[2],[],[4],[],[3,5,6],[7]])) (xS NH [6,8,9,13,21,22,23,55] (.cond (xt 55) (xE SC [4,5]) .skip))) (.regD SB [6,21,22,23] (xK [[],[0],[1],[2],[],[4],[],[3,5,6]])))))))) (.reg SA [6,21,22,23])))
def rO:=[xm 65 6,xm 4 65,xv 5 0]
def c13:AC:=xS ADn [0,1] (xQ ADm [0,1,15] 15 (xE AOr [4,5]) (xS ADl [1,6] (.seq (xS ADk [6,21,22,23] (.block 0 (.loop rQ))) (xE rO [4,5]))))
def wU:List AR:=[.t 4,.t 5]
theorem k13:AU 13 2 c13 wU:=by kernel_rfl
def ADe:=[xr 2 74 8]
def ADd:=[xr 3 74 8]
def ADc:=[xv 4 0]
def ADb:=[xm 5 4,xm 6 0,xA 7 6,xB 8 .lss 5 7]
def ADZ:=[xn 11 3,xm 12 0,xm 13 4,xI 14 12 13 8,xL 15 14 8,x1 16 53 15,xo (.bsl 17 74 8 [xt 16]),xo (.app 18 (xu 11) (xt 17) 74 8 144),xn 3 18]
def ADa:=xV 9 4 10
def ADf:AC:=.seq (xS ADb [0,3,4,8] (xD 8 0)) (.seq (.block 1 (.reg ADZ [0,3,4])) (.reg ADa [0,3,4]))
def ADY:=[xn 19 3,xn 2 19]
def c14:AC:=xS ADe [0] (xS ADd [0,3] (.seq (xS ADc [0,3,4] (.block 0 (.loop ADf))) (xE ADY [2])))
def AOi:List AR:=[.t 2]
theorem k14:AU 14 1 c14 AOi:=by kernel_rfl
def AOY:=[xo (.mv 4 (.c (.v .nilp))),xv 5 0]
def AOX:=[xn 13 0,xp 14 (.build [.nil 200 2] []),xx 15 14,xp 16 (.build [.nil 22 1,.nil 32 8,.v .nilp] [(0,1,xt 13),(2,1,xt 15)]),xx 17 16,xm 6 17]
def AOW:=[xv 7 0]
def AOV:=[xm 18 7,xm 19 1,xA 20 19,xB 21 .lss 18 20]
def AOT:=[xm 25 1,xm 26 7,xI 27 25 26 8,xL 28 27 8,x1 29 54 28,xn 24 29,xe 30 24 0,xe 31 24 1,xn 8 30,xm 9 31]
def AOS:=[xm 32 9,xC 33 .neq 32 0]
def AOR:=[xm 34 9,xo (.mv 4 (.c (.v .nilp))),xm 5 34]
def AOQ:=[xm 35 6,xZ 36 35,xa 37 36 2 1,xl 38 37 1,xm 39 1,xm 40 7,xI 41 39 40 8,xa 42 41 0 1,xl 43 42 1,xq 44 55 [xt 38,xt 43],xC 45 .geq 44 0]
def AOP:=[xo (.mv 4 (.c (.v .nilp))),xv 5 8]
def AIQ:=[xm 46 6,xZ 47 46,xa 48 47 2 1,xl 49 48 1,xm 50 1,xm 51 7,xI 52 50 51 8,xa 53 52 0 1,xl 54 53 1,xn 55 8,xq 56 56 [xt 49,xt 54,xt 55],xm 10 56]
def AIP:=[xm 57 10,xC 58 .neq 57 0]
def AIO:=[xm 59 10,xo (.mv 4 (.c (.v .nilp))),xm 5 59]
def AIN:=[xv 11 0]
def AIM:=[xm 60 11,xm 61 6,xZ 62 61,xa 63 62 1 1,xl 64 63 1,xA 65 64,xB 66 .lss 60 65,xm 67 66,xH 67 (xm 68 6),xH 67 (xZ 69 68),xH 67 (xa 70 69 1 1),xH 67 (xl 71 70 1),xH 67 (xm 72 11),xH 67 (xI 73 71 72 8),xH 67 (xa 74 73 0 1),xH 67 (xl 75 74 1),xH 67 (xm 76 1),xH 67 (xm 77 7),xH 67 (xI 78 76 77 8),xH 67 (xa 79 78 0 1),xH 67 (xl 80 79 1),xH 67 (xB 81 .lss 75 80),xN 82 67 81]
def AIL:=xV 83 11 84
def AOZ:AC:=.seq (.seq (.regD AIM [1,6,7,11,82] (xK [[],[],[1],[2],[3],[4],[0,5],[6],[7],[8],[9],[10],[7],[11,12],[13],[14],[7],[7],[16,17],[18],[19],[15,20],[21]])) (xD 82 2)) (.block 3 (.reg AIL [1,6,7,11]))
def AIK:=[xr 12 32 8]
def AIJ:=[xn 85 12,xm 86 6,xZ 87 86,xa 88 87 1 1,xl 89 88 1,xm 90 11,xp 91 (.slc (xt 89) none (some (xt 90)) 8),xo (.app 92 (xu 85) (xt 91) 32 8 144),xm 93 1,xm 94 7,xI 95 93 94 8,xL 96 95 8,xo (.bsl 97 32 8 [xt 96]),xo (.app 98 (xu 92) (xt 97) 32 8 144),xn 12 98]
def AII:=[xm 99 6,xn 100 12,xm 101 6,xZ 102 101,xa 103 102 1 1,xl 104 103 1,xm 105 11,xp 106 (.slc (xt 104) (some (xt 105)) none 8),xo (.app 107 (xu 100) (xt 106) 32 8 144),xZ 108 99,xa 109 108 1 1,xo (.store (xt 109) (xu 107) 1)]
def AOU:=xV 22 7 23
def AOa:AC:=.seq (xS AOV [1,6,7,21] (xD 21 0)) (.seq (.block 1 (xS AOT [1,6,7,8,9] (xQ AOS [1,6,7,8,9,33] 33 (xE AOR [4,5]) (.seq (.seq (.regD AOQ [1,6,7,8,45] (xK [[],[0],[1],[2],[],[],[4,5],[6],[7],[3,8],[9]])) (.cond (xt 45) (xE AOP [4,5]) .skip)) (.seq (.regD AIQ [1,6,7,10] (xK [[],[0],[1],[2],[],[],[4,5],[6],[7],[],[3,8,9],[10]])) (xQ AIP [1,6,7,10,58] 58 (xE AIO [4,5]) (xS AIN [1,6,7,11] (.seq (.block 2 (.loop AOZ)) (xS AIK [1,6,7,11,12] (.seq (.regD AIJ [1,6,7,11,12] (xK [[],[],[1],[2],[3],[],[4,5],[0,6],[],[],[8,9],[10],[11],[7,12],[13]])) (.reg AII [1,6,7]))))))))))) (.reg AOU [1,6,7]))
def AIH:=[xm 110 6,xm 4 110,xv 5 0]
def c15:AC:=xS AOY [0,1] (xS AOX [1,6] (.seq (xS AOW [1,6,7] (.block 0 (.loop AOa))) (xE AIH [4,5])))
def ATy:List AR:=[.t 4,.t 5]
theorem k15:AU 15 2 c15 ATy:=by kernel_rfl
def ADQ:=[xr 0 22 1]
def ADP:=[xo (.bsl 1 3 1 [xi 0]),xo (.bsl 2 3 1 [xi 0]),xo (.bsl 3 3 1 [xi 1,xi 2]),xo (.bsl 4 3 1 [xi 4]),xo (.bsl 5 22 1 [(.c (.nil 3 1)),xt 1,xt 2,xt 3,(.c (.nil 3 1)),xt 4]),xn 0 5]
def c16:AC:=xS ADQ [] (xE ADP [0])
def AOM:List AR:=[.t 0]
theorem k16:AU 16 0 c16 AOM:=by kernel_rfl
def ADO:=[xo (.mv 2 (xj 0))]
def ADN:=[xm 3 0,xZ 4 3,xa 5 4 2 1,xl 6 5 1,x1 7 57 6,xm 2 7]
def c17:AC:=xS ADO [0] (xE ADN [2])
def AH5:List AR:=[.t 2]
theorem k17:AU 17 1 c17 AH5:=by kernel_rfl
def AOI:=[xv 2 0]
def AOH:=[xm 3 0,xZ 4 3,xa 5 4 1 1,xl 6 5 1,xp 7 (.mlen (xt 6)),xm 2 7]
def c19:AC:=xS AOI [0] (xE AOH [2])
def ATx:List AR:=[.t 2]
theorem k19:AU 19 1 c19 ATx:=by kernel_rfl
def AN9:=[xw 0 false]
def AN8:=[x0 8 9,xm 1 8]
def AN7:=[xm 10 1,xp 11 (.build zl2 [(0,1,xi 7)]),xo (.bsl 12 74 8 [xt 11]),x2 13 13 10 12,xn 9 13,xe 14 9 0,xe 15 9 1,xm 2 14,xm 3 15]
def AN6:=[xm 16 1,xp 17 (.eqP false (xt 16) (.c (.v .nilp))),xm 18 17,xF 18 (xm 19 2),xF 18 (xp 20 (.eqP false (xt 19) (.c (.v .nilp)))),xO 21 18 20,xm 22 21,xF 22 (xm 23 3),xF 22 (xC 24 .neq 23 0),xO 25 22 24]
def AN5:=[xw 0 false]
def AN4:=[xm 27 2,xc 28 59 [xt 27,xi 8],xn 26 28,xe 29 26 0,xe 30 26 1,xo (.alloc 4 zl3),xs 4 29 13,xm 5 30]
def AN3:=[xm 31 2,x1 32 17 31,xp 33 (.build zl4 [(5,1,xt 32)]),xc 34 39 [xj 5,xt 33],xo (.alloc 6 zl4),xs 6 34 8]
def AN2:=[xL 35 4 13,xo (.alloc 7 zl3),xs 7 35 13]
def AN1:=[xa 36 7 1 1,xo (.store (xt 36) (xi 7) 1)]
def AN0:=[xm 37 5,xC 38 .eql 37 0,xm 39 38,xH 39 (xa 40 4 7 1),xH 39 (xl 41 40 1),xH 39 (xA 42 41),xH 39 (xC 43 .eql 42 0),xN 44 39 43,xm 45 44,xH 45 (xm 46 1),xH 45 (xc 47 40 [xj 5]),xH 45 (xL 48 6 8),xH 45 (xL 49 4 13),xH 45 (xq 50 34 [xt 46,xt 47,xt 48,xt 49]),xH 45 (xC 51 .eql 50 0),xN 52 45 51,xm 53 52,xH 53 (xm 54 1),xH 53 (xc 55 40 [xj 5]),xH 53 (xL 56 6 8),xH 53 (xL 57 7 13),xH 53 (xq 58 34 [xt 54,xt 55,xt 56,xt 57]),xH 53 (xC 59 .neq 58 0),xN 60 53 59,xm 0 60]
def c20:AC:=xS AN9 [] (xS AN8 [1] (xS AN7 [1,2,3] (xQ AN6 [1,2,25] 25 (xE AN5 [0]) (xS AN4 [1,2,4,5] (xS AN3 [1,4,5,6] (xS AN2 [1,4,5,6,7] (xS AN1 [1,4,5,6,7] (.seq (.regD AN0 [0] (xK [[],[0],[1],[2],[3],[4],[5],[6],[7],[8],[8],[8],[8],[9,10,11,12],[13],[14],[15],[16],[16],[16],[16],[17,18,19,20],[21],[22],[23]])) .ret))))))))
def AOA:List AR:=[.t 0]
theorem k20:AU 20 0 c20 AOA:=by kernel_rfl
def ACu:=[xr 4 84 4,xv 5 0]
def ACt:=[xm 14 0,xm 15 1,x2 16 63 14 15,xm 6 16]
def ACs:=[xm 17 6,xC 18 .neq 17 0]
def ANX:=[xm 19 6,xr 4 84 4,xm 5 19]
def ACr:=[xo (.mkm 20),xm 7 20]
def ACq:=[xn 21 0,xm 22 1,xC 23 .add 22 1,xp 24 (.slc (xt 21) none (some (xt 23)) 5),xA 25 24,xv 26 0]
def ACp:=[xB 27 .lss 26 25]
def ACo:=[xm 28 26,xI 29 24 26 5,xL 30 29 5,xo (.alloc 9 zl5),xm 8 28,xs 9 30 5]
def ACn:=[xL 32 9 5,xm 33 7,x2 34 64 32 33,xn 31 34,xe 35 31 0,xe 36 31 1,xn 10 35,xm 11 36]
def jS:=[xm 37 11]
def RI:=[xm 38 7,xm 39 8,xn 40 10,xo (.mput (xt 38) (xt 39) (xt 40) false [0])]
def RH:=xW 41 26
def jW:AC:=xS ACp [1,7,24,25,26,27] (.seq (xD 27 0) (.seq (.block 1 (xS ACo [1,7,8,9,24,25,26] (xS ACn [1,7,8,10,11,24,25,26] (xS jS [1,7,8,10,24,25,26,37] (.cond (xt 37) (.reg RI [1,7,24,25,26]) .skip))))) (.reg RH [1,7,24,25,26])))
def jV:=[xm 43 7,xm 44 1,xp 45 (.look (xt 43) (xt 44) false [0] [.nil 84 4] false true),xn 42 45,xe 46 42 0,xe 47 42 1,xn 12 46,xm 13 47]
def jU:=[xm 48 13,xT 49 48]
def AHC:=[xr 4 84 4,xv 5 4]
def jT:=[xn 50 12,xn 4 50,xv 5 0]
def c24:AC:=xS ACu [0,1] (.seq (xS ACt [0,1,6] (xS ACs [0,1,6,18] (.cond (xt 18) (xE ANX [4,5]) .skip))) (xS ACr [0,1,7] (.seq (xS ACq [1,7,24,25,26] (.block 0 (.loop jW))) (xS jV [12,13] (xQ jU [12,49] 49 (xE AHC [4,5]) (xE jT [4,5]))))))
def ANY:List AR:=[.t 4,.t 5]
theorem k24:AU 24 2 c24 ANY:=by kernel_rfl
def ACl:=[xx 3 0,xx 4 1,xx 5 2,xo (.alloc 6 [.v (.bool false)]),xo (.alloc 7 [xz])]
def ACk:=[xl 10 3 1,xp 11 (.eqP false (xt 10) (.c (.v .nilp)))]
def ANR:=[xo (.store (xt 6) (xy false) 1),xo (.store (xt 7) (xi 1) 1)]
def ACj:=[xL 12 4 4,x1 13 66 12,xL 14 5 3,x1 15 67 14,xo (.bsl 16 37 1 [xt 13,xt 15]),x1 17 65 16,xm 8 17]
def ACi:=[xm 18 8,xC 19 .neq 18 0]
def ACh:=[xm 20 8,xo (.store (xt 6) (xy false) 1),xs 7 20 1]
def ACg:=[xL 21 4 4,x1 22 68 21]
def ACf:=[xo (.alloc 9 zl6),xs 9 23 4]
def ACe:=[xa 24 9 0 1,xl 25 24 1,xC 26 .eql 25 1,xm 27 26,xH 27 (xa 28 9 1 1),xH 27 (xl 29 28 1),xH 27 (xl 30 3 1),xH 27 (xq 31 69 [xt 30]),xH 27 (xB 32 .geq 29 31),xN 33 27 32]
def iu:=[xo (.store (xt 6) (xy false) 1),xo (.store (xt 7) (xi 7) 1)]
def Ue:AC:=.reg ACf [3,6,7,9]
def Ud:AC:=.block 1 (.seq (.regA ACe [6,7,33] (xK [[],[0],[1],[2],[3],[4],[3],[6],[5,7],[8]]) (.take 0 (.take 1 (.take 2 (.take 3 (.take 4 (.take 6 (.pick (.alt 5 (.take 7 tq2) (.alt 7 (.take 5 tq2) .none)))))))))) (.cond (xt 33) (xE iu []) .skip))
def iv:=[xL 34 5 3,xl 35 3 1,xq 36 69 [xt 35],x2 37 70 34 36,xT 38 37]
def RC:=[xo (.store (xt 6) (xy false) 1),xo (.store (xt 7) (xi 7) 1)]
def Q9:=[xl 39 3 1,xL 40 4 4,xL 41 5 3,x3 42 71 39 40 41,xs 6 42 1,xo (.store (xt 7) (xi 0) 1)]
def c25:AC:=xS ACl [3,4,5,6,7] (xQ ACk [3,4,5,6,7,11] 11 (xE ANR [6,7]) (.seq (.seq (.regD ACj [3,4,5,6,7,8] (xK [[],[0],[],[1,2],[3],[4],[5]])) (xS ACi [3,4,5,6,7,8,19] (.cond (xt 19) (xE ACh [6,7]) .skip))) (.seq (xS ACg [3,4,5,6,7,22] (.block 0 (.rangeF (xt 22) [23] Ue Ud))) (.seq (.seq (.regA iv [3,4,5,6,7,38] (xK [[],[],[1],[0,2],[3]]) (.take 1 (.pick (.alt 0 (.take 2 tq3) (.alt 2 (.take 0 tq3) .none))))) (.cond (xt 38) (xE RC [6,7]) .skip)) (xE Q9 [6,7])))))
def RD:List AR:=[.c 6 1 false,.c 7 1 false]
theorem k25:AU 25 3 c25 RD:=by kernel_rfl
def ACE:=[xx 6 2,xx 7 3,xv 8 0]
def ACD:=[xm 22 0,xp 23 (.eqP false (xt 22) (.c (.v .nilp)))]
def AMq:=[xv 8 1]
def ACC:=[xm 24 1,xL 25 6 8,x2 26 86 24 25,xm 9 26]
def ACB:=[xm 27 9,xC 28 .neq 27 0]
def AMp:=[xm 29 9,xm 8 29]
def ACA:=[xL 30 7 13,x1 31 87 30,xm 10 31]
def AB9:=[xm 32 10,xC 33 .neq 32 0]
def AMo:=[xm 34 10,xm 8 34]
def AB8:=[xr 11 193 2]
def cZ:=[xa 35 7 7 1,xl 36 35 1,xA 37 36,xv 38 0]
def cY:=[xB 39 .lss 38 37]
def cX:=[xI 40 36 38 8,xL 41 40 8,xo (.alloc 13 zl1),xs 13 41 8]
def cW:=[xL 43 13 8,x1 44 51 43,xn 42 44,xe 45 42 0,xe 46 42 1,xn 14 45,xm 15 46]
def cV:=[xm 47 15,xC 48 .neq 47 0]
def AGE:=[xm 49 15,xm 8 49]
def cU:=[xn 50 11,xa 51 13 0 1,xl 52 51 1,xn 53 14,xp 54 (.build [xz,.nil 5 1] [(0,1,xt 52),(1,1,xt 53)]),xo (.bsl 55 193 2 [xt 54]),xo (.app 56 (xu 50) (xt 55) 193 2 32),xn 11 56]
def cT:=xW 57 38
def ca:AC:=xS cY [0,6,7,11,36,37,38,39] (.seq (xD 39 0) (.seq (.block 1 (xS cX [0,6,7,11,13,36,37,38] (xS cW [0,6,7,11,13,14,15,36,37,38] (xQ cV [0,6,7,11,13,14,15,36,37,38,48] 48 (xE AGE [8]) (.reg cU [0,6,7,11,36,37,38]))))) (.reg cT [0,6,7,11,36,37,38])))
def cR:=[xL 59 7 13,x1 60 88 59,xn 58 60,xe 61 58 0,xe 62 58 1,xm 16 61,xm 17 62]
def cQ:=[xa 63 6 5 1,xl 64 63 1,xm 65 16,xm 66 17,xn 67 11,xa 68 7 10 3,xL 69 68 3,xc 70 89 [xt 64,xt 65,xt 66,xt 67,xt 69],xm 18 70]
def cP:=[xm 71 18,xC 72 .neq 71 0]
def AGD:=[xm 73 18,xm 8 73]
def cO:=[xm 75 0,xL 76 7 13,x2 77 90 75 76,xn 74 77,xe 78 74 0,xe 79 74 1,xe 80 74 2,xn 19 78,xn 20 79,xm 21 80]
def QZ:=[xm 82 21,xC 83 .neq 82 0,xm 81 83]
def AGC:=[xm 84 21,xm 8 84]
def QY:=[xn 86 19,xa 87 7 8 1,xl 88 87 1,x2 89 91 86 88,xT 90 89,xm 91 90,xF 91 (xn 92 20),xF 91 (xa 93 7 9 1),xF 91 (xl 94 93 1),xF 91 (x2 95 92 92 94),xF 91 (xT 96 95),xO 97 91 96,xm 85 97]
def Ki:=[xv 8 10]
def QX:=[xv 8 0]
def c34:AC:=xS ACE [0,1,6,7] (xQ ACD [0,1,6,7,23] 23 (xE AMq [8]) (.seq (xS ACC [0,6,7,9] (xS ACB [0,6,7,9,28] (.cond (xt 28) (xE AMp [8]) .skip))) (.seq (xS ACA [0,6,7,10] (xS AB9 [0,6,7,10,33] (.cond (xt 33) (xE AMo [8]) .skip))) (xS AB8 [0,6,7,11] (.seq (xS cZ [0,6,7,11,36,37,38] (.block 0 (.loop ca))) (xS cR [0,6,7,11,16,17] (.seq (xS cQ [0,7,18] (xS cP [0,7,18,72] (.cond (xt 72) (xE AGD [8]) .skip))) (xS cO [7,19,20,21] (.seq (.block 2 (xS QZ [7,19,20,21,81] (.cond (xt 81) (xE AGC [8]) (xS QY [85] (.cond (xt 85) (xE Ki [8]) .skip))))) (xE QX [8]))))))))))
def Wj:List AR:=[.t 8]
theorem k34:AU 34 4 c34 Wj:=by kernel_rfl
def AB5:=[xx 3 1,xo (.alloc 4 zl4)]
def AB4:=[xm 5 0,x1 6 40 5,xL 7 3 8,x2 8 95 6 7,xa 9 3 7 1,xs 9 8 1]
def AB3:=[xL 10 3 8,xs 4 10 8]
def c39:AC:=xS AB5 [0,3,4] (.seq (.regD AB4 [3,4] (xK [[],[0],[],[1,2],[3],[4]])) (xE AB3 [4]))
def AGB:List AR:=[.c 4 8 true]
theorem k39:AU 39 2 c39 AGB:=by kernel_rfl
def AB2:=[xo (.mv 2 (xj 0))]
def AB1:=[xm 3 0,xp 4 (.cint .i64 (xt 3)),xo (.bsl 5 3 1 [xt 4]),xc 6 96 [(.c (.v (.str ⟨#[107,101,121]⟩))),xt 5],xm 2 6]
def c40:AC:=xS AB2 [0] (xE AB1 [2])
def AGA:List AR:=[.t 2]
theorem k40:AU 40 1 c40 AGA:=by kernel_rfl
def AB0:=[xo (.mv 2 (.c (.v .nilp)))]
def ABz:=[xn 3 0,x1 4 117 3,xp 5 (.build [.nil 5 1,xz] [(0,1,xt 4)]),xx 6 5,xm 2 6]
def c44:AC:=xS AB0 [0] (xE ABz [2])
def AMT:List AR:=[.t 2]
theorem k44:AU 44 1 c44 AMT:=by kernel_rfl
def ABy:=[xv 2 0]
def ABx:=[xm 3 0,x1 4 119 3,x1 5 118 4,xm 2 5]
def c45:AC:=xS ABy [0] (xE ABx [2])
def AMS:List AR:=[.t 2]
theorem k45:AU 45 1 c45 AMS:=by kernel_rfl
def ABw:=[xo (.mv 2 (.c (.v .nilp))),xv 3 0]
def ABv:=[xm 8 0,xA 9 8,xm 4 9]
def ABu:=[xm 10 4,xC 11 .gtr 10 64]
def AMQ:=[xo (.mv 2 (.c (.v .nilp))),xv 3 4]
def ABt:=[xp 12 (.build (.nil 22 1::List.replicate 4096 (.v (.bool false))) []),xx 13 12,xm 5 13]
def ABs:=[xn 14 0,xA 15 14,xv 16 0]
def ABr:=[xB 17 .lss 16 15]
def ABq:=[xI 18 14 16 1,xl 19 18 1,xn 7 19]
def ABp:=[xm 20 4,xm 21 7,x2 22 120 20 21,xT 23 22,xm 24 23,xF 24 (xm 25 7),xF 24 (x1 26 121 25),xF 24 (xT 27 26),xO 28 24 27]
def AMP:=[xo (.mv 2 (.c (.v .nilp))),xv 3 1]
def b8:=[xm 29 5,xm 30 5,xZ 31 30,xa 32 31 0 1,xo (.take 33 (xt 32)),xn 34 7,x1 35 122 34,xo (.bsl 36 22 1 [xt 35]),xo (.app 37 (xu 33) (xt 36) 22 1 24),xZ 38 29,xa 39 38 0 1,xo (.store (xt 39) (xu 37) 1)]
def b7:=xW 40 16
def b9:AC:=xS ABr [4,5,14,15,16,17] (.seq (xD 17 0) (.seq (.block 1 (xS ABq [4,5,7,14,15,16] (xQ ABp [4,5,7,14,15,16,28] 28 (xE AMP [2,3]) (.regD b8 [4,5,14,15,16] (xK [[],[],[1],[2],[3],[],[5],[6],[4,7],[0,8],[9],[10]]))))) (.reg b7 [4,5,14,15,16])))
def bz:=[xm 41 5,x1 42 123 41,xT 43 42]
def AF9:=[xo (.mv 2 (.c (.v .nilp))),xv 3 9]
def bx:=[xm 44 5,xm 2 44,xv 3 0]
def c46:AC:=xS ABw [0] (xS ABv [0,4] (xQ ABu [0,4,11] 11 (xE AMQ [2,3]) (xS ABt [0,4,5] (.seq (xS ABs [4,5,14,15,16] (.block 0 (.loop b9))) (xQ bz [5,43] 43 (xE AF9 [2,3]) (xE bx [2,3]))))))
def AMR:List AR:=[.t 2,.t 3]
theorem k46:AU 46 1 c46 AMR:=by kernel_rfl
def UJ:=[xv 6 0]
def UI:=[xm 7 1,xC 8 .lss 7 0,xm 9 8,xF 9 (xm 10 1),xF 9 (xm 11 0),xF 9 (xA 12 11),xF 9 (xB 13 .geq 10 12),xO 14 9 13]
def bt:=[xv 6 0]
def ABo:=[xn 15 0,xm 16 1,xI 17 15 16 1,xl 18 17 1,xm 19 2,x2 20 11 18 19,xm 6 20]
def c47:AC:=xS UJ [0,1,2] (xQ UI [0,1,2,14] 14 (xE bt [6]) (xE ABo [6]))
def vW:List AR:=[.t 6]
theorem k47:AU 47 3 c47 vW:=by kernel_rfl
def bq:=[xo (.alloc 2 zl0)]
def bp:=[xm 9 0,xc 10 47 [xt 9,xi 0,xi 40],xm 11 0,xc 12 47 [xt 11,xi 1,xi 5],xm 13 0,x1 14 124 13,xp 15 (.build [xz,xz,xz,.nil 130 5,.nil 131 4,.nil 3 1,.nil 135 3,.nil 137 4] [(0,1,xt 10),(1,1,xt 12),(3,1,xt 14)]),xo (.alloc 3 zl0),xs 3 15 8]
def bd:=[xm 16 0,xc 17 47 [xt 16,xi 2,xi 3],xC 18 .eql 17 0]
def bc:=[xm 19 0,xc 20 47 [xt 19,xi 3,xi 5],xa 21 3 2 1,xs 21 20 1]
def ba:=[xv 4 0]
def ABn:=[xm 22 4,xa 23 3 3 1,xl 24 23 1,xA 25 24,xB 26 .lss 22 25]
def ABm:=[xm 29 0,xm 30 4,xb 31 .add (xi 4) (xt 30),xc 32 47 [xt 29,xt 31,xi 1000],xm 5 32]
def ABl:=[xa 33 3 4 1,xo (.take 34 (xt 33)),xm 35 4,xm 36 5,xC 37 .rem 36 3,xp 38 (.build zl7 [(0,1,xt 35),(1,1,xt 37)]),xm 39 5,xC 40 .rem 39 50,xb 41 .add (xi 36000) (xt 40),xm 42 5,xC 43 .rem 42 20,xp 44 (.build zl8 [(0,2,xt 38),(2,1,xt 41),(3,1,xt 43)]),xo (.bsl 45 131 4 [xt 44]),xo (.app 46 (xu 34) (xt 45) 131 4 32),xa 47 3 4 1,xo (.store (xt 47) (xu 46) 1)]
def bY:=[xm 48 5,xC 49 .rem 48 5,xC 50 .eql 49 0]
def bj:=[xa 51 3 5 1,xo (.take 52 (xt 51)),xm 53 4,xo (.bsl 54 3 1 [xt 53]),xo (.app 55 (xu 52) (xt 54) 3 1 8),xa 56 3 5 1,xo (.store (xt 56) (xu 55) 1)]
def bZ:=xV 27 4 28
def UH:AC:=.seq (xS ABn [0,2,3,4,26] (xD 26 0)) (.seq (.block 1 (xS ABm [0,2,3,4,5] (xS ABl [0,2,3,4,5] (xS bY [0,2,3,4,50] (.cond (xt 50) (.reg bj [0,2,3,4]) .skip))))) (.reg bZ [0,2,3,4]))
def QU:=[xm 57 0,xc 58 47 [xt 57,xi 8,xi 3],xm 6 58]
def QT:=[xv 7 0]
def bh:=[xm 59 7,xm 60 6,xB 61 .lss 59 60]
def bg:=[xm 64 0,xm 65 7,xb 66 .add (xi 9) (xt 65),xc 67 47 [xt 64,xt 66,xi 1000],xm 8 67]
def bf:=[xa 68 3 6 1,xo (.take 69 (xt 68)),xm 70 7,xb 71 .mul (xi 2) (xt 70),xb 72 .add (xi 1) (xt 71),xm 73 8,xC 74 .rem 73 2,xB 75 .add 72 74,xm 76 6,xp 77 (.build zl7 [(0,1,xi 1),(1,1,xt 76)]),xp 78 (.build zl9 [(0,1,xt 75),(1,2,xt 77)]),xo (.bsl 79 135 3 [xt 78]),xo (.app 80 (xu 69) (xt 79) 135 3 24),xa 81 3 6 1,xo (.store (xt 81) (xu 80) 1)]
def QR:=[xm 82 8,xC 83 .rem 82 3,xC 84 .eql 83 0]
def be:=[xa 85 3 7 1,xo (.take 86 (xt 85)),xm 87 8,xC 88 .rem 87 5,xb 89 .add (xi 1) (xt 88),xm 90 8,xC 91 .rem 90 7,xb 92 .add (xi 2) (xt 91),xm 93 8,xm 94 8,xm 95 8,xC 96 .quo 95 7,xB 97 .add 94 96,xp 98 (.build zl8 [(0,1,xt 89),(1,1,xt 92),(2,1,xt 93),(3,1,xt 97)]),xo (.bsl 99 137 4 [xt 98]),xo (.app 100 (xu 86) (xt 99) 137 4 32),xa 101 3 7 1,xo (.store (xt 101) (xu 100) 1)]
def QS:=xV 62 7 63
def UG:AC:=.seq (xS bh [0,2,3,6,7,61] (xD 61 2)) (.seq (.block 3 (xS bg [0,2,3,6,7,8] (xS bf [0,2,3,6,7,8] (xS QR [0,2,3,6,7,8,84] (.cond (xt 84) (.reg be [0,2,3,6,7]) .skip))))) (.reg QS [0,2,3,6,7]))
def QQ:=[xL 102 3 8,xs 2 102 8]
def c48:AC:=xS bq [0,2] (xS bp [0,2,3] (xQ bd [0,2,3,18] 18 (.reg bc [0,2,3]) (.seq (xS ba [0,2,3,4] (.block 0 (.loop UH))) (xS QU [0,2,3,6] (.seq (xS QT [0,2,3,6,7] (.block 2 (.loop UG))) (xE QQ [2]))))))
def AF8:List AR:=[.c 2 8 true]
theorem k48:AU 48 1 c48 AF8:=by kernel_rfl
def bX:=[xx 1 0,xw 2 false]
def bW:=[xa 12 1 3 1,xl 13 12 1,xA 14 13,xm 3 14]
def bO:=[xa 15 1 0 1,xl 16 15 1,xc 17 125 [xt 16,xi 0,xi 4095],xT 18 17,xm 19 18,xF 19 (xa 20 1 1 1),xF 19 (xl 21 20 1),xF 19 (xc 22 125 [xt 21,xi 0,xi 4]),xF 19 (xT 23 22),xO 24 19 23,xm 25 24,xF 25 (xa 26 1 2 1),xF 25 (xl 27 26 1),xF 25 (xc 28 125 [xt 27,xi 0,xi 4]),xF 25 (xT 29 28),xO 30 25 29,xm 31 30,xF 31 (xa 32 1 3 1),xF 31 (xl 33 32 1),xF 31 (x1 34 126 33),xF 31 (xC 35 .neq 34 0),xO 36 31 35,xm 37 36,xF 37 (xa 38 1 4 1),xF 37 (xl 39 38 1),xF 37 (xA 40 39),xF 37 (xC 41 .gtr 40 4096),xO 42 37 41,xm 43 42,xF 43 (xa 44 1 7 1),xF 43 (xl 45 44 1),xF 43 (xA 46 45),xF 43 (xC 47 .gtr 46 4096),xO 48 43 47]
def JT:=[xw 2 false]
def bG:=[xo (.mv 4 (.c (.v (.int .i64 (-1)))))]
def bF:=[xv 5 0]
def ABk:=[xm 49 5,xa 50 1 4 1,xl 51 50 1,xA 52 51,xB 53 .lss 49 52]
def ABi:=[xa 56 1 4 1,xl 57 56 1,xm 58 5,xI 59 57 58 4,xL 60 59 4,xo (.alloc 6 zl8),xs 6 60 4]
def bE:=[xa 61 6 0 2,xa 62 61 0 1,xl 63 62 1,xm 64 3,xC 65 .sub 64 1,xc 66 125 [xt 63,xi 0,xt 65],xT 67 66,xm 68 67,xF 68 (xa 69 6 0 2),xF 68 (xa 70 69 1 1),xF 68 (xl 71 70 1),xF 68 (xc 72 125 [xt 71,xi 0,xi 63]),xF 68 (xT 73 72),xO 74 68 73,xm 75 74,xF 75 (xa 76 6 2 1),xF 75 (xl 77 76 1),xF 75 (xc 78 125 [xt 77,xi 0,xi 131072]),xF 75 (xT 79 78),xO 80 75 79,xm 81 80,xF 81 (xa 82 6 3 1),xF 81 (xl 83 82 1),xF 81 (xc 84 125 [xt 83,xi 0,xi 4095]),xF 81 (xT 85 84),xO 86 81 85,xm 87 86,xF 87 (xa 88 6 0 2),xF 87 (xa 89 88 0 1),xF 87 (xl 90 89 1),xF 87 (xb 91 .mul (xi 64) (xt 90)),xF 87 (xa 92 6 0 2),xF 87 (xa 93 92 1 1),xF 87 (xl 94 93 1),xF 87 (xB 95 .add 91 94),xF 87 (xm 96 4),xF 87 (xB 97 .leq 95 96),xO 98 87 97]
def bV:=[xw 2 false]
def bU:=[xa 99 6 0 2,xa 100 99 0 1,xl 101 100 1,xb 102 .mul (xi 64) (xt 101),xa 103 6 0 2,xa 104 103 1 1,xl 105 104 1,xB 106 .add 102 105,xm 4 106]
def ABj:=xV 54 5 55
def UF:AC:=.seq (xS ABk [1,3,4,5,53] (xD 53 0)) (.seq (.block 1 (xS ABi [1,3,4,5,6] (xQ bE [1,3,5,6,98] 98 (xE bV [2]) (.reg bU [1,3,4,5])))) (.reg ABj [1,3,4,5]))
def QP:=[xv 7 0]
def bT:=[xm 107 7,xa 108 1 5 1,xl 109 108 1,xA 110 109,xB 111 .lss 107 110]
def QO:=[xa 114 1 5 1,xl 115 114 1,xm 116 7,xI 117 115 116 1,xl 118 117 1,xm 119 3,xC 120 .sub 119 1,xc 121 125 [xt 118,xi 0,xt 120],xT 122 121,xm 123 122,xF 123 (xm 124 7),xF 123 (xC 125 .gtr 124 0),xF 123 (xm 126 125),xH 126 (xa 127 1 5 1),xH 126 (xl 128 127 1),xH 126 (xm 129 7),xH 126 (xI 130 128 129 1),xH 126 (xl 131 130 1),xH 126 (xa 132 1 5 1),xH 126 (xl 133 132 1),xH 126 (xm 134 7),xH 126 (xC 135 .sub 134 1),xH 126 (xI 136 133 135 1),xH 126 (xl 137 136 1),xH 126 (xB 138 .leq 131 137),xF 123 (xN 139 126 138),xO 140 123 139]
def bR:=[xw 2 false]
def bS:=xV 112 7 113
def UE:AC:=.seq (xS bT [1,3,7,111] (xD 111 2)) (.seq (.block 3 (.seq (.regD QO [1,3,7,140] (xK [[],[0],[],[1,2],[3],[],[5],[4,6],[7],[8],[9],[10],[11],[12],[13],[12],[14,15],[16],[12],[18],[12],[20],[19,21],[22],[17,23],[24],[25]])) (.cond (xt 140) (xE bR [2]) .skip))) (.reg bS [1,3,7]))
def QN:=[xv 8 0]
def bQ:=[xm 141 8,xa 142 1 6 1,xl 143 142 1,xA 144 143,xB 145 .lss 141 144]
def bN:=[xa 148 1 6 1,xl 149 148 1,xm 150 8,xI 151 149 150 3,xL 152 151 3,xo (.alloc 9 zl9),xs 9 152 3]
def QM:=[xa 153 9 0 1,xl 154 153 1,xc 155 125 [xt 154,xi 1,xi 4095],xT 156 155,xm 157 156,xF 157 (xa 158 9 1 2),xF 157 (xL 159 158 2),xF 157 (x1 160 127 159),xF 157 (xC 161 .neq 160 0),xO 162 157 161,xm 163 162,xF 163 (xa 164 9 1 2),xF 163 (xa 165 164 0 1),xF 163 (xl 166 165 1),xF 163 (xC 167 .leq 166 0),xO 168 163 167,xm 169 168,xF 169 (xa 170 9 1 2),xF 169 (xa 171 170 0 1),xF 169 (xl 172 171 1),xF 169 (xa 173 9 1 2),xF 169 (xa 174 173 1 1),xF 169 (xl 175 174 1),xF 169 (xB 176 .gtr 172 175),xO 177 169 176,xm 178 177,xF 178 (xm 179 8),xF 178 (xC 180 .gtr 179 0),xF 178 (xm 181 180),xH 181 (xa 182 9 0 1),xH 181 (xl 183 182 1),xH 181 (xa 184 1 6 1),xH 181 (xl 185 184 1),xH 181 (xm 186 8),xH 181 (xC 187 .sub 186 1),xH 181 (xI 188 185 187 3),xH 181 (xa 189 188 0 1),xH 181 (xl 190 189 1),xH 181 (xB 191 .leq 183 190),xF 178 (xN 192 181 191),xO 193 178 192]
def bM:=[xw 2 false]
def bP:=xV 146 8 147
def UD:AC:=.seq (xS bQ [1,8,145] (xD 145 4)) (.seq (.block 5 (xS bN [1,8,9] (.seq (.regD QM [1,8,193] (xK [[],[0],[1],[2],[3],[4],[5],[6],[7],[8],[9],[10],[11],[12],[13],[14],[15],[16],[17],[18],[16],[20],[21],[19,22],[23],[24],[25],[26],[27],[28],[29],[28],[31],[28],[33],[32,34],[35],[36],[30,37],[38],[39]])) (.cond (xt 193) (xE bM [2]) .skip)))) (.reg bP [1,8]))
def QL:=[xv 10 0]
def bL:=[xm 194 10,xa 195 1 7 1,xl 196 195 1,xA 197 196,xB 198 .lss 194 197]
def bJ:=[xa 201 1 7 1,xl 202 201 1,xm 203 10,xI 204 202 203 4,xL 205 204 4,xo (.alloc 11 zl8),xs 11 205 4]
def QK:=[xa 206 11 0 1,xl 207 206 1,xc 208 125 [xt 207,xi 1,xi 4095],xT 209 208,xm 210 209,xF 210 (xa 211 11 1 1),xF 210 (xl 212 211 1),xF 210 (xc 213 125 [xt 212,xi 1,xi 4095]),xF 210 (xT 214 213),xO 215 210 214,xm 216 215,xF 216 (xa 217 11 2 1),xF 216 (xl 218 217 1),xF 216 (xa 219 11 3 1),xF 216 (xl 220 219 1),xF 216 (xc 221 125 [xt 218,xi 0,xt 220]),xF 216 (xT 222 221),xO 223 216 222,xm 224 223,xF 224 (xa 225 11 3 1),xF 224 (xl 226 225 1),xF 224 (xC 227 .gtr 226 131072),xO 228 224 227]
def bI:=[xw 2 false]
def bK:=xV 199 10 200
def UC:AC:=.seq (xS bL [1,10,198] (xD 198 6)) (.seq (.block 7 (xS bJ [1,10,11] (xS QK [1,10,228] (.cond (xt 228) (xE bI [2]) .skip)))) (.reg bK [1,10]))
def QJ:=[xw 2 true]
def c49:AC:=xS bX [1] (xS bW [1,3] (xQ bO [1,3,48] 48 (xE JT [2]) (xS bG [1,3,4] (.seq (xS bF [1,3,4,5] (.block 0 (.loop UF))) (.seq (xS QP [1,3,7] (.block 2 (.loop UE))) (.seq (xS QN [1,8] (.block 4 (.loop UD))) (.seq (xS QL [1,10] (.block 6 (.loop UC))) (xE QJ [2]))))))))
def Iu:List AR:=[.t 2]
theorem k49:AU 49 1 c49 Iu:=by kernel_rfl
def ABS:=[xo (.mv 0 (.c (.v .nilp)))]
def ABR:=[xo (.mkm 1),xo (.mkm 2),xp 3 (.build [.v .nilm,.v .nilm] [(0,1,xt 1),(1,1,xt 2)]),xx 4 3,xm 0 4]
def c50:AC:=xS ABS [] (xE ABR [0])
def AFs:List AR:=[.t 0]
theorem k50:AU 50 0 c50 AFs:=by kernel_rfl
def aj:=[xx 1 0,xr 2 5 1,xv 3 0]
def ah:=[xL 14 1 8,x1 15 128 14,xT 16 15]
def ABQ:=[xr 2 5 1,xv 3 1]
def ABP:=[xo (.alloc 4 [.own 5 1 []])]
def ABO:=[xp 17 (.mkf 129 [xt 4]),xm 5 17]
def ABN:=[xm 18 5,xa 19 1 0 1,xl 20 19 1,xa 21 1 1 1,xl 22 21 1,xa 23 1 2 1,xl 24 23 1,xo (.bsl 25 3 1 [xt 20,xt 22,xt 24]),xo (.call (some 26) (xt 18) [xt 25])]
def ABM:=[xa 28 1 3 1,xl 29 28 1,x1 30 130 29,xn 27 30,xe 31 27 0,xe 32 27 1,xn 6 31,xm 7 32]
def ABL:=[xn 33 6,x2 34 99 4 33]
def ABK:=[xm 35 5,xa 36 1 4 1,xl 37 36 1,xA 38 37,xo (.bsl 39 3 1 [xt 38]),xo (.call (some 40) (xt 35) [xt 39])]
def ABJ:=[xa 41 1 4 1,xl 42 41 1,xA 43 42,xv 44 0]
def af:=[xB 45 .lss 44 43]
def ae:=[xI 46 42 44 4,xL 47 46 4,xo (.alloc 9 zl8),xs 9 47 4]
def aZ:=[xm 48 5,xa 49 9 0 2,xa 50 49 0 1,xl 51 50 1,xa 52 9 0 2,xa 53 52 1 1,xl 54 53 1,xa 55 9 2 1,xl 56 55 1,xa 57 9 3 1,xl 58 57 1,xo (.bsl 59 3 1 [xt 51,xt 54,xt 56,xt 58]),xo (.call (some 60) (xt 48) [xt 59])]
def aY:=xW 61 44
def aq:AC:=xS af [1,4,5,42,43,44,45] (.seq (xD 45 0) (.seq (.block 1 (xS ae [1,4,5,9,42,43,44] (.reg aZ [1,4,5,42,43,44]))) (.reg aY [1,4,5,42,43,44])))
def aX:=[xa 62 1 5 1,xl 63 62 1,x2 64 100 4 63]
def aW:=[xm 65 5,xa 66 1 6 1,xl 67 66 1,xA 68 67,xo (.bsl 69 3 1 [xt 68]),xo (.call (some 70) (xt 65) [xt 69])]
def aV:=[xa 71 1 6 1,xl 72 71 1,xA 73 72,xv 74 0]
def aU:=[xB 75 .lss 74 73]
def aT:=[xI 76 72 74 3,xL 77 76 3,xo (.alloc 11 zl9),xs 11 77 3]
def aS:=[xm 78 5,xa 79 11 0 1,xl 80 79 1,xa 81 11 1 2,xa 82 81 0 1,xl 83 82 1,xa 84 11 1 2,xa 85 84 1 1,xl 86 85 1,xo (.bsl 87 3 1 [xt 80,xt 83,xt 86]),xo (.call (some 88) (xt 78) [xt 87])]
def aR:=xW 89 74
def ap:AC:=xS aU [1,4,5,72,73,74,75] (.seq (xD 75 2) (.seq (.block 3 (xS aT [1,4,5,11,72,73,74] (.reg aS [1,4,5,72,73,74]))) (.reg aR [1,4,5,72,73,74])))
def aQ:=[xm 90 5,xa 91 1 7 1,xl 92 91 1,xA 93 92,xo (.bsl 94 3 1 [xt 93]),xo (.call (some 95) (xt 90) [xt 94])]
def aP:=[xa 96 1 7 1,xl 97 96 1,xA 98 97,xv 99 0]
def aO:=[xB 100 .lss 99 98]
def aN:=[xI 101 97 99 4,xL 102 101 4,xo (.alloc 13 zl8),xs 13 102 4]
def aM:=[xm 103 5,xa 104 13 0 1,xl 105 104 1,xa 106 13 1 1,xl 107 106 1,xa 108 13 2 1,xl 109 108 1,xa 110 13 3 1,xl 111 110 1,xo (.bsl 112 3 1 [xt 105,xt 107,xt 109,xt 111]),xo (.call (some 113) (xt 103) [xt 112])]
def aL:=xW 114 99
def am:AC:=xS aO [4,5,97,98,99,100] (.seq (xD 100 4) (.seq (.block 5 (xS aN [4,5,13,97,98,99] (.reg aM [4,5,97,98,99]))) (.reg aL [4,5,97,98,99])))
def aK:=[x1 115 102 4,xn 2 115,xv 3 0]
def c51:AC:=xS aj [1] (xQ ah [1,16] 16 (xE ABQ [2,3]) (xS ABP [1,4] (xS ABO [1,4,5] (xS ABN [1,4,5] (xS ABM [1,4,5,6] (xS ABL [1,4,5] (xS ABK [1,4,5] (.seq (xS ABJ [1,4,5,42,43,44] (.block 0 (.loop aq))) (xS aX [1,4,5] (xS aW [1,4,5] (.seq (xS aV [1,4,5,72,73,74] (.block 2 (.loop ap))) (xS aQ [1,4,5] (.seq (xS aP [4,5,97,98,99] (.block 4 (.loop am))) (xE aK [2,3]))))))))))))))
def vS:List AR:=[.t 2,.t 3]
theorem k51:AU 51 1 c51 vS:=by kernel_rfl
def UB:=[xv 6 0]
def UA:=[xm 8 1,x1 9 131 8,xT 10 9,xm 7 10]
def ABI:=[xv 6 5]
def aJ:=[xm 12 2,xA 13 12,xC 14 .gtr 13 65536,xm 11 14]
def ABH:=[xv 6 4]
def ABG:=[xm 15 0,xZ 16 15,xa 17 16 0 1,xl 18 17 1,xm 19 1,xm 20 2,x1 21 117 20,xo (.mput (xt 18) (xt 19) (xt 21) false [0])]
def aI:=[xm 22 0,xm 23 1,xm 24 1,xn 25 2,x2 26 133 24 25,xp 27 (.build zl10 [(0,1,xt 26),(1,1,xy true)]),x3 28 132 22 23 27]
def aH:=[xv 6 0]
def c52:AC:=xS UB [0,1,2] (.seq (.block 0 (xS UA [0,1,2,7] (.cond (xt 7) (xE ABI [6]) (xS aJ [0,1,2,11] (.cond (xt 11) (xE ABH [6]) .skip))))) (.seq (.regD ABG [0,1,2] (xK [[],[0],[1],[2],[],[],[5],[3,4,6]])) (xS aI [] (xE aH [6]))))
def Wi:List AR:=[.t 6]
theorem k52:AU 52 3 c52 Wi:=by kernel_rfl
def ABF:=[xx 1 0,xo (.alloc 2 zl1)]
def ABE:=[xa 8 1 0 1,xl 9 8 1,xa 10 1 1 1,xl 11 10 1,xa 12 1 2 1,xl 13 12 1,xa 14 1 3 1,xl 15 14 1,xa 16 1 5 1,xl 17 16 1,xp 18 (.build zl2 [(0,1,xt 9),(1,1,xt 11),(2,1,xt 13),(3,1,xt 15),(5,1,xt 17)]),xo (.alloc 3 zl1),xs 3 18 8]
def ABD:=[xv 4 0]
def ABC:=[xm 19 4,xa 20 1 4 1,xl 21 20 1,xA 22 21,xB 23 .lss 19 22]
def ABA:=[xa 26 3 4 1,xo (.take 27 (xt 26)),xa 28 1 4 1,xl 29 28 1,xm 30 4,xI 31 29 30 4,xa 32 31 0 2,xL 33 32 2,xa 34 1 4 1,xl 35 34 1,xm 36 4,xI 37 35 36 4,xa 38 37 2 1,xl 39 38 1,xa 40 1 4 1,xl 41 40 1,xm 42 4,xI 43 41 42 4,xa 44 43 3 1,xl 45 44 1,xp 46 (.build zl8 [(0,2,xt 33),(2,1,xt 39),(3,1,xt 45)]),xo (.bsl 47 88 4 [xt 46]),xo (.app 48 (xu 27) (xt 47) 88 4 32),xa 49 3 4 1,xo (.store (xt 49) (xu 48) 1)]
def ABB:=xV 24 4 25
def aG:AC:=.seq (xS ABC [1,2,3,4,23] (xD 23 0)) (.seq (.block 1 (.regD ABA [1,2,3,4] (xK [[],[0],[],[2],[],[3,4],[5],[6],[],[8],[],[9,10],[11],[12],[],[14],[],[15,16],[17],[18],[7,13,19],[20],[1,21],[22],[23]]))) (.reg ABB [1,2,3,4]))
def AA9:=[xv 5 0]
def AA8:=[xm 50 5,xa 51 1 6 1,xl 52 51 1,xA 53 52,xB 54 .lss 50 53]
def AA6:=[xa 57 3 6 1,xo (.take 58 (xt 57)),xa 59 1 6 1,xl 60 59 1,xm 61 5,xI 62 60 61 3,xa 63 62 0 1,xl 64 63 1,xa 65 1 6 1,xl 66 65 1,xm 67 5,xI 68 66 67 3,xa 69 68 1 2,xL 70 69 2,xp 71 (.build zl9 [(0,1,xt 64),(1,2,xt 70)]),xo (.bsl 72 246 3 [xt 71]),xo (.app 73 (xu 58) (xt 72) 246 3 24),xa 74 3 6 1,xo (.store (xt 74) (xu 73) 1)]
def AA7:=xV 55 5 56
def aF:AC:=.seq (xS AA8 [1,2,3,5,54] (xD 54 2)) (.seq (.block 3 (.regD AA6 [1,2,3,5] (xK [[],[0],[],[2],[],[3,4],[5],[6],[],[8],[],[9,10],[11],[12],[7,13],[14],[1,15],[16],[17]]))) (.reg AA7 [1,2,3,5]))
def aD:=[xv 6 0]
def aC:=[xm 75 6,xa 76 1 7 1,xl 77 76 1,xA 78 77,xB 79 .lss 75 78]
def aA:=[xa 82 1 7 1,xl 83 82 1,xm 84 6,xI 85 83 84 4,xL 86 85 4,xo (.alloc 7 zl8),xs 7 86 4]
def Z9:=[xa 87 3 7 1,xo (.take 88 (xt 87)),xa 89 7 0 1,xl 90 89 1,xa 91 7 1 1,xl 92 91 1,xa 93 7 2 1,xl 94 93 1,xa 95 7 3 1,xl 96 95 1,xp 97 (.build zl8 [(0,1,xt 90),(1,1,xt 92),(2,1,xt 94),(3,1,xt 96)]),xo (.bsl 98 247 4 [xt 97]),xo (.app 99 (xu 88) (xt 98) 247 4 32),xa 100 3 7 1,xo (.store (xt 100) (xu 99) 1)]
def aB:=xV 80 6 81
def aE:AC:=.seq (xS aC [1,2,3,6,79] (xD 79 4)) (.seq (.block 5 (xS aA [1,2,3,6,7] (.reg Z9 [1,2,3,6]))) (.reg aB [1,2,3,6]))
def Z8:=[xL 101 3 8,xs 2 101 8]
def c53:AC:=xS ABF [1,2] (xS ABE [1,2,3] (.seq (xS ABD [1,2,3,4] (.block 0 (.loop aG))) (.seq (xS AA9 [1,2,3,5] (.block 2 (.loop aF))) (.seq (xS aD [1,2,3,6] (.block 4 (.loop aE))) (xE Z8 [2])))))
def AML:List AR:=[.c 2 8 true]
theorem k53:AU 53 1 c53 AML:=by kernel_rfl
def AA5:=[xo (.mv 2 (xj 0))]
def AA4:=[xm 3 0,xZ 4 3,xa 5 4 1 1,xl 6 5 1,xp 7 (.load (.g 0 [.int .i64 12,.int .i64 0]) 2 true),xp 8 (.look (xt 6) (xt 7) true [0,0] [.v (.int .u64 0)] false false),xm 2 8]
def c57:AC:=xS AA5 [0] (.seq (.regD AA4 [2] (xK [[],[0],[1],[2],[],[3,4],[5]])) .ret)
def vR:List AR:=[.t 2]
theorem k57:AU 57 1 c57 vR:=by kernel_rfl
def AMJ:=[xo (.alloc 4 zl3),xv 5 0]
def AMI:=[xm 6 0,xm 7 1,xp 8 (.build zl11 [(0,1,xi 0),(1,1,xt 7)]),x2 9 61 6 8,xe 10 9 0,xe 11 9 1,xs 4 10 13,xm 5 11]
def c59:AC:=xS AMJ [0,1,4] (xE AMI [4,5])
def AMK:List AR:=[.c 4 13 true,.t 5]
theorem k59:AU 59 2 c59 AMK:=by kernel_rfl
def Zm:=[xx 3 1,xo (.alloc 4 zl3),xv 5 0]
def Zl:=[xL 16 3 13,x1 17 88 16,xn 15 17,xe 18 15 0,xe 19 15 1,xm 6 18,xm 7 19]
def Zk:=[xm 21 0,xZ 22 21,xa 23 22 2 1,xl 24 23 1,xm 25 6,xm 26 7,x3 27 137 24 25 26,xn 20 27,xe 28 20 0,xe 29 20 1,xe 30 20 2,xo (.alloc 9 zl12),xn 8 28,xs 9 29 3,xm 10 30]
def Zj:=[xm 31 10,xC 32 .neq 31 0]
def AMG:=[xp 33 (.build zl11 []),xm 34 10,xs 4 33 13,xm 5 34]
def Zi:=[xn 35 8,xA 36 35,xv 37 0]
def Zh:=[xB 38 .lss 37 36]
def Zg:=[xI 39 35 37 2,xL 40 39 2,xo (.alloc 12 [xz,.own 5 1 []]),xs 12 40 2]
def Zf:=[xa 42 12 1 1,xl 43 42 1,x1 44 113 43,xn 41 44,xe 45 41 0,xe 46 41 1,xo (.alloc 13 zl1),xs 13 45 8,xm 14 46]
def Ze:=[xa 47 3 7 1,xo (.take 48 (xt 47)),xL 49 13 8,xo (.bsl 50 74 8 [xt 49]),xo (.app 51 (xu 48) (xt 50) 74 8 144),xa 52 3 7 1,xo (.store (xt 52) (xu 51) 1)]
def QG:=xW 53 37
def O0:AC:=xS Zh [0,3,4,9,35,36,37,38] (.seq (xD 38 0) (.seq (.block 1 (xS Zg [0,3,4,9,12,35,36,37] (xS Zf [0,3,4,9,13,35,36,37] (.reg Ze [0,3,4,9,35,36,37])))) (.reg QG [0,3,4,9,35,36,37])))
def QF:=[xL 54 9 3,xa 55 3 10 3,xs 55 54 3]
def QE:=[xm 57 0,xZ 58 57,xa 59 58 0 1,xl 60 59 1,xL 61 3 13,xq 62 90 [xt 60,xt 61],xn 56 62,xe 63 56 0,xe 64 56 1,xe 65 56 2,xa 66 3 8 1,xo (.store (xt 66) (xu 63) 1),xa 67 3 9 1,xo (.store (xt 67) (xu 64) 1),xm 10 65]
def Mf:=[xm 68 10,xC 69 .neq 68 0]
def AFr:=[xp 70 (.build zl11 []),xm 71 10,xs 4 70 13,xm 5 71]
def Me:=[xL 72 3 13,xs 4 72 13,xv 5 0]
def c61:AC:=xS Zm [0,3,4] (xS Zl [0,3,4,6,7] (xS Zk [0,3,4,8,9,10] (xQ Zj [0,3,4,8,9,10,32] 32 (xE AMG [4,5]) (.seq (xS Zi [0,3,4,9,35,36,37] (.block 0 (.loop O0))) (xS QF [0,3,4] (.seq (.seq (.regD QE [3,4,10] (xK [[],[0],[1],[2],[],[3,4],[5],[6],[6],[6],[7],[10],[8,11],[12],[9,13]])) (xS Mf [3,4,10,69] (.cond (xt 69) (xE AFr [4,5]) .skip))) (xE Me [4,5])))))))
def Zn:List AR:=[.c 4 13 true,.t 5]
theorem k61:AU 61 2 c61 Zn:=by kernel_rfl
def AAq:=[xv 4 0]
def AAp:=[xm 6 0,x1 7 138 6,xm 5 7]
def AAo:=[xm 8 5,xC 9 .neq 8 0]
def AMC:=[xm 10 5,xm 4 10]
def AAn:=[xm 11 1,xC 12 .lss 11 0,xm 13 12,xF 13 (xm 14 1),xF 13 (xn 15 0),xF 13 (xA 16 15),xF 13 (xB 17 .geq 14 16),xO 18 13 17]
def AMB:=[xv 4 7]
def AAm:=[xv 4 0]
def c63:AC:=xS AAq [0,1] (.seq (xS AAp [0,1,5] (xS AAo [0,1,5,9] (.cond (xt 9) (xE AMC [4]) .skip))) (xQ AAn [18] 18 (xE AMB [4]) (xE AAm [4])))
def AMD:List AR:=[.t 4]
theorem k63:AU 63 2 c63 AMD:=by kernel_rfl
def AAl:=[xx 2 0,xr 4 84 4,xw 5 false]
def AAk:=[xo (.alloc 6 [.own 84 4 []]),xr 7 84 4]
def AAj:=[xa 18 2 1 4,xL 19 18 4,x1 20 139 19]
def AAi:=[xo (.alloc 8 zl6),xs 8 21 4]
def E7:=[xo (.take 22 (xt 6)),xL 23 8 4,xA 24 22,xo (.bsl 25 84 4 [(.c (.v (.agg [.int .i64 0,.int .i64 0,.list [],.list []])))]),xo (.appP 26 (xu 22) (xt 25) 84 4 64),xp 27 (.iaddrP (xu 26) (xt 24) 4),xo (.fin 26 (xt 6) (xt 27) (xt 23) 4),xo (.store (xt 6) (xu 26) 1)]
def T8:AC:=.reg AAi [6,8]
def T7:AC:=.block 1 (.regV E7 [] [[],[],[0],[],[0,1,2,3],[0,1,2,3,4],[0,1,2,3,4,5],[0,1,2,3,4]])
def ZF:=[xa 28 2 0 1,xl 29 28 1,xA 30 29,xC 31 .eql 30 0]
def AAh:=[xl 32 6 1,xl 33 6 1,xA 34 33,xC 35 .leq 34 64,xn 4 32,xm 5 35]
def AAg:=[xa 36 2 0 1,xl 37 36 1,xA 38 37,xv 39 0]
def AAf:=[xB 40 .lss 39 38]
def AAe:=[xI 41 37 39 1,xl 42 41 1,xm 10 42]
def ZU:=[xm 44 1,xm 45 10,xp 46 (.look (xt 44) (xt 45) false [0] [.nil 84 4] false true),xn 43 46,xe 47 43 0,xe 48 43 1,xn 11 47,xm 12 48]
def ZT:=[xm 49 12,xT 50 49,xm 51 50,xF 51 (xm 52 7),xF 51 (xA 53 52),xF 51 (xm 54 11),xF 51 (xA 55 54),xF 51 (xl 56 6 1),xF 51 (xA 57 56),xF 51 (xB 58 .mul 55 57),xF 51 (xB 59 .add 53 58),xF 51 (xC 60 .gtr 59 64),xO 61 51 60]
def AFo:=[xr 4 84 4,xw 5 false]
def ZS:=[xn 62 11,xA 63 62,xv 64 0]
def ZR:=[xB 65 .lss 64 63]
def ZQ:=[xI 66 62 64 4,xL 67 66 4,xo (.alloc 14 zl6),xs 14 67 4]
def ZP:=[xl 68 6 1,xA 69 68,xv 70 0]
def ZO:=[xB 71 .lss 70 69]
def ZN:=[xI 72 68 70 4,xL 73 72 4,xo (.alloc 16 zl6),xs 16 73 4]
def ZM:=[xL 74 14 4,x1 75 141 74,xL 76 16 4,x1 77 141 76,xo (.bsl 78 77 1 [xt 75,xt 77]),x1 79 140 78,xp 80 (.build zl13 [(0,1,xi 4),(3,1,xt 79)]),xo (.alloc 17 zl6),xs 17 80 4]
def ZL:=[xL 81 17 4,x1 82 66 81,xC 83 .neq 82 0]
def AFn:=[xr 4 84 4,xw 5 false]
def ZK:=[xn 84 7,xL 85 17 4,xo (.bsl 86 84 4 [xt 85]),xo (.app 87 (xu 84) (xt 86) 84 4 64),xn 7 87]
def ZJ:=xW 88 70
def ZV:AC:=xS ZO [1,6,7,14,37,38,39,62,63,64,68,69,70,71] (.seq (xD 71 6) (.seq (.block 7 (xS ZN [1,6,7,14,16,37,38,39,62,63,64,68,69,70] (.seq (.regD ZM [1,6,7,14,17,37,38,39,62,63,64,68,69,70] (xK [[],[0],[],[1,2],[3],[4],[5],[],[6,7]])) (xQ ZL [1,6,7,14,17,37,38,39,62,63,64,68,69,70,83] 83 (xE AFn [4,5]) (.reg ZK [1,6,7,14,37,38,39,62,63,64,68,69,70]))))) (.reg ZJ [1,6,7,14,37,38,39,62,63,64,68,69,70])))
def ZI:=xW 89 64
def ZW:AC:=xS ZR [1,6,7,37,38,39,62,63,64,65] (.seq (xD 65 4) (.seq (.block 5 (xS ZQ [1,6,7,14,37,38,39,62,63,64] (xS ZP [1,6,7,14,37,38,39,62,63,64,68,69,70] (.block 6 (.loop ZV))))) (.reg ZI [1,6,7,37,38,39,62,63,64])))
def ZH:=xW 90 39
def ZX:AC:=xS AAf [1,6,7,37,38,39,40] (.seq (xD 40 2) (.seq (.block 3 (xS AAe [1,6,7,10,37,38,39] (xS ZU [1,6,7,11,12,37,38,39] (xQ ZT [1,6,7,11,37,38,39,61] 61 (xE AFo [4,5]) (xS ZS [1,6,7,37,38,39,62,63,64] (.block 4 (.loop ZW))))))) (.reg ZH [1,6,7,37,38,39])))
def ZG:=[xn 91 7,xn 4 91,xw 5 true]
def c64:AC:=xS AAl [1,2] (xS AAk [1,2,6,7] (.seq (xS AAj [1,2,6,7,20] (.block 0 (.rangeF (xt 20) [21] T8 T7))) (xQ ZF [1,2,6,7,31] 31 (.seq (.regD AAh [4,5] (xK [[],[],[1],[2],[0],[3,4]])) .ret) (.seq (xS AAg [1,6,7,37,38,39] (.block 2 (.loop ZX))) (xE ZG [4,5])))))
def AFp:List AR:=[.t 4,.t 5]
theorem k64:AU 64 2 c64 AFp:=by kernel_rfl
def AAc:=[xv 2 0]
def AAb:=[xv 3 0]
def AAa:=[xn 6 0,xA 7 6,xv 8 0]
def AAZ:=[xB 9 .lss 8 7]
def AAY:=[xI 10 6 8 1,xl 11 10 1,xm 5 11]
def AAX:=[xm 12 5,xm 13 3,xB 14 .neq 12 13]
def AAW:=[xm 15 5,xm 2 15]
def AAV:=xW 16 8
def AAd:AC:=xS AAZ [3,6,7,8,9] (.seq (xD 9 0) (.seq (.block 1 (xS AAY [3,5,6,7,8] (xS AAX [3,5,6,7,8,14] (.cond (xt 14) (xE AAW [2]) .skip)))) (.reg AAV [3,6,7,8])))
def AAU:=[xm 17 3,xm 2 17]
def c65:AC:=xS AAc [0] (xS AAb [0,3] (.seq (xS AAa [3,6,7,8] (.block 0 (.loop AAd))) (xE AAU [2])))
def AFm:List AR:=[.t 2]
theorem k65:AU 65 1 c65 AFm:=by kernel_rfl
def AAT:=[xx 1 0,xo (.alloc 2 [xz])]
def AAS:=[xL 4 1 4,x1 5 142 4,xC 6 .gtr 5 96,xm 7 6,xF 7 (xL 8 1 4),xF 7 (x1 9 143 8),xF 7 (xC 10 .gtr 9 8),xO 11 7 10]
def ZD:=[xo (.store (xt 2) (xi 4) 1)]
def AAR:=[xL 12 1 4,x1 13 68 12]
def AAQ:=[xo (.alloc 3 zl6),xs 3 14 4]
def AAP:=[xL 15 3 4,x1 16 144 15,xT 17 16]
def AAO:=[xo (.store (xt 2) (xi 1) 1)]
def IC:AC:=.reg AAQ [2,3]
def IB:AC:=.block 1 (xS AAP [2,17] (.cond (xt 17) (xE AAO []) .skip))
def AAN:=[xo (.store (xt 2) (xi 0) 1)]
def c66:AC:=xS AAT [1,2] (xQ AAS [1,2,11] 11 (xE ZD [2]) (.seq (xS AAR [2,13] (.block 0 (.rangeF (xt 13) [14] IC IB))) (xE AAN [2])))
def ZE:List AR:=[.c 2 1 false]
theorem k66:AU 66 1 c66 ZE:=by kernel_rfl
def AAM:=[xx 1 0,xv 2 0]
def AAL:=[xL 4 1 3,x1 5 145 4,xT 6 5,xm 3 6]
def AAK:=[xv 2 4]
def AAJ:=[xL 8 1 3,x1 9 146 8,xT 10 9,xm 7 10]
def AAI:=[xv 2 1]
def AAH:=[xv 2 0]
def c67:AC:=xS AAM [1] (.seq (.block 0 (xS AAL [1,3] (.cond (xt 3) (xE AAK [2]) (xS AAJ [7] (.cond (xt 7) (xE AAI [2]) .skip))))) (xE AAH [2]))
def vQ:List AR:=[.t 2]
theorem k67:AU 67 1 c67 vQ:=by kernel_rfl
def AAG:=[xx 1 0,xo (.mv 2 (.c (.v .nilf)))]
def AAF:=[xp 3 (.mkf 147 [xt 1]),xm 2 3]
def c68:AC:=xS AAG [1] (xE AAF [2])
def AMA:List AR:=[.t 2]
theorem k68:AU 68 1 c68 AMA:=by kernel_rfl
def AAE:=[xv 2 0]
def AAD:=[xm 3 0,xZ 4 3,xa 5 4 0 1,xl 6 5 1,xA 7 6,xm 2 7]
def c69:AC:=xS AAE [0] (xE AAD [2])
def AL9:List AR:=[.t 2]
theorem k69:AU 69 1 c69 AL9:=by kernel_rfl
def AAC:=[xx 2 0,xx 3 1,xw 4 false]
def AAB:=[xa 5 2 0 1,xl 6 5 1,xp 7 (.mkf 152 [xt 3]),x2 8 151 6 7,xT 9 8,xm 10 9,xH 10 (xa 11 2 2 1),xH 10 (xl 12 11 1),xH 10 (xp 13 (.mkf 154 [xt 3])),xH 10 (x2 14 153 12 13),xH 10 (xT 15 14),xN 16 10 15,xm 4 16]
def c70:AC:=xS AAC [2,3] (xE AAB [4])
def AFl:List AR:=[.t 4]
theorem k70:AU 70 2 c70 AFl:=by kernel_rfl
def AAA:=[xx 3 0,xx 4 1,xx 5 2,xw 6 false]
def z8:=[xp 10 (.mkf 155 [xt 3,xt 5]),xo (.alloc 7 [.v .nilf]),xs 7 10 1]
def z7:=[xa 11 4 0 1,xl 12 11 1]
def z6:=[xC 14 .eql 12 1,xm 13 14]
def zz:=[xa 15 5 0 1,xl 16 15 1,xp 17 (.mkf 156 [xt 3,xt 4]),x2 18 151 16 17,xm 6 18]
def zy:=[xC 20 .eql 12 2,xm 19 20]
def zx:=[xL 22 5 3,xa 23 4 1 1,xl 24 23 1,x2 25 158 22 24,xn 21 25,xe 26 21 0,xe 27 21 1,xo (.alloc 8 zl7),xs 8 26 2,xm 9 27]
def zw:=[xm 28 9,xm 29 28,xH 29 (xa 30 4 2 1),xH 29 (xl 31 30 1),xH 29 (xL 32 8 2),xH 29 (x2 33 159 31 32),xN 34 29 33,xm 6 34]
def zu:=[xC 36 .eql 12 3,xm 35 36]
def zt:=[xa 37 5 2 1,xl 38 37 1,xp 39 (.mkf 160 [xt 3,xt 4]),x2 40 153 38 39,xm 6 40]
def ZC:=[xC 42 .eql 12 4,xm 41 42]
def ZB:=[xa 43 4 3 1,xl 44 43 1,xp 45 (.mkf 161 [xt 7]),x2 46 149 44 45,xT 47 46,xm 6 47]
def ZA:=[xC 49 .eql 12 5,xm 48 49]
def Y9:=[xa 50 4 3 1,xl 51 50 1,xl 52 7 1,x2 53 149 51 52,xm 6 53]
def Y8:=[xC 55 .eql 12 6,xm 54 55]
def Y7:=[xl 56 7 1,xa 57 4 3 1,xl 58 57 1,xp 59 (.iaddr (xt 58) (xi 0) 4),xL 60 59 4,xo (.callF (some 61) (xt 56) [xt 60]),xT 62 61,xm 6 62]
def Y6:=[xw 6 true]
def c71:AC:=xS AAA [3,4,5] (xS z8 [3,4,5,7] (.seq (xS z7 [3,4,5,7,12] (.block 0 (xS z6 [3,4,5,7,12,13] (.cond (xt 13) (xE zz [6]) (xS zy [3,4,5,7,12,19] (.cond (xt 19) (xS zx [4,8,9] (xE zw [6])) (xS zu [3,4,5,7,12,35] (.cond (xt 35) (xE zt [6]) (xS ZC [4,7,12,41] (.cond (xt 41) (xE ZB [6]) (xS ZA [4,7,12,48] (.cond (xt 48) (xE Y9 [6]) (xS Y8 [4,7,54] (.cond (xt 54) (.seq (.regD Y7 [6] (xK [[],[],[1],[2],[3],[0,4],[5],[6]])) .ret) .skip)))))))))))))) (xE Y6 [6])))
def Md:List AR:=[.t 6]
theorem k71:AU 71 3 c71 Md:=by kernel_rfl
def zn:=[xx 3 1,xv 4 0]
def zm:=[xL 6 3 8,xo (.bsl 7 108 8 [xt 6]),x1 8 176 7,xT 9 8,xm 5 9]
def ALv:=[xv 4 1]
def zl:=[xa 11 3 7 1,xl 12 11 1,xm 13 0,xL 14 3 8,x2 15 95 13 14,xB 16 .neq 12 15,xm 10 16]
def ALu:=[xv 4 23]
def zk:=[xv 4 0]
def c86:AC:=xS zn [0,3] (.seq (.block 0 (xS zm [0,3,5] (.cond (xt 5) (xE ALv [4]) (.seq (.regD zl [10] (xK [[],[0],[],[],[2,3],[1,4],[5]])) (.cond (xt 10) (xE ALu [4]) .skip))))) (xE zk [4]))
def AFk:List AR:=[.t 4]
theorem k86:AU 86 2 c86 AFk:=by kernel_rfl
def T2:=[xx 1 0,xv 2 0]
def T1:=[xa 5 1 0 1,xl 6 5 1,xC 7 .eql 6 1,xm 8 7,xF 8 (xa 9 1 0 1),xF 8 (xl 10 9 1),xF 8 (xC 11 .eql 10 3),xO 12 8 11,xm 3 12]
def Tz:=[xa 13 1 4 3,xa 14 13 0 1,xl 15 14 1,xA 16 15,xa 17 1 4 3,xa 18 17 1 1,xl 19 18 1,xA 20 19,xB 21 .add 16 20,xa 22 1 4 3,xa 23 22 2 1,xl 24 23 1,xA 25 24,xB 26 .add 21 25,xC 27 .eql 26 0,xm 4 27]
def Ty:=[xa 29 1 0 1,xl 30 29 1,xC 31 .lss 30 0,xm 32 31,xF 32 (xa 33 1 0 1),xF 32 (xl 34 33 1),xF 32 (xC 35 .gtr 34 3),xO 36 32 35,xm 28 36]
def Tx:=[xa 37 1 0 1,xl 38 37 1,xC 39 .neq 38 0,xm 40 39,xH 40 (xa 41 1 1 1),xH 40 (xl 42 41 1),xH 40 (xC 43 .neq 42 0),xN 44 40 43,xm 28 44]
def Tw:=[xa 45 1 0 1,xl 46 45 1,xC 47 .neq 46 2,xm 48 47,xH 48 (xa 49 1 2 1),xH 48 (xl 50 49 1),xH 48 (xC 51 .neq 50 0),xH 48 (xm 52 51),xF 52 (xa 53 1 9 1),xF 52 (xl 54 53 1),xF 52 (xA 55 54),xF 52 (xC 56 .gtr 55 0),xH 48 (xO 57 52 56),xN 58 48 57,xm 28 58]
def Tv:=[xa 59 1 0 1,xl 60 59 1,xC 61 .neq 60 3,xm 62 61,xH 62 (xa 63 1 3 1),xH 62 (xl 64 63 1),xH 62 (xC 65 .neq 64 0),xN 66 62 65,xm 28 66]
def Tu:=[xm 67 3,xT 68 67,xm 69 68,xH 69 (xm 70 4),xH 69 (xT 71 70),xH 69 (xm 72 71),xF 72 (xa 73 1 8 1),xF 72 (xl 74 73 1),xF 72 (xA 75 74),xF 72 (xC 76 .gtr 75 0),xH 69 (xO 77 72 76),xN 78 69 77,xm 28 78]
def ALt:=[xv 2 1]
def Tt:=[xa 80 1 1 1,xl 81 80 1,xC 82 .lss 81 0,xm 83 82,xF 83 (xa 84 1 1 1),xF 83 (xl 85 84 1),xF 83 (xC 86 .gtr 85 4095),xO 87 83 86,xm 79 87]
def Mc:=[xa 88 1 3 1,xl 89 88 1,xC 90 .lss 89 0,xm 91 90,xF 91 (xa 92 1 3 1),xF 91 (xl 93 92 1),xF 91 (xC 94 .gtr 93 131072),xO 95 91 94,xm 79 95]
def AFj:=[xv 2 5]
def Mb:=[xa 97 1 0 1,xl 98 97 1,xC 99 .eql 98 2,xm 100 99,xH 100 (xa 101 1 2 1),xH 100 (xl 102 101 1),xH 100 (xC 103 .lss 102 1),xH 100 (xm 104 103),xF 104 (xa 105 1 2 1),xF 104 (xl 106 105 1),xF 104 (xC 107 .gtr 106 4095),xH 100 (xO 108 104 107),xN 109 100 108,xm 96 109]
def AFi:=[xv 2 1]
def Ma:=[xv 2 0]
def c87:AC:=xS T2 [1] (xS T1 [1,3] (xS Tz [1,3,4] (.seq (.block 0 (.seq (xS Ty [1,3,4,28] (.cond (xt 28) .skip (xS Tx [1,3,4,28] (.cond (xt 28) .skip (xS Tw [1,3,4,28] (.cond (xt 28) .skip (xS Tv [1,3,4,28] (.cond (xt 28) .skip (.reg Tu [1,28]))))))))) (.cond (xt 28) (xE ALt [2]) (.seq (xS Tt [1,79] (.cond (xt 79) .skip (.reg Mc [1,79]))) (.cond (xt 79) (xE AFj [2]) (xS Mb [96] (.cond (xt 96) (xE AFi [2]) .skip))))))) (xE Ma [2]))))
def Yr:List AR:=[.t 2]
theorem k87:AU 87 1 c87 Yr:=by kernel_rfl
def Yq:=[xx 1 0,xv 2 0,xv 3 0]
def Yp:=[xa 4 1 0 1,xl 5 4 1,xC 6 .eql 5 0]
def ALs:=[xa 7 1 1 1,xl 8 7 1,xa 9 1 1 1,xl 10 9 1,xm 2 8,xm 3 10]
def Yo:=[xv 2 0,xv 3 4095]
def c88:AC:=xS Yq [1] (xQ Yp [1,6] 6 (.seq (.regD ALs [2,3] (xK [[],[0],[],[2],[1],[3,4]])) .ret) (xE Yo [2,3]))
def vP:List AR:=[.t 2,.t 3]
theorem k88:AU 88 1 c88 vP:=by kernel_rfl
def zj:=[xx 9 4,xv 10 0]
def zi:=[xm 15 1,xm 16 2,x2 17 177 15 16,xT 18 17,xm 14 18]
def ALr:=[xv 10 5]
def zh:=[xm 20 1,xm 21 2,xm 22 3,x3 23 178 20 21 22,xm 19 23]
def ALq:=[xv 10 1]
def zg:=[xm 25 1,xm 26 2,xn 27 3,xL 28 9 3,xc 29 179 [xt 25,xt 26,xt 27,xt 28],xn 24 29,xe 30 24 0,xe 31 24 1,xo (.alloc 11 [.v .nilm]),xs 11 30 1,xm 12 31]
def zf:=[xm 32 12,xT 33 32]
def ALp:=[xv 10 2]
def ze:=[xo (.alloc 13 [.v .nilf])]
def zd:=[xp 34 (.mkf 180 [xt 11,xt 13]),xs 13 34 1]
def Yn:=[xl 35 13 1,xp 36 (.load (.g 0 [.int .i64 12,.int .i64 0]) 2 true),xo (.call (some 37) (xt 35) [xt 36]),xp 38 (.fld (xt 37) 0 1 false),xm 39 0,xB 40 .neq 38 39]
def AFg:=[xv 10 10]
def Ym:=[xv 10 0]
def c89:AC:=xS zj [0,1,2,3,9] (.seq (.block 0 (xS zi [0,1,2,3,9,14] (.cond (xt 14) (xE ALr [10]) (xS zh [0,1,2,3,9,19] (.cond (xt 19) (xE ALq [10]) .skip))))) (xS zg [0,11,12] (xQ zf [0,11,33] 33 (xE ALp [10]) (xS ze [0,11,13] (xS zd [0,13] (xQ Yn [40] 40 (xE AFg [10]) (xE Ym [10])))))))
def AFh:List AR:=[.t 10]
theorem k89:AU 89 5 c89 AFh:=by kernel_rfl
def Ts:=[xx 3 1,xr 4 76 2,xr 5 3 1,xv 6 0]
def Tr:=[xa 17 3 0 1,xl 18 17 1]
def Tq:=[xC 20 .eql 18 2,xm 19 20]
def zc:=[xr 7 3 1]
def za:=[xa 21 3 7 1,xl 22 21 1,xA 23 22,xv 24 0]
def zZ:=[xB 25 .lss 24 23]
def zY:=[xI 26 22 24 8,xL 27 26 8,xo (.alloc 9 zl1),xs 9 27 8]
def zX:=[xa 28 9 6 1,xl 29 28 1,xp 30 (.mkf 184 [xt 3]),x2 31 183 29 30]
def zW:=[xn 32 7,xa 33 9 0 1,xl 34 33 1,xo (.bsl 35 3 1 [xt 34]),xo (.app 36 (xu 32) (xt 35) 3 1 8),xn 7 36]
def Ya:=xW 37 24
def Yk:AC:=xS zZ [3,7,22,23,24,25] (.seq (xD 25 1) (.seq (.block 2 (xS zY [3,7,9,22,23,24] (xS zX [3,7,9,22,23,24,31] (.cond (xt 31) (.reg zW [3,7,22,23,24]) .skip)))) (.reg Ya [3,7,22,23,24])))
def Yh:=[xn 38 7,xr 4 76 2,xn 5 38,xv 6 0]
def QD:=[xC 40 .eql 18 1,xm 39 40]
def Yg:=[xC 41 .eql 18 3,xm 39 41]
def QC:=[xm 43 0,xa 44 3 7 1,xl 45 44 1,xa 46 3 4 3,xL 47 46 3,x3 48 185 43 45 47,xn 42 48,xe 49 42 0,xe 50 42 1,xn 10 49,xm 11 50]
def QB:=[xm 51 11,xC 52 .neq 51 0,xm 53 52,xF 53 (xa 54 3 0 1),xF 53 (xl 55 54 1),xF 53 (xC 56 .eql 55 1),xO 57 53 56]
def Yf:=[xn 58 10,xm 59 11,xn 4 58,xr 5 3 1,xm 6 59]
def Ye:=[xr 12 76 2]
def Yd:=[xn 60 10,xA 61 60,xv 62 0]
def QA:=[xB 63 .lss 62 61]
def P9:=[xI 64 60 62 2,xL 65 64 2,xo (.alloc 14 zl7),xs 14 65 2]
def P8:=[xm 67 0,xL 68 3 13,xL 69 14 2,x3 70 186 67 68 69,xn 66 70,xe 71 66 0,xe 72 66 1,xm 15 71,xm 16 72]
def P7:=[xm 73 16,xC 74 .neq 73 0]
def Yc:=[xm 75 16,xr 4 76 2,xr 5 3 1,xm 6 75]
def P6:=[xm 76 15]
def P5:=[xn 77 12,xL 78 14 2,xo (.bsl 79 76 2 [xt 78]),xo (.app 80 (xu 77) (xt 79) 76 2 16),xn 12 80]
def MZ:=xW 81 62
def Yj:AC:=xS QA [0,3,12,60,61,62,63] (.seq (xD 63 3) (.seq (.block 4 (xS P9 [0,3,12,14,60,61,62] (xS P8 [0,3,12,14,15,16,60,61,62] (xQ P7 [0,3,12,14,15,16,60,61,62,74] 74 (xE Yc [4,5,6]) (xS P6 [0,3,12,14,60,61,62,76] (.cond (xt 76) (.reg P5 [0,3,12,60,61,62]) .skip)))))) (.reg MZ [0,3,12,60,61,62])))
def Yb:=[xn 82 12,xn 4 82,xr 5 3 1,xv 6 0]
def AFf:=[xr 4 76 2,xr 5 3 1,xv 6 0]
def c90:AC:=xS Ts [0,3] (.seq (xS Tr [0,3,18] (.block 0 (xS Tq [0,3,18,19] (.cond (xt 19) (xS zc [3,7] (.seq (xS za [3,7,22,23,24] (.block 1 (.loop Yk))) (xE Yh [4,5,6]))) (.seq (xS QD [0,3,18,39] (.cond (xt 39) .skip (.reg Yg [0,3,39]))) (.cond (xt 39) (xS QC [0,3,10,11] (xQ QB [0,3,10,11,57] 57 (xE Yf [4,5,6]) (xS Ye [0,3,10,12] (.seq (xS Yd [0,3,12,60,61,62] (.block 3 (.loop Yj))) (xE Yb [4,5,6]))))) .skip)))))) (xE AFf [4,5,6]))
def Yl:List AR:=[.t 4,.t 5,.t 6]
theorem k90:AU 90 2 c90 Yl:=by kernel_rfl
def zU:=[xw 4 false]
def zT:=[xm 6 0,xA 7 6,xm 8 1,xA 9 8,xB 10 .neq 7 9]
def zS:=[xw 4 false]
def zR:=[xm 11 0,xA 12 11,xv 13 0]
def zQ:=[xB 14 .lss 13 12]
def zO:=[xm 15 13,xm 5 15]
def zN:=[xm 16 0,xm 17 5,xI 18 16 17 2,xL 19 18 2,xm 20 1,xm 21 5,xI 22 20 21 2,xL 23 22 2,xp 24 (.eqA true [0,0] (xt 19) (xt 23))]
def YZ:=[xw 4 false]
def zM:=xW 25 13
def zV:AC:=xS zQ [0,1,12,13,14] (.seq (xD 14 0) (.seq (.block 1 (xS zO [0,1,5,12,13] (.seq (.regD zN [0,1,12,13,24] (xK [[],[],[0,1],[2],[],[],[4,5],[6],[3,7]])) (.cond (xt 24) (xE YZ [4]) .skip)))) (.reg zM [0,1,12,13])))
def zL:=[xw 4 true]
def c91:AC:=xS zU [0,1] (xQ zT [0,1,10] 10 (xE zS [4]) (.seq (xS zR [0,1,12,13] (.block 0 (.loop zV))) (xE zL [4])))
def Wh:List AR:=[.t 4]
theorem k91:AU 91 2 c91 Wh:=by kernel_rfl
def zJ:=[xw 4 false]
def zI:=[xm 6 0,xA 7 6,xm 8 1,xA 9 8,xB 10 .neq 7 9]
def zH:=[xw 4 false]
def zG:=[xm 11 0,xA 12 11,xv 13 0]
def zF:=[xB 14 .lss 13 12]
def zE:=[xm 15 13,xm 5 15]
def zC:=[xm 16 0,xm 17 5,xI 18 16 17 1,xl 19 18 1,xm 20 1,xm 21 5,xI 22 20 21 1,xl 23 22 1,xB 24 .neq 19 23]
def zB:=[xw 4 false]
def zA:=xW 25 13
def zK:AC:=xS zF [0,1,12,13,14] (.seq (xD 14 0) (.seq (.block 1 (xS zE [0,1,5,12,13] (.seq (.regD zC [0,1,12,13,24] (xK [[],[],[0,1],[2],[],[],[4,5],[6],[3,7]])) (.cond (xt 24) (xE zB [4]) .skip)))) (.reg zA [0,1,12,13])))
def y8:=[xw 4 true]
def c92:AC:=xS zJ [0,1] (xQ zI [0,1,10] 10 (xE zH [4]) (.seq (xS zG [0,1,12,13] (.block 0 (.loop zK))) (xE y8 [4])))
def YY:List AR:=[.t 4]
theorem k92:AU 92 2 c92 YY:=by kernel_rfl
def yz:=[xx 3 1,xo (.mv 4 (xj 0))]
def yy:=[xm 6 0,xp 7 (.cint .i64 (xt 6)),xa 8 3 0 1,xl 9 8 1,xa 10 3 1 1,xl 11 10 1,xa 12 3 2 1,xl 13 12 1,xa 14 3 3 1,xl 15 14 1,xa 16 3 4 1,xl 17 16 1,xp 18 (.cint .i64 (xt 17)),xa 19 3 5 1,xl 20 19 1,xp 21 (.cint .i64 (xt 20)),xa 22 3 6 1,xl 23 22 1,xo (.bsl 24 3 1 [xt 7,xt 9,xt 11,xt 13,xt 15,xt 18,xt 21,xt 23]),xn 5 24]
def yx:=[xn 25 5,xc 26 96 [(.c (.v (.str ⟨#[115,105,103,110]⟩))),xt 25],xm 4 26]
def c95:AC:=xS yz [0,3] (xS yy [5] (xE yx [4]))
def AFe:List AR:=[.t 4]
theorem k95:AU 95 2 c95 AFe:=by kernel_rfl
def yw:=[xo (.mv 4 (xj 0))]
def yv:=[xo (.alloc 5 [.v (.int .u64 0)]),xo (.store (xt 5) (xj 0) 1)]
def yu:=[xm 9 0,x1 10 189 9]
def yt:=[xm 6 11]
def yr:=[xl 12 5 1,xm 13 6,x2 14 190 12 13,xs 5 14 1]
def Lq:AC:=.reg yt [5,6]
def Lo:AC:=.block 1 (.reg yr [])
def yq:=[xl 15 5 1,xm 16 0,xp 17 (.lenS (xt 16)),xp 18 (.cint .u64 (xt 17)),x2 19 190 15 18,xm 20 1,xA 21 20,xp 22 (.cint .u64 (xt 21)),x2 23 190 19 22,xs 5 23 1]
def yp:=[xn 24 1,xA 25 24,xv 26 0]
def yo:=[xB 27 .lss 26 25]
def yn:=[xI 28 24 26 1,xl 29 28 1,xm 8 29]
def ym:=[xl 30 5 1,xm 31 8,xp 32 (.cint .u64 (xt 31)),x2 33 190 30 32,xs 5 33 1]
def YW:=xW 34 26
def YX:AC:=xS yo [5,24,25,26,27] (.seq (xD 27 2) (.seq (.block 3 (xS yn [5,8,24,25,26] (.reg ym [5,24,25,26]))) (.reg YW [5,24,25,26])))
def YV:=[xl 35 5 1,xc 36 190 [xt 35,xj 0],xm 4 36]
def c96:AC:=xS yw [0,1] (xS yv [0,1,5] (.seq (xS yu [0,1,5,10] (.block 0 (.rangeF (xt 10) [11] Lq Lo))) (xS yq [1,5] (.seq (xS yp [5,24,25,26] (.block 2 (.loop YX))) (xE YV [4])))))
def AFd:List AR:=[.t 4]
theorem k96:AU 96 2 c96 AFd:=by kernel_rfl
def yl:=[xm 4 0,xm 5 1,x1 6 193 5,x2 7 192 4 6]
def c98:AC:=.reg yl []
def AFc:List AR:=[]
theorem k98:AU 98 2 c98 AFc:=by kernel_rfl
def yj:=[xm 4 0,xn 5 1,xp 6 (.b2s (xt 5)),x2 7 194 4 6]
def c99:AC:=.reg yj []
def AFb:List AR:=[]
theorem k99:AU 99 2 c99 AFb:=by kernel_rfl
def uD:=[xm 6 0,xm 7 1,xA 8 7,xp 9 (.cint .u64 (xt 8)),x2 10 192 6 9]
def uC:=[xn 11 1,xA 12 11,xv 13 0]
def uB:=[xB 14 .lss 13 12]
def uA:=[xI 15 11 13 1,xl 16 15 1,xm 5 16]
def t8:=[xm 17 0,xm 18 5,x2 19 98 17 18]
def t7:=xW 20 13
def uE:AC:=xS uB [0,11,12,13,14] (.seq (xD 14 0) (.seq (.block 1 (xS uA [0,5,11,12,13] (.reg t8 [0,11,12,13]))) (.reg t7 [0,11,12,13])))
def AIs:AC:=xS uD [0,1] (xS uC [0,11,12,13] (.block 0 (.loop uE)))
def uF:List AR:=[]
theorem ALU:AU 100 2 AIs uF:=by kernel_rfl
def tz:=[xr 2 5 1]
def tx:=[xm 3 0,xZ 4 3,xa 5 4 0 1,xl 6 5 1,x1 7 117 6,xn 2 7]
def AIr:AC:=xS tz [0] (xE tx [2])
def t6:List AR:=[.t 2]
theorem ALT:AU 102 1 AIr t6:=by kernel_rfl
def ti:=[xr 2 5 1]
def th:=[xm 3 0,xm 4 0,xp 5 (.mkme 203 [xt 4]),x2 6 202 3 5,xn 2 6]
def AO6:AC:=xS ti [0] (xE th [2])
def AD4:List AR:=[.t 2]
theorem ATe:AU 112 1 AO6 AD4:=by kernel_rfl
def Sp:=[xx 1 0,xo (.alloc 2 zl1),xv 3 0]
def So:=[xl 11 1 1,x1 12 44 11,xo (.alloc 4 [.v .nilp]),xs 4 12 1]
def Sn:=[xp 13 (.mkf 204 [xt 4,xt 1]),xm 5 13]
def NV:=[xl 14 4 1,xq 15 45 [xt 14],xl 16 4 1,xq 17 45 [xt 16],xl 18 4 1,xq 19 45 [xt 18],xp 20 (.build zl2 [(0,1,xt 15),(1,1,xt 17),(2,1,xt 19)]),xo (.alloc 6 zl1),xs 6 20 8]
def Sm:=[xl 22 4 1,x1 23 112 22,x1 24 205 23,xn 21 24,xe 25 21 0,xe 26 21 1,xn 7 25,xm 8 26]
def Sl:=[xm 27 8,xC 28 .neq 27 0]
def te:=[xp 29 (.build zl2 []),xs 2 29 8,xv 3 2]
def Sk:=[xn 30 7,xa 31 6 3 1,xo (.store (xt 31) (xu 30) 1)]
def Sj:=[xm 32 5,xo (.call (some 33) (xt 32) []),xv 34 0]
def Si:=[xB 35 .lss 34 33]
def Gq:=[xa 36 6 4 1,xo (.take 37 (xt 36)),xl 38 4 1,xq 39 45 [xt 38],xl 40 4 1,xq 41 45 [xt 40],xp 42 (.build zl7 [(0,1,xt 39),(1,1,xt 41)]),xl 43 4 1,xq 44 45 [xt 43],xl 45 4 1,xq 46 45 [xt 45],xp 47 (.build zl8 [(0,2,xt 42),(2,1,xt 44),(3,1,xt 46)]),xo (.bsl 48 88 4 [xt 47]),xo (.app 49 (xu 37) (xt 48) 88 4 32),xa 50 6 4 1,xo (.store (xt 50) (xu 49) 1)]
def Ni:=xW 51 34
def I3:AC:=xS Si [1,2,4,5,6,33,34,35] (.seq (xD 35 0) (.seq (.block 1 (.regA Gq [1,2,4,5,6,33,34] (xK [[],[0],[],[2],[],[3,4],[5],[],[5,7],[],[8,9],[6,10],[11],[1,12],[13],[14]]) (.take 0 (.take 2 (.pick (.alt 1 (.pick (.alt 3 (.take 4 tq14) (.alt 4 tq18 (.alt 7 tq20 (.alt 9 tq21 .none))))) (.alt 3 (.take 4 tq28) (.alt 4 (.pick (.alt 1 tq18 (.alt 3 tq28 (.alt 7 tq30 (.alt 9 tq31 .none))))) (.alt 7 (.pick (.alt 1 tq20 (.alt 3 (.take 4 tq26) (.alt 4 tq30 (.alt 9 tq32 .none))))) (.alt 9 (.pick (.alt 1 tq21 (.alt 3 (.take 4 tq27) (.alt 4 tq31 (.alt 7 tq32 .none))))) .none)))))))))) (.reg Ni [1,2,4,5,6,33,34])))
def Nh:=[xl 52 4 1,x1 53 114 52,xa 54 6 5 1,xo (.store (xt 54) (xu 53) 1)]
def Ng:=[xm 55 5,xo (.call (some 56) (xt 55) []),xv 57 0]
def Nf:=[xB 58 .lss 57 56]
def Jw:=[xa 59 6 6 1,xo (.take 60 (xt 59)),xl 61 4 1,xq 62 45 [xt 61],xl 63 4 1,xq 64 45 [xt 63],xl 65 4 1,xq 66 45 [xt 65],xp 67 (.build zl7 [(0,1,xt 64),(1,1,xt 66)]),xp 68 (.build zl9 [(0,1,xt 62),(1,2,xt 67)]),xo (.bsl 69 246 3 [xt 68]),xo (.app 70 (xu 60) (xt 69) 246 3 24),xa 71 6 6 1,xo (.store (xt 71) (xu 70) 1)]
def Nd:=xW 72 57
def I2:AC:=xS Nf [1,2,4,5,6,56,57,58] (.seq (xD 58 2) (.seq (.block 3 (.regA Jw [1,2,4,5,6,56,57] (xK [[],[0],[],[2],[],[3,4],[],[5,6],[7],[8],[9],[1,10],[11],[12]]) (.take 0 (.take 2 (.pick (.alt 1 (.pick (.alt 3 (.take 4 tq36) (.alt 4 tq38 (.alt 6 tq39 .none)))) (.alt 3 (.take 4 tq42) (.alt 4 (.pick (.alt 1 tq38 (.alt 3 tq42 (.alt 6 tq43 .none)))) (.alt 6 (.pick (.alt 1 tq39 (.alt 3 (.take 4 tq41) (.alt 4 tq43 .none)))) .none))))))))) (.reg Nd [1,2,4,5,6,56,57])))
def Nc:=[xm 73 5,xo (.call (some 74) (xt 73) []),xv 75 0]
def Nb:=[xB 76 .lss 75 74]
def Jv:=[xa 77 6 7 1,xo (.take 78 (xt 77)),xl 79 4 1,xq 80 45 [xt 79],xl 81 4 1,xq 82 45 [xt 81],xl 83 4 1,xq 84 45 [xt 83],xl 85 4 1,xq 86 45 [xt 85],xp 87 (.build zl8 [(0,1,xt 80),(1,1,xt 82),(2,1,xt 84),(3,1,xt 86)]),xo (.bsl 88 247 4 [xt 87]),xo (.app 89 (xu 78) (xt 88) 247 4 32),xa 90 6 7 1,xo (.store (xt 90) (xu 89) 1)]
def Na:=xW 91 75
def I1:AC:=xS Nb [1,2,4,6,74,75,76] (.seq (xD 76 4) (.seq (.block 5 (.regA Jv [1,2,4,6,74,75] (xK [[],[0],[],[2],[],[3,4],[],[5,6],[],[7,8],[9],[10],[1,11],[12],[13]]) (.take 0 (.take 2 (.pick (.alt 1 (.pick (.alt 3 (.take 4 tq54) (.alt 4 tq58 (.alt 6 tq60 (.alt 8 tq61 .none))))) (.alt 3 (.take 4 tq68) (.alt 4 (.pick (.alt 1 tq58 (.alt 3 tq68 (.alt 6 tq70 (.alt 8 tq71 .none))))) (.alt 6 (.pick (.alt 1 tq60 (.alt 3 (.take 4 tq66) (.alt 4 tq70 (.alt 8 tq72 .none))))) (.alt 8 (.pick (.alt 1 tq61 (.alt 3 (.take 4 tq67) (.alt 4 tq71 (.alt 6 tq72 .none))))) .none)))))))))) (.reg Na [1,2,4,6,74,75])))
def NZ:=[xl 92 4 1,x1 93 116 92,xC 94 .neq 93 0]
def Vy:=[xp 95 (.build zl2 []),xs 2 95 8,xv 3 2]
def NY:=[xL 97 6 8,x1 98 51 97,xn 96 98,xe 99 96 0,xe 100 96 1,xn 9 99,xm 10 100]
def NX:=[xm 101 10,xC 102 .neq 101 0,xm 103 102,xF 103 (xn 104 9),xF 103 (xp 105 (.b2s (xt 104))),xF 103 (xl 106 1 1),xF 103 (xp 107 (.b2s (xt 106))),xF 103 (xB 108 .neq 105 107),xO 109 103 108]
def Vx:=[xp 110 (.build zl2 []),xs 2 110 8,xv 3 2]
def NW:=[xL 111 6 8,xs 2 111 8,xv 3 0]
def tg:AC:=xS Sp [1,2] (xS So [1,2,4] (xS Sn [1,2,4,5] (.seq (.regA NV [1,2,4,5,6] (xK [[],[0],[],[1,2],[],[3,4],[5],[],[6,7]]) (.take 0 (.pick (.alt 1 (.take 2 tq79) (.alt 2 (.pick (.alt 1 tq79 (.alt 4 tq81 (.alt 7 tq82 .none)))) (.alt 4 (.pick (.alt 1 (.take 2 tq77) (.alt 2 tq81 (.alt 7 tq83 .none)))) (.alt 7 (.pick (.alt 1 (.take 2 tq78) (.alt 2 tq82 (.alt 4 tq83 .none)))) .none))))))) (xS Sm [1,2,4,5,6,7,8] (xQ Sl [1,2,4,5,6,7,28] 28 (xE te [2,3]) (xS Sk [1,2,4,5,6] (.seq (xS Sj [1,2,4,5,6,33,34] (.block 0 (.loop I3))) (xS Nh [1,2,4,5,6] (.seq (xS Ng [1,2,4,5,6,56,57] (.block 2 (.loop I2))) (.seq (xS Nc [1,2,4,6,74,75] (.block 4 (.loop I1))) (xQ NZ [1,2,6,94] 94 (xE Vy [2,3]) (.seq (xS NY [1,2,6,9,10] (xS NX [2,6,109] (.cond (xt 109) (xE Vx [2,3]) .skip))) (xE NW [2,3])))))))))))))
def AD3:List AR:=[.c 2 8 true,.t 3]
theorem ATd:AU 113 1 tg AD3:=by kernel_rfl
def td:=[xr 2 3 1]
def tc:=[xm 3 0,xm 4 0,xp 5 (.mkme 45 [xt 4]),x2 6 206 3 5,xn 2 6]
def AO5:AC:=xS td [0] (xE tc [2])
def AD1:List AR:=[.t 2]
theorem ATc:AU 114 1 AO5 AD1:=by kernel_rfl
def tb:=[xv 2 0]
def ta:=[xm 3 0,xZ 4 3,xa 5 4 1 1,xl 6 5 1,xC 7 .eql 6 0,xm 8 7,xH 8 (xm 9 0),xH 8 (xZ 10 9),xH 8 (xa 11 10 0 1),xH 8 (xl 12 11 1),xH 8 (xA 13 12),xH 8 (xC 14 .gtr 13 0),xN 15 8 14]
def AIp:=[xv 2 2]
def tZ:=[xm 16 0,xZ 17 16,xa 18 17 1 1,xl 19 18 1,xm 2 19]
def AO4:AC:=xS tb [0] (xQ ta [0,15] 15 (xE AIp [2]) (xE tZ [2]))
def AD0:List AR:=[.t 2]
theorem ATb:AU 116 1 AO4 AD0:=by kernel_rfl
def Kq:=[xr 2 5 1]
def Kp:=[xm 3 0,xo (.nilS 4 false (xt 3))]
def Ko:=[xr 2 5 1]
def Kn:=[xo (.bsl 5 5 1 []),xn 6 0,xo (.app 7 (xu 5) (xt 6) 5 1 1),xn 2 7]
def Wp:AC:=xS Kq [0] (xQ Kp [0,4] 4 (xE Ko [2]) (xE Kn [2]))
def Lt:List AR:=[.t 2]
theorem AE0:AU 117 1 Wp Lt:=by kernel_rfl
def Sh:=[xv 2 0]
def Sg:=[xm 3 0,xb 4 .shr (xt 3) (xj 1),xp 5 (.cint .i64 (xt 4)),xm 6 0,xb 7 .and (xt 6) (xj 1),xp 8 (.cint .i64 (xt 7)),xp 9 (.neg (xt 8)),xB 10 .xor 5 9,xm 2 10]
def AIo:AC:=xS Sh [0] (xE Sg [2])
def tY:List AR:=[.t 2]
theorem ATa:AU 118 1 AIo tY:=by kernel_rfl
def tX:=[xo (.mv 2 (xj 0))]
def tW:=[xo (.mv 3 (xj 0))]
def tV:=[xv 4 0]
def tU:=[xm 6 0,xZ 7 6,xa 8 7 1 1,xl 9 8 1,xC 10 .eql 9 0]
def tT:=[xm 13 0,x1 14 203 13,xm 5 14]
def NS:=[xm 15 4,xC 16 .eql 15 9,xm 17 16,xH 17 (xm 18 5),xH 17 (xb 19 .gtr (xt 18) (.c (.v (.int .u8 1)))),xN 20 17 19,xm 21 20,xF 21 (xm 22 4),xF 21 (xC 23 .gtr 22 0),xF 21 (xm 24 23),xH 24 (xm 25 5),xH 24 (xb 26 .eql (xt 25) (.c (.v (.int .u8 0)))),xF 21 (xN 27 24 26),xO 28 21 27]
def AIn:=[xm 29 0,xc 30 207 [xt 29,xi 2]]
def Se:=[xm 31 3,xm 32 5,xb 33 .andNot (xt 32) (.c (.v (.int .u8 128))),xp 34 (.cint .u64 (xt 33)),xm 35 4,xb 36 .mul (xi 7) (xt 35),xB 37 .shl 34 36,xB 38 .or 31 37,xm 3 38]
def Sd:=[xm 39 5,xb 40 .lss (xt 39) (.c (.v (.int .u8 128))),xm 41 40,xH 41 (xm 42 0),xH 41 (xZ 43 42),xH 41 (xa 44 43 1 1),xH 41 (xl 45 44 1),xH 41 (xC 46 .eql 45 0),xN 47 41 46]
def NT:=[xm 48 3,xm 2 48]
def Sf:=xV 11 4 12
def NU:AC:=.seq (xS tU [0,3,4,10] (xD 10 0)) (.seq (.block 1 (xS tT [0,3,4,5] (xQ NS [0,3,4,5,28] 28 (.reg AIn [0,3,4,5]) (xS Se [0,3,4,5] (xS Sd [0,3,4,47] (.cond (xt 47) (xE NT [2]) .skip)))))) (.reg Sf [0,3,4]))
def wh:=[xo (.mv 2 (xj 0))]
def AO3:AC:=xS tX [0] (xS tW [0,3] (.seq (xS tV [0,3,4] (.block 0 (.loop NU))) (xE wh [2])))
def ADz:List AR:=[.t 2]
theorem ATZ:AU 119 1 AO3 ADz:=by kernel_rfl
def tR:=[xx 2 0,xw 4 false]
def tQ:=[xn 5 1,xp 6 (.mkf 208 [xt 2]),x2 7 151 5 6,xT 8 7,xm 4 8]
def AIm:AC:=xS tR [1,2] (xE tQ [4])
def tS:List AR:=[.t 4]
theorem ALS:AU 120 2 AIm tS:=by kernel_rfl
def AIl:=[xw 2 false]
def AIk:=[xm 3 0,x1 4 209 3,xm 5 4,xH 5 (xm 6 0),xH 5 (x1 7 122 6),xH 5 (x1 8 210 7),xH 5 (xA 9 8),xH 5 (xn 10 0),xH 5 (xA 11 10),xH 5 (xB 12 .eql 9 11),xN 13 5 12,xm 2 13]
def AO1:AC:=xS AIl [0] (xE AIk [2])
def ADu:List AR:=[.t 2]
theorem ATY:AU 121 1 AO1 ADu:=by kernel_rfl
def AIj:=[xr 2 3 1]
def AIi:=[xm 3 0,xo (.nilS 4 false (xt 3))]
def AIh:=[xr 2 3 1]
def AIg:=[xo (.bsl 5 3 1 []),xn 6 0,xo (.app 7 (xu 5) (xt 6) 3 1 8),xn 2 7]
def AO0:AC:=xS AIj [0] (xQ AIi [0,4] 4 (xE AIh [2]) (xE AIg [2]))
def ADt:List AR:=[.t 2]
theorem ATX:AU 122 1 AO0 ADt:=by kernel_rfl
def Sc:=[xx 1 0,xw 2 false]
def Sb:=[xl 7 1 1,xZ 8 7,xa 9 8 0 1,xl 10 9 1,xA 11 10,xo (.mksl 12 (xt 11) (.v (.bool false))),xl 13 1 1,xZ 14 13,xa 15 14 0 1,xl 16 15 1,xA 17 16,xo (.mksl 18 (xt 17) (.v (.bool false))),xo (.alloc 3 [.own 4 1 []]),xo (.alloc 4 [.own 4 1 []]),xo (.store (xt 3) (xu 12) 1),xo (.store (xt 4) (xu 18) 1)]
def Sa:=[xo (.alloc 5 [.v .nilf])]
def SZ:=[xp 19 (.mkf 211 [xt 3,xt 4,xt 1,xt 5]),xs 5 19 1]
def SY:=[xl 20 1 1,xZ 21 20,xa 22 21 0 1,xl 23 22 1,xA 24 23,xv 25 0]
def tN:=[xB 26 .lss 25 24]
def tM:=[xm 27 25,xm 6 27]
def tL:=[xl 28 5 1,xm 29 6,xo (.call (some 30) (xt 28) [xt 29]),xT 31 30]
def AIf:=[xw 2 false]
def tK:=xW 32 25
def NR:AC:=xS tN [5,24,25,26] (.seq (xD 26 0) (.seq (.block 1 (xS tM [5,6,24,25] (xS tL [5,24,25,31] (.cond (xt 31) (xE AIf [2]) .skip)))) (.reg tK [5,24,25])))
def NQ:=[xw 2 true]
def wg:AC:=xS Sc [1] (.seq (.regA Sb [1,3,4] (xK [[],[0],[1],[2],[3],[4],[],[6],[7],[8],[9],[10],[],[],[5,12,13],[11,14]]) (.take 0 (.take 1 (.take 2 (.take 3 (.take 4 (.pick (.alt 5 (.pick (.alt 6 (.take 7 (.take 8 tq95)) (.alt 12 tq97 (.alt 13 tq98 .none)))) (.alt 6 (.take 7 (.take 8 (.pick (.alt 5 tq95 (.alt 9 (.take 10 (.pick (.alt 5 tq90 (.alt 11 (.pick (.alt 5 tq85 (.alt 12 tq100 (.alt 13 tq101 .none)))) (.alt 12 tq103 (.alt 13 tq104 .none)))))) (.alt 12 tq106 (.alt 13 tq107 .none))))))) (.alt 12 (.pick (.alt 5 tq97 (.alt 6 (.take 7 (.take 8 tq106)) (.alt 13 tq108 .none)))) (.alt 13 (.pick (.alt 5 tq98 (.alt 6 (.take 7 (.take 8 tq107)) (.alt 12 tq108 .none)))) .none))))))))))) (xS Sa [1,3,4,5] (xS SZ [1,5] (.seq (xS SY [5,24,25] (.block 0 (.loop NR))) (xE NQ [2])))))
def ADs:List AR:=[.t 2]
theorem ATW:AU 123 1 wg ADs:=by kernel_rfl
def tH:=[xr 2 130 5]
def tG:=[xr 3 130 5]
def tF:=[xm 8 0,xc 9 47 [xt 8,xi 0,xi 3],xb 10 .add (xi 1) (xt 9),xm 4 10]
def tE:=[xv 5 0]
def SX:=[xm 11 5,xm 12 4,xB 13 .lss 11 12]
def SV:=[xm 16 0,xm 17 5,xb 18 .mul (xi 2) (xt 17),xC 19 .add 18 1,xc 20 47 [xt 16,xt 19,xi 1000],xm 6 20]
def SU:=[xm 21 0,xm 22 5,xb 23 .mul (xi 2) (xt 22),xC 24 .add 23 2,xc 25 47 [xt 21,xt 24,xi 1048576],x1 26 212 25,xp 27 (.build zl14 [(1,4,xt 26)]),xo (.alloc 7 zl5),xs 7 27 5]
def ST:=[xm 28 6,xC 29 .rem 28 4,xC 30 .eql 29 0]
def SS:=[xa 31 7 1 4,xL 32 31 4,xm 33 6,xC 34 .quo 33 4,x1 35 212 34,xo (.bsl 36 84 4 [xt 32,xt 35]),xp 37 (.build zl13 [(0,1,xi 5),(3,1,xt 36)]),xa 38 7 1 4,xs 38 37 4]
def NP:=[xm 39 5,xC 40 .gtr 39 0,xm 41 40,xH 41 (xm 42 6),xH 41 (xC 43 .quo 42 4),xH 41 (xC 44 .rem 43 2),xH 41 (xC 45 .eql 44 0),xN 46 41 45]
def NO:=[xm 47 6,xC 48 .quo 47 8,xm 49 5,xB 50 .rem 48 49,xo (.bsl 51 3 1 [xt 50]),xa 52 7 0 1,xo (.store (xt 52) (xu 51) 1)]
def EF:=[xm 53 5,xC 54 .eql 53 2,xm 55 54,xH 55 (xm 56 6),xH 55 (xC 57 .quo 56 16),xH 55 (xC 58 .rem 57 4),xH 55 (xC 59 .eql 58 0),xN 60 55 59]
def Ju:=[xo (.bsl 61 3 1 [xi 0,xi 1]),xa 62 7 0 1,xo (.store (xt 62) (xu 61) 1)]
def EE:=[xn 63 3,xL 64 7 5,xo (.bsl 65 130 5 [xt 64]),xo (.app 66 (xu 63) (xt 65) 130 5 88),xn 3 66]
def SW:=xV 14 5 15
def tJ:AC:=.seq (xS SX [0,3,4,5,13] (xD 13 0)) (.seq (.block 1 (xS SV [0,3,4,5,6] (xS SU [0,3,4,5,6,7] (xQ ST [0,3,4,5,6,7,30] 30 (.regD SS [0,3,4,5,6,7] (xK [[],[0],[],[2],[3],[1,4],[5],[6],[7]])) (xQ NP [0,3,4,5,6,7,46] 46 (.reg NO [0,3,4,5,6,7]) (xQ EF [0,3,4,5,7,60] 60 (.reg Ju [0,3,4,5,7]) (.reg EE [0,3,4,5]))))))) (.reg SW [0,3,4,5]))
def Vw:=[xn 67 3,xn 2 67]
def AOz:AC:=xS tH [0] (xS tG [0,3] (xS tF [0,3,4] (.seq (xS tE [0,3,4,5] (.block 0 (.loop tJ))) (xE Vw [2]))))
def ADq:List AR:=[.t 2]
theorem ATV:AU 124 1 AOz ADq:=by kernel_rfl
def tC:=[xw 6 false]
def tB:=[xm 7 0,xm 8 1,xB 9 .geq 7 8,xm 10 9,xH 10 (xm 11 0),xH 10 (xm 12 2),xH 10 (xB 13 .leq 11 12),xN 14 10 13,xm 6 14]
def AOy:AC:=xS tC [0,1,2] (xE tB [6])
def ADp:List AR:=[.t 6]
theorem ATU:AU 125 3 AOy ADp:=by kernel_rfl
def s9:=[xv 2 0]
def s8:=[xm 5 0,xA 6 5,xC 7 .gtr 6 32]
def sw:=[xv 2 4]
def su:=[xv 3 0]
def sr:=[xm 8 3,xm 9 0,xA 10 9,xB 11 .lss 8 10]
def so:=[xm 14 0,xm 15 3,xI 16 14 15 5,xa 17 16 0 1,xl 18 17 1,xA 19 18,xC 20 .gtr 19 8]
def sn:=[xv 2 4]
def sm:=[xm 21 0,xm 22 3,xI 23 21 22 5,xa 24 23 0 1,xl 25 24 1,xm 26 3,x2 27 213 25 26,xT 28 27]
def sk:=[xv 2 1]
def Vv:=[xm 29 0,xm 30 3,xI 31 29 30 5,xa 32 31 1 4,xL 33 32 4,x1 34 214 33,xm 4 34]
def NN:=[xm 35 4,xC 36 .neq 35 0]
def Vu:=[xm 37 4,xm 2 37]
def sq:=xV 12 3 13
def tA:AC:=.seq (xS sr [0,3,11] (xD 11 0)) (.seq (.block 1 (xQ so [0,3,20] 20 (xE sn [2]) (xQ sm [0,3,28] 28 (xE sk [2]) (xS Vv [0,3,4] (xS NN [0,3,4,36] (.cond (xt 36) (xE Vu [2]) .skip)))))) (.reg sq [0,3]))
def Vt:=[xv 2 0]
def AOx:AC:=xS s9 [0] (xQ s8 [0,7] 7 (xE sw [2]) (.seq (xS su [0,3] (.block 0 (.loop tA))) (xE Vt [2])))
def Ls:List AR:=[.t 2]
theorem ATT:AU 126 1 AOx Ls:=by kernel_rfl
def sj:=[xx 1 0,xv 2 0]
def si:=[xa 3 1 1 1,xl 4 3 1,xC 5 .lss 4 1,xm 6 5,xF 6 (xa 7 1 1 1),xF 6 (xl 8 7 1),xF 6 (xC 9 .gtr 8 1048576),xO 10 6 9,xm 11 10,xF 11 (xa 12 1 0 1),xF 11 (xl 13 12 1),xF 11 (xC 14 .gtr 13 1099511627776),xO 15 11 14,xm 16 15,xF 16 (xa 17 1 0 1),xF 16 (xl 18 17 1),xF 16 (xb 19 .lss (xt 18) (.c (.v (.int .i64 (-1099511627776))))),xO 20 16 19,xm 21 20,xF 21 (xa 22 1 0 1),xF 21 (xl 23 22 1),xF 21 (xa 24 1 1 1),xF 21 (xl 25 24 1),xF 21 (x2 26 215 23 25),xF 21 (xC 27 .neq 26 1),xO 28 21 27]
def I0:=[xv 2 1]
def sf:=[xv 2 0]
def AOw:AC:=xS sj [1] (xQ si [28] 28 (xE I0 [2]) (xE sf [2]))
def Km:List AR:=[.t 2]
theorem ATS:AU 127 1 AOw Km:=by kernel_rfl
def sd:=[xx 1 0,xw 2 false]
def sc:=[xa 8 1 3 1,xl 9 8 1,xA 10 9,xo (.alloc 3 [xz]),xs 3 10 1]
def sb:=[xa 11 1 0 1,xl 12 11 1,xc 13 216 [xt 12,xi 0,xi 4095],xT 14 13,xm 15 14,xF 15 (xa 16 1 1 1),xF 15 (xl 17 16 1),xF 15 (xc 18 216 [xt 17,xi 0,xi 4]),xF 15 (xT 19 18),xO 20 15 19,xm 21 20,xF 21 (xa 22 1 2 1),xF 21 (xl 23 22 1),xF 21 (xc 24 216 [xt 23,xi 0,xi 4]),xF 21 (xT 25 24),xO 26 21 25,xm 27 26,xF 27 (xa 28 1 3 1),xF 27 (xl 29 28 1),xF 27 (x1 30 138 29),xF 27 (xC 31 .neq 30 0),xO 32 27 31,xm 33 32,xF 33 (xa 34 1 4 1),xF 33 (xl 35 34 1),xF 33 (xA 36 35),xF 33 (xC 37 .gtr 36 4096),xO 38 33 37,xm 39 38,xF 39 (xa 40 1 7 1),xF 39 (xl 41 40 1),xF 39 (xA 42 41),xF 39 (xC 43 .gtr 42 4096),xO 44 39 43]
def HT:=[xw 2 false]
def SR:=[xa 45 1 4 1,xl 46 45 1,xp 47 (.mkf 218 [xt 3]),x2 48 217 46 47,xm 49 48,xH 49 (xa 50 1 4 1),xH 49 (xl 51 50 1),xH 49 (xc 52 219 [xt 51,xf 220]),xN 53 49 52,xm 4 53]
def SQ:=[xa 54 1 5 1,xl 55 54 1,xp 56 (.mkf 222 [xt 3]),x2 57 221 55 56,xm 58 57,xH 58 (xa 59 1 5 1),xH 58 (xl 60 59 1),xH 58 (xc 61 223 [xt 60,xf 224]),xN 62 58 61,xm 5 62]
def SP:=[xa 63 1 6 1,xl 64 63 1,xc 65 225 [xt 64,xf 226],xm 66 65,xH 66 (xa 67 1 6 1),xH 66 (xl 68 67 1),xH 66 (xc 69 228 [xt 68,xf 229]),xN 70 66 69,xm 6 70]
def SO:=[xa 71 1 7 1,xl 72 71 1,xc 73 230 [xt 72,xf 231],xm 7 73]
def sa:=[xm 74 4,xm 75 74,xH 75 (xm 76 5),xN 77 75 76,xm 78 77,xH 78 (xm 79 6),xN 80 78 79,xm 81 80,xH 81 (xm 82 7),xN 83 81 82,xm 2 83]
def AIe:AC:=xS sd [1] (xS sc [1,3] (xQ sb [1,3,44] 44 (xE HT [2]) (xS SR [1,3,4] (xS SQ [1,4,5] (xS SP [1,4,5,6] (xS SO [4,5,6,7] (xE sa [2])))))))
def IP:List AR:=[.t 2]
theorem ALR:AU 128 1 AIe IP:=by kernel_rfl
def sX:=[xn 5 0,xA 6 5,xv 7 0]
def sW:=[xB 8 .lss 7 6]
def sV:=[xI 9 5 7 1,xl 10 9 1,xm 4 10]
def sU:=[xm 11 4,x2 12 98 1 11]
def sT:=xW 13 7
def sY:AC:=xS sW [1,5,6,7,8] (.seq (xD 8 0) (.seq (.block 1 (xS sV [1,4,5,6,7] (.reg sU [1,5,6,7]))) (.reg sT [1,5,6,7])))
def AId:AC:=xS sX [1,5,6,7] (.block 0 (.loop sY))
def sZ:List AR:=[]
theorem ALQ:AU 129 2 AId sZ:=by kernel_rfl
def sR:=[xr 2 5 1,xv 3 0]
def sQ:=[xm 10 0,x1 11 138 10,xm 4 11]
def sP:=[xm 12 4,xC 13 .neq 12 0]
def sO:=[xm 14 4,xr 2 5 1,xm 3 14]
def sN:=[xp 15 (.build [.nil 5 1] []),xx 16 15,xm 5 16]
def sM:=[xm 17 5,xm 18 0,xA 19 18,x2 20 98 17 19]
def sL:=[xn 21 0,xA 22 21,xv 23 0]
def sK:=[xB 24 .lss 23 22]
def sJ:=[xI 25 21 23 5,xL 26 25 5,xo (.alloc 7 zl5),xs 7 26 5]
def sI:=[xa 28 7 1 4,xL 29 28 4,x1 30 232 29,xn 27 30,xe 31 27 0,xe 32 27 1,xn 8 31,xm 9 32]
def Vq:=[xm 33 9,xC 34 .neq 33 0]
def wd:=[xm 35 9,xr 2 5 1,xm 3 35]
def Vp:=[xm 36 5,xa 37 7 0 1,xl 38 37 1,x2 39 100 36 38]
def Vo:=[xm 40 5,xn 41 8,x2 42 99 40 41]
def Vn:=xW 43 23
def sS:AC:=xS sK [5,21,22,23,24] (.seq (xD 24 0) (.seq (.block 1 (xS sJ [5,7,21,22,23] (xS sI [5,7,8,9,21,22,23] (xQ Vq [5,7,8,9,21,22,23,34] 34 (xE wd [2,3]) (xS Vp [5,8,21,22,23] (.reg Vo [5,21,22,23])))))) (.reg Vn [5,21,22,23])))
def Vm:=[xm 44 5,x1 45 102 44,xn 2 45,xv 3 0]
def AIc:AC:=xS sR [0] (.seq (xS sQ [0,4] (xS sP [0,4,13] (.cond (xt 13) (xE sO [2,3]) .skip))) (xS sN [0,5] (xS sM [0,5] (.seq (xS sL [5,21,22,23] (.block 0 (.loop sS))) (xE Vm [2,3])))))
def Vr:List AR:=[.t 2,.t 3]
theorem ALP:AU 130 1 AIc Vr:=by kernel_rfl
def sG:=[xw 2 false]
def sF:=[xm 3 0,xC 4 .geq 3 0,xm 5 4,xH 5 (xm 6 0),xH 5 (xC 7 .leq 6 4095),xN 8 5 7,xm 2 8]
def AIb:AC:=xS sG [0] (xE sF [2])
def sH:List AR:=[.t 2]
theorem ALO:AU 131 1 AIb sH:=by kernel_rfl
def sD:=[xx 5 2]
def r9:=[xm 9 1,xp 10 (.build zl7 [(0,1,xi 0),(1,1,xt 9)]),xo (.alloc 6 zl7),xs 6 10 2]
def SL:=[xa 18 6 0 1,xl 19 18 1,xC 20 .gtr 19 0]
def SK:=[xL 22 6 2,x1 23 181 22,xn 21 23,xe 24 21 0,xe 25 21 1,xo (.alloc 7 zl7),xo (.alloc 8 zl7),xs 7 24 2,xs 8 25 2]
def SJ:=[xm 26 0,xL 27 7 2,xo (.callC (some 28) (xf 233) [xt 26,xt 27]),xm 29 0,xL 30 8 2,xo (.callC (some 31) (xf 233) [xt 29,xt 30]),x2 32 182 28 31,xs 5 32 2]
def SI:=[xa 33 5 1 1,xl 34 33 1]
def SH:=[xm 35 0,xZ 36 35,xa 37 36 1 1,xl 38 37 1,xL 39 6 2,xa 40 5 0 1,xl 41 40 1,xo (.mput (xt 38) (xt 39) (xt 41) true [0,0])]
def r5:=[xm 42 0,xZ 43 42,xa 44 43 1 1,xl 45 44 1,xL 46 6 2,xo (.mdel none (xt 45) (xt 46) true [0,0])]
def NK:=[xL 47 6 2,xp 48 (.load (.g 0 [.int .i64 12,.int .i64 0]) 2 true),xp 49 (.eqA false [0,0] (xt 47) (xt 48))]
def NM:=[xL 50 6 2]
def NL:=[xo (.alloc 6 zl7),xs 6 50 2]
def SM:=[xa 11 6 0 1,xl 12 11 1,xC 13 .add 12 1,xa 14 6 1 1,xl 15 14 1,xC 16 .quo 15 2,xp 17 (.build zl7 [(0,1,xt 13),(1,1,xt 16)]),xs 6 17 2]
def SN:AC:=.seq (.block 1 (xQ SL [0,5,6,20] 20 (xS SK [0,5,6,7,8] (.regA SJ [0,5,6] (xK [[],[],[0,1],[],[],[2,3,4],[5],[6]]) tq112)) (.seq (xS SI [0,5,6,34] (.cond (xt 34) (.regD SH [0,5,6] (xK [[],[0],[1],[2],[],[],[5],[3,4,6]])) (.regD r5 [0,5,6] (xK [[],[0],[1],[2],[],[3,4]])))) (xS NK [0,5,6,49] (.cond (xt 49) .ret .skip))))) (.seq (xS NM [0,5,50] (.reg NL [0,5,6])) (.reg SM [0,5,6]))
def AIa:AC:=xS sD [0,1,5] (xS r9 [0,5,6] (.block 0 (.loop SN)))
def sE:List AR:=[]
theorem ALN:AU 132 3 AIa sE:=by kernel_rfl
def ry:=[xo (.mv 4 (xj 0))]
def rx:=[xm 5 0,xm 6 1,xA 7 6,xn 8 1,xc 9 234 [(.c (.v (.str ⟨#[118,97,108,117,101]⟩))),xt 8],xp 10 (.cint .i64 (xt 9)),xo (.bsl 11 3 1 [xt 5,xt 7,xt 10]),xc 12 96 [(.c (.v (.str ⟨#[112,97,105,114]⟩))),xt 11],xm 4 12]
def AIZ:AC:=xS ry [0,1] (xE rx [4])
def rz:List AR:=[.t 4]
theorem ALM:AU 133 2 AIZ rz:=by kernel_rfl
def rq:=[xx 3 0,xx 4 1,xr 6 193 2,xo (.alloc 7 zl12),xv 8 0]
def rp:=[xl 16 4 1,xm 17 2,x2 18 177 16 17,xT 19 18]
def AIV:=[xp 20 (.build [.nil 47 1,.nil 47 1,.nil 5 1] []),xr 6 193 2,xs 7 20 3,xv 8 5]
def ro:=[xr 9 193 2]
def rn:=[xl 21 3 1,xZ 22 21,xa 23 22 0 1,xl 24 23 1,x1 25 238 24,x1 26 237 25,xA 27 26,xv 28 0]
def rm:=[xB 29 .lss 28 27]
def rl:=[xI 30 26 28 1,xl 31 30 1,xm 11 31]
def rk:=[xm 32 11,xl 33 4 1,xB 34 .geq 32 33,xm 35 34,xH 35 (xm 36 11),xH 35 (xm 37 2),xH 35 (xB 38 .leq 36 37),xN 39 35 38]
def rj:=[xn 40 9,xm 41 11,xl 42 3 1,xZ 43 42,xa 44 43 0 1,xl 45 44 1,xm 46 11,xp 47 (.look (xt 45) (xt 46) false [0] [.nil 5 1] false false),x1 48 117 47,xp 49 (.build [xz,.nil 5 1] [(0,1,xt 41),(1,1,xt 48)]),xo (.bsl 50 193 2 [xt 49]),xo (.app 51 (xu 40) (xt 50) 193 2 32),xn 9 51]
def ri:=xW 52 28
def SG:AC:=xS rm [2,3,4,7,9,26,27,28,29] (.seq (xD 29 0) (.seq (.block 1 (xS rl [2,3,4,7,9,11,26,27,28] (xS rk [2,3,4,7,9,11,26,27,28,39] (.cond (xt 39) (.reg rj [2,3,4,7,9,26,27,28]) .skip)))) (.reg ri [2,3,4,7,9,26,27,28])))
def Vl:=[xo (.alloc 12 zl12)]
def Vk:=[xl 53 4 1,xm 54 2,x2 55 239 53 54]
def wc:=[xo (.alloc 13 zl7),xs 13 56 2]
def wb:=[xl 58 3 1,xZ 59 58,xa 60 59 1 1,xl 61 60 1,xL 62 13 2,xp 63 (.look (xt 61) (xt 62) true [0,0] [.v (.int .u64 0)] false true),xn 57 63,xe 64 57 0,xe 65 57 1,xm 14 64,xm 15 65]
def wa:=[xm 66 15,xT 67 66]
def wZ:=[xa 68 12 2 1,xo (.take 69 (xt 68)),xo (.bsl 70 5 1 [(.c (.v (.int .u8 0)))]),xo (.app 71 (xu 69) (xt 70) 5 1 1),xa 72 12 2 1,xo (.store (xt 72) (xu 71) 1)]
def wY:=[xa 73 12 2 1,xo (.take 74 (xt 73)),xo (.bsl 75 5 1 [(.c (.v (.int .u8 1)))]),xo (.app 76 (xu 74) (xt 75) 5 1 1),xa 77 12 2 1,xo (.store (xt 77) (xu 76) 1)]
def wX:=[xL 78 13 2,x1 79 240 78,xl 80 4 1,xB 81 .lss 79 80]
def wW:=[xa 82 12 0 1,xo (.take 83 (xt 82)),xm 84 14,xo (.bsl 85 47 1 [xt 84]),xo (.app 86 (xu 83) (xt 85) 47 1 8),xa 87 12 0 1,xo (.store (xt 87) (xu 86) 1)]
def wV:=[xa 88 12 1 1,xo (.take 89 (xt 88)),xm 90 14,xo (.bsl 91 47 1 [xt 90]),xo (.app 92 (xu 89) (xt 91) 47 1 8),xa 93 12 1 1,xo (.store (xt 93) (xu 92) 1)]
def AIX:AC:=.reg wc [3,4,12,13]
def AIW:AC:=.block 3 (.seq (.regD wb [4,12,13,14,15] (xK [[],[0],[1],[2],[],[3,4],[5],[6],[6],[7],[8,9]])) (xQ wa [4,12,13,14,67] 67 (xS wZ [] (.exit 3)) (xS wY [4,12,13,14] (.seq (.regD wX [12,14,81] [[],[0],[],[0,1,2]]) (.cond (xt 81) (.reg wW []) (.reg wV []))))))
def Vj:=[xn 94 9,xL 95 12 3,xn 6 94,xs 7 95 3,xv 8 0]
def AIY:AC:=xS rq [2,3,4,7] (xQ rp [2,3,4,7,19] 19 (xE AIV [6,7,8]) (xS ro [2,3,4,7,9] (.seq (xS rn [2,3,4,7,9,26,27,28] (.block 0 (.loop SG))) (xS Vl [2,3,4,7,9,12] (.seq (xS Vk [3,4,7,9,12,55] (.block 2 (.rangeF (xt 55) [56] AIX AIW))) (.seq (.regD Vj [6,7,8] (xK [[],[],[0],[1,2],[3]])) .ret))))))
def rt:List AR:=[.t 6,.c 7 3 true,.t 8]
theorem ALL:AU 137 3 AIY rt:=by kernel_rfl
def re:=[xv 2 0]
def rb:=[xm 6 0,xA 7 6,xC 8 .gtr 7 32]
def ra:=[xv 2 4]
def rZ:=[xn 9 0,xA 10 9,xv 11 0]
def rY:=[xB 12 .lss 11 10]
def rX:=[xm 13 11,xI 14 9 11 5,xL 15 14 5,xo (.alloc 4 zl5),xm 3 13,xs 4 15 5]
def rW:=[xa 17 4 0 1,xl 18 17 1,xA 19 18,xC 20 .gtr 19 8,xm 16 20]
def rV:=[xv 2 4]
def rU:=[xa 22 4 0 1,xl 23 22 1,xm 24 3,x2 25 241 23 24,xT 26 25,xm 21 26]
def rT:=[xv 2 1]
def Vi:=[xa 27 4 1 4,xL 28 27 4,x1 29 66 28,xm 5 29]
def NJ:=[xm 30 5,xC 31 .neq 30 0]
def Vh:=[xm 32 5,xm 2 32]
def Vg:=xW 33 11
def rf:AC:=xS rY [9,10,11,12] (.seq (xD 12 0) (.seq (.block 1 (xS rX [3,4,9,10,11] (.seq (.block 2 (xS rW [3,4,9,10,11,16] (.cond (xt 16) (xE rV [2]) (xS rU [4,9,10,11,21] (.cond (xt 21) (xE rT [2]) .skip))))) (xS Vi [5,9,10,11] (xS NJ [5,9,10,11,31] (.cond (xt 31) (xE Vh [2]) .skip)))))) (.reg Vg [9,10,11])))
def Vf:=[xv 2 0]
def AIU:AC:=xS re [0] (xQ rb [0,8] 8 (xE ra [2]) (.seq (xS rZ [9,10,11] (.block 0 (.loop rf))) (xE Vf [2])))
def Kl:List AR:=[.t 2]
theorem ALK:AU 138 1 AIU Kl:=by kernel_rfl
def rS:=[xx 1 0,xo (.mv 2 (.c (.v .nilf)))]
def rR:=[xp 3 (.mkf 242 [xt 1]),xm 2 3]
def AOv:AC:=xS rS [1] (xE rR [2])
def ADo:List AR:=[.t 2]
theorem ATR:AU 139 1 AOv ADo:=by kernel_rfl
def rJ:=[xx 1 0,xr 2 84 4]
def rI:=[xa 3 1 0 1,xl 4 3 1,xC 5 .eql 4 4]
def rH:=[xa 6 1 3 1,xl 7 6 1,xn 2 7]
def rG:=[xL 8 1 4,xo (.bsl 9 84 4 [xt 8]),xn 2 9]
def AOq:AC:=xS rJ [1] (xQ rI [1,5] 5 (xE rH [2]) (xE rG [2]))
def ADj:List AR:=[.t 2]
theorem ATQ:AU 141 1 AOq ADj:=by kernel_rfl
def rF:=[xx 1 0,xv 2 0]
def rE:=[xo (.alloc 3 [xz]),xo (.store (xt 3) (xi 0) 1)]
def rD:=[xL 4 1 4,x1 5 68 4]
def rC:=[xl 7 3 1,xC 8 .add 7 1,xs 3 8 1]
def Iz:AC:=.skip
def Iy:AC:=.block 1 (.reg rC [])
def rA:=[xl 9 3 1,xm 2 9]
def AOp:AC:=xS rF [1] (xS rE [1,3] (.seq (xS rD [3,5] (.block 0 (.rangeF (xt 5) [6] Iz Iy))) (xE rA [2])))
def ADi:List AR:=[.t 2]
theorem ATP:AU 142 1 AOp ADi:=by kernel_rfl
def qy:=[xx 1 0,xv 2 0]
def qx:=[xv 3 0]
def qw:=[xa 6 1 3 1,xl 7 6 1,xA 8 7,xv 9 0]
def qv:=[xB 10 .lss 9 8]
def qu:=[xI 11 7 9 4,xL 12 11 4,xo (.alloc 5 zl6),xs 5 12 4]
def qt:=[xm 13 3,xL 14 5 4,x1 15 143 14,xp 16 (.minmax true (xt 13) (xt 15)),xm 3 16]
def qr:=xW 17 9
def qz:AC:=xS qv [3,7,8,9,10] (.seq (xD 10 0) (.seq (.block 1 (xS qu [3,5,7,8,9] (.reg qt [3,7,8,9]))) (.reg qr [3,7,8,9])))
def qq:=[xm 18 3,xC 19 .add 18 1,xm 2 19]
def AOo:AC:=xS qy [1] (xS qx [1,3] (.seq (xS qw [3,7,8,9] (.block 0 (.loop qz))) (xE qq [2])))
def ADh:List AR:=[.t 2]
theorem ATO:AU 143 1 AOo ADh:=by kernel_rfl
def qp:=[xx 1 0,xw 2 false]
def R8:=[xa 4 1 0 1,xl 5 4 1,xC 6 .neq 5 2,xm 7 6,xH 7 (xa 8 1 2 1),xH 7 (xl 9 8 1),xH 7 (xA 10 9),xH 7 (xC 11 .gtr 10 0),xN 12 7 11,xm 13 12,xF 13 (xa 14 1 0 1),xF 13 (xl 15 14 1),xF 13 (xC 16 .neq 15 2),xF 13 (xm 17 16),xH 17 (xa 18 1 0 1),xH 17 (xl 19 18 1),xH 17 (xC 20 .neq 19 1),xF 13 (xN 21 17 20),xF 13 (xm 22 21),xH 22 (xa 23 1 1 1),xH 22 (xl 24 23 1),xH 22 (xC 25 .neq 24 0),xF 13 (xN 26 22 25),xO 27 13 26]
def qo:=[xw 2 false]
def qn:=[xa 28 1 3 1,xl 29 28 1,xA 30 29,xm 3 30]
def ql:=[xa 31 1 0 1,xl 32 31 1]
def qk:=[xC 34 .eql 32 0,xm 33 34]
def qj:=[xm 35 3,xC 36 .eql 35 0,xm 2 36]
def qi:=[xC 38 .eql 32 1,xm 37 38]
def qh:=[xm 39 3,xC 40 .eql 39 0,xm 41 40,xH 41 (xa 42 1 1 1),xH 41 (xl 43 42 1),xH 41 (xC 44 .geq 43 0),xN 45 41 44,xm 46 45,xH 46 (xa 47 1 1 1),xH 46 (xl 48 47 1),xH 46 (xC 49 .lss 48 64),xN 50 46 49,xm 2 50]
def qg:=[xC 52 .eql 32 2,xm 51 52]
def Vd:=[xm 53 3,xC 54 .eql 53 0,xm 55 54,xH 55 (xa 56 1 1 1),xH 55 (xl 57 56 1),xH 55 (xC 58 .geq 57 0),xN 59 55 58,xm 60 59,xH 60 (xa 61 1 1 1),xH 60 (xl 62 61 1),xH 60 (xC 63 .lss 62 32),xN 64 60 63,xm 65 64,xH 65 (xa 66 1 2 1),xH 65 (xl 67 66 1),xH 65 (x1 68 246 67),xH 65 (xC 69 .eql 68 0),xN 70 65 69,xm 2 70]
def Vc:=[xC 72 .eql 32 3,xm 71 72]
def Vb:=[xC 73 .eql 32 6,xm 71 73]
def NG:=[xm 74 3,xC 75 .eql 74 1,xm 2 75]
def VZ:=[xa 76 1 0 1,xl 77 76 1,xC 78 .eql 77 4,xm 79 78,xF 79 (xa 80 1 0 1),xF 79 (xl 81 80 1),xF 79 (xC 82 .eql 81 5),xO 83 79 82,xm 2 83]
def AOn:AC:=xS qp [1] (xQ R8 [1,27] 27 (xE qo [2]) (xS qn [1,3] (.seq (xS ql [1,3,32] (.block 0 (xS qk [1,3,32,33] (.cond (xt 33) (xE qj [2]) (xS qi [1,3,32,37] (.cond (xt 37) (xE qh [2]) (xS qg [1,3,32,51] (.cond (xt 51) (xE Vd [2]) (.seq (xS Vc [1,3,32,71] (.cond (xt 71) .skip (.reg Vb [1,3,71]))) (.cond (xt 71) (xE NG [2]) .skip)))))))))) (xE VZ [2]))))
def G9:List AR:=[.t 2]
theorem ATN:AU 144 1 AOn G9:=by kernel_rfl
def qf:=[xx 1 0,xw 2 false]
def qe:=[xL 3 1 3,xc 4 247 [xt 3,xi 1,xi 96],xC 5 .geq 4 0,xm 2 5]
def AOm:AC:=xS qf [1] (xE qe [2])
def ADg:List AR:=[.t 2]
theorem ATM:AU 145 1 AOm ADg:=by kernel_rfl
def qd:=[xx 1 0,xw 2 false]
def qc:=[xr 3 3 1]
def qZ:=[xa 7 1 1 1,xl 8 7 1,xA 9 8,xv 10 0]
def qY:=[xB 11 .lss 10 9]
def qX:=[xI 12 8 10 3,xL 13 12 3,xo (.alloc 5 zl9),xs 5 13 3]
def qW:=[xn 14 3,xa 15 5 0 1,xl 16 15 1,xo (.bsl 17 3 1 [xt 16]),xo (.app 18 (xu 14) (xt 17) 3 1 8),xn 3 18]
def qV:=[xa 19 5 1 2,xL 20 19 2,x1 21 248 20,xC 22 .neq 21 0,xm 23 22,xF 23 (xa 24 5 1 2),xF 23 (xa 25 24 1 1),xF 23 (xl 26 25 1),xF 23 (xC 27 .gtr 26 65536),xO 28 23 27]
def Rz:=[xw 2 false]
def qU:=xW 29 10
def R6:AC:=xS qY [1,3,8,9,10,11] (.seq (xD 11 0) (.seq (.block 1 (xS qX [1,3,5,8,9,10] (xS qW [1,3,5,8,9,10] (xS qV [1,3,8,9,10,28] (.cond (xt 28) (xE Rz [2]) .skip))))) (.reg qU [1,3,8,9,10])))
def qT:=[xo (.mv 6 (xf 249))]
def VY:=[xa 30 1 0 1,xl 31 30 1,xc 32 250 [xt 31,xi 64],xm 33 32,xH 33 (xn 34 3),xH 33 (xc 35 250 [xt 34,xi 32]),xN 36 33 35,xm 37 36,xH 37 (xa 38 1 2 1),xH 37 (xl 39 38 1),xH 37 (xm 40 6),xH 37 (x2 41 153 39 40),xH 37 (xT 42 41),xN 43 37 42,xm 2 43]
def AOl:AC:=xS qd [1] (xS qc [1,3] (.seq (xS qZ [1,3,8,9,10] (.block 0 (.loop R6))) (xS qT [1,3,6] (xE VY [2]))))
def PH:List AR:=[.t 2]
theorem ATL:AU 146 1 AOl PH:=by kernel_rfl
def qS:=[xx 2 0]
def qR:=[xo (.alloc 3 [.v .nilf])]
def qQ:=[xp 4 (.mkf 148 [xt 2,xt 3]),xs 3 4 1]
def qP:=[xl 5 3 1,xL 6 1 4,xo (.call (some 7) (xt 5) [xt 6])]
def AOk:AC:=xS qS [1,2] (xS qR [1,2,3] (xS qQ [1,3] (.reg qP [])))
def AOj:List AR:=[]
theorem ATK:AU 147 2 AOk AOj:=by kernel_rfl
def Ry:=[xx 3 0,xw 4 false]
def Rx:=[xl 5 1 1,xL 6 3 4,xo (.call (some 7) (xt 5) [xt 6]),xm 8 7,xH 8 (xa 9 3 3 1),xH 8 (xl 10 9 1),xH 8 (xp 11 (.mkf 150 [xt 2])),xH 8 (x2 12 149 10 11),xH 8 (xT 13 12),xN 14 8 13,xm 4 14]
def AIR:AC:=xS Ry [1,2,3] (xE Rx [4])
def qO:List AR:=[.t 4]
theorem ALJ:AU 148 3 AIR qO:=by kernel_rfl
theorem ATJ:AU 149 2 (cJ 251) cIR:=by kernel_rfl
def qN:=[xx 2 0,xw 3 false]
def qM:=[xl 4 1 1,xL 5 2 4,xo (.call (some 6) (xt 4) [xt 5]),xT 7 6,xm 3 7]
def AOh:AC:=xS qN [1,2] (xE qM [3])
def ADX:List AR:=[.t 3]
theorem ATI:AU 150 2 AOh ADX:=by kernel_rfl
theorem ALI:AU 151 2 (cJ 252) cIR:=by kernel_rfl
def qL:=[xw 3 false]
def qK:=[xm 4 0,xl 5 1 1,xB 6 .geq 4 5,xm 3 6]
def AOg:AC:=xS qL [0,1] (xE qK [3])
def ADW:List AR:=[.t 3]
theorem ATH:AU 152 2 AOg ADW:=by kernel_rfl
theorem ATG:AU 153 2 (cJ 253) cIR:=by kernel_rfl
def qJ:=[xx 2 0,xw 3 false]
def qI:=[xL 4 2 3,xl 5 1 1,x2 6 70 4 5,xT 7 6,xm 3 7]
def AOf:AC:=xS qJ [1,2] (xE qI [3])
def ADV:List AR:=[.t 3]
theorem ATF:AU 154 2 AOf ADV:=by kernel_rfl
def qH:=[xx 3 0,xw 4 false]
def qG:=[xl 5 1 1,xL 6 3 4,xL 7 2 3,x3 8 71 5 6 7,xm 4 8]
def Wn:AC:=xS qH [1,2,3] (xE qG [4])
def ADU:List AR:=[.t 4]
theorem ATE:AU 155 3 Wn ADU:=by kernel_rfl
def qF:=[xw 4 false]
def qE:=[xl 5 1 1,xm 6 0,xa 7 2 1 1,xl 8 7 1,x3 9 157 5 6 8,xm 4 9]
def AOe:AC:=xS qF [0,1,2] (xE qE [4])
def ADT:List AR:=[.t 4]
theorem ATD:AU 156 3 AOe ADT:=by kernel_rfl
def qD:=[xw 6 false]
def qC:=[xm 7 0,x1 8 69 7,xm 9 1,xm 10 2,xo (.bsl 11 3 1 [xt 9,xt 10]),x2 12 120 8 11,xm 13 12,xH 13 (xm 14 0),xH 13 (xm 15 1),xH 13 (xm 16 2),xH 13 (xZ 17 14),xH 13 (xa 18 17 1 4096),xH 13 (xp 19 (.iaddrA (xt 18) (xt 15) 64 64)),xH 13 (xp 20 (.iaddrA (xt 19) (xt 16) 64 1)),xH 13 (xl 21 20 1),xN 22 13 21,xm 6 22]
def AOd:AC:=xS qD [0,1,2] (xE qC [6])
def VX:List AR:=[.t 6]
theorem ATC:AU 157 3 AOd VX:=by kernel_rfl
def qA:=[xx 2 0,xx 3 1,xo (.alloc 4 zl7),xw 5 false]
def pz:=[xa 7 2 1 1,xl 8 7 1,xp 9 (.mkf 255 [xt 3]),x2 10 254 8 9,xm 6 10]
def py:=[xm 11 6,xC 12 .lss 11 0]
def px:=[xp 13 (.build zl7 []),xs 4 13 2,xw 5 false]
def pw:=[xa 14 2 1 1,xl 15 14 1,xm 16 6,xI 17 15 16 3,xa 18 17 1 2,xL 19 18 2,xs 4 19 2,xw 5 true]
def AOc:AC:=xS qA [2,3,4] (xS pz [2,4,6] (xQ py [2,4,6,12] 12 (xE px [4,5]) (xE pw [4,5])))
def qB:List AR:=[.c 4 2 true,.t 5]
theorem ATB:AU 158 2 AOc qB:=by kernel_rfl
def pt:=[xx 3 1,xw 4 false]
def pr:=[xL 5 3 2,x1 6 248 5,xC 7 .eql 6 0,xm 8 7,xH 8 (xn 9 0),xH 8 (xp 10 (.mkf 257 [xt 3])),xH 8 (x2 11 256 9 10),xN 12 8 11,xm 4 12]
def AOb:AC:=xS pt [0,3] (xE pr [4])
def pu:List AR:=[.t 4]
theorem ATA:AU 159 2 AOb pu:=by kernel_rfl
def pq:=[xx 3 0,xw 4 false]
def po:=[xl 5 1 1,xa 6 2 3 1,xl 7 6 1,xp 8 (.iaddr (xt 7) (xi 0) 4),xL 9 8 4,xL 10 3 3,xq 11 71 [xt 5,xt 9,xt 10],xm 4 11]
def AOO:AC:=xS pq [1,2,3] (.seq (.regD po [4] (xK [[],[],[1],[2],[3],[],[0,4,5],[6]])) .ret)
def ADS:List AR:=[.t 4]
theorem AS9:AU 160 3 AOO ADS:=by kernel_rfl
def pn:=[xx 2 0,xw 3 false]
def pm:=[xl 4 1 1,xL 5 2 4,xo (.call (some 6) (xt 4) [xt 5]),xT 7 6,xm 3 7]
def AON:AC:=xS pn [1,2] (xE pm [3])
def ADR:List AR:=[.t 3]
theorem AS8:AU 161 2 AON ADR:=by kernel_rfl
def pk:=[xw 2 false]
def pj:=[xo (.mv 3 (xf 270))]
def ph:=[xn 6 0,xA 7 6,xv 8 0]
def Rv:=[xB 9 .lss 8 7]
def pg:=[xI 10 6 8 8,xL 11 10 8,xo (.alloc 5 zl4),xs 5 11 8]
def Ix:=[xm 12 3,xa 13 5 0 1,xl 14 13 1,xo (.call (some 15) (xt 12) [xt 14,xi 11]),xT 16 15,xm 17 16,xF 17 (xm 18 3),xF 17 (xa 19 5 1 1),xF 17 (xl 20 19 1),xg 17 false (.call (some 21) (xt 18) [xt 20,xi 1099511627776]),xF 17 (xT 22 21),xO 23 17 22,xm 24 23,xF 24 (xm 25 3),xF 24 (xa 26 5 2 1),xF 24 (xl 27 26 1),xg 24 false (.call (some 28) (xt 25) [xt 27,xi 131072]),xF 24 (xT 29 28),xO 30 24 29,xm 31 30,xF 31 (xm 32 3),xF 31 (xa 33 5 3 1),xF 31 (xl 34 33 1),xg 31 false (.call (some 35) (xt 32) [xt 34,xi 4096]),xF 31 (xT 36 35),xO 37 31 36,xm 38 37,xF 38 (xm 39 3),xF 38 (xa 40 5 6 1),xF 38 (xl 41 40 1),xF 38 (xa 42 5 3 1),xF 38 (xl 43 42 1),xg 38 false (.call (some 44) (xt 39) [xt 41,xt 43]),xF 38 (xT 45 44),xO 46 38 45]
def AIF:=[xw 2 false]
def pf:=xW 47 8
def Rw:AC:=xS Rv [3,6,7,8,9] (.seq (xD 9 0) (.seq (.block 1 (xS pg [3,5,6,7,8] (xS Ix [3,6,7,8,46] (.cond (xt 46) (xE AIF [2]) .skip)))) (.reg pf [3,6,7,8])))
def pe:=[xw 2 true]
def AIG:AC:=xS pk [0] (xS pj [0,3] (.seq (xS ph [3,6,7,8] (.block 0 (.loop Rw))) (xE pe [2])))
def pl:List AR:=[.t 2]
theorem ALH:AU 176 1 AIG pl:=by kernel_rfl
def pZ:=[xw 4 false]
def pY:=[xm 5 0,x1 6 131 5,xm 7 6,xH 7 (xm 8 1),xH 7 (x1 9 131 8),xN 10 7 9,xm 11 10,xH 11 (xm 12 0),xH 11 (xm 13 1),xH 11 (xB 14 .leq 12 13),xN 15 11 14,xm 4 15]
def AIE:AC:=xS pZ [0,1] (xE pY [4])
def pd:List AR:=[.t 4]
theorem ALG:AU 177 2 AIE pd:=by kernel_rfl
def pV:=[xw 6 false]
def pU:=[xm 9 2,xA 10 9,xv 11 0]
def pT:=[xB 12 .lss 11 10]
def pS:=[xm 13 11,xI 14 9 11 2,xL 15 14 2,xo (.alloc 8 [xz,.own 5 1 []]),xm 7 13,xs 8 15 2]
def pR:=[xa 16 8 0 1,xl 17 16 1,xm 18 0,xB 19 .lss 17 18,xm 20 19,xF 20 (xa 21 8 0 1),xF 20 (xl 22 21 1),xF 20 (xm 23 1),xF 20 (xB 24 .gtr 22 23),xO 25 20 24,xm 26 25,xF 26 (xm 27 7),xF 26 (xC 28 .gtr 27 0),xF 26 (xm 29 28),xH 29 (xa 30 8 0 1),xH 29 (xl 31 30 1),xH 29 (xm 32 2),xH 29 (xm 33 7),xH 29 (xC 34 .sub 33 1),xH 29 (xI 35 32 34 2),xH 29 (xa 36 35 0 1),xH 29 (xl 37 36 1),xH 29 (xB 38 .leq 31 37),xF 26 (xN 39 29 38),xO 40 26 39,xm 41 40,xF 41 (xa 42 8 1 1),xF 41 (xl 43 42 1),xF 41 (xA 44 43),xF 41 (xC 45 .gtr 44 65536),xO 46 41 45]
def AIC:=[xw 6 true]
def Ru:=xW 47 11
def pW:AC:=xS pT [0,1,2,9,10,11,12] (.seq (xD 12 0) (.seq (.block 1 (xS pS [0,1,2,7,8,9,10,11] (.seq (.regD pR [0,1,2,9,10,11,46] (xK [[],[0],[],[1,2],[3],[4],[5],[4],[6,7],[8],[9],[10],[11],[12],[13],[14],[13],[13],[17],[16,18],[19],[20],[15,21],[22],[23],[24],[25],[26],[27],[28],[29]])) (.cond (xt 46) (xE AIC [6]) .skip)))) (.reg Ru [0,1,2,9,10,11])))
def pQ:=[xw 6 false]
def AID:AC:=xS pV [0,1,2] (.seq (xS pU [0,1,2,9,10,11] (.block 0 (.loop pW))) (xE pQ [6]))
def pX:List AR:=[.t 6]
theorem ALF:AU 178 3 AID pX:=by kernel_rfl
def Rt:=[xx 5 1,xx 7 3,xo (.alloc 8 [.v .nilm]),xo (.alloc 9 [.v (.bool false)])]
def Rs:=[xo (.mkm 18),xo (.alloc 10 [.v .nilm]),xs 10 18 1]
def Rr:=[xa 19 7 0 1,xl 20 19 1,xa 21 7 1 1,xl 22 21 1,xo (.alloc 11 [.own 47 1 []]),xo (.alloc 12 [.own 47 1 []]),xo (.store (xt 11) (xu 20) 1),xo (.store (xt 12) (xu 22) 1)]
def Rq:=[xo (.alloc 13 [xz]),xo (.store (xt 13) (xi 0) 1)]
def Rp:=[xm 23 0,xl 24 5 1,x2 25 239 23 24]
def AIA:=[xo (.alloc 14 zl7),xs 14 26 2]
def AH9:=[xl 27 13 1,xa 28 7 2 1,xl 29 28 1,xA 30 29,xB 31 .geq 27 30,xm 32 31,xF 32 (xa 33 7 2 1),xF 32 (xl 34 33 1),xF 32 (xl 35 13 1),xF 32 (xI 36 34 35 1),xF 32 (xl 37 36 1),xF 32 (xb 38 .gtr (xt 37) (.c (.v (.int .u8 1)))),xO 39 32 38]
def AH8:=[xo (.store (xt 8) (.c (.v .nilm)) 1),xo (.store (xt 9) (xy false) 1)]
def AH7:=[xm 15 11]
def AH6:=[xL 40 14 2,x1 41 271 40,xl 42 5 1,xB 43 .gtr 41 42]
def wT:=[xm 15 12]
def wS:=[xl 44 10 1,xL 45 14 2,xp 46 (.build zl10 []),xo (.mput (xt 44) (xt 45) (xt 46) true [0,0])]
def wR:=[xa 47 7 2 1,xl 48 47 1,xl 49 13 1,xI 50 48 49 1,xl 51 50 1,xb 52 .eql (xt 51) (.c (.v (.int .u8 1)))]
def wQ:=[xm 53 15,xZ 54 53,xl 55 54 1,xA 56 55,xC 57 .eql 56 0]
def wP:=[xo (.store (xt 8) (.c (.v .nilm)) 1),xo (.store (xt 9) (xy false) 1)]
def wO:=[xl 58 10 1,xL 59 14 2,xm 60 15,xm 61 15,xZ 62 61,xl 63 62 1,xp 64 (.iaddr (xt 63) (xi 0) 1),xl 65 64 1,xp 66 (.build zl10 [(0,1,xt 65),(1,1,xy true)]),xm 67 15,xZ 68 67,xl 69 68 1,xp 70 (.slc (xt 69) (some (xi 1)) none 1),xo (.ment 71 (xt 58) (xt 59) true [0,0]),xe 72 71 1,xo (.mest (xt 58) (xt 72) (xt 66)),xZ 73 60,xo (.store (xt 73) (xu 70) 1)]
def wN:=[xl 74 13 1,xC 75 .add 74 1,xs 13 75 1]
def pO:AC:=.reg AIA [5,7,8,9,10,11,12,13,14]
def pN:AC:=.block 1 (xQ AH9 [5,7,8,9,10,11,12,13,14,39] 39 (xE AH8 []) (xS AH7 [5,7,8,9,10,12,13,14,15] (.seq (.seq (.regD AH6 [7,8,9,10,12,13,14,15,43] [[],[0],[],[0,1,2]]) (.cond (xt 43) (.reg wT [7,8,9,10,13,14,15]) .skip)) (xS wS [7,8,9,10,13,14,15] (xQ wR [8,9,10,13,14,15,52] 52 (xQ wQ [8,9,10,13,14,15,57] 57 (xE wP []) (.regA wO [13] (xK [[],[],[],[],[3],[4],[5],[6],[7],[],[9],[10],[11],[0,1,11],[13],[8,14],[2,12,15],[16]]) (.take 0 (.take 1 (.take 2 (.take 3 (.take 4 (.take 9 (.take 10 (.take 11 (.take 12 (.pick (.alt 5 (.take 6 (.pick (.alt 7 (.take 8 tq115) (.alt 13 tq116 .none)))) (.alt 13 (.take 5 (.take 6 tq116)) .none)))))))))))))) (.reg wN []))))))
def NE:=[xn 76 2,xA 77 76,xv 78 0]
def VV:=[xB 79 .lss 78 77]
def VU:=[xI 80 76 78 2,xL 81 80 2,xo (.alloc 17 [xz,.own 5 1 []]),xs 17 81 2]
def VT:=[xl 82 10 1,xa 83 17 0 1,xl 84 83 1,xp 85 (.build zl7 [(0,1,xi 0),(1,1,xt 84)]),xa 86 17 0 1,xl 87 86 1,xa 88 17 1 1,xl 89 88 1,x2 90 133 87 89,xp 91 (.build zl10 [(0,1,xt 90),(1,1,xy true)]),xo (.mput (xt 82) (xt 85) (xt 91) true [0,0])]
def ND:=xW 92 78
def NF:AC:=xS VV [7,8,9,10,11,12,13,76,77,78,79] (.seq (xD 79 2) (.seq (.block 3 (xS VU [7,8,9,10,11,12,13,17,76,77,78] (.regD VT [7,8,9,10,11,12,13,76,77,78] (xK [[],[],[1],[2],[],[4],[],[6],[5,7],[8],[0,3,9]])))) (.reg ND [7,8,9,10,11,12,13,76,77,78])))
def NC:=[xl 93 10 1,xl 94 13 1,xa 95 7 2 1,xl 96 95 1,xA 97 96,xB 98 .eql 94 97,xm 99 98,xH 99 (xl 100 11 1),xH 99 (xA 101 100),xH 99 (xC 102 .eql 101 0),xN 103 99 102,xm 104 103,xH 104 (xl 105 12 1),xH 104 (xA 106 105),xH 104 (xC 107 .eql 106 0),xN 108 104 107,xs 8 93 1,xs 9 108 1]
def AIB:AC:=xS Rt [0,2,5,7,8,9] (xS Rs [0,2,5,7,8,9,10] (.seq (.regA Rr [0,2,5,7,8,9,10,11,12] (xK [[],[0],[],[2],[],[],[1,4,5],[3,6]]) (.take 0 (.take 1 (.take 2 (.pick (.alt 3 (.pick (.alt 4 tq111 (.alt 5 tq117 .none))) (.alt 4 (.pick (.alt 3 tq111 (.alt 5 tq118 .none))) (.alt 5 (.pick (.alt 3 tq117 (.alt 4 tq118 .none))) .none)))))))) (xS Rq [0,2,5,7,8,9,10,11,12,13] (.seq (xS Rp [2,5,7,8,9,10,11,12,13,25] (.block 0 (.rangeF (xt 25) [26] pO pN))) (.seq (xS NE [7,8,9,10,11,12,13,76,77,78] (.block 2 (.loop NF))) (.seq (.regA NC [8,9] (xK [[],[],[],[2],[3],[1,4],[5],[6],[7],[8],[9],[10],[11],[12],[13],[14],[0,11],[15,16]]) (.take 0 (.take 1 (.take 2 (.take 3 (.take 4 (.take 5 (.take 6 (.take 7 (.take 8 (.take 9 (.take 10 (.take 11 (.pick (.alt 12 tq115 (.alt 16 (.take 12 (.take 13 (.take 14 (.take 15 tq113)))) .none)))))))))))))))) .ret))))))
def VW:List AR:=[.c 8 1 false,.c 9 1 false]
theorem ALE:AU 179 4 AIB VW:=by kernel_rfl
def Ro:=[xx 3 0,xo (.alloc 4 zl10)]
def Rn:=[xl 10 1 1,xL 11 3 2,xp 12 (.look (xt 10) (xt 11) true [0,0] zl10 true true),xn 9 12,xe 13 9 0,xe 14 9 1,xo (.alloc 5 zl10),xs 5 13 2,xm 6 14]
def NA:=[xm 15 6,xm 16 15,xF 16 (xa 17 3 0 1),xF 16 (xl 18 17 1),xF 16 (xC 19 .eql 18 0),xO 20 16 19]
def Rm:=[xL 21 5 2,xs 4 21 2]
def pM:=[xL 23 3 2,x1 24 181 23,xn 22 24,xe 25 22 0,xe 26 22 1,xo (.alloc 7 zl7),xo (.alloc 8 zl7),xs 7 25 2,xs 8 26 2]
def pK:=[xl 27 2 1,xL 28 7 2,xo (.callC (some 29) (xt 27) [xt 28]),xl 30 2 1,xL 31 8 2,xo (.callC (some 32) (xt 30) [xt 31]),x2 33 182 29 32,xs 4 33 2]
def wM:AC:=xS Ro [1,2,3,4] (.seq (xS Rn [2,3,4,5,6] (xS NA [2,3,4,5,20] (.cond (xt 20) (xE Rm [4]) .skip))) (xS pM [2,4,7,8] (.seq (.regA pK [4] (xK [[],[],[0,1],[],[],[2,3,4],[5],[6]]) tq112) .ret)))
def PG:List AR:=[.c 4 2 true]
theorem AEz:AU 180 3 wM PG:=by kernel_rfl
def pG:=[xx 1 0,xo (.alloc 2 zl7),xo (.alloc 3 zl7)]
def pF:=[xa 4 1 0 1,xl 5 4 1,xC 6 .sub 5 1,xa 7 1 1 1,xl 8 7 1,xb 9 .mul (xi 2) (xt 8),xp 10 (.build zl7 [(0,1,xt 6),(1,1,xt 9)]),xa 11 1 0 1,xl 12 11 1,xC 13 .sub 12 1,xa 14 1 1 1,xl 15 14 1,xb 16 .mul (xi 2) (xt 15),xC 17 .add 16 1,xp 18 (.build zl7 [(0,1,xt 13),(1,1,xt 17)]),xs 2 10 2,xs 3 18 2]
def AH4:AC:=xS pG [1,2,3] (.seq (.regA pF [2,3] (xK [[],[0],[1],[],[3],[4],[2,5],[],[7],[8],[],[10],[11],[12],[9,13],[6],[14,15]]) (.take 0 (.take 1 (.take 2 (.take 3 (.take 4 (.take 5 (.take 6 (.take 7 (.take 10 (.pick (.alt 8 (.take 9 (.pick (.alt 11 (.take 12 (.take 13 tq120)) (.alt 15 tq122 .none)))) (.alt 11 (.take 12 (.take 13 (.pick (.alt 8 (.take 9 tq120) (.alt 15 (.take 8 (.take 9 tq121)) .none))))) (.alt 15 (.take 8 (.take 9 tq122)) .none)))))))))))))) .ret)
def pH:List AR:=[.c 2 2 true,.c 3 2 true]
theorem ALD:AU 181 1 AH4 pH:=by kernel_rfl
def pE:=[xx 2 0,xx 3 1,xo (.alloc 4 zl10)]
def pC:=[xa 5 2 1 1,xl 6 5 1,xT 7 6,xm 8 7,xH 8 (xa 9 3 1 1),xH 8 (xl 10 9 1),xH 8 (xT 11 10),xN 12 8 11]
def Rl:=[xp 13 (.build zl10 []),xs 4 13 2]
def pB:=[xa 14 2 0 1,xl 15 14 1,xp 16 (.cint .i64 (xt 15)),xa 17 3 0 1,xl 18 17 1,xp 19 (.cint .i64 (xt 18)),xo (.bsl 20 3 1 [xt 16,xt 19]),xc 21 96 [(.c (.v (.str ⟨#[98,108,111,99,107]⟩))),xt 20],xp 22 (.build zl10 [(0,1,xt 21),(1,1,xy true)]),xs 4 22 2]
def AH3:AC:=xS pE [2,3,4] (xQ pC [2,3,4,12] 12 (xE Rl [4]) (xE pB [4]))
def PE:List AR:=[.c 4 2 true]
theorem ALC:AU 182 2 AH3 PE:=by kernel_rfl
theorem ALB:AU 183 2 (cJ 272) cIR:=by kernel_rfl
def pA:=[xx 2 0,xw 3 false]
def o9:=[xa 4 2 0 1,xl 5 4 1,xa 6 1 2 1,xl 7 6 1,xB 8 .eql 5 7,xm 3 8]
def AOL:AC:=xS pA [1,2] (xE o9 [3])
def ADM:List AR:=[.t 3]
theorem AS7:AU 184 2 AOL ADM:=by kernel_rfl
def o8:=[xx 5 2,xr 6 76 2,xv 7 0]
def o7:=[xm 17 0,xp 18 (.eqP false (xt 17) (.c (.v .nilp)))]
def AH2:=[xr 6 76 2,xv 7 1]
def o6:=[xL 19 5 3,x1 20 67 19,xm 8 20]
def oz:=[xm 21 8,xC 22 .neq 21 0]
def AH1:=[xm 23 8,xr 6 76 2,xm 7 23]
def oy:=[xr 9 76 2]
def ov:=[xn 24 1,xA 25 24,xv 26 0]
def Rj:=[xB 27 .lss 26 25]
def Ri:=[xI 28 24 26 8,xL 29 28 8,xo (.alloc 11 zl1),xs 11 29 8]
def M8:=[xL 30 11 8,x1 31 273 30,xA 32 31,xv 33 0]
def VS:=[xB 34 .lss 33 32]
def VR:=[xI 35 31 33 1,xl 36 35 1,xm 13 36]
def VQ:=[xa 38 11 3 1,xl 39 38 1,xm 40 13,x2 41 274 39 40,xn 37 41,xe 42 37 0,xe 43 37 1,xo (.alloc 14 zl6),xs 14 42 4,xm 15 43]
def VP:=[xm 44 15,xC 45 .neq 44 0]
def wL:=[xm 46 15,xr 6 76 2,xm 7 46]
def VO:=[xm 48 0,xL 49 14 4,xL 50 5 3,x3 51 25 48 49 50,xn 47 51,xe 52 47 0,xe 53 47 1,xm 16 52,xm 15 53]
def VN:=[xm 54 15,xC 55 .neq 54 0]
def wK:=[xm 56 15,xr 6 76 2,xm 7 56]
def VM:=[xm 57 16]
def VL:=[xn 58 9,xa 59 11 0 1,xl 60 59 1,xm 61 13,xp 62 (.build zl7 [(0,1,xt 60),(1,1,xt 61)]),xo (.bsl 63 76 2 [xt 62]),xo (.app 64 (xu 58) (xt 63) 76 2 16),xn 9 64]
def M7:=xW 65 33
def M9:AC:=xS VS [0,5,9,11,24,25,26,31,32,33,34] (.seq (xD 34 2) (.seq (.block 3 (xS VR [0,5,9,11,13,24,25,26,31,32,33] (xS VQ [0,5,9,11,13,14,15,24,25,26,31,32,33] (xQ VP [0,5,9,11,13,14,15,24,25,26,31,32,33,45] 45 (xE wL [6,7]) (xS VO [0,5,9,11,13,15,16,24,25,26,31,32,33] (xQ VN [0,5,9,11,13,15,16,24,25,26,31,32,33,55] 55 (xE wK [6,7]) (xS VM [0,5,9,11,13,24,25,26,31,32,33,57] (.cond (xt 57) (.reg VL [0,5,9,11,24,25,26,31,32,33]) .skip)))))))) (.reg M7 [0,5,9,11,24,25,26,31,32,33])))
def M6:=xW 66 26
def Rk:AC:=xS Rj [0,5,9,24,25,26,27] (.seq (xD 27 0) (.seq (.block 1 (xS Ri [0,5,9,11,24,25,26] (xS M8 [0,5,9,11,24,25,26,31,32,33] (.block 2 (.loop M9))))) (.reg M6 [0,5,9,24,25,26])))
def VK:=[xn 67 9,xn 6 67,xv 7 0]
def AOK:AC:=xS o8 [0,1,5] (xQ o7 [0,1,5,18] 18 (xE AH2 [6,7]) (.seq (xS o6 [0,1,5,8] (xS oz [0,1,5,8,22] (.cond (xt 22) (xE AH1 [6,7]) .skip))) (xS oy [0,1,5,9] (.seq (xS ov [0,5,9,24,25,26] (.block 0 (.loop Rk))) (xE VK [6,7])))))
def ADK:List AR:=[.t 6,.t 7]
theorem AS6:AU 185 3 AOK ADK:=by kernel_rfl
def ou:=[xx 4 1,xx 5 2,xw 6 false,xv 7 0]
def ot:=[xa 17 4 7 1,xl 18 17 1,xp 19 (.mkf 276 [xt 5]),x2 20 275 18 19,xm 8 20]
def oq:=[xa 21 4 7 1,xl 22 21 1,xm 23 8,xI 24 22 23 8,xL 25 24 8,xo (.alloc 9 zl1),xs 9 25 8]
def oo:=[xa 27 9 3 1,xl 28 27 1,xa 29 5 1 1,xl 30 29 1,x2 31 24 28 30,xn 26 31,xe 32 26 0,xe 33 26 1,xn 10 32,xm 11 33]
def om:=[xm 34 11,xC 35 .neq 34 0]
def AH0:=[xm 36 11,xw 6 false,xm 7 36]
def ol:=[xw 12 false]
def oj:=[xn 37 10,xA 38 37,xv 39 0]
def Rg:=[xB 40 .lss 39 38]
def Rf:=[xm 41 39,xI 42 37 39 4,xL 43 42 4,xo (.alloc 13 [xz]),xo (.alloc 14 zl6),xs 13 41 1,xs 14 43 4]
def M5:=[xm 45 0,xL 46 14 4,xa 47 4 4 3,xL 48 47 3,x3 49 25 45 46 48,xn 44 49,xe 50 44 0,xe 51 44 1,xm 15 50,xm 16 51]
def M4:=[xm 52 16,xC 53 .neq 52 0]
def VJ:=[xm 54 16,xw 6 false,xm 7 54]
def M3:=[xm 55 12,xm 56 55,xF 56 (xm 57 15),xF 56 (xm 58 57),xH 58 (xa 59 9 4 1),xH 58 (xl 60 59 1),xH 58 (xp 61 (.mkf 278 [xt 5,xt 13,xt 4])),xH 58 (x2 62 277 60 61),xF 56 (xN 63 58 62),xO 64 56 63,xm 12 64]
def IN:=xW 65 39
def Rh:AC:=xS Rg [0,4,5,9,12,37,38,39,40] (.seq (xD 40 0) (.seq (.block 1 (xS Rf [0,4,5,9,12,13,14,37,38,39] (xS M5 [0,4,5,9,12,13,15,16,37,38,39] (xQ M4 [0,4,5,9,12,13,15,16,37,38,39,53] 53 (xE VJ [6,7]) (.reg M3 [0,4,5,9,12,37,38,39]))))) (.reg IN [0,4,5,9,12,37,38,39])))
def VI:=[xm 66 12,xm 6 66,xv 7 0]
def AOJ:AC:=xS ou [0,4,5] (xS ot [0,4,5,8] (xS oq [0,4,5,9] (xS oo [0,4,5,9,10,11] (xQ om [0,4,5,9,10,11,35] 35 (xE AH0 [6,7]) (xS ol [0,4,5,9,10,12] (.seq (xS oj [0,4,5,9,12,37,38,39] (.block 0 (.loop Rh))) (xE VI [6,7])))))))
def ADI:List AR:=[.t 6,.t 7]
theorem AS5:AU 186 3 AOJ ADI:=by kernel_rfl
def oh:=[xx 1 0,xo (.mv 2 (.c (.v .nilf)))]
def og:=[xp 3 (.mkf 279 [xt 1]),xm 2 3]
def AHz:AC:=xS oh [1] (xE og [2])
def oi:List AR:=[.t 2]
theorem ALA:AU 189 1 AHz oi:=by kernel_rfl
def oc:=[xo (.mv 4 (xj 0))]
def oa:=[xm 6 0,xm 7 1,xB 8 .xor 6 7,xb 9 .mul (xt 8) (xj 11400714819323198485),xm 5 9]
def oZ:=[xm 10 5,xm 11 5,xb 12 .shr (xt 11) (xj 32),xB 13 .xor 10 12,xm 4 13]
def AHy:AC:=xS oc [0,1] (xS oa [5] (xE oZ [4]))
def od:List AR:=[.t 4]
theorem AK9:AU 190 2 AHy od:=by kernel_rfl
def M2:=[xm 4 1,xb 5 .geq (xt 4) (xj 128)]
def oW:=[xm 8 0,xm 9 0,xZ 10 9,xa 11 10 0 1,xo (.take 12 (xt 11)),xm 13 1,xp 14 (.cint .u8 (xt 13)),xb 15 .or (xt 14) (.c (.v (.int .u8 128))),xo (.bsl 16 5 1 [xt 15]),xo (.app 17 (xu 12) (xt 16) 5 1 1),xZ 18 8,xa 19 18 0 1,xo (.store (xt 19) (xu 17) 1)]
def oX:=[xm 6 1,xb 7 .shr (xt 6) (xj 7),xm 1 7]
def Kk:AC:=.seq (xS M2 [0,1,5] (xD 5 0)) (.seq (.block 1 (.reg oW [0,1])) (.reg oX [0,1]))
def oV:=[xm 20 0,xm 21 0,xZ 22 21,xa 23 22 0 1,xo (.take 24 (xt 23)),xm 25 1,xp 26 (.cint .u8 (xt 25)),xo (.bsl 27 5 1 [xt 26]),xo (.app 28 (xu 24) (xt 27) 5 1 1),xZ 29 20,xa 30 29 0 1,xo (.store (xt 30) (xu 28) 1)]
def AHx:AC:=.seq (.block 0 (.loop Kk)) (.reg oV [])
def oY:List AR:=[]
theorem AK8:AU 192 2 AHx oY:=by kernel_rfl
def oT:=[xo (.mv 2 (xj 0))]
def oS:=[xm 3 0,xp 4 (.cint .u64 (xt 3)),xb 5 .shl (xt 4) (xj 1),xm 6 0,xb 7 .shr (xt 6) (xj 63),xp 8 (.cint .u64 (xt 7)),xB 9 .xor 5 8,xm 2 9]
def AHw:AC:=xS oT [0] (xE oS [2])
def oU:List AR:=[.t 2]
theorem AK7:AU 193 1 AHw oU:=by kernel_rfl
def oQ:=[xm 4 0,xm 5 1,xp 6 (.lenS (xt 5)),xp 7 (.cint .u64 (xt 6)),x2 8 192 4 7]
def oP:=[xm 9 0,xm 10 0,xZ 11 10,xa 12 11 0 1,xo (.take 13 (xt 12)),xm 14 1,xo (.appS 15 (xu 13) (xt 14) 5 1),xZ 16 9,xa 17 16 0 1,xo (.store (xt 17) (xu 15) 1)]
def AHv:AC:=xS oQ [0,1] (.reg oP [])
def oR:List AR:=[]
theorem AK6:AU 194 2 AHv oR:=by kernel_rfl
def oN:=[xr 4 5 1]
def oM:=[xm 8 0,x1 9 119 8,xm 5 9]
def oL:=[xm 10 5,xm 11 0,xZ 12 11,xa 13 12 0 1,xl 14 13 1,xA 15 14,xp 16 (.cint .u64 (xt 15)),xB 17 .gtr 10 16]
def AHu:=[xm 18 0,xc 19 207 [xt 18,xi 3]]
def oK:=[xr 6 5 1]
def oJ:=[xo (.mv 7 (xj 0))]
def oI:=[xm 20 7,xm 21 5,xB 22 .lss 20 21,xm 23 22,xH 23 (xm 24 0),xH 23 (xZ 25 24),xH 23 (xa 26 25 1 1),xH 23 (xl 27 26 1),xH 23 (xC 28 .eql 27 0),xN 29 23 28]
def oG:=[xn 32 6,xm 33 1,xo (.call (some 34) (xt 33) []),xo (.bsl 35 5 1 [xt 34]),xo (.app 36 (xu 32) (xt 35) 5 1 1),xn 6 36]
def oH:=[xm 30 7,xb 31 .add (xt 30) (xj 1),xm 7 31]
def oO:AC:=.seq (xS oI [0,1,5,6,7,29] (xD 29 0)) (.seq (.block 1 (.reg oG [0,1,5,6,7])) (.reg oH [0,1,5,6,7]))
def oF:=[xm 37 0,xZ 38 37,xa 39 38 1 1,xl 40 39 1,xC 41 .neq 40 0]
def wJ:=[xr 4 5 1]
def VH:=[xn 42 6,xn 4 42]
def AOG:AC:=xS oN [0,1] (xS oM [0,1,5] (xQ oL [0,1,5,17] 17 (.reg AHu [0,1,5]) (xS oK [0,1,5,6] (.seq (xS oJ [0,1,5,6,7] (.block 0 (.loop oO))) (xQ oF [6,41] 41 (xE wJ [4]) (xE VH [4]))))))
def ADH:List AR:=[.t 4]
theorem AS4:AU 202 2 AOG ADH:=by kernel_rfl
def oE:=[xo (.mv 2 (.c (.v (.int .u8 0))))]
def oD:=[xm 4 0,xZ 5 4,xa 6 5 0 1,xl 7 6 1,xA 8 7,xC 9 .eql 8 0]
def AHt:=[xm 10 0,xc 11 207 [xt 10,xi 3]]
def oC:=[xm 12 0,xZ 13 12,xa 14 13 1 1,xl 15 14 1,xC 16 .neq 15 0]
def AHs:=[xo (.mv 2 (.c (.v (.int .u8 0))))]
def oB:=[xm 17 0,xZ 18 17,xa 19 18 0 1,xl 20 19 1,xp 21 (.iaddr (xt 20) (xi 0) 1),xl 22 21 1,xm 3 22]
def oA:=[xm 23 0,xm 24 0,xZ 25 24,xa 26 25 0 1,xl 27 26 1,xp 28 (.slc (xt 27) (some (xi 1)) none 1),xZ 29 23,xa 30 29 0 1,xo (.store (xt 30) (xu 28) 1)]
def n9:=[xm 31 3,xm 2 31]
def AOF:AC:=xS oE [0] (xQ oD [0,9] 9 (.reg AHt [0]) (xQ oC [0,16] 16 (xE AHs [2]) (xS oB [0,3] (xS oA [3] (xE n9 [2])))))
def ADG:List AR:=[.t 2]
theorem AS3:AU 203 1 AOF ADG:=by kernel_rfl
def nx:=[xv 2 0]
def nw:=[xl 3 0 1,xq 4 45 [xt 3],xp 5 (.minmax true (xt 4) (xi 0)),xl 6 1 1,xA 7 6,xp 8 (.minmax false (xt 5) (xt 7)),xm 2 8]
def AOE:AC:=xS nx [0,1] (.seq (.regA nw [2] (xK [[],[0],[1],[],[3],[2,4],[5]]) (.take 0 (.pick (.alt 1 (.take 2 (.take 3 tq123)) (.alt 3 (.take 1 (.take 2 tq123)) .none))))) .ret)
def nz:List AR:=[.t 2]
theorem AS2:AU 204 2 AOE nz:=by kernel_rfl
def nu:=[xr 2 130 5,xv 3 0]
def nr:=[xm 13 0,x1 14 44 13,xm 4 14]
def nq:=[xm 15 4,x1 16 45 15,xm 5 16]
def np:=[xr 6 130 5]
def nn:=[xv 7 0]
def nl:=[xm 17 7,xm 18 5,xB 19 .lss 17 18,xm 20 19,xH 20 (xm 21 5),xH 20 (xC 22 .leq 21 32),xN 23 20 22]
def nj:=[xm 26 4,x1 27 114 26,xp 28 (.build zl14 [(0,1,xt 27)]),xo (.alloc 8 zl5),xs 8 28 5]
def ni:=[xm 30 4,x1 31 112 30,x1 32 282 31,xn 29 32,xe 33 29 0,xe 34 29 1,xo (.alloc 9 zl6),xs 9 33 4,xm 10 34]
def nh:=[xm 35 10,xC 36 .neq 35 0]
def wI:=[xr 2 130 5,xv 3 2]
def VG:=[xL 37 9 4,xa 38 8 1 4,xs 38 37 4]
def VF:=[xn 39 6,xL 40 8 5,xo (.bsl 41 130 5 [xt 40]),xo (.app 42 (xu 39) (xt 41) 130 5 88),xn 6 42]
def nk:=xV 24 7 25
def nv:AC:=.seq (xS nl [0,4,5,6,7,23] (xD 23 0)) (.seq (.block 1 (xS nj [0,4,5,6,7,8] (xS ni [0,4,5,6,7,8,9,10] (xQ nh [0,4,5,6,7,8,9,36] 36 (xE wI [2,3]) (xS VG [0,4,5,6,7,8] (.reg VF [0,4,5,6,7])))))) (.reg nk [0,4,5,6,7]))
def VE:=[xm 43 4,x1 44 116 43,xC 45 .neq 44 0,xm 46 45,xF 46 (xm 47 6),xF 46 (xA 48 47),xF 46 (xm 49 5),xF 46 (xB 50 .neq 48 49),xO 51 46 50]
def wH:=[xr 2 130 5,xv 3 2]
def VD:=[xm 53 6,x1 54 130 53,xn 52 54,xe 55 52 0,xe 56 52 1,xn 11 55,xm 12 56]
def VC:=[xm 57 12,xC 58 .neq 57 0,xm 59 58,xF 59 (xn 60 11),xF 59 (xn 61 0),xF 59 (x2 62 283 60 61),xF 59 (xT 63 62),xO 64 59 63]
def wG:=[xr 2 130 5,xv 3 2]
def VB:=[xn 65 6,xn 2 65,xv 3 0]
def AOD:AC:=xS nu [0] (xS nr [0,4] (xS nq [0,4,5] (xS np [0,4,5,6] (.seq (xS nn [0,4,5,6,7] (.block 0 (.loop nv))) (xQ VE [0,6,51] 51 (xE wH [2,3]) (.seq (xS VD [0,6,11,12] (xS VC [6,64] (.cond (xt 64) (xE wG [2,3]) .skip))) (xE VB [2,3])))))))
def ADF:List AR:=[.t 2,.t 3]
theorem AS1:AU 205 1 AOD ADF:=by kernel_rfl
def nZ:=[xr 4 3 1]
def nY:=[xm 8 0,x1 9 119 8,xm 5 9]
def nX:=[xm 10 5,xm 11 0,xZ 12 11,xa 13 12 0 1,xl 14 13 1,xA 15 14,xp 16 (.cint .u64 (xt 15)),xB 17 .gtr 10 16]
def AHr:=[xm 18 0,xc 19 207 [xt 18,xi 3]]
def nW:=[xr 6 3 1]
def nV:=[xo (.mv 7 (xj 0))]
def nU:=[xm 20 7,xm 21 5,xB 22 .lss 20 21,xm 23 22,xH 23 (xm 24 0),xH 23 (xZ 25 24),xH 23 (xa 26 25 1 1),xH 23 (xl 27 26 1),xH 23 (xC 28 .eql 27 0),xN 29 23 28]
def nS:=[xn 32 6,xm 33 1,xo (.call (some 34) (xt 33) []),xo (.bsl 35 3 1 [xt 34]),xo (.app 36 (xu 32) (xt 35) 3 1 8),xn 6 36]
def nT:=[xm 30 7,xb 31 .add (xt 30) (xj 1),xm 7 31]
def nf:AC:=.seq (xS nU [0,1,5,6,7,29] (xD 29 0)) (.seq (.block 1 (.reg nS [0,1,5,6,7])) (.reg nT [0,1,5,6,7]))
def nR:=[xm 37 0,xZ 38 37,xa 39 38 1 1,xl 40 39 1,xC 41 .neq 40 0]
def wF:=[xr 4 3 1]
def VA:=[xn 42 6,xn 4 42]
def AOC:AC:=xS nZ [0,1] (xS nY [0,1,5] (xQ nX [0,1,5,17] 17 (.reg AHr [0,1,5]) (xS nW [0,1,5,6] (.seq (xS nV [0,1,5,6,7] (.block 0 (.loop nf))) (xQ nR [6,41] 41 (xE wF [4]) (xE VA [4]))))))
def ADE:List AR:=[.t 4]
theorem AS0:AU 206 2 AOC ADE:=by kernel_rfl
def Re:=[xw 3 false]
def Rd:=[xm 4 0,xC 5 .lss 4 0,xm 6 5,xF 6 (xm 7 0),xF 6 (xl 8 1 1),xF 6 (xB 9 .geq 7 8),xO 10 6 9,xm 3 10]
def wE:AC:=xS Re [0,1] (xE Rd [3])
def U9:List AR:=[.t 3]
theorem AK5:AU 208 2 wE U9:=by kernel_rfl
def AHp:=[xw 2 false]
def AHo:=[xm 4 0,xA 5 4,xC 6 .sub 5 1,xm 3 6]
def AHn:=[xm 7 3,xC 8 .gtr 7 0]
def AHl:=[xm 11 0,xm 12 3,xI 13 11 12 1,xl 14 13 1,xm 15 0,xm 16 3,xC 17 .sub 16 1,xI 18 15 17 1,xl 19 18 1,x2 20 284 14 19]
def AHk:=[xw 2 false]
def AHm:=[xm 9 3,xC 10 .sub 9 1,xm 3 10]
def AHq:AC:=.seq (xS AHn [0,3,8] (xD 8 0)) (.seq (.block 1 (.seq (.regD AHl [0,3,20] (xK [[],[],[0,1],[2],[],[],[5],[4,6],[7],[3,8]])) (.cond (xt 20) (xE AHk [2]) .skip))) (.reg AHm [0,3]))
def AHj:=[xw 2 true]
def AOB:AC:=xS AHp [0] (.seq (xS AHo [0,3] (.block 0 (.loop AHq))) (xE AHj [2]))
def ADD:List AR:=[.t 2]
theorem ASz:AU 209 1 AOB ADD:=by kernel_rfl
def AHg:=[xr 2 3 1]
def AHf:=[xm 6 0,xA 7 6,xC 8 .lss 7 2]
def AHe:=[xn 9 0,xn 2 9]
def AHd:=[xv 3 1]
def AHc:=[xm 10 3,xm 11 0,xA 12 11,xB 13 .lss 10 12]
def AHa:=[xm 16 0,xm 17 3,xI 18 16 17 1,xl 19 18 1,xm 20 0,xm 21 3,xC 22 .sub 21 1,xI 23 20 22 1,xl 24 23 1,xB 25 .eql 19 24]
def AHZ:=[xm 26 0,xm 27 3,xp 28 (.slc (xt 26) (some (xt 27)) none 1),xn 4 28]
def AHY:=[xv 5 1]
def AHX:=[xm 29 5,xm 30 4,xA 31 30,xB 32 .lss 29 31]
def wC:=[xm 35 4,xm 36 5,xI 37 35 36 1,xl 38 37 1,xm 39 4,xm 40 5,xC 41 .sub 40 1,xI 42 39 41 1,xl 43 42 1,xB 44 .neq 38 43]
def wB:=[xm 45 0,xm 46 3,xm 47 4,xm 48 5,xI 49 47 48 1,xl 50 49 1,xI 51 45 46 1,xs 51 50 1]
def wA:=xV 52 3 53
def wD:=xV 33 5 34
def AHh:AC:=.seq (xS AHX [0,3,4,5,32] (xD 32 2)) (.seq (.block 3 (.seq (.regD wC [0,3,4,5,44] (xK [[],[],[0,1],[2],[],[],[5],[4,6],[7],[3,8]])) (.cond (xt 44) (xS wB [0,3,4,5] (.reg wA [0,3,4,5])) .skip))) (.reg wD [0,3,4,5]))
def vz:=[xn 57 0,xm 58 3,xp 59 (.slc (xt 57) none (some (xt 58)) 1),xn 2 59]
def AHb:=xV 14 3 15
def AHi:AC:=.seq (xS AHc [0,3,13] (xD 13 0)) (.seq (.block 1 (.seq (.regD AHa [0,3,25] (xK [[],[],[0,1],[2],[],[],[5],[4,6],[7],[3,8]])) (.cond (xt 25) (xS AHZ [0,3,4] (.seq (xS AHY [0,3,4,5] (.block 2 (.loop AHh))) (.seq .never (xE vz [2])))) .skip))) (.reg AHb [0,3]))
def vx:=[xn 60 0,xn 2 60]
def ANz:AC:=xS AHg [0] (xQ AHf [0,8] 8 (xE AHe [2]) (.seq (xS AHd [0,3] (.block 0 (.loop AHi))) (xE vx [2])))
def ADC:List AR:=[.t 2]
theorem ASy:AU 210 1 ANz ADC:=by kernel_rfl
def Ra:=[xw 6 false]
def RZ:=[xl 11 1 1,xm 12 0,xI 13 11 12 1,xl 14 13 1,xm 15 14,xF 15 (xl 16 2 1),xF 15 (xm 17 0),xF 15 (xI 18 16 17 1),xF 15 (xl 19 18 1),xO 20 15 19]
def nP:=[xl 21 1 1,xm 22 0,xI 23 21 22 1,xl 24 23 1,xm 6 24]
def nO:=[xl 25 2 1,xm 26 0,xI 27 25 26 1,xo (.store (xt 27) (xy true) 1)]
def nN:=[xl 28 3 1,xm 29 0,xm 30 0,xZ 31 28,xa 32 31 1 4096,xp 33 (.iaddrA (xt 32) (xt 29) 64 64),xp 34 (.iaddrA (xt 33) (xt 30) 64 1),xo (.store (xt 34) (xy true) 1)]
def nM:=[xl 35 3 1,xZ 36 35,xa 37 36 0 1,xl 38 37 1,xm 39 0,xI 40 38 39 1,xl 41 40 1,xA 42 41,xv 43 0]
def nL:=[xB 44 .lss 43 42]
def nK:=[xI 45 41 43 1,xl 46 45 1,xm 8 46]
def nJ:=[xl 47 4 1,xm 48 8,xo (.call (some 49) (xt 47) [xt 48]),xT 50 49]
def AHV:=[xw 6 false]
def U8:=[xl 51 3 1,xm 52 8,xZ 53 51,xa 54 53 1 4096,xp 55 (.iaddrA (xt 54) (xt 52) 64 64),xL 56 55 64,xv 57 0]
def U7:=[xC 58 .lss 57 64]
def U6:=[xm 59 57,xp 60 (.idxA (xt 56) (xt 57) 64 1 false),xm 9 59,xm 10 60]
def U5:=[xl 61 3 1,xm 62 0,xm 63 9,xl 64 3 1,xm 65 0,xm 66 9,xZ 67 64,xa 68 67 1 4096,xp 69 (.iaddrA (xt 68) (xt 65) 64 64),xp 70 (.iaddrA (xt 69) (xt 66) 64 1),xl 71 70 1,xm 72 71,xF 72 (xm 73 10),xO 74 72 73,xZ 75 61,xa 76 75 1 4096,xp 77 (.iaddrA (xt 76) (xt 62) 64 64),xp 78 (.iaddrA (xt 77) (xt 63) 64 1),xs 78 74 1]
def M1:=xW 79 57
def Rb:AC:=xS U7 [0,1,3,4,41,42,43,56,57,58] (.seq (xD 58 2) (.seq (.block 3 (xS U6 [0,1,3,4,9,10,41,42,43,56,57] (.regD U5 [0,1,3,4,41,42,43,56,57] (xK [[],[],[],[],[],[],[3],[6],[4,7],[5,8],[9],[10],[11],[12],[0],[14],[1,15],[2,13,16],[17]])))) (.reg M1 [0,1,3,4,41,42,43,56,57])))
def U4:=xW 80 43
def Rc:AC:=xS nL [0,1,3,4,41,42,43,44] (.seq (xD 44 0) (.seq (.block 1 (xS nK [0,1,3,4,8,41,42,43] (xQ nJ [0,1,3,4,8,41,42,43,50] 50 (xE AHV [6]) (xS U8 [0,1,3,4,41,42,43,56,57] (.block 2 (.loop Rb)))))) (.reg U4 [0,1,3,4,41,42,43])))
def U3:=[xl 81 1 1,xm 82 0,xI 83 81 82 1,xo (.store (xt 83) (xy true) 1)]
def U2:=[xw 6 true]
def AHW:AC:=xS Ra [0,1,2,3,4] (xQ RZ [0,1,2,3,4,20] 20 (xE nP [6]) (xS nO [0,1,3,4] (xS nN [0,1,3,4] (.seq (xS nM [0,1,3,4,41,42,43] (.block 0 (.loop Rc))) (xS U3 [] (xE U2 [6]))))))
def nQ:List AR:=[.t 6]
theorem AK4:AU 211 5 AHW nQ:=by kernel_rfl
def nI:=[xo (.alloc 2 zl6)]
def nH:=[xm 8 0,xc 9 11 [xt 8,xi 1048576],xm 3 9]
def nG:=[xm 10 3,xC 11 .quo 10 8,xC 12 .rem 11 6,xp 13 (.build zl13 [(0,1,xi 1),(1,1,xt 12)]),xo (.alloc 4 zl6),xs 4 13 4]
def nF:=[xm 14 3,xC 15 .quo 14 48,xC 16 .rem 15 4,xp 17 (.build zl7 [(0,1,xt 16),(1,1,xi 1)]),xo (.alloc 5 zl7),xs 5 17 2]
def nE:=[xm 18 3,xC 19 .quo 18 48,xC 20 .rem 19 4,xC 21 .add 20 1,xm 22 3,xC 23 .quo 22 192,xC 24 .rem 23 2,xB 25 .add 21 24,xp 26 (.build zl7 [(0,1,xt 25),(1,1,xi 1)]),xo (.alloc 6 zl7),xs 6 26 2]
def nD:=[xm 27 3,xC 28 .quo 27 8,xC 29 .rem 28 2,xL 30 5 2,xL 31 6 2,xm 32 3,xC 33 .quo 32 384,xC 34 .rem 33 2,xC 35 .eql 34 1,xp 36 (.build zl15 [(0,2,xt 30),(2,2,xt 31),(4,1,xt 35)]),xo (.bsl 37 368 8 [xt 36]),xp 38 (.build zl13 [(0,1,xi 2),(1,1,xt 29),(2,1,xt 37)]),xo (.alloc 7 zl6),xs 7 38 4]
def Fh:=[xm 39 3,xC 40 .rem 39 8]
def Fg:=[xC 42 .eql 40 0,xm 41 42]
def GO:=[xC 43 .eql 40 1,xm 41 43]
def HS:=[xC 44 .eql 40 2,xm 41 44]
def Jt:=[xL 45 4 4,xs 2 45 4]
def Gp:=[xC 47 .eql 40 3,xm 46 47]
def IL:=[xC 48 .eql 40 4,xm 46 48]
def M0:=[xL 49 7 4,xs 2 49 4]
def Js:=[xC 51 .eql 40 5,xm 50 51]
def U1:=[xL 52 7 4,xL 53 4 4,xo (.bsl 54 84 4 [xt 52,xt 53]),xp 55 (.build zl13 [(0,1,xi 4),(3,1,xt 54)]),xs 2 55 4]
def Mz:=[xC 57 .eql 40 6,xm 56 57]
def U0:=[xL 58 4 4,xo (.bsl 59 84 4 [xt 58]),xp 60 (.build zl13 [(0,1,xi 3),(3,1,xt 59)]),xs 2 60 4]
def Uz:=[xL 61 4 4,xo (.bsl 62 84 4 [xt 61]),xp 63 (.build zl13 [(0,1,xi 6),(3,1,xt 62)]),xs 2 63 4]
def ANy:AC:=xS nI [0,2] (xS nH [2,3] (xS nG [2,3,4] (xS nF [2,3,4,5] (xS nE [2,3,4,5,6] (xS nD [2,3,4,7] (.seq (xS Fh [2,4,7,40] (.block 0 (.seq (xS Fg [2,4,7,40,41] (.cond (xt 41) .skip (xS GO [2,4,7,40,41] (.cond (xt 41) .skip (.reg HS [2,4,7,40,41]))))) (.cond (xt 41) (xE Jt [2]) (.seq (xS Gp [2,4,7,40,46] (.cond (xt 46) .skip (.reg IL [2,4,7,40,46]))) (.cond (xt 46) (xE M0 [2]) (xS Js [2,4,7,40,50] (.cond (xt 50) (xE U1 [2]) (xS Mz [2,4,56] (.cond (xt 56) (xE U0 [2]) .skip)))))))))) (xE Uz [2])))))))
def IM:List AR:=[.c 2 4 true]
theorem ASx:AU 212 1 ANy IM:=by kernel_rfl
def m9:=[xw 4 false]
def mz:=[xv 5 0]
def my:=[xm 6 5,xm 7 0,xA 8 7,xB 9 .lss 6 8]
def mw:=[xm 12 0,xm 13 5,xI 14 12 13 1,xl 15 14 1,xC 16 .lss 15 0,xm 17 16,xF 17 (xm 18 0),xF 17 (xm 19 5),xF 17 (xI 20 18 19 1),xF 17 (xl 21 20 1),xF 17 (xm 22 1),xF 17 (xB 23 .geq 21 22),xO 24 17 23,xm 25 24,xF 25 (xm 26 5),xF 25 (xC 27 .gtr 26 0),xF 25 (xm 28 27),xH 28 (xm 29 0),xH 28 (xm 30 5),xH 28 (xI 31 29 30 1),xH 28 (xl 32 31 1),xH 28 (xm 33 0),xH 28 (xm 34 5),xH 28 (xC 35 .sub 34 1),xH 28 (xI 36 33 35 1),xH 28 (xl 37 36 1),xH 28 (xB 38 .leq 32 37),xF 25 (xN 39 28 38),xO 40 25 39]
def My:=[xw 4 false]
def RY:=xV 10 5 11
def nB:AC:=.seq (xS my [0,1,5,9] (xD 9 0)) (.seq (.block 1 (.seq (.regD mw [0,1,5,40] (xK [[],[],[0,1],[2],[3],[4],[5],[5],[6,7],[8],[5],[9,10],[11],[12],[13],[14],[15],[16],[16],[17,18],[19],[16],[16],[22],[21,23],[24],[20,25],[26],[27]])) (.cond (xt 40) (xE My [4]) .skip))) (.reg RY [0,1,5]))
def mu:=[xw 4 true]
def ANx:AC:=xS m9 [0,1] (.seq (xS mz [0,1,5] (.block 0 (.loop nB))) (xE mu [4]))
def PD:List AR:=[.t 4]
theorem ASw:AU 213 2 ANx PD:=by kernel_rfl
def mt:=[xx 1 0,xv 2 0]
def mr:=[xL 3 1 4,x1 4 285 3,xC 5 .gtr 4 96,xm 6 5,xF 6 (xL 7 1 4),xF 6 (x1 8 286 7),xF 6 (xC 9 .gtr 8 8),xO 10 6 9]
def RX:=[xv 2 4]
def mq:=[xL 11 1 4,x1 12 287 11,xT 13 12]
def mn:=[xv 2 1]
def mm:=[xv 2 0]
def ANw:AC:=xS mt [1] (xQ mr [1,10] 10 (xE RX [2]) (xQ mq [13] 13 (xE mn [2]) (xE mm [2])))
def PC:List AR:=[.t 2]
theorem ASv:AU 214 1 ANw PC:=by kernel_rfl
def mj:=[xv 4 0]
def RW:=[xm 5 1,xC 6 .neq 5 0]
def mi:=[xm 7 1,xm 8 0,xm 9 1,xB 10 .rem 8 9,xm 0 7,xm 1 10]
def Mx:AC:=.seq (xS RW [0,1,6] (xD 6 0)) (.block 1 (.regD mi [0,1] (xK [[],[],[],[1,2],[0,1],[3,4]])))
def RV:=[xm 11 0,xC 12 .lss 11 0]
def mh:=[xm 13 0,xp 14 (.neg (xt 13)),xm 4 14]
def mg:=[xm 15 0,xm 4 15]
def ANv:AC:=xS mj [0,1] (.seq (.block 0 (.loop Mx)) (xQ RV [0,12] 12 (xE mh [4]) (xE mg [4])))
def ml:List AR:=[.t 4]
theorem ASu:AU 215 2 ANv ml:=by kernel_rfl
def me:=[xw 6 false]
def md:=[xm 7 1,xm 8 0,xB 9 .leq 7 8,xm 10 9,xH 10 (xm 11 0),xH 10 (xm 12 2),xH 10 (xB 13 .leq 11 12),xN 14 10 13,xm 6 14]
def AHU:AC:=xS me [0,1,2] (xE md [6])
def mf:List AR:=[.t 6]
theorem AK3:AU 216 3 AHU mf:=by kernel_rfl
def mb:=[xx 3 1,xw 4 false]
def ma:=[xn 5 0,xp 6 (.mkf 288 [xt 3]),x2 7 277 5 6,xT 8 7,xm 4 8]
def AHT:AC:=xS mb [0,3] (xE ma [4])
def mc:List AR:=[.t 4]
theorem AK2:AU 217 2 AHT mc:=by kernel_rfl
def mZ:=[xx 2 0,xw 3 false]
def mY:=[xa 4 2 0 2,xa 5 4 0 1,xl 6 5 1,xl 7 1 1,xC 8 .sub 7 1,xc 9 216 [xt 6,xi 0,xt 8],xm 10 9,xH 10 (xa 11 2 0 2),xH 10 (xa 12 11 1 1),xH 10 (xl 13 12 1),xH 10 (xc 14 216 [xt 13,xi 0,xi 63]),xN 15 10 14,xm 16 15,xH 16 (xa 17 2 2 1),xH 16 (xl 18 17 1),xH 16 (xc 19 216 [xt 18,xi 0,xi 131072]),xN 20 16 19,xm 21 20,xH 21 (xa 22 2 3 1),xH 21 (xl 23 22 1),xH 21 (xc 24 216 [xt 23,xi 0,xi 4095]),xN 25 21 24,xm 3 25]
def ANu:AC:=xS mZ [1,2] (xE mY [3])
def PB:List AR:=[.t 3]
theorem ASt:AU 218 2 ANu PB:=by kernel_rfl
def mW:=[xw 4 false]
def mV:=[xm 6 0,xA 7 6,xC 8 .sub 7 1,xp 9 (.minmax true (xt 8) (xi 0)),xv 10 0]
def mU:=[xB 11 .lss 10 9]
def mT:=[xm 12 10,xm 5 12]
def mS:=[xm 13 1,xm 14 0,xm 15 5,xI 16 14 15 4,xL 17 16 4,xm 18 0,xm 19 5,xC 20 .add 19 1,xI 21 18 20 4,xL 22 21 4,xo (.callF (some 23) (xt 13) [xt 17,xt 22]),xT 24 23]
def mR:=[xw 4 false]
def mQ:=xW 25 10
def mX:AC:=xS mU [0,1,9,10,11] (.seq (xD 11 0) (.seq (.block 1 (xS mT [0,1,5,9,10] (.seq (.regD mS [0,1,9,10,24] (xK [[],[],[],[1,2],[3],[],[],[6],[5,7],[8],[0,4,9],[10]])) (.cond (xt 24) (xE mR [4]) .skip)))) (.reg mQ [0,1,9,10])))
def mP:=[xw 4 true]
def AHS:AC:=xS mW [0,1] (.seq (xS mV [0,1,9,10] (.block 0 (.loop mX))) (xE mP [4]))
def Uy:List AR:=[.t 4]
theorem AK1:AU 219 2 AHS Uy:=by kernel_rfl
def Mw:=[xx 2 0,xx 3 1,xw 4 false]
def Mv:=[xa 5 2 0 2,xa 6 5 0 1,xl 7 6 1,xa 8 3 0 2,xa 9 8 0 1,xl 10 9 1,xB 11 .lss 7 10,xm 12 11,xF 12 (xa 13 2 0 2),xF 12 (xa 14 13 0 1),xF 12 (xl 15 14 1),xF 12 (xa 16 3 0 2),xF 12 (xa 17 16 0 1),xF 12 (xl 18 17 1),xF 12 (xB 19 .eql 15 18),xF 12 (xm 20 19),xH 20 (xa 21 2 0 2),xH 20 (xa 22 21 1 1),xH 20 (xl 23 22 1),xH 20 (xa 24 3 0 2),xH 20 (xa 25 24 1 1),xH 20 (xl 26 25 1),xH 20 (xB 27 .lss 23 26),xF 12 (xN 28 20 27),xO 29 12 28,xm 4 29]
def vw:AC:=xS Mw [2,3] (xE Mv [4])
def Ux:List AR:=[.t 4]
theorem ASs:AU 220 2 vw Ux:=by kernel_rfl
def mN:=[xx 3 1,xw 4 false]
def mM:=[xn 5 0,xp 6 (.mkf 289 [xt 3]),x2 7 151 5 6,xT 8 7,xm 4 8]
def AHR:AC:=xS mN [0,3] (xE mM [4])
def mO:List AR:=[.t 4]
theorem AK0:AU 221 2 AHR mO:=by kernel_rfl
def mL:=[xw 3 false]
def mK:=[xm 4 0,xl 5 1 1,xC 6 .sub 5 1,xc 7 216 [xt 4,xi 0,xt 6],xm 3 7]
def ANs:AC:=xS mL [0,1] (xE mK [3])
def AC8:List AR:=[.t 3]
theorem ASr:AU 222 2 ANs AC8:=by kernel_rfl
def mI:=[xw 4 false]
def mH:=[xm 6 0,xA 7 6,xC 8 .sub 7 1,xp 9 (.minmax true (xt 8) (xi 0)),xv 10 0]
def mG:=[xB 11 .lss 10 9]
def mF:=[xm 12 10,xm 5 12]
def mE:=[xm 13 1,xm 14 0,xm 15 5,xI 16 14 15 1,xl 17 16 1,xm 18 0,xm 19 5,xC 20 .add 19 1,xI 21 18 20 1,xl 22 21 1,xo (.callF (some 23) (xt 13) [xt 17,xt 22]),xT 24 23]
def mD:=[xw 4 false]
def mC:=xW 25 10
def mJ:AC:=xS mG [0,1,9,10,11] (.seq (xD 11 0) (.seq (.block 1 (xS mF [0,1,5,9,10] (.seq (.regD mE [0,1,9,10,24] (xK [[],[],[],[1,2],[3],[],[],[6],[5,7],[8],[0,4,9],[10]])) (.cond (xt 24) (xE mD [4]) .skip)))) (.reg mC [0,1,9,10])))
def mB:=[xw 4 true]
def AHQ:AC:=xS mI [0,1] (.seq (xS mH [0,1,9,10] (.block 0 (.loop mJ))) (xE mB [4]))
def Uw:List AR:=[.t 4]
theorem AKz:AU 223 2 AHQ Uw:=by kernel_rfl
def mA:=[xw 4 false]
def l0:=[xm 5 0,xm 6 1,xB 7 .lss 5 6,xm 4 7]
def ANr:AC:=xS mA [0,1] (xE l0 [4])
def AC7:List AR:=[.t 4]
theorem ASq:AU 224 2 ANr AC7:=by kernel_rfl
def lq:=[xx 3 1,xw 4 false]
def lm:=[xn 5 0,xp 6 (.mkf 290 [xt 3]),x2 7 183 5 6,xT 8 7,xm 4 8]
def AHP:AC:=xS lq [0,3] (xE lm [4])
def lu:List AR:=[.t 4]
theorem AKy:AU 225 2 AHP lu:=by kernel_rfl
def lk:=[xx 1 0,xw 2 false]
def lj:=[xa 6 1 1 2,xL 7 6 2,xp 8 (.build zl7 [(0,1,xi 1),(1,1,xi 1)]),x2 9 227 7 8,xn 5 9,xe 10 5 0,xe 11 5 1,xm 3 10,xm 4 11]
def RU:=[xa 12 1 0 1,xl 13 12 1,xc 14 216 [xt 13,xi 1,xi 4095],xm 15 14,xH 15 (xm 16 4),xH 15 (xC 17 .eql 16 0),xN 18 15 17,xm 19 18,xH 19 (xm 20 3),xH 19 (xC 21 .leq 20 0),xN 22 19 21,xm 23 22,xH 23 (xa 24 1 1 2),xH 23 (xa 25 24 0 1),xH 23 (xl 26 25 1),xH 23 (xC 27 .gtr 26 0),xN 28 23 27,xm 2 28]
def ANq:AC:=xS lk [1] (xS lj [1,3,4] (xE RU [2]))
def PA:List AR:=[.t 2]
theorem ASp:AU 226 1 ANq PA:=by kernel_rfl
def lh:=[xx 2 0,xx 3 1,xv 4 0,xv 5 0]
def lg:=[xL 7 2 2,xL 8 3 2,xo (.bsl 9 133 2 [xt 7,xt 8]),x1 10 291 9,xm 6 10]
def lY:=[xm 11 6,xC 12 .neq 11 0]
def lW:=[xm 13 6,xv 4 0,xm 5 13]
def lV:=[xL 14 2 2,xL 15 3 2,x2 16 292 14 15,xm 4 16,xv 5 0]
def ANp:AC:=xS lh [2,3] (.seq (xS lg [2,3,6] (xS lY [2,3,6,12] (.cond (xt 12) (xE lW [4,5]) .skip))) (xE lV [4,5]))
def AC6:List AR:=[.t 4,.t 5]
theorem ASo:AU 227 2 ANp AC6:=by kernel_rfl
def lT:=[xw 4 false]
def lS:=[xm 6 0,xA 7 6,xC 8 .sub 7 1,xp 9 (.minmax true (xt 8) (xi 0)),xv 10 0]
def lR:=[xB 11 .lss 10 9]
def lQ:=[xm 12 10,xm 5 12]
def lP:=[xm 13 1,xm 14 0,xm 15 5,xI 16 14 15 3,xL 17 16 3,xm 18 0,xm 19 5,xC 20 .add 19 1,xI 21 18 20 3,xL 22 21 3,xo (.callF (some 23) (xt 13) [xt 17,xt 22]),xT 24 23]
def lO:=[xw 4 false]
def lN:=xW 25 10
def lU:AC:=xS lR [0,1,9,10,11] (.seq (xD 11 0) (.seq (.block 1 (xS lQ [0,1,5,9,10] (.seq (.regD lP [0,1,9,10,24] (xK [[],[],[],[1,2],[3],[],[],[6],[5,7],[8],[0,4,9],[10]])) (.cond (xt 24) (xE lO [4]) .skip)))) (.reg lN [0,1,9,10])))
def lM:=[xw 4 true]
def AHO:AC:=xS lT [0,1] (.seq (xS lS [0,1,9,10] (.block 0 (.loop lU))) (xE lM [4]))
def Uv:List AR:=[.t 4]
theorem AKx:AU 228 2 AHO Uv:=by kernel_rfl
def lL:=[xx 2 0,xx 3 1,xw 4 false]
def lK:=[xa 5 2 0 1,xl 6 5 1,xa 7 3 0 1,xl 8 7 1,xB 9 .lss 6 8,xm 4 9]
def ANo:AC:=xS lL [2,3] (xE lK [4])
def AC5:List AR:=[.t 4]
theorem ASn:AU 229 2 ANo AC5:=by kernel_rfl
def lI:=[xx 3 1,xw 4 false]
def lG:=[xn 5 0,xp 6 (.mkf 294 [xt 3]),x2 7 293 5 6,xT 8 7,xm 4 8]
def AHN:AC:=xS lI [0,3] (xE lG [4])
def lJ:List AR:=[.t 4]
theorem AKw:AU 230 2 AHN lJ:=by kernel_rfl
def lF:=[xx 1 0,xw 2 false]
def lD:=[xa 3 1 0 1,xl 4 3 1,xc 5 216 [xt 4,xi 1,xi 4095],xm 6 5,xH 6 (xa 7 1 1 1),xH 6 (xl 8 7 1),xH 6 (xc 9 216 [xt 8,xi 1,xi 4095]),xN 10 6 9,xm 11 10,xH 11 (xa 12 1 2 1),xH 11 (xl 13 12 1),xH 11 (xa 14 1 3 1),xH 11 (xl 15 14 1),xH 11 (xc 16 216 [xt 13,xi 0,xt 15]),xN 17 11 16,xm 18 17,xH 18 (xa 19 1 3 1),xH 18 (xl 20 19 1),xH 18 (xC 21 .leq 20 131072),xN 22 18 21,xm 2 22]
def ANm:AC:=xS lF [1] (xE lD [2])
def O9:List AR:=[.t 2]
theorem ASm:AU 231 1 ANm O9:=by kernel_rfl
def lA:=[xx 1 0,xr 2 5 1,xv 3 0]
def k8:=[xL 9 1 4,x1 10 66 9,xm 4 10]
def k0:=[xm 11 4,xC 12 .neq 11 0]
def kz:=[xm 13 4,xr 2 5 1,xm 3 13]
def kw:=[xp 14 (.build [.nil 5 1] []),xx 15 14,xo (.alloc 5 [.v .nilp]),xs 5 15 1]
def ku:=[xL 16 1 4,x1 17 68 16]
def kr:=[xo (.alloc 6 zl6),xs 6 18 4]
def kq:=[xl 19 5 1,xa 20 6 0 1,xl 21 20 1,x2 22 98 19 21]
def km:=[xl 23 5 1,xa 24 6 1 1,xl 25 24 1,x2 26 98 23 25]
def kj:=[xl 27 5 1,xa 28 6 2 1,xl 29 28 1,xA 30 29,x2 31 98 27 30]
def Uu:=[xa 32 6 2 1,xl 33 32 1,xA 34 33,xv 35 0]
def Ut:=[xB 36 .lss 35 34]
def Us:=[xI 37 33 35 8,xL 38 37 8,xo (.alloc 8 zl15),xs 8 38 8]
def Ur:=[xl 39 5 1,xa 40 8 0 2,xa 41 40 0 1,xl 42 41 1,xa 43 8 0 2,xa 44 43 1 1,xl 45 44 1,xa 46 8 2 2,xa 47 46 0 1,xl 48 47 1,xa 49 8 2 2,xa 50 49 1 1,xl 51 50 1,xa 52 8 4 1,xl 53 52 1,x1 54 295 53,xa 55 8 5 1,xl 56 55 1,x1 57 295 56,xa 58 8 6 1,xl 59 58 1,x1 60 295 59,xa 61 8 7 1,xl 62 61 1,x1 63 295 62,xo (.bsl 64 3 1 [xt 42,xt 45,xt 48,xt 51,xt 54,xt 57,xt 60,xt 63]),xq 65 100 [xt 39,xt 64]]
def Uq:=xW 66 35
def RT:AC:=xS Ut [5,6,33,34,35,36] (.seq (xD 36 2) (.seq (.block 3 (xS Us [5,6,8,33,34,35] (.regD Ur [5,6,33,34,35] (xK [[],[],[1],[2],[],[4],[5],[],[7],[8],[],[10],[11],[],[13],[14],[],[16],[15,17],[],[19],[18,20],[],[22],[21,23],[3,6,9,12,24],[0,25]])))) (.reg Uq [5,6,33,34,35])))
def Up:=[xl 67 5 1,xa 68 6 3 1,xl 69 68 1,xA 70 69,x2 71 98 67 70]
def Ff:AC:=.reg kr [5,6]
def Fe:AC:=.block 1 (xS kq [5,6] (xS km [5,6] (xS kj [5,6] (.seq (xS Uu [5,6,33,34,35] (.block 2 (.loop RT))) (.reg Up [])))))
def Uo:=[xl 72 5 1,x1 73 102 72,xn 2 73,xv 3 0]
def ANl:AC:=xS lA [1] (.seq (xS k8 [1,4] (xS k0 [1,4,12] (.cond (xt 12) (xE kz [2,3]) .skip))) (xS kw [1,5] (.seq (xS ku [5,17] (.block 0 (.rangeF (xt 17) [18] Ff Fe))) (xE Uo [2,3]))))
def lC:List AR:=[.t 2,.t 3]
theorem ASl:AU 232 1 ANl lC:=by kernel_rfl
def kh:=[xx 3 1,xo (.alloc 4 zl10)]
def kg:=[xm 8 0,xZ 9 8,xa 10 9 1 1,xl 11 10 1,xL 12 3 2,xp 13 (.look (xt 11) (xt 12) true [0,0] [.v (.int .u64 0)] false true),xn 7 13,xe 14 7 0,xe 15 7 1,xm 5 14,xm 6 15]
def RS:=[xm 16 5,xm 17 6,xp 18 (.build zl10 [(0,1,xt 16),(1,1,xt 17)]),xs 4 18 2]
def AHM:AC:=xS kh [0,3,4] (.seq (.regD kg [4,5,6] (xK [[],[0],[1],[2],[],[3,4],[5],[6],[6],[7],[8,9]])) (xE RS [4]))
def Un:List AR:=[.c 4 2 true]
theorem AKv:AU 233 2 AHM Un:=by kernel_rfl
def ke:=[xo (.mv 4 (xj 0))]
def kc:=[xo (.alloc 5 [.own 3 1 []])]
def kb:=[xm 7 1,x1 8 296 7]
def ka:=[xm 6 9]
def kZ:=[xo (.take 10 (xt 5)),xm 11 6,xp 12 (.cint .i64 (xt 11)),xo (.bsl 13 3 1 [xt 12]),xo (.app 14 (xu 10) (xt 13) 3 1 8),xo (.store (xt 5) (xu 14) 1)]
def Iw:AC:=.reg ka [5,6]
def Iv:AC:=.block 1 (.reg kZ [])
def kY:=[xm 15 0,xo (.take 16 (xt 5)),xn 17 1,xA 18 17,xo (.bsl 19 3 1 [xt 18]),xo (.app 20 (xu 16) (xt 19) 3 1 8),x2 21 96 15 20,xm 4 21]
def AHL:AC:=xS ke [0,1] (xS kc [0,1,5] (.seq (xS kb [0,1,5,8] (.block 0 (.rangeF (xt 8) [9] Iw Iv))) (xE kY [4])))
def kf:List AR:=[.t 4]
theorem AKu:AU 234 2 AHL kf:=by kernel_rfl
def AHK:=[xr 2 3 1]
def AHJ:=[xm 4 0,x1 5 298 4,xn 3 5]
def AHI:=[xm 6 3,x1 7 299 6]
def AHH:=[xn 8 3,xn 2 8]
def ANk:AC:=xS AHK [0] (xS AHJ [3] (xS AHI [3] (xE AHH [2])))
def AC2:List AR:=[.t 2]
theorem ASk:AU 237 1 ANk AC2:=by kernel_rfl
def kW:=[xx 1 0,xo (.mv 2 (.c (.v .nilf)))]
def kV:=[xp 3 (.mkf 300 [xt 1]),xm 2 3]
def AHG:AC:=xS kW [1] (xE kV [2])
def kX:List AR:=[.t 2]
theorem AKt:AU 238 1 AHG kX:=by kernel_rfl
def kT:=[xx 2 0,xx 3 1,xo (.mv 4 (.c (.v .nilf)))]
def kS:=[xp 5 (.mkf 301 [xt 2,xt 3]),xm 4 5]
def AHF:AC:=xS kT [2,3] (xE kS [4])
def kU:List AR:=[.t 4]
theorem AKs:AU 239 2 AHF kU:=by kernel_rfl
def kQ:=[xx 1 0,xv 2 0]
def kP:=[xa 3 1 1 1,xl 4 3 1,xC 5 .add 4 1,xa 6 1 0 1,xl 7 6 1,xB 8 .shl 5 7,xC 9 .sub 8 1,xm 2 9]
def AHE:AC:=xS kQ [1] (xE kP [2])
def kR:List AR:=[.t 2]
theorem AKr:AU 240 1 AHE kR:=by kernel_rfl
def kN:=[xw 4 false]
def kM:=[xo (.mv 5 (.c (.v (.int .i64 (-1)))))]
def kL:=[xn 8 0,xA 9 8,xv 10 0]
def kK:=[xB 11 .lss 10 9]
def kJ:=[xI 12 8 10 1,xl 13 12 1,xm 7 13]
def kI:=[xm 14 7,xm 15 5,xB 16 .leq 14 15,xm 17 16,xF 17 (xm 18 7),xF 17 (xm 19 1),xF 17 (xB 20 .geq 18 19),xO 21 17 20]
def RR:=[xw 4 false]
def kH:=[xm 22 7,xm 5 22]
def kG:=xW 23 10
def kO:AC:=xS kK [1,5,8,9,10,11] (.seq (xD 11 0) (.seq (.block 1 (xS kJ [1,5,7,8,9,10] (xQ kI [1,7,8,9,10,21] 21 (xE RR [4]) (.reg kH [1,5,8,9,10])))) (.reg kG [1,5,8,9,10])))
def kF:=[xw 4 true]
def ANg:AC:=xS kN [0,1] (xS kM [0,1,5] (.seq (xS kL [1,5,8,9,10] (.block 0 (.loop kO))) (xE kF [4])))
def Um:List AR:=[.t 4]
theorem ASj:AU 241 2 ANg Um:=by kernel_rfl
def kE:=[xx 2 0]
def kD:=[xo (.alloc 3 [.v .nilf])]
def kC:=[xp 4 (.mkf 243 [xt 2,xt 3]),xs 3 4 1]
def kB:=[xl 5 3 1,xL 6 1 4,xo (.call (some 7) (xt 5) [xt 6])]
def ANf:AC:=xS kE [1,2] (xS kD [1,2,3] (xS kC [1,3] (.reg kB [])))
def ANe:List AR:=[]
theorem ASi:AU 242 2 ANf ANe:=by kernel_rfl
def RQ:=[xx 3 0,xw 4 false]
def RP:=[xa 5 3 0 1,xl 6 5 1,xC 7 .neq 6 5]
def j9:=[xl 8 1 1,xL 9 3 4,xo (.call (some 10) (xt 8) [xt 9]),xm 4 10]
def jz:=[xa 11 3 3 1,xl 12 11 1,xp 13 (.mkf 244 [xt 2]),x2 14 149 12 13,xT 15 14,xm 4 15]
def AHD:AC:=xS RQ [1,2,3] (xQ RP [1,2,3,7] 7 (xE j9 [4]) (xE jz [4]))
def kA:List AR:=[.t 4]
theorem AKq:AU 243 3 AHD kA:=by kernel_rfl
def jy:=[xx 2 0,xw 3 false]
def jx:=[xl 4 1 1,xL 5 2 4,xo (.call (some 6) (xt 4) [xt 5]),xT 7 6,xm 3 7]
def ANd:AC:=xS jy [1,2] (xE jx [3])
def ACw:List AR:=[.t 3]
theorem ASh:AU 244 2 ANd ACw:=by kernel_rfl
def jv:=[xv 2 0]
def ju:=[xm 9 0,xA 10 9,xv 11 0]
def jt:=[xB 12 .lss 11 10]
def js:=[xm 13 11,xI 14 9 11 8,xL 15 14 8,xo (.alloc 4 zl15),xm 3 13,xs 4 15 8]
def jr:=[xL 16 4 8,x1 17 258 16,xT 18 17]
def jq:=[xv 2 1]
def jp:=[xm 19 3,xC 20 .gtr 19 0]
def jo:=[xL 22 4 8,x1 23 303 22,xn 21 23,xe 24 21 0,xe 25 21 1,xo (.alloc 5 zl16),xo (.alloc 6 zl16),xs 5 24 4,xs 6 25 4]
def jn:=[xm 27 0,xm 28 3,xC 29 .sub 28 1,xI 30 27 29 8,xL 31 30 8,x1 32 303 31,xn 26 32,xe 33 26 0,xe 34 26 1,xo (.alloc 7 zl16),xo (.alloc 8 zl16),xs 7 33 4,xs 8 34 4]
def jm:=[xL 35 8 4,xL 36 5 4,x2 37 304 35 36,xT 38 37]
def Uk:=[xv 2 1]
def Mu:=xW 39 11
def jw:AC:=xS jt [0,9,10,11,12] (.seq (xD 12 0) (.seq (.block 1 (xS js [0,3,4,9,10,11] (xQ jr [0,3,4,9,10,11,18] 18 (xE jq [2]) (xS jp [0,3,4,9,10,11,20] (.cond (xt 20) (xS jo [0,3,5,9,10,11] (xS jn [0,5,8,9,10,11] (xS jm [0,9,10,11,38] (.cond (xt 38) (xE Uk [2]) .skip)))) .skip))))) (.reg Mu [0,9,10,11])))
def Uj:=[xn 40 0,x1 41 305 40,xm 2 41]
def ANc:AC:=xS jv [0] (.seq (xS ju [0,9,10,11] (.block 0 (.loop jw))) (xE Uj [2]))
def Ul:List AR:=[.t 2]
theorem ASg:AU 246 1 ANc Ul:=by kernel_rfl
def jl:=[xx 3 0,xv 6 0]
def jk:=[xm 9 1,xC 10 .gtr 9 8,xm 11 10,xF 11 (xm 12 2),xF 11 (xC 13 .lss 12 1),xO 14 11 13]
def RN:=[xo (.mv 6 (.c (.v (.int .i64 (-1)))))]
def jj:=[xm 15 2,xC 16 .sub 15 1,xm 2 16]
def ji:=[xa 17 3 2 1,xl 18 17 1,xA 19 18,xv 20 0]
def jh:=[xB 21 .lss 20 19]
def jg:=[xI 22 18 20 3,xL 23 22 3,xo (.alloc 8 zl17),xs 8 23 3]
def jf:=[xL 24 8 3,xm 25 1,xC 26 .add 25 1,xm 27 2,x3 28 247 24 26 27,xm 2 28]
def RM:=[xm 29 2,xC 30 .lss 29 0]
def je:=[xo (.mv 6 (.c (.v (.int .i64 (-1)))))]
def Ui:=xW 31 20
def RO:AC:=xS jh [1,2,18,19,20,21] (.seq (xD 21 0) (.seq (.block 1 (xS jg [1,2,8,18,19,20] (xS jf [1,2,18,19,20] (xS RM [1,2,18,19,20,30] (.cond (xt 30) (xE je [6]) .skip))))) (.reg Ui [1,2,18,19,20])))
def Uh:=[xm 32 2,xm 6 32]
def ANb:AC:=xS jl [1,2,3] (xQ jk [1,2,3,14] 14 (xE RN [6]) (xS jj [1,2,3] (.seq (xS ji [1,2,18,19,20] (.block 0 (.loop RO))) (xE Uh [6]))))
def O8:List AR:=[.t 6]
theorem ASf:AU 247 3 ANb O8:=by kernel_rfl
def jd:=[xx 1 0,xv 2 0]
def jc:=[xa 5 1 1 1,xl 6 5 1,xC 7 .lss 6 1]
def jb:=[xv 2 1]
def ja:=[xa 9 1 0 1,xl 10 9 1,xa 11 1 1 1,xl 12 11 1,x2 13 306 10 12,xn 8 13,xe 14 8 0,xe 15 8 1,xo (.alloc 3 zl7),xs 3 14 2,xm 4 15]
def RL:=[xm 16 4,xC 17 .neq 16 0,xm 18 17,xF 18 (xL 19 3 2),xF 18 (xL 20 1 2),xF 18 (xp 21 (.eqA true [0,0] (xt 19) (xt 20))),xO 22 18 21]
def RJ:=[xv 2 1]
def jZ:=[xv 2 0]
def ANa:AC:=xS jd [1] (xQ jc [1,7] 7 (xE jb [2]) (.seq (xS ja [1,3,4] (xS RL [22] (.cond (xt 22) (xE RJ [2]) .skip))) (xE jZ [2])))
def Ug:List AR:=[.t 2]
theorem ASe:AU 248 1 ANa Ug:=by kernel_rfl
def jY:=[xx 1 0,xw 2 false]
def jX:=[xL 3 1 3,x1 4 146 3,xT 5 4,xm 2 5]
def ANZ:AC:=xS jY [1] (xE jX [2])
def ACv:List AR:=[.t 2]
theorem ASd:AU 249 1 ANZ ACv:=by kernel_rfl
def jQ:=[xw 4 false]
def jP:=[xm 7 0,xA 8 7,xv 9 0]
def jO:=[xB 10 .lss 9 8]
def jN:=[xm 11 9,xI 12 7 9 1,xl 13 12 1,xm 5 11,xm 6 13]
def jM:=[xm 14 6,xC 15 .lss 14 0,xm 16 15,xF 16 (xm 17 6),xF 16 (xm 18 1),xF 16 (xB 19 .geq 17 18),xO 20 16 19,xm 21 20,xF 21 (xm 22 5),xF 21 (xC 23 .gtr 22 0),xF 21 (xm 24 23),xH 24 (xm 25 6),xH 24 (xm 26 0),xH 24 (xm 27 5),xH 24 (xC 28 .sub 27 1),xH 24 (xI 29 26 28 1),xH 24 (xl 30 29 1),xH 24 (xB 31 .leq 25 30),xF 21 (xN 32 24 31),xO 33 21 32]
def Mt:=[xw 4 false]
def RG:=xW 34 9
def jR:AC:=xS jO [0,1,7,8,9,10] (.seq (xD 10 0) (.seq (.block 1 (xS jN [0,1,5,6,7,8,9] (xS jM [0,1,7,8,9,33] (.cond (xt 33) (xE Mt [4]) .skip)))) (.reg RG [0,1,7,8,9])))
def jL:=[xw 4 true]
def ANW:AC:=xS jQ [0,1] (.seq (xS jP [0,1,7,8,9] (.block 0 (.loop jR))) (xE jL [4]))
def O7:List AR:=[.t 4]
theorem ASc:AU 250 2 ANW O7:=by kernel_rfl
theorem ASb:AU 251 2 (cI 4 true) cIR:=by kernel_rfl
theorem AKp:AU 252 2 (cI 1 false) cIR:=by kernel_rfl
theorem ASa:AU 253 2 (cI 3 true) cIR:=by kernel_rfl
theorem ASZ:AU 254 2 (cI 3 true) cIR:=by kernel_rfl
def jK:=[xx 2 0,xw 3 false]
def jJ:=[xa 4 2 0 1,xl 5 4 1,xl 6 1 1,xB 7 .eql 5 6,xm 3 7]
def ANV:AC:=xS jK [1,2] (xE jJ [3])
def ACm:List AR:=[.t 3]
theorem ASY:AU 255 2 ANV ACm:=by kernel_rfl
theorem ASX:AU 256 2 (cJ 307) cIR:=by kernel_rfl
def jH:=[xx 2 0,xw 3 false]
def jG:=[xL 4 2 8,x1 5 258 4,xm 6 5,xH 6 (xL 7 2 8),xH 6 (xL 8 1 2),xH 6 (x2 9 259 7 8),xN 10 6 9,xm 3 10]
def ANU:AC:=xS jH [1,2] (xE jG [3])
def jI:List AR:=[.t 3]
theorem ASW:AU 257 2 ANU jI:=by kernel_rfl
def jF:=[xx 1 0,xw 2 false]
def jE:=[xo (.mv 3 (xf 308))]
def jD:=[xm 4 3,xa 5 1 0 2,xL 6 5 2,xa 7 1 4 1,xl 8 7 1,xa 9 1 6 1,xl 10 9 1,xo (.call (some 11) (xt 4) [xt 6,xt 8,xt 10]),xT 12 11,xm 13 12,xF 13 (xm 14 3),xF 13 (xa 15 1 2 2),xF 13 (xL 16 15 2),xF 13 (xa 17 1 5 1),xF 13 (xl 18 17 1),xF 13 (xa 19 1 7 1),xF 13 (xl 20 19 1),xg 13 false (.call (some 21) (xt 14) [xt 16,xt 18,xt 20]),xF 13 (xT 22 21),xO 23 13 22]
def RF:=[xw 2 false]
def jC:=[xL 24 1 8,x1 25 303 24,xe 26 25 0,xe 27 25 1,x2 28 304 26 27,xm 2 28]
def ANT:AC:=xS jF [1] (xS jE [1,3] (xQ jD [1,23] 23 (xE RF [2]) (xE jC [2])))
def Uf:List AR:=[.t 2]
theorem ASV:AU 258 1 ANT Uf:=by kernel_rfl
def jB:=[xx 2 0,xx 3 1,xw 4 false]
def jA:=[xo (.mv 5 (xf 310))]
def iz:=[xa 8 2 6 1,xl 9 8 1,xT 10 9]
def iy:=[xm 11 5,xL 12 3 2,xa 13 2 0 2,xL 14 13 2,xo (.call (some 15) (xt 11) [xt 12,xt 14]),xm 6 15]
def iw:=[xm 16 6,xC 17 .lss 16 0,xm 18 17,xF 18 (xm 19 6),xF 18 (xC 20 .eql 19 0),xF 18 (xm 21 20),xH 21 (xa 22 2 4 1),xH 21 (xl 23 22 1),xF 18 (xN 24 21 23),xO 25 18 24]
def RE:=[xw 4 false]
def Ms:=[xa 26 2 7 1,xl 27 26 1,xT 28 27]
def Mr:=[xm 29 5,xL 30 3 2,xa 31 2 2 2,xL 32 31 2,xo (.call (some 33) (xt 29) [xt 30,xt 32]),xm 7 33]
def Mq:=[xm 34 7,xC 35 .gtr 34 0,xm 36 35,xF 36 (xm 37 7),xF 36 (xC 38 .eql 37 0),xF 36 (xm 39 38),xH 39 (xa 40 2 5 1),xH 39 (xl 41 40 1),xF 36 (xN 42 39 41),xO 43 36 42]
def HR:=[xw 4 false]
def Dt:=[xw 4 true]
def ANS:AC:=xS jB [2,3] (xS jA [2,3,5] (xQ iz [2,3,5,10] 10 (xS iy [2,3,5,6] (xS iw [2,3,5,25] (.cond (xt 25) (xE RE [4]) .skip))) (xQ Ms [2,3,5,28] 28 (xS Mr [2,7] (xS Mq [43] (.cond (xt 43) (xE HR [4]) .skip))) (xE Dt [4]))))
def EY:List AR:=[.t 4]
theorem ASU:AU 259 2 ANS EY:=by kernel_rfl
def iq:=[xw 4 false]
def ip:=[xm 5 0,xC 6 .geq 5 0,xm 7 6,xH 7 (xm 8 0),xH 7 (xm 9 1),xH 7 (xB 10 .leq 8 9),xN 11 7 10,xm 4 11]
def AHB:AC:=xS iq [0,1] (xE ip [4])
def ir:List AR:=[.t 4]
theorem AKo:AU 270 2 AHB ir:=by kernel_rfl
def im:=[xx 1 0,xv 2 0]
def ik:=[xa 3 1 1 1,xl 4 3 1,xa 5 1 0 1,xl 6 5 1,xB 7 .shl 4 6,xm 2 7]
def AHA:AC:=xS im [1] (xE ik [2])
def io:List AR:=[.t 2]
theorem AKn:AU 271 1 AHA io:=by kernel_rfl
theorem AKm:AU 272 2 (cI 3 true) cIR:=by kernel_rfl
def ig:=[xx 1 0,xr 2 3 1]
def ie:=[xr 3 3 1]
def ic:=[xa 5 1 2 1,xl 6 5 1,xC 7 .neq 6 0]
def ib:=[xn 8 3,xn 2 8]
def ia:=[xa 9 1 3 1,xl 10 9 1,xA 11 10,xv 12 0]
def iZ:=[xB 13 .lss 12 11]
def iY:=[xm 14 12,xm 4 14]
def iX:=[xa 15 1 5 1,xl 16 15 1,xm 17 4,x2 18 316 16 17,xT 19 18]
def iW:=[xn 20 3,xm 21 4,xo (.bsl 22 3 1 [xt 21]),xo (.app 23 (xu 20) (xt 22) 3 1 8),xn 3 23]
def Q8:=xW 24 12
def ii:AC:=xS iZ [1,3,11,12,13] (.seq (xD 13 0) (.seq (.block 1 (xS iY [1,3,4,11,12] (xS iX [1,3,4,11,12,19] (.cond (xt 19) (.reg iW [1,3,11,12]) .skip)))) (.reg Q8 [1,3,11,12])))
def Uc:=[xn 25 3,xn 2 25]
def ANQ:AC:=xS ig [1] (xS ie [1,3] (xQ ic [1,3,7] 7 (xE ib [2]) (.seq (xS ia [1,3,11,12] (.block 0 (.loop ii))) (xE Uc [2]))))
def ij:List AR:=[.t 2]
theorem AST:AU 273 1 ANQ ij:=by kernel_rfl
def iV:=[xo (.alloc 4 zl6),xv 5 0]
def iU:=[xm 9 0,xm 10 1,x2 11 63 9 10,xm 6 11]
def iT:=[xm 12 6,xC 13 .neq 12 0]
def AG9:=[xp 14 (.build zl13 []),xm 15 6,xs 4 14 4,xm 5 15]
def iS:=[xn 17 0,xm 18 1,x2 19 317 17 18,xm 20 1,xp 21 (.look (xt 19) (xt 20) false [0] zl13 true true),xn 16 21,xe 22 16 0,xe 23 16 1,xo (.alloc 7 zl6),xs 7 22 4,xm 8 23]
def iR:=[xm 24 8,xT 25 24]
def AG8:=[xp 26 (.build zl13 []),xs 4 26 4,xv 5 4]
def iQ:=[xL 27 7 4,xs 4 27 4,xv 5 0]
def ANP:AC:=xS iV [0,1,4] (.seq (xS iU [0,1,4,6] (xS iT [0,1,4,6,13] (.cond (xt 13) (xE AG9 [4,5]) .skip))) (xS iS [4,7,8] (xQ iR [4,7,25] 25 (xE AG8 [4,5]) (xE iQ [4,5]))))
def ACd:List AR:=[.c 4 4 true,.t 5]
theorem ASS:AU 274 2 ANP ACd:=by kernel_rfl
theorem ASR:AU 275 2 (cI 8 true) cIR:=by kernel_rfl
def iP:=[xx 2 0,xw 3 false]
def iO:=[xa 4 2 0 1,xl 5 4 1,xa 6 1 0 1,xl 7 6 1,xB 8 .eql 5 7,xm 3 8]
def ANO:AC:=xS iP [1,2] (xE iO [3])
def ACc:List AR:=[.t 3]
theorem ASQ:AU 276 2 ANO ACc:=by kernel_rfl
theorem AKl:AU 277 2 (cJ 318) cIR:=by kernel_rfl
def Q7:=[xx 4 0,xw 5 false]
def Q6:=[xa 6 4 0 2,xL 7 6 2,xa 8 1 1 1,xl 9 8 1,xl 10 2 1,xp 11 (.build zl7 [(0,1,xt 9),(1,1,xt 10)]),xp 12 (.eqA false [0,0] (xt 7) (xt 11)),xm 13 12,xH 13 (xa 14 4 2 1),xH 13 (xl 15 14 1),xH 13 (xa 16 3 3 1),xH 13 (xl 17 16 1),xH 13 (xB 18 .lss 15 17),xN 19 13 18,xm 5 19]
def AG7:AC:=xS Q7 [1,2,3,4] (xE Q6 [5])
def iN:List AR:=[.t 5]
theorem ASP:AU 278 4 AG7 iN:=by kernel_rfl
def iK:=[xv 3 0]
def iJ:=[xm 6 3,xl 7 1 1,xp 8 (.lenS (xt 7)),xB 9 .lss 6 8]
def iI:=[xo (.mv 4 (xj 0))]
def iH:=[xm 12 3,xm 5 12]
def iG:=[xm 13 5,xm 14 3,xC 15 .add 14 8,xl 16 1 1,xp 17 (.lenS (xt 16)),xp 18 (.minmax false (xt 15) (xt 17)),xB 19 .lss 13 18]
def iE:=[xm 22 4,xl 23 1 1,xm 24 5,xp 25 (.idxS (xt 23) (xt 24)),xp 26 (.cint .u64 (xt 25)),xm 27 5,xm 28 3,xB 29 .sub 27 28,xb 30 .mul (xi 8) (xt 29),xB 31 .shl 26 30,xB 32 .or 22 31,xm 4 32]
def iF:=xV 20 5 21
def Q5:AC:=.seq (xS iG [0,1,3,4,5,19] (xD 19 2)) (.seq (.block 3 (.reg iE [0,1,3,4,5])) (.reg iF [0,1,3,4,5]))
def iD:=[xm 33 0,xm 34 4,xo (.call (some 35) (xt 33) [xt 34]),xT 36 35]
def Q4:=[xm 10 3,xC 11 .add 10 8,xm 3 11]
def iL:AC:=.seq (xS iJ [0,1,3,9] (xD 9 0)) (.seq (.block 1 (xS iI [0,1,3,4] (.seq (xS iH [0,1,3,4,5] (.block 2 (.loop Q5))) (xS iD [0,1,3,36] (.cond (xt 36) .ret .skip))))) (.reg Q4 [0,1,3]))
def AG6:AC:=xS iK [0,1,3] (.block 0 (.loop iL))
def iM:List AR:=[]
theorem AKk:AU 279 2 AG6 iM:=by kernel_rfl
def iB:=[xo (.alloc 2 zl6),xv 3 0]
def iA:=[xm 9 0,x1 10 44 9,xm 4 10]
def gz:=[xo (.alloc 5 [xz]),xo (.store (xt 5) (xi 96) 1)]
def gw:=[xm 11 4,x2 12 320 11 5,xo (.alloc 6 zl6),xs 6 12 4]
def gv:=[xl 13 5 1,xC 14 .lss 13 0,xm 15 14,xF 15 (xm 16 4),xF 15 (x1 17 116 16),xF 15 (xC 18 .neq 17 0),xO 19 15 18]
def AG5:=[xp 20 (.build zl13 []),xs 2 20 4,xv 3 2]
def gu:=[xL 22 6 4,x1 23 232 22,xn 21 23,xe 24 21 0,xe 25 21 1,xn 7 24,xm 8 25]
def gt:=[xm 26 8,xC 27 .neq 26 0,xm 28 27,xF 28 (xn 29 7),xF 28 (xn 30 0),xF 28 (x2 31 283 29 30),xF 28 (xT 32 31),xO 33 28 32]
def AG4:=[xp 34 (.build zl13 []),xs 2 34 4,xv 3 2]
def gp:=[xL 35 6 4,xs 2 35 4,xv 3 0]
def ANM:AC:=xS iB [0,2] (xS iA [0,2,4] (xS gz [0,2,4,5] (xS gw [0,2,4,5,6] (xQ gv [0,2,6,19] 19 (xE AG5 [2,3]) (.seq (xS gu [0,2,6,7,8] (xS gt [2,6,33] (.cond (xt 33) (xE AG4 [2,3]) .skip))) (xE gp [2,3]))))))
def ACY:List AR:=[.c 2 4 true,.t 3]
theorem ASO:AU 282 1 ANM ACY:=by kernel_rfl
def gl:=[xw 4 false]
def gj:=[xm 6 0,xA 7 6,xm 8 1,xA 9 8,xB 10 .neq 7 9]
def AG3:=[xw 4 false]
def gg:=[xm 11 0,xA 12 11,xv 13 0]
def ge:=[xB 14 .lss 13 12]
def gZ:=[xm 15 13,xm 5 15]
def gY:=[xm 16 0,xm 17 5,xI 18 16 17 1,xl 19 18 1,xm 20 1,xm 21 5,xI 22 20 21 1,xl 23 22 1,xB 24 .neq 19 23]
def AG2:=[xw 4 false]
def gX:=xW 25 13
def gm:AC:=xS ge [0,1,12,13,14] (.seq (xD 14 0) (.seq (.block 1 (xS gZ [0,1,5,12,13] (.seq (.regD gY [0,1,12,13,24] (xK [[],[],[0,1],[2],[],[],[4,5],[6],[3,7]])) (.cond (xt 24) (xE AG2 [4]) .skip)))) (.reg gX [0,1,12,13])))
def gW:=[xw 4 true]
def ANL:AC:=xS gl [0,1] (xQ gj [0,1,10] 10 (xE AG3 [4]) (.seq (xS gg [0,1,12,13] (.block 0 (.loop gm))) (xE gW [4])))
def ACX:List AR:=[.t 4]
theorem ASN:AU 283 2 ANL ACX:=by kernel_rfl
def AG1:=[xw 4 false]
def AG0:=[xm 5 0,x1 6 321 5,xm 7 6,xH 7 (xm 8 1),xH 7 (x1 9 321 8),xH 7 (xT 10 9),xN 11 7 10,xm 12 11,xF 12 (xm 13 0),xF 12 (xm 14 1),xF 12 (xB 15 .lss 13 14),xO 16 12 15,xm 4 16]
def ANK:AC:=xS AG1 [0,1] (xE AG0 [4])
def ACW:List AR:=[.t 4]
theorem ASM:AU 284 2 ANK ACW:=by kernel_rfl
def gU:=[xx 1 0,xv 2 0]
def gT:=[xv 3 1]
def gS:=[xv 4 0]
def gR:=[xm 5 4,xa 6 1 3 1,xl 7 6 1,xA 8 7,xB 9 .lss 5 8]
def gP:=[xm 12 3,xa 13 1 3 1,xl 14 13 1,xm 15 4,xI 16 14 15 4,xL 17 16 4,x1 18 285 17,xB 19 .add 12 18,xm 3 19]
def gQ:=xV 10 4 11
def gV:AC:=.seq (xS gR [1,3,4,9] (xD 9 0)) (.seq (.block 1 (.reg gP [1,3,4])) (.reg gQ [1,3,4]))
def gO:=[xm 20 3,xm 2 20]
def ANJ:AC:=xS gU [1] (xS gT [1,3] (.seq (xS gS [1,3,4] (.block 0 (.loop gV))) (xE gO [2])))
def ACV:List AR:=[.t 2]
theorem ASL:AU 285 1 ANJ ACV:=by kernel_rfl
def gM:=[xx 1 0,xv 2 0]
def gL:=[xv 3 0]
def gK:=[xv 4 0]
def gJ:=[xm 5 4,xa 6 1 3 1,xl 7 6 1,xA 8 7,xB 9 .lss 5 8]
def gH:=[xm 12 3,xa 13 1 3 1,xl 14 13 1,xm 15 4,xI 16 14 15 4,xL 17 16 4,x1 18 286 17,xp 19 (.minmax true (xt 12) (xt 18)),xm 3 19]
def gI:=xV 10 4 11
def gN:AC:=.seq (xS gJ [1,3,4,9] (xD 9 0)) (.seq (.block 1 (.reg gH [1,3,4])) (.reg gI [1,3,4]))
def gF:=[xm 20 3,xC 21 .add 20 1,xm 2 21]
def ANI:AC:=xS gM [1] (xS gL [1,3] (.seq (xS gK [1,3,4] (.block 0 (.loop gN))) (xE gF [2])))
def ACU:List AR:=[.t 2]
theorem ASK:AU 286 1 ANI ACU:=by kernel_rfl
def gD:=[xx 1 0,xw 2 false]
def gC:=[xL 4 1 4,x1 5 322 4,xT 6 5]
def gB:=[xw 2 false]
def gA:=[xv 3 0]
def fz:=[xm 7 3,xa 8 1 3 1,xl 9 8 1,xA 10 9,xB 11 .lss 7 10]
def fx:=[xa 14 1 3 1,xl 15 14 1,xm 16 3,xI 17 15 16 4,xL 18 17 4,x1 19 287 18,xT 20 19]
def fw:=[xw 2 false]
def fy:=xV 12 3 13
def gE:AC:=.seq (xS fz [1,3,11] (xD 11 0)) (.seq (.block 1 (xS fx [1,3,20] (.cond (xt 20) (xE fw [2]) .skip))) (.reg fy [1,3]))
def fv:=[xw 2 true]
def ANH:AC:=xS gD [1] (xQ gC [1,6] 6 (xE gB [2]) (.seq (xS gA [1,3] (.block 0 (.loop gE))) (xE fv [2])))
def UX:List AR:=[.t 2]
theorem ASJ:AU 287 1 ANH UX:=by kernel_rfl
def fu:=[xx 2 0,xw 3 false]
def ft:=[xl 4 1 1,xL 5 2 4,xo (.call (some 6) (xt 4) [xt 5]),xT 7 6,xm 3 7]
def ANG:AC:=xS fu [1,2] (xE ft [3])
def ACT:List AR:=[.t 3]
theorem ASI:AU 288 2 ANG ACT:=by kernel_rfl
def fq:=[xw 3 false]
def fj:=[xl 4 1 1,xm 5 0,xo (.call (some 6) (xt 4) [xt 5]),xT 7 6,xm 3 7]
def ANF:AC:=xS fq [0,1] (xE fj [3])
def ACS:List AR:=[.t 3]
theorem ASH:AU 289 2 ANF ACS:=by kernel_rfl
def fg:=[xx 2 0,xw 3 false]
def ff:=[xl 4 1 1,xL 5 2 3,xo (.call (some 6) (xt 4) [xt 5]),xT 7 6,xm 3 7]
def ANE:AC:=xS fg [1,2] (xE ff [3])
def ACR:List AR:=[.t 3]
theorem ASG:AU 290 2 ANE ACR:=by kernel_rfl
def fc:=[xv 2 0]
def fZ:=[xn 6 0,xA 7 6,xv 8 0]
def Q3:=[xB 9 .lss 8 7]
def fY:=[xI 10 6 8 2,xL 11 10 2,xo (.alloc 4 zl7),xs 4 11 2]
def fX:=[xL 12 4 2,x1 13 248 12,xm 5 13]
def Q2:=[xm 14 5,xC 15 .neq 14 0]
def fW:=[xm 16 5,xm 2 16]
def fV:=xW 17 8
def Mp:AC:=xS Q3 [6,7,8,9] (.seq (xD 9 0) (.seq (.block 1 (xS fY [4,6,7,8] (xS fX [5,6,7,8] (xS Q2 [5,6,7,8,15] (.cond (xt 15) (xE fW [2]) .skip))))) (.reg fV [6,7,8])))
def fU:=[xv 2 0]
def AND:AC:=xS fc [0] (.seq (xS fZ [6,7,8] (.block 0 (.loop Mp))) (xE fU [2]))
def UW:List AR:=[.t 2]
theorem ASF:AU 291 1 AND UW:=by kernel_rfl
def fT:=[xx 2 0,xx 3 1,xv 4 0]
def fS:=[xa 7 2 0 1,xl 8 7 1,xa 9 3 1 1,xl 10 9 1,xB 11 .mul 8 10,xa 12 3 0 1,xl 13 12 1,xa 14 2 1 1,xl 15 14 1,xB 16 .mul 13 15,xm 5 11,xm 6 16]
def fR:=[xm 18 5,xm 19 6,xB 20 .lss 18 19,xm 17 20]
def fQ:=[xo (.mv 4 (.c (.v (.int .i64 (-1)))))]
def Q1:=[xm 22 5,xm 23 6,xB 24 .gtr 22 23,xm 21 24]
def fP:=[xv 4 1]
def fO:=[xv 4 0]
def ANC:AC:=xS fT [2,3] (.seq (.seq (.regD fS [5,6] (xK [[],[0],[],[2],[1,3],[],[5],[],[7],[6,8],[4],[9,10]])) (.block 0 (xS fR [5,6,17] (.cond (xt 17) (xE fQ [4]) (xS Q1 [21] (.cond (xt 21) (xE fP [4]) .skip)))))) (xE fO [4]))
def UV:List AR:=[.t 4]
theorem ASE:AU 292 2 ANC UV:=by kernel_rfl
theorem AKj:AU 293 2 (cJ 323) cIR:=by kernel_rfl
def fN:=[xx 2 0,xw 3 false]
def fM:=[xl 4 1 1,xL 5 2 4,xo (.call (some 6) (xt 4) [xt 5]),xT 7 6,xm 3 7]
def ANB:AC:=xS fN [1,2] (xE fM [3])
def ACQ:List AR:=[.t 3]
theorem ASD:AU 294 2 ANB ACQ:=by kernel_rfl
def fL:=[xv 2 0]
def fK:=[xm 3 0]
def fJ:=[xv 2 1]
def fI:=[xv 2 0]
def ANA:AC:=xS fL [0] (xQ fK [3] 3 (xE fJ [2]) (xE fI [2]))
def ACP:List AR:=[.t 2]
theorem ASC:AU 295 1 ANA ACP:=by kernel_rfl
def fG:=[xx 1 0,xo (.mv 2 (.c (.v .nilf)))]
def fF:=[xp 3 (.mkf 324 [xt 1]),xm 2 3]
def AGz:AC:=xS fG [1] (xE fF [2])
def fH:List AR:=[.t 2]
theorem AKi:AU 296 1 AGz fH:=by kernel_rfl
def AGy:=[xm 3 0,xA 4 3,xm 2 4]
def AGx:=[xn 5 0,xm 6 2,xm 7 2,xp 8 (.cint .u64 (xt 7)),x1 9 328 8,xc 10 327 [xt 5,xi 0,xt 6,xt 9]]
def AM9:AC:=xS AGy [0,2] (.reg AGx [])
def ACO:List AR:=[]
theorem ASB:AU 299 1 AM9 ACO:=by kernel_rfl
def fD:=[xx 3 0]
def fC:=[xo (.alloc 4 [.v .nilf])]
def fB:=[xp 5 (.mkf 302 [xt 1,xt 2,xt 3,xt 4]),xs 4 5 1]
def fA:=[xl 6 4 1,xp 7 (.load (.g 0 [.int .i64 12,.int .i64 0]) 2 true),xo (.call (some 8) (xt 6) [xt 7])]
def AGw:AC:=xS fD [1,2,3] (xS fC [1,2,3,4] (xS fB [4] (.reg fA [])))
def fE:List AR:=[]
theorem AKh:AU 301 3 AGw fE:=by kernel_rfl
def ey:=[xx 5 0,xw 6 false]
def ew:=[xL 9 5 2,x1 10 240 9,xl 11 1 1,xB 12 .lss 10 11,xm 13 12,xF 13 (xL 14 5 2),xF 13 (x1 15 271 14),xF 13 (xl 16 2 1),xF 13 (xB 17 .gtr 15 16),xO 18 13 17]
def AGu:=[xl 19 3 1,xL 20 5 2,xo (.call (some 21) (xt 19) [xt 20]),xm 6 21]
def eu:=[xL 22 5 2,x1 23 271 22,xl 24 1 1,xB 25 .geq 23 24,xm 26 25,xH 26 (xL 27 5 2),xH 26 (x1 28 240 27),xH 26 (xl 29 2 1),xH 26 (xB 30 .leq 28 29),xN 31 26 30]
def et:=[xw 6 true]
def AGt:=[xL 33 5 2,x1 34 181 33,xn 32 34,xe 35 32 0,xe 36 32 1,xo (.alloc 7 zl7),xo (.alloc 8 zl7),xs 7 35 2,xs 8 36 2]
def AGs:=[xl 37 4 1,xL 38 7 2,xo (.call (some 39) (xt 37) [xt 38]),xm 40 39,xH 40 (xl 41 4 1),xH 40 (xL 42 8 2),xg 40 true (.call (some 43) (xt 41) [xt 42]),xN 44 40 43,xm 6 44]
def AGv:AC:=xS ey [1,2,3,4,5] (.seq (.seq (.regD ew [1,2,3,4,5,18] (xK [[],[0],[],[1,2],[3],[4],[5],[4],[6,7],[8]])) (.cond (xt 18) (xE AGu [6]) .skip)) (.seq (.seq (.regD eu [4,5,31] (xK [[],[0],[],[1,2],[3],[4],[5],[4],[6,7],[8]])) (.cond (xt 31) (xE et [6]) .skip)) (xS AGt [4,7,8] (xE AGs [6]))))
def ez:List AR:=[.t 6]
theorem AKg:AU 302 5 AGv ez:=by kernel_rfl
def eo:=[xx 1 0,xo (.alloc 2 zl16),xo (.alloc 3 zl16)]
def em:=[xa 6 1 0 2,xL 7 6 2,xa 8 1 4 1,xl 9 8 1,xp 10 (.build zl16 [(0,1,xi 0),(1,2,xt 7),(3,1,xt 9)]),xa 11 1 2 2,xL 12 11 2,xa 13 1 5 1,xl 14 13 1,xT 15 14,xp 16 (.build zl16 [(0,1,xi 0),(1,2,xt 12),(3,1,xt 15)]),xo (.alloc 4 zl16),xo (.alloc 5 zl16),xs 4 10 4,xs 5 16 4]
def Q0:=[xa 17 1 6 1,xl 18 17 1]
def Qz:=[xp 19 (.build zl16 [(0,1,(.c (.v (.int .i64 (-1)))))]),xs 4 19 4]
def Qy:=[xa 20 1 7 1,xl 21 20 1]
def Qx:=[xp 22 (.build zl16 [(0,1,xi 1)]),xs 5 22 4]
def Qw:=[xL 23 4 4,xL 24 5 4,xs 2 23 4,xs 3 24 4]
def AM8:AC:=xS eo [1,2,3] (.seq (.regA em [1,2,3,4,5] (xK [[],[0],[],[2],[1,3],[],[5],[],[7],[8],[6,9],[],[],[4,11,12],[10,13]]) (.take 0 (.take 1 (.take 2 (.take 3 (.take 4 (.take 5 (.take 7 (.pick (.alt 6 (.pick (.alt 8 (.take 9 tq125) (.alt 11 tq131 (.alt 12 tq133 .none)))) (.alt 8 (.take 9 (.pick (.alt 6 tq125 (.alt 11 tq135 (.alt 12 tq136 .none))))) (.alt 11 (.pick (.alt 6 tq131 (.alt 8 (.take 9 tq135) (.alt 12 tq137 .none)))) (.alt 12 (.pick (.alt 6 tq133 (.alt 8 (.take 9 tq136) (.alt 11 tq137 .none)))) .none))))))))))))) (xQ Q0 [1,2,3,4,5,18] 18 (.reg Qz [1,2,3,4,5]) (xQ Qy [2,3,4,5,21] 21 (.reg Qx [2,3,4,5]) (.seq (.regA Qw [2,3] [[],[],[0],[0,1,2]] (.take 0 (.pick (.alt 1 (.take 2 tq138) (.alt 2 (.take 1 tq138) .none))))) .ret))))
def ep:List AR:=[.c 2 4 true,.c 3 4 true]
theorem ASA:AU 303 1 AM8 ep:=by kernel_rfl
def ek:=[xx 2 0,xx 3 1,xw 4 false]
def ei:=[xa 7 2 0 1,xl 8 7 1,xa 9 3 0 1,xl 10 9 1,xB 11 .neq 8 10]
def eh:=[xa 12 2 0 1,xl 13 12 1,xa 14 3 0 1,xl 15 14 1,xB 16 .lss 13 15,xm 4 16]
def eg:=[xa 17 2 0 1,xl 18 17 1,xC 19 .neq 18 0]
def ef:=[xw 4 false]
def ed:=[xa 20 2 1 2,xa 21 20 0 1,xl 22 21 1,xa 23 3 1 2,xa 24 23 1 1,xl 25 24 1,xB 26 .mul 22 25,xa 27 3 1 2,xa 28 27 0 1,xl 29 28 1,xa 30 2 1 2,xa 31 30 1 1,xl 32 31 1,xB 33 .mul 29 32,xm 5 26,xm 6 33]
def eb:=[xm 34 5,xm 35 6,xB 36 .neq 34 35]
def ea:=[xm 37 5,xm 38 6,xB 39 .lss 37 38,xm 4 39]
def eZ:=[xa 40 2 3 1,xl 41 40 1,xT 42 41,xm 43 42,xH 43 (xa 44 3 3 1),xH 43 (xl 45 44 1),xN 46 43 45,xm 4 46]
def AM7:AC:=xS ek [2,3] (xQ ei [2,3,11] 11 (xE eh [4]) (xQ eg [2,3,19] 19 (xE ef [4]) (.seq (.seq (.regD ed [2,3,5,6] (xK [[],[0],[1],[],[3],[4],[2,5],[],[7],[8],[],[10],[11],[9,12],[6],[13,14]])) (xS eb [2,3,5,6,36] (.cond (xt 36) (xE ea [4]) .skip))) (xE eZ [4]))))
def O6:List AR:=[.t 4]
theorem AR9:AU 304 2 AM7 O6:=by kernel_rfl
def eX:=[xv 2 0]
def eW:=[xn 3 0,xA 4 3,xC 5 .gtr 4 32]
def eV:=[xv 2 4]
def eU:=[xv 2 0]
def AM6:AC:=xS eX [0] (xQ eW [5] 5 (xE eV [2]) (xE eU [2]))
def eY:List AR:=[.t 2]
theorem AR8:AU 305 1 AM6 eY:=by kernel_rfl
def eT:=[xo (.alloc 4 zl7),xv 5 0]
def eS:=[xm 6 1,xC 7 .eql 6 0]
def AGr:=[xp 8 (.build zl7 []),xs 4 8 2,xv 5 1]
def eR:=[xm 9 0,xC 10 .lss 9 0,xm 11 1,xC 12 .lss 11 0,xp 13 (.eqB true (xt 10) (xt 12)),xm 14 0,x1 15 330 14,xm 16 1,x1 17 330 16,x3 18 329 13 15 17,xe 19 18 0,xe 20 18 1,xs 4 19 2,xm 5 20]
def AM5:AC:=xS eT [0,1,4] (xQ eS [0,1,4,7] 7 (xE AGr [4,5]) (xE eR [4,5]))
def ACN:List AR:=[.c 4 2 true,.t 5]
theorem AR7:AU 306 2 AM5 ACN:=by kernel_rfl
theorem AR6:AU 307 2 (cI 8 true) cIR:=by kernel_rfl
def eP:=[xx 3 0,xw 6 false]
def Qv:=[xm 7 2]
def eO:=[xL 8 3 2,xp 9 (.build zl7 []),xp 10 (.eqA false [0,0] (xt 8) (xt 9)),xm 11 10,xH 11 (xm 12 1),xH 11 (xT 13 12),xN 14 11 13,xm 6 14]
def eN:=[xL 15 3 2,x1 16 309 15,xm 6 16]
def AM4:AC:=xS eP [1,2,3] (xQ Qv [1,3,7] 7 (xE eO [6]) (xE eN [6]))
def eQ:List AR:=[.t 6]
theorem AR5:AU 308 3 AM4 eQ:=by kernel_rfl
def eL:=[xx 1 0,xw 2 false]
def eK:=[xL 3 1 2,x1 4 248 3,xC 5 .eql 4 0,xm 6 5,xH 6 (xa 7 1 0 1),xH 6 (xl 8 7 1),xH 6 (xb 9 .geq (xt 8) (.c (.v (.int .i64 (-1073741824))))),xN 10 6 9,xm 11 10,xH 11 (xa 12 1 0 1),xH 11 (xl 13 12 1),xH 11 (xC 14 .leq 13 1073741824),xN 15 11 14,xm 16 15,xH 16 (xa 17 1 1 1),xH 16 (xl 18 17 1),xH 16 (xC 19 .leq 18 32768),xN 20 16 19,xm 2 20]
def AM3:AC:=xS eL [1] (xE eK [2])
def eM:List AR:=[.t 2]
theorem AR4:AU 309 1 AM3 eM:=by kernel_rfl
def Qu:=[xx 2 0,xx 3 1,xv 4 0]
def Qt:=[xL 8 2 2,xL 9 3 2,x2 10 227 8 9,xn 7 10,xe 11 7 0,xe 12 7 1,xm 5 11,xm 6 12]
def Qs:=[xm 13 5,xm 4 13]
def AGq:AC:=xS Qu [2,3] (xS Qt [5] (xE Qs [4]))
def eJ:List AR:=[.t 4]
theorem AR3:AU 310 2 AGq eJ:=by kernel_rfl
def eI:=[xw 4 false]
def eH:=[xn 5 0,xm 6 1,x2 7 337 5 6,xC 8 .geq 7 0,xm 4 8]
def AM2:AC:=xS eI [0,1] (xE eH [4])
def ACM:List AR:=[.t 4]
theorem AR2:AU 316 2 AM2 ACM:=by kernel_rfl
def eF:=[xo (.mv 4 (.c (.v .nilm)))]
def eE:=[xo (.mkm 15),xm 5 15]
def eD:=[xn 16 0,xm 17 1,xC 18 .add 17 1,xp 19 (.slc (xt 16) none (some (xt 18)) 5),xA 20 19,xv 21 0]
def Qq:=[xB 22 .lss 21 20]
def Qp:=[xm 23 21,xI 24 19 21 5,xL 25 24 5,xo (.alloc 7 zl5),xm 6 23,xs 7 25 5]
def Qo:=[xa 26 7 1 4,xL 27 26 4,xo (.alloc 8 zl6),xs 8 27 4,xw 9 true]
def Qn:=[xa 28 7 0 1,xl 29 28 1,xA 30 29,xC 31 .gtr 30 0]
def Qm:=[xp 32 (.build zl13 [(0,1,xi 5)]),xo (.alloc 10 zl6),xs 10 32 4]
def Ql:=[xa 33 7 0 1,xl 34 33 1,xA 35 34,xv 36 0]
def dz:=[xB 37 .lss 36 35]
def UU:=[xI 38 34 36 1,xl 39 38 1,xm 12 39]
def UT:=[xm 41 5,xm 42 12,xp 43 (.look (xt 41) (xt 42) false [0] zl13 true true),xn 40 43,xe 44 40 0,xe 45 40 1,xo (.alloc 13 zl6),xs 13 44 4,xm 14 45]
def US:=[xa 46 10 3 1,xo (.take 47 (xt 46)),xL 48 13 4,xo (.bsl 49 84 4 [xt 48]),xo (.app 50 (xu 47) (xt 49) 84 4 64),xm 51 9,xm 52 51,xH 52 (xm 53 14),xN 54 52 53,xa 55 10 3 1,xo (.store (xt 55) (xu 50) 1),xm 9 54]
def UR:=xW 56 36
def Mo:AC:=xS dz [5,6,7,8,9,10,19,20,21,34,35,36,37] (.seq (xD 37 2) (.seq (.block 3 (xS UU [5,6,7,8,9,10,12,19,20,21,34,35,36] (xS UT [5,6,7,8,9,10,13,14,19,20,21,34,35,36] (.reg US [5,6,7,8,9,10,19,20,21,34,35,36])))) (.reg UR [5,6,7,8,9,10,19,20,21,34,35,36])))
def Mn:=[xa 57 7 1 4,xL 58 57 4,xL 59 10 4,xo (.bsl 60 84 4 [xt 58,xt 59]),xp 61 (.build zl13 [(0,1,xi 4),(3,1,xt 60)]),xs 8 61 4]
def Mm:=[xm 62 9,xm 63 62,xH 63 (xL 64 8 4),xH 63 (x1 65 66 64),xH 63 (xC 66 .eql 65 0),xN 67 63 66]
def Ml:=[xm 68 5,xm 69 6,xL 70 8 4,xo (.mput (xt 68) (xt 69) (xt 70) false [0])]
def Jr:=xW 71 21
def Qr:AC:=xS Qq [5,19,20,21,22] (.seq (xD 22 0) (.seq (.block 1 (xS Qp [5,6,7,19,20,21] (xS Qo [5,6,7,8,9,19,20,21] (xQ Qn [5,6,7,8,9,19,20,21,31] 31 (xS Qm [5,6,7,8,9,10,19,20,21] (.seq (xS Ql [5,6,7,8,9,10,19,20,21,34,35,36] (.block 2 (.loop Mo))) (.reg Mn [5,6,8,9,19,20,21]))) (xS Mm [5,6,8,19,20,21,67] (.cond (xt 67) (.reg Ml [5,19,20,21]) .skip)))))) (.reg Jr [5,19,20,21])))
def UQ:=[xm 72 5,xm 4 72]
def AM1:AC:=xS eF [0,1] (xS eE [0,1,5] (.seq (xS eD [5,19,20,21] (.block 0 (.loop Qr))) (xE UQ [4])))
def ACK:List AR:=[.t 4]
theorem AR1:AU 317 2 AM1 ACK:=by kernel_rfl
theorem AKf:AU 318 2 (cI 4 true) cIR:=by kernel_rfl
def AGp:=[xw 2 false]
def AGo:=[xm 3 0,xm 4 0,xB 5 .neq 3 4,xm 2 5]
def AM0:AC:=xS AGp [0] (xE AGo [2])
def ACJ:List AR:=[.t 2]
theorem AR0:AU 321 1 AM0 ACJ:=by kernel_rfl
def dy:=[xx 1 0,xw 2 false]
def Qk:=[xa 3 1 0 1,xl 4 3 1,xC 5 .neq 4 2,xm 6 5,xH 6 (xa 7 1 2 1),xH 6 (xl 8 7 1),xH 6 (xA 9 8),xH 6 (xC 10 .gtr 9 0),xN 11 6 10,xm 12 11,xF 12 (xa 13 1 0 1),xF 12 (xl 14 13 1),xF 12 (xC 15 .neq 14 2),xF 12 (xm 16 15),xH 16 (xa 17 1 0 1),xH 16 (xl 18 17 1),xH 16 (xC 19 .neq 18 1),xF 12 (xN 20 16 19),xF 12 (xm 21 20),xH 21 (xa 22 1 1 1),xH 21 (xl 23 22 1),xH 21 (xC 24 .neq 23 0),xF 12 (xN 25 21 24),xO 26 12 25]
def dx:=[xw 2 false]
def dw:=[xa 27 1 0 1,xl 28 27 1]
def dv:=[xC 30 .eql 28 0,xm 29 30]
def du:=[xa 31 1 3 1,xl 32 31 1,xA 33 32,xC 34 .eql 33 0,xm 2 34]
def dt:=[xC 36 .eql 28 1,xm 35 36]
def dq:=[xa 37 1 3 1,xl 38 37 1,xA 39 38,xC 40 .eql 39 0,xm 41 40,xH 41 (xa 42 1 1 1),xH 41 (xl 43 42 1),xH 41 (xC 44 .geq 43 0),xN 45 41 44,xm 46 45,xH 46 (xa 47 1 1 1),xH 46 (xl 48 47 1),xH 46 (xC 49 .lss 48 64),xN 50 46 49,xm 2 50]
def dm:=[xC 52 .eql 28 2,xm 51 52]
def dl:=[xa 53 1 3 1,xl 54 53 1,xA 55 54,xC 56 .eql 55 0,xm 57 56,xH 57 (xa 58 1 1 1),xH 57 (xl 59 58 1),xH 57 (xC 60 .geq 59 0),xN 61 57 60,xm 62 61,xH 62 (xa 63 1 1 1),xH 62 (xl 64 63 1),xH 62 (xC 65 .lss 64 32),xN 66 62 65,xm 67 66,xH 67 (xa 68 1 2 1),xH 67 (xl 69 68 1),xH 67 (x1 70 338 69),xH 67 (xC 71 .eql 70 0),xN 72 67 71,xm 2 72]
def UP:=[xC 74 .eql 28 3,xm 73 74]
def UO:=[xC 75 .eql 28 6,xm 73 75]
def Mk:=[xa 76 1 3 1,xl 77 76 1,xA 78 77,xC 79 .eql 78 1,xm 2 79]
def UN:=[xa 80 1 0 1,xl 81 80 1,xC 82 .eql 81 4,xm 83 82,xF 83 (xa 84 1 0 1),xF 83 (xl 85 84 1),xF 83 (xC 86 .eql 85 5),xO 87 83 86,xm 2 87]
def AMz:AC:=xS dy [1] (xQ Qk [1,26] 26 (xE dx [2]) (.seq (xS dw [1,28] (.block 0 (xS dv [1,28,29] (.cond (xt 29) (xE du [2]) (xS dt [1,28,35] (.cond (xt 35) (xE dq [2]) (xS dm [1,28,51] (.cond (xt 51) (xE dl [2]) (.seq (xS UP [1,28,73] (.cond (xt 73) .skip (.reg UO [1,73]))) (.cond (xt 73) (xE Mk [2]) .skip)))))))))) (xE UN [2])))
def G8:List AR:=[.t 2]
theorem ARz:AU 322 1 AMz G8:=by kernel_rfl
theorem AKe:AU 323 2 (cI 4 true) cIR:=by kernel_rfl
def dh:=[xv 3 0]
def dg:=[xm 6 3,xl 7 1 1,xA 8 7,xB 9 .lss 6 8]
def de:=[xo (.mv 4 (xj 0))]
def dc:=[xm 12 3,xm 5 12]
def dZ:=[xm 13 5,xm 14 3,xC 15 .add 14 8,xl 16 1 1,xA 17 16,xp 18 (.minmax false (xt 15) (xt 17)),xB 19 .lss 13 18]
def dX:=[xm 22 4,xl 23 1 1,xm 24 5,xI 25 23 24 1,xl 26 25 1,xp 27 (.cint .u64 (xt 26)),xm 28 5,xm 29 3,xB 30 .sub 28 29,xb 31 .mul (xi 8) (xt 30),xB 32 .shl 27 31,xB 33 .or 22 32,xm 4 33]
def dY:=xV 20 5 21
def Qj:AC:=.seq (xS dZ [0,1,3,4,5,19] (xD 19 2)) (.seq (.block 3 (.reg dX [0,1,3,4,5])) (.reg dY [0,1,3,4,5]))
def dW:=[xm 34 0,xm 35 4,xo (.call (some 36) (xt 34) [xt 35]),xT 37 36]
def Qi:=[xm 10 3,xC 11 .add 10 8,xm 3 11]
def di:AC:=.seq (xS dg [0,1,3,9] (xD 9 0)) (.seq (.block 1 (xS de [0,1,3,4] (.seq (xS dc [0,1,3,4,5] (.block 2 (.loop Qj))) (xS dW [0,1,3,37] (.cond (xt 37) .ret .skip))))) (.reg Qi [0,1,3]))
def AGn:AC:=xS dh [0,1,3] (.block 0 (.loop di))
def dj:List AR:=[]
theorem AKd:AU 324 2 AGn dj:=by kernel_rfl
def AGl:=[xw 8 true]
def AGk:=[xw 9 true]
def AGj:=[xm 19 2,xm 20 1,xB 21 .sub 19 20,xm 10 21]
def AGi:=[xm 22 10,xC 23 .leq 22 12]
def AGh:=[xn 24 0,xm 25 1,xm 26 2,x3 27 340 24 25 26]
def AGg:=[xm 28 3,xC 29 .eql 28 0]
def AGf:=[xn 30 0,xm 31 1,xm 32 2,x3 33 341 30 31 32]
def AGe:=[xm 34 8,xT 35 34]
def AGd:=[xm 36 0,xm 37 1,xm 38 2,x3 39 342 36 37 38]
def AGc:=[xm 40 3,xC 41 .sub 40 1,xm 3 41]
def vt:=[xm 43 0,xm 44 1,xm 45 2,x3 46 343 43 44 45,xn 42 46,xe 47 42 0,xe 48 42 1,xm 11 47,xm 12 48]
def vr:=[xm 49 12,xC 50 .eql 49 2]
def vq:=[xm 51 0,xm 52 1,xm 53 2,x3 54 344 51 52 53]
def vp:=[xm 55 2,xC 56 .sub 55 1,xm 57 11,xm 58 1,xB 59 .sub 57 58,xB 60 .sub 56 59,xm 11 60]
def vo:=[xv 12 1]
def vn:=[xm 61 8,xm 62 61,xH 62 (xm 63 9),xN 64 62 63,xm 65 64,xH 65 (xm 66 12),xH 65 (xC 67 .eql 66 1),xN 68 65 67]
def vm:=[xm 69 0,xm 70 1,xm 71 2,x3 72 345 69 70 71]
def vl:=[xm 73 1,xC 74 .gtr 73 0,xm 75 74,xH 75 (xm 76 0),xH 75 (xm 77 1),xH 75 (xC 78 .sub 77 1),xH 75 (xI 79 76 78 1),xH 75 (xl 80 79 1),xH 75 (xm 81 0),xH 75 (xm 82 11),xH 75 (xI 83 81 82 1),xH 75 (xl 84 83 1),xH 75 (x2 85 284 80 84),xH 75 (xT 86 85),xN 87 75 86]
def vk:=[xm 88 0,xm 89 1,xm 90 2,xm 91 11,xc 92 346 [xt 88,xt 89,xt 90,xt 91],xm 13 92]
def vj:=[xm 93 13,xm 1 93]
def vi:=[xm 95 0,xm 96 1,xm 97 2,xm 98 11,xc 99 347 [xt 95,xt 96,xt 97,xt 98],xn 94 99,xe 100 94 0,xe 101 94 1,xm 14 100,xm 15 101]
def vh:=[xm 102 15,xm 9 102]
def vg:=[xm 103 14,xm 104 1,xB 105 .sub 103 104,xm 106 2,xm 107 14,xB 108 .sub 106 107,xm 16 105,xm 17 108]
def vf:=[xm 109 10,xC 110 .quo 109 8,xm 18 110]
def ve:=[xm 111 16,xm 112 17,xB 113 .lss 111 112]
def vd:=[xm 114 16,xm 115 18,xB 116 .geq 114 115,xm 8 116]
def vc:=[xm 117 0,xm 118 1,xm 119 14,xm 120 3,xc 121 327 [xt 117,xt 118,xt 119,xt 120]]
def vb:=[xm 122 14,xC 123 .add 122 1,xm 1 123]
def va:=[xm 124 17,xm 125 18,xB 126 .geq 124 125,xm 8 126]
def vZ:=[xm 127 0,xm 128 14,xC 129 .add 128 1,xm 130 2,xm 131 3,xc 132 327 [xt 127,xt 129,xt 130,xt 131]]
def vY:=[xm 133 14,xm 2 133]
def AGm:AC:=.block 1 (xS AGj [0,1,2,3,8,9,10] (xQ AGi [0,1,2,3,8,9,10,23] 23 (xE AGh []) (xQ AGg [0,1,2,3,8,9,10,29] 29 (xE AGf []) (xQ AGe [0,1,2,3,8,9,10,35] 35 (xS AGd [0,1,2,3,8,9,10] (.reg AGc [0,1,2,3,8,9,10])) (xS vt [0,1,2,3,8,9,10,11,12] (xQ vr [0,1,2,3,8,9,10,11,12,50] 50 (xS vq [0,1,2,3,8,9,10,11] (xS vp [0,1,2,3,8,9,10,11] (.reg vo [0,1,2,3,8,9,10,11,12]))) (xQ vn [0,1,2,3,8,9,10,11,68] 68 (xS vm [0,1,2,3,8,9,10,11,72] (.cond (xt 72) .ret .skip)) (.seq (.seq (.regD vl [0,1,2,3,8,9,10,11,87] (xK [[],[0],[1],[2],[2],[4],[3,5],[6],[2],[2],[8,9],[10],[7,11],[12],[13]])) (.cond (xt 87) (xS vk [0,2,3,8,9,13] (xS vj [0,1,2,3,8,9] (.exit 1))) .skip)) (xS vi [0,1,2,3,10,14,15] (xS vh [0,1,2,3,9,10,14] (xS vg [0,1,2,3,9,10,14,16,17] (xS vf [0,1,2,3,9,14,16,17,18] (xS ve [0,1,2,3,9,14,16,17,18,113] (.cond (xt 113) (xS vd [0,1,2,3,8,9,14] (xS vc [0,2,3,8,9,14] (.reg vb [0,1,2,3,8,9]))) (xS va [0,1,2,3,8,9,14] (xS vZ [0,1,3,8,9,14] (.reg vY [0,1,2,3,8,9])))))))))))))))))
def AMy:AC:=xS AGl [0,1,2,3,8] (xS AGk [0,1,2,3,8,9] (.block 0 (.loop AGm)))
def ACI:List AR:=[]
theorem ARy:AU 327 4 AMy ACI:=by kernel_rfl
def AGb:=[xv 2 0]
def AGa:=[xm 3 0,xp 4 (.cint .u32 (xt 3)),x1 5 348 4,xm 2 5]
def AGZ:=[xm 6 0,x1 7 349 6,xm 2 7]
def AMx:AC:=xS AGb [0] (.seq (.cond (xy false) (xE AGa [2]) .skip) (xE AGZ [2]))
def ACH:List AR:=[.t 2]
theorem ARx:AU 328 1 AMx ACH:=by kernel_rfl
def dV:=[xo (.alloc 6 zl7),xv 7 0]
def dU:=[xm 10 1,xm 11 2,x2 12 350 10 11,xm 8 12]
def dT:=[xm 13 1,xm 14 8,xB 15 .quo 13 14,xm 16 2,xm 17 8,xB 18 .quo 16 17,xm 1 15,xm 2 18]
def dS:=[xm 19 1,xb 20 .gtr (xt 19) (xj 1099511627776),xm 21 20,xF 21 (xm 22 2),xF 21 (xb 23 .gtr (xt 22) (xj 1048576)),xO 24 21 23]
def Qh:=[xp 25 (.build zl7 []),xs 6 25 2,xv 7 5]
def dR:=[xm 26 1,xp 27 (.cint .i64 (xt 26)),xm 28 2,xp 29 (.cint .i64 (xt 28)),xp 30 (.build zl7 [(0,1,xt 27),(1,1,xt 29)]),xo (.alloc 9 zl7),xs 9 30 2]
def dQ:=[xm 31 0]
def dP:=[xa 32 9 0 1,xl 33 32 1,xp 34 (.neg (xt 33)),xa 35 9 0 1,xs 35 34 1]
def dN:=[xL 36 9 2,xs 6 36 2,xv 7 0]
def AMw:AC:=xS dV [0,1,2,6] (xS dU [0,1,2,6,8] (.seq (.regD dT [0,1,2,6] (xK [[],[],[0,1],[],[],[3,4],[2],[5,6]])) (xQ dS [0,1,2,6,24] 24 (xE Qh [6,7]) (xS dR [0,6,9] (xQ dQ [6,9,31] 31 (.reg dP [6,9]) (xE dN [6,7]))))))
def UM:List AR:=[.c 6 2 true,.t 7]
theorem ARw:AU 329 3 AMw UM:=by kernel_rfl
def Qg:=[xo (.mv 2 (xj 0))]
def Qf:=[xm 3 0,xC 4 .lss 3 0]
def dL:=[xm 5 0,xp 6 (.cint .u64 (xt 5)),xp 7 (.neg (xt 6)),xm 2 7]
def dK:=[xm 8 0,xp 9 (.cint .u64 (xt 8)),xm 2 9]
def AGY:AC:=xS Qg [0] (xQ Qf [0,4] 4 (xE dL [2]) (xE dK [2]))
def dM:List AR:=[.t 2]
theorem ARv:AU 330 1 AGY dM:=by kernel_rfl
def dJ:=[xx 1 0,xw 2 false]
def Qe:=[xa 5 1 6 1,xl 6 5 1,xm 7 6,xH 7 (xa 8 1 0 2),xH 7 (xL 9 8 2),xH 7 (xp 10 (.build zl7 [])),xH 7 (xp 11 (.eqA true [0,0] (xt 9) (xt 10))),xH 7 (xm 12 11),xF 12 (xa 13 1 4 1),xF 12 (xl 14 13 1),xH 7 (xO 15 12 14),xN 16 7 15,xm 17 16,xF 17 (xa 18 1 7 1),xF 17 (xl 19 18 1),xF 17 (xm 20 19),xH 20 (xa 21 1 2 2),xH 20 (xL 22 21 2),xH 20 (xp 23 (.build zl7 [])),xH 20 (xp 24 (.eqA true [0,0] (xt 22) (xt 23))),xH 20 (xm 25 24),xF 25 (xa 26 1 5 1),xF 25 (xl 27 26 1),xH 20 (xO 28 25 27),xF 17 (xN 29 20 28),xO 30 17 29]
def dH:=[xw 2 false]
def dG:=[xa 31 1 0 2,xL 32 31 2,x1 33 351 32,xm 3 33]
def dF:=[xa 34 1 2 2,xL 35 34 2,x1 36 351 35,xm 4 36]
def Qd:=[xa 37 1 6 1,xl 38 37 1,xT 39 38,xm 40 39,xH 40 (xm 41 3),xH 40 (xT 42 41),xN 43 40 42,xm 44 43,xF 44 (xa 45 1 7 1),xF 44 (xl 46 45 1),xF 44 (xT 47 46),xF 44 (xm 48 47),xH 48 (xm 49 4),xH 48 (xT 50 49),xF 44 (xN 51 48 50),xO 52 44 51]
def dE:=[xw 2 false]
def Mj:=[xa 53 1 6 1,xl 54 53 1,xm 55 54,xF 55 (xa 56 1 7 1),xF 55 (xl 57 56 1),xO 58 55 57]
def Qc:=[xw 2 true]
def dD:=[xa 59 1 0 2,xL 60 59 2,xa 61 1 2 2,xL 62 61 2,xp 63 (.eqA false [0,0] (xt 60) (xt 62))]
def UL:=[xa 64 1 4 1,xl 65 64 1,xT 66 65,xm 67 66,xH 67 (xa 68 1 5 1),xH 67 (xl 69 68 1),xH 67 (xT 70 69),xN 71 67 70,xm 2 71]
def UK:=[xa 72 1 0 2,xL 73 72 2,xa 74 1 2 2,xL 75 74 2,x2 76 352 73 75,xm 2 76]
def AMv:AC:=xS dJ [1] (xQ Qe [1,30] 30 (xE dH [2]) (xS dG [1,3] (xS dF [1,3,4] (xQ Qd [1,52] 52 (xE dE [2]) (xQ Mj [1,58] 58 (xE Qc [2]) (xQ dD [1,63] 63 (xE UL [2]) (xE UK [2])))))))
def Kj:List AR:=[.t 2]
theorem ARu:AU 332 1 AMv Kj:=by kernel_rfl
def cw:=[xv 4 0]
def cv:=[xm 6 0,xA 7 6,xv 8 0]
def cu:=[xB 9 .lss 8 7]
def ct:=[xm 10 8,xm 5 10]
def cr:=[xm 11 1,xm 12 0,xm 13 5,xI 14 12 13 1,xl 15 14 1,xB 16 .eql 11 15]
def cq:=[xm 17 5,xm 4 17]
def co:=xW 18 8
def cz:AC:=xS cu [0,1,7,8,9] (.seq (xD 9 0) (.seq (.block 1 (xS ct [0,1,5,7,8] (xS cr [0,1,5,7,8,16] (.cond (xt 16) (xE cq [4]) .skip)))) (.reg co [0,1,7,8])))
def cn:=[xo (.mv 4 (.c (.v (.int .i64 (-1)))))]
def AMu:AC:=xS cw [0,1] (.seq (xS cv [0,1,7,8] (.block 0 (.loop cz))) (xE cn [4]))
def c8:List AR:=[.t 4]
theorem ARt:AU 337 2 AMu c8:=by kernel_rfl
def cj:=[xv 2 0]
def ci:=[xv 3 0]
def cg:=[xm 5 3,xm 6 0,xA 7 6,xB 8 .lss 5 7]
def cf:=[xm 11 0,xm 12 3,xI 13 11 12 8,xL 14 13 8,x1 15 332 14,xm 4 15]
def ce:=[xm 16 4,xT 17 16,xm 18 17,xF 18 (xm 19 3),xF 18 (xC 20 .gtr 19 0),xF 18 (xm 21 20),xH 21 (xm 22 0),xH 21 (xm 23 3),xH 21 (xC 24 .sub 23 1),xH 21 (xI 25 22 24 8),xH 21 (xL 26 25 8),xH 21 (xm 27 0),xH 21 (xm 28 3),xH 21 (xI 29 27 28 8),xH 21 (xL 30 29 8),xH 21 (x2 31 353 26 30),xH 21 (xT 32 31),xF 18 (xN 33 21 32),xO 34 18 33]
def Qa:=[xv 2 1]
def Qb:=xV 9 3 10
def cm:AC:=.seq (xS cg [0,3,8] (xD 8 0)) (.seq (.block 1 (xS cf [0,3,4] (.seq (.regD ce [0,3,34] (xK [[],[0],[1],[2],[3],[4],[5],[5],[7],[6,8],[9],[5],[5],[11,12],[13],[10,14],[15],[16],[17]])) (.cond (xt 34) (xE Qa [2]) .skip)))) (.reg Qb [0,3]))
def cd:=[xn 35 0,xA 36 35,xC 37 .gtr 36 32]
def cc:=[xv 2 4]
def cb:=[xv 2 0]
def AMt:AC:=xS cj [0] (.seq (xS ci [0,3] (.block 0 (.loop cm))) (xQ cd [37] 37 (xE cc [2]) (xE cb [2])))
def O5:List AR:=[.t 2]
theorem ARs:AU 338 1 AMt O5:=by kernel_rfl
def AGV:=[xm 8 1,xC 9 .add 8 1,xm 6 9]
def AGU:=[xm 10 6,xm 11 2,xB 12 .lss 10 11]
def AGS:=[xm 15 6,xm 7 15]
def AGR:=[xm 16 7,xm 17 1,xB 18 .gtr 16 17,xm 19 18,xH 19 (xm 20 0),xH 19 (xm 21 7),xH 19 (xI 22 20 21 1),xH 19 (xl 23 22 1),xH 19 (xm 24 0),xH 19 (xm 25 7),xH 19 (xC 26 .sub 25 1),xH 19 (xI 27 24 26 1),xH 19 (xl 28 27 1),xH 19 (x2 29 284 23 28),xN 30 19 29]
def AGP:=[xm 33 0,xm 34 7,xm 35 0,xm 36 7,xC 37 .sub 36 1,xm 38 0,xm 39 7,xC 40 .sub 39 1,xI 41 38 40 1,xl 42 41 1,xm 43 0,xm 44 7,xI 45 43 44 1,xl 46 45 1,xI 47 33 34 1,xs 47 42 1,xI 48 35 37 1,xs 48 46 1]
def AGQ:=[xm 31 7,xC 32 .sub 31 1,xm 7 32]
def AGW:AC:=.seq (.seq (.regD AGR [0,1,2,6,7,30] (xK [[],[],[0,1],[2],[3],[3],[4,5],[6],[3],[3],[9],[8,10],[11],[7,12],[13]])) (xD 30 2)) (.seq (.block 3 (.regD AGP [0,1,2,6,7] (xK [[],[],[],[],[3],[],[],[6],[5,7],[8],[],[],[10,11],[12],[0,1,9,13],[14],[2,4,15],[16]]))) (.reg AGQ [0,1,2,6,7]))
def AGT:=xV 13 6 14
def AGX:AC:=.seq (xS AGU [0,1,2,6,12] (xD 12 0)) (.seq (.block 1 (xS AGS [0,1,2,6,7] (.block 2 (.loop AGW)))) (.reg AGT [0,1,2,6]))
def AMs:AC:=xS AGV [0,1,2,6] (.block 0 (.loop AGX))
def ACG:List AR:=[]
theorem ARr:AU 340 3 AMs ACG:=by kernel_rfl
def AGO:=[xv 2 0]
def AGN:=[xm 3 0,xb 4 .geq (xt 3) (xj 4294967296)]
def AGM:=[xm 5 0,xb 6 .shr (xt 5) (xj 32),xm 0 6]
def AGL:=[xv 2 32]
def AGK:=[xm 7 0,xb 8 .geq (xt 7) (xj 65536)]
def AGJ:=[xm 9 0,xb 10 .shr (xt 9) (xj 16),xm 0 10]
def AGI:=[xm 11 2,xC 12 .add 11 16,xm 2 12]
def AGH:=[xm 13 0,xb 14 .geq (xt 13) (xj 256)]
def AGG:=[xm 15 0,xb 16 .shr (xt 15) (xj 8),xm 0 16]
def AGF:=[xm 17 2,xC 18 .add 17 8,xm 2 18]
def vX:=[xm 19 2,xm 20 0,xp 21 (.cint .u8 (xt 20)),xp 22 (.idxS (.c (.v (.str ⟨#[0,1,2,2,3,3,3,3,4,4,4,4,4,4,4,4,5,5,5,5,5,5,5,5,5,5,5,5,5,5,5,5,6,6,6,6,6,6,6,6,6,6,6,6,6,6,6,6,6,6,6,6,6,6,6,6,6,6,6,6,6,6,6,6,7,7,7,7,7,7,7,7,7,7,7,7,7,7,7,7,7,7,7,7,7,7,7,7,7,7,7,7,7,7,7,7,7,7,7,7,7,7,7,7,7,7,7,7,7,7,7,7,7,7,7,7,7,7,7,7,7,7,7,7,7,7,7,7,8,8,8,8,8,8,8,8,8,8,8,8,8,8,8,8,8,8,8,8,8,8,8,8,8,8,8,8,8,8,8,8,8,8,8,8,8,8,8,8,8,8,8,8,8,8,8,8,8,8,8,8,8,8,8,8,8,8,8,8,8,8,8,8,8,8,8,8,8,8,8,8,8,8,8,8,8,8,8,8,8,8,8,8,8,8,8,8,8,8,8,8,8,8,8,8,8,8,8,8,8,8,8,8,8,8,8,8,8,8,8,8,8,8,8,8,8,8,8,8,8,8,8,8,8,8,8,8]⟩))) (xt 21)),xp 23 (.cint .i64 (xt 22)),xB 24 .add 19 23,xm 2 24]
def AMr:AC:=xS AGO [0,2] (xQ AGN [0,2,4] 4 (xS AGM [0] (.reg AGL [0,2])) (xQ AGK [0,2,8] 8 (xS AGJ [0,2] (.reg AGI [0,2])) (xQ AGH [0,2,14] 14 (xS AGG [0,2] (.reg AGF [0,2])) (xE vX [2]))))
def ACF:List AR:=[.t 2]
theorem ARq:AU 349 1 AMr ACF:=by kernel_rfl
def cN:=[xo (.mv 4 (xj 0))]
def QW:=[xm 5 1,xb 6 .gtr (xt 5) (xj 0)]
def cM:=[xm 7 1,xm 8 0,xm 9 1,xB 10 .rem 8 9,xm 0 7,xm 1 10]
def Mi:AC:=.seq (xS QW [0,1,6] (xD 6 0)) (.block 1 (.regD cM [0,1] (xK [[],[],[],[1,2],[0,1],[3,4]])))
def cL:=[xm 11 0,xm 4 11]
def AMn:AC:=xS cN [0,1] (.seq (.block 0 (.loop Mi)) (xE cL [4]))
def AB7:List AR:=[.t 4]
theorem ARp:AU 350 2 AMn AB7:=by kernel_rfl
def cH:=[xx 1 0,xw 2 false]
def cG:=[xL 3 1 2,x1 4 127 3,xC 5 .eql 4 0,xm 6 5,xH 6 (xa 7 1 0 1),xH 6 (xl 8 7 1),xH 6 (xC 9 .leq 8 1073741824),xN 10 6 9,xm 11 10,xH 11 (xa 12 1 0 1),xH 11 (xl 13 12 1),xH 11 (xb 14 .geq (xt 13) (.c (.v (.int .i64 (-1073741824))))),xN 15 11 14,xm 16 15,xH 16 (xa 17 1 1 1),xH 16 (xl 18 17 1),xH 16 (xC 19 .leq 18 32768),xN 20 16 19,xm 2 20]
def AMm:AC:=xS cH [1] (xE cG [2])
def cK:List AR:=[.t 2]
theorem ARo:AU 351 1 AMm cK:=by kernel_rfl
def cF:=[xx 2 0,xx 3 1,xw 4 false]
def cE:=[xa 5 2 0 1,xl 6 5 1,xa 7 3 1 1,xl 8 7 1,xB 9 .mul 6 8,xa 10 3 0 1,xl 11 10 1,xa 12 2 1 1,xl 13 12 1,xB 14 .mul 11 13,xB 15 .lss 9 14,xm 4 15]
def AMl:AC:=xS cF [2,3] (xE cE [4])
def AB6:List AR:=[.t 4]
theorem ARn:AU 352 2 AMl AB6:=by kernel_rfl
def cD:=[xx 2 0,xx 3 1,xw 4 false]
def Mh:=[xa 5 2 7 1,xl 6 5 1,xm 7 6,xF 7 (xa 8 3 6 1),xF 7 (xl 9 8 1),xO 10 7 9]
def QV:=[xw 4 false]
def cC:=[xa 11 2 2 2,xL 12 11 2,xa 13 3 0 2,xL 14 13 2,xp 15 (.eqA false [0,0] (xt 12) (xt 14))]
def cB:=[xa 16 2 5 1,xl 17 16 1,xm 18 17,xH 18 (xa 19 3 4 1),xH 18 (xl 20 19 1),xN 21 18 20,xm 4 21]
def cA:=[xa 22 2 2 2,xL 23 22 2,xa 24 3 0 2,xL 25 24 2,x2 26 352 23 25,xm 4 26]
def AMk:AC:=xS cD [2,3] (xQ Mh [2,3,10] 10 (xE QV [4]) (xQ cC [2,3,15] 15 (xE cB [4]) (xE cA [4])))
def O4:List AR:=[.t 4]
theorem ARm:AU 353 2 AMk O4:=by kernel_rfl
def tb0:List (Nat×Nat×AC×List AR):=[(13,2,c13,wU),(17,1,c17,AH5),(20,0,c20,AOA)]
theorem AES:∀x∈tb0,DO Tryz.prog GLx x.1 x.2.1 x.2.2.1 x.2.2.2=true:=by
 simp only[tb0,AUm,AUE,false_implies,implies_true,and_true];exact⟨k13,k17,k20⟩
def tb1:List (Nat×Nat×AC×List AR):=[(34,4,c34,Wj),(39,2,c39,AGB),(40,1,c40,AGA),(50,0,c50,AFs),(51,1,c51,vS),(52,3,c52,Wi),(57,1,c57,vR),(59,2,c59,AMK),(61,2,c61,Zn)]
theorem AEQ:∀x∈tb1,DO Tryz.prog GLx x.1 x.2.1 x.2.2.1 x.2.2.2=true:=by
 simp only[tb1,AUm,AUE,false_implies,implies_true,and_true];exact⟨k34,k39,k40,k50,k51,k52,k57,k59,k61⟩
def tb2:List (Nat×Nat×AC×List AR):=[(86,2,c86,AFk),(87,1,c87,Yr),(88,1,c88,vP),(89,5,c89,AFh),(90,2,c90,Yl),(91,2,c91,Wh),(92,2,c92,YY),(95,2,c95,AFe)]
theorem AEP:∀x∈tb2,DO Tryz.prog GLx x.1 x.2.1 x.2.2.1 x.2.2.2=true:=by
 simp only[tb2,AUm,AUE,false_implies,implies_true,and_true];exact⟨k86,k87,k88,k89,k90,k91,k92,k95⟩
def tb3:List (Nat×Nat×AC×List AR):=[(96,2,c96,AFd),(98,2,c98,AFc),(99,2,c99,AFb),(100,2,AIs,uF),(102,1,AIr,t6),(117,1,Wp,Lt),(120,2,AIm,tS),(121,1,AO1,ADu),(122,1,AO0,ADt)]
theorem AEO:∀x∈tb3,DO Tryz.prog GLx x.1 x.2.1 x.2.2.1 x.2.2.2=true:=by
 simp only[tb3,AUm,AUE,false_implies,implies_true,and_true];exact⟨k96,k98,k99,ALU,ALT,AE0,ALS,ATY,ATX⟩
def tb4:List (Nat×Nat×AC×List AR):=[(128,1,AIe,IP),(129,2,AId,sZ),(130,1,AIc,Vr),(131,1,AIb,sH),(132,3,AIa,sE),(133,2,AIZ,rz),(137,3,AIY,rt),(138,1,AIU,Kl),(151,2,cJ 252,cIR)]
theorem AEN:∀x∈tb4,DO Tryz.prog GLx x.1 x.2.1 x.2.2.1 x.2.2.2=true:=by
 simp only[tb4,AUm,AUE,false_implies,implies_true,and_true];exact⟨ALR,ALQ,ALP,ALO,ALN,ALM,ALL,ALK,ALI⟩
def tb5:List (Nat×Nat×AC×List AR):=[(176,1,AIG,pl),(177,2,AIE,pd),(178,3,AID,pX),(179,4,AIB,VW),(180,3,wM,PG),(181,1,AH4,pH),(182,2,AH3,PE),(183,2,cJ 272,cIR),(189,1,AHz,oi),(190,2,AHy,od)]
theorem AEM:∀x∈tb5,DO Tryz.prog GLx x.1 x.2.1 x.2.2.1 x.2.2.2=true:=by
 simp only[tb5,AUm,AUE,false_implies,implies_true,and_true];exact⟨ALH,ALG,ALF,ALE,AEz,ALD,ALC,ALB,ALA,AK9⟩
def tb6:List (Nat×Nat×AC×List AR):=[(192,2,AHx,oY),(193,1,AHw,oU),(194,2,AHv,oR),(208,2,wE,U9),(209,1,AOB,ADD),(210,1,ANz,ADC),(216,3,AHU,mf),(217,2,AHT,mc),(219,2,AHS,Uy),(221,2,AHR,mO),(223,2,AHQ,Uw)]
theorem AEL:∀x∈tb6,DO Tryz.prog GLx x.1 x.2.1 x.2.2.1 x.2.2.2=true:=by
 simp only[tb6,AUm,AUE,false_implies,implies_true,and_true];exact⟨AK8,AK7,AK6,AK5,ASz,ASy,AK3,AK2,AK1,AK0,AKz⟩
def tb7:List (Nat×Nat×AC×List AR):=[(225,2,AHP,lu),(228,2,AHO,Uv),(230,2,AHN,lJ),(233,2,AHM,Un),(234,2,AHL,kf),(237,1,ANk,AC2),(238,1,AHG,kX),(239,2,AHF,kU),(240,1,AHE,kR),(252,2,cI 1 false,cIR)]
theorem AEK:∀x∈tb7,DO Tryz.prog GLx x.1 x.2.1 x.2.2.1 x.2.2.2=true:=by
 simp only[tb7,AUm,AUE,false_implies,implies_true,and_true];exact⟨AKy,AKx,AKw,AKv,AKu,ASk,AKt,AKs,AKr,AKp⟩
def tb8:List (Nat×Nat×AC×List AR):=[(270,2,AHB,ir),(271,1,AHA,io),(272,2,cI 3 true,cIR),(277,2,cJ 318,cIR),(279,2,AG6,iM),(284,2,ANK,ACW)]
theorem AEJ:∀x∈tb8,DO Tryz.prog GLx x.1 x.2.1 x.2.2.1 x.2.2.2=true:=by
 simp only[tb8,AUm,AUE,false_implies,implies_true,and_true];exact⟨AKo,AKn,AKm,AKl,AKk,ASM⟩
def tb9:List (Nat×Nat×AC×List AR):=[(293,2,cJ 323,cIR),(296,1,AGz,fH),(299,1,AM9,ACO),(301,3,AGw,fE),(302,5,AGv,ez),(318,2,cI 4 true,cIR)]
theorem AEI:∀x∈tb9,DO Tryz.prog GLx x.1 x.2.1 x.2.2.1 x.2.2.2=true:=by
 simp only[tb9,AUm,AUE,false_implies,implies_true,and_true];exact⟨AKj,AKi,ASB,AKh,AKg,AKf⟩
def AER:List (Nat×Nat×AC×List AR):=[(321,1,AM0,ACJ),(323,2,cI 4 true,cIR),(324,2,AGn,dj),(327,4,AMy,ACI),(328,1,AMx,ACH),(340,3,AMs,ACG),(349,1,AMr,ACF)]
theorem uW:∀x∈AER,DO Tryz.prog GLx x.1 x.2.1 x.2.2.1 x.2.2.2=true:=by
 simp only[AER,AUm,AUE,false_implies,implies_true,and_true];exact⟨AR0,AKe,AKd,ARy,ARx,ARr,ARq⟩
def Ei (l:List (Nat×Nat×AC×List AR)) (f:Nat):Option (Nat×AC×List AR):=
 match l with
 |[]=>none
 |x::l=>if x.1=f then some x.2 else Ei l f
theorem Cq {l:List (Nat×Nat×AC×List AR)} (h:∀x∈l,DO Tryz.prog GLx x.1 x.2.1 x.2.2.1 x.2.2.2=true):∀f n ac rs,Ei l f=some (n,ac,rs)→DO Tryz.prog GLx f n ac rs=true:=by
 induction l with
 |nil=>intro f n ac rs hl;cases hl
 |cons x l ih=>
  intro f n ac rs hl;simp only[Ei]at hl;split at hl
  ·rename_i hx;simp only[AT0]at hl;have:=h x (by simp);rw[hx,hl]at this;exact this
  ·exact ih (λy hy=>h y (by simp[hy])) f n ac rs hl
def Tb:Tbl:=λf=>match f/32 with
 |0=>Ei tb0 f
 |1=>Ei tb1 f
 |2=>Ei tb2 f
 |3=>Ei tb3 f
 |4=>Ei tb4 f
 |5=>Ei tb5 f
 |6=>Ei tb6 f
 |7=>Ei tb7 f
 |8=>Ei tb8 f
 |9=>Ei tb9 f
 |10=>Ei AER f
 |_=>none
theorem PQ:∀f n ac rs,Tb f=some (n,ac,rs)→DO Tryz.prog GLx f n ac rs=true:=by
 intro f n ac rs h;unfold Tb at h;split at h
 ·exact Cq AES f n ac rs h
 ·exact Cq AEQ f n ac rs h
 ·exact Cq AEP f n ac rs h
 ·exact Cq AEO f n ac rs h
 ·exact Cq AEN f n ac rs h
 ·exact Cq AEM f n ac rs h
 ·exact Cq AEL f n ac rs h
 ·exact Cq AEK f n ac rs h
 ·exact Cq AEJ f n ac rs h
 ·exact Cq AEI f n ac rs h
 ·exact Cq uW f n ac rs h
 ·cases h
section
variable {P:Program} {GL:AX}
theorem Bl {c:AC} {Q:AExit→St→Prop} {s s1:St} (h:awp P GL c (λe s'=>match e with| .normal=>s'=s1|e=>Q e s') s) (h1:awp P GL (.loop c) Q s1):awp P GL (.loop c) Q s:=by
 obtain⟨n,hn⟩:=Lv h1;refine LoopW.awp (n:=n+1) (Ag c ?_ h);intro e s' h;cases e with
 |normal=>subst h;exact hn
 |exit i=>exact h
 |ret=>exact h
theorem A9 {c:AC} {Q:AExit→St→Prop} {s:St} (h:awp P GL c (λe s'=>match e with| .normal=>False|e=>Q e s') s):awp P GL (.loop c) Q s:=by
 refine LoopW.awp (n:=1) (Ag c ?_ h);intro e s' h;cases e with
 |normal=>exact h.elim
 |exit i=>exact h
 |ret=>exact h
theorem BX {h:List Row} {r:Nat} {x y:Row} (hr:h[r]?=some y):(h.set r x)[r]?=some x:=AUY (AT4.1 hr).1
theorem FQ (h:List Row) (x:Row):(h++[x])[h.length]?=some x:=by simp
theorem AO {h:List Row} {r:Nat} {y:Row} (l:List Row) (hr:h[r]?=some y):(h++l)[r]?=some y:=by
 rw[AUQ (AT4.1 hr).1];exact hr
theorem CE {h:List Row} {r:Nat} {y:Row} (hr:h[r]?=some y):r <h.length:=(AT4.1 hr).1
theorem uc (h:List Row) (x y:Row):(h++[x]).set h.length y=h++[y]:=by
 rw[AVp _ _ (AT6 _)];simp
end
theorem AQd (n:Int) (hn:i64 n):PX 193 [.int .i64 n] [.int .u64 (IW n)]:=by
 refine AK AK7 rfl ?_;simp[AHw,awp,oT,oS,oU,AY];have e1:((2:Int)^min 1 IntKind.u64.bits)=2:=by decide
 have e2:((2:Int)^min 63 IntKind.i64.bits)=9223372036854775808:=by decide
 have e3:((2:Int)^IntKind.u64.bits)=18446744073709551616:=by decide
 simp only[e1,e2,e3,FA];unfold i64 at hn;unfold IW;by_cases h0:n <0
 ·have q:n.fdiv 9223372036854775808= -1:=by rw[AVq _ (by decide)];omega
  have a1:(n%18446744073709551616*2%18446744073709551616%18446744073709551616).toNat=(18446744073709551616+2*n).toNat:=by congr 1;omega
  have a2:(n.fdiv 9223372036854775808%18446744073709551616%18446744073709551616).toNat=2^64-1:=by rw[q];rfl
  rw[a1,a2,Nt _ (by omega),if_pos h0];omega
 ·have q:n.fdiv 9223372036854775808=0:=by rw[AVq _ (by decide)];omega
  have a1:(n%18446744073709551616*2%18446744073709551616%18446744073709551616).toNat=(2*n).toNat:=by congr 1;omega
  have a2:(n.fdiv 9223372036854775808%18446744073709551616%18446744073709551616).toNat=0:=by rw[q];rfl
  rw[a1,a2,Nat.xor_zero,if_neg h0];omega
theorem uq {n:Int}:IntKind.u8.wrap (((IntKind.u8.wrap n%2^IntKind.u8.bits).toNat ||| 128%2^IntKind.u8.bits:Nat):Int)=128+n%128:=by
 have e3:((2:Int)^IntKind.u8.bits)=256:=by decide
 have e4:(128%2^IntKind.u8.bits)=128:=by decide
 rw[e3,e4];have hm:(IntKind.u8.wrap n%256).toNat <256:=by rw[F0];omega
 rw[AJ1 _ hm,F0,F0];omega
theorem ARa (k:Nat):∀(n:Int) (h:List Row) (r:Nat) (xs:List Int),0≤n→n <128^(k+1)→n <18446744073709551616→h[r]?=some (wr xs)→xs.length+k≤2^46→
  ∃ys m,DQ k n=ys++[m]∧0≤m∧m <128∧
  awp Tryz.prog GLx (.loop Kk) (λe s=>e= .exit 0∧s=⟨[(0,.ref r 0),(1,.v (.int .u64 m)),(5,.v (.bool false))],h.set r (wr (xs++ys))⟩) ⟨[(0,.ref r 0),(1,.v (.int .u64 n))],h⟩:=by
 induction k with
 |zero=>
  intro n h r xs h0 h1 h2 hr hl;refine⟨[],n,rfl,h0,by simpa using h1,?_⟩;have h3':(128:Int)^(0+1)=128:=by decide
  have h3:¬128≤n:=by omega
  refine A9 ?_;simp only[Kk,AB,AA,AG,AE,M2];simp[h3,AM,F3 hr]
 |succ k ih=>
  intro n h r xs h0 h1 h2 hr hl;by_cases h3:128≤n
  ·have hr2:∀x,(h.set r x)[r]?=some x:=λx=>BX hr;have hd0:0≤n/128:=by omega
   have hd1:n/128 <128^(k+1):=AWl (by decide) (by rw[←AU2];exact h1);obtain⟨ys,m,e1,e2,e3,hw⟩:=ih (n/128) (h.set r (wr (xs++[128+n%128]))) r (xs++[128+n%128]) hd0 hd1 (by omega) (hr2 _) (by simp;omega);refine⟨(128+n%128)::ys,m,?_,e2,e3,?_⟩
   ·simp only[DQ,if_neg (show ¬n <128 by omega),e1,AUx]
   ·refine Bl (s1:=⟨[(0,.ref r 0),(1,.v (.int .u64 (n/128)))],h.set r (wr (xs++[128+n%128]))⟩) ?_ ?_
    ·simp only[Kk,AB,AA,AG,AE,M2];simp[h3,AD];have hroom:Ae (xs.length+1) 1=true:=by simp[Ae];omega
     have e5:((2:Int)^min 7 IntKind.u64.bits)=128:=by decide
     simp only[AA,oW,oX];simp[hr,wr,hr2,V.cells,EN,CK,hroom,uq,e5,AVq]
    ·rw[AVB]at hw;simpa using hw
  ·refine⟨[],n,by simp only[DQ,if_pos (show n <128 by omega)];rfl,h0,by omega,?_⟩;refine A9 ?_;simp only[Kk,AB,AA,AG,AE,M2];simp[h3,AM,F3 hr]
theorem AEf (n:Int) (hn:u64 n) (h:List Row) (r:Nat) (xs:List Int) (hr:h[r]?=some (wr xs)) (hl:xs.length≤2^45):FX 192 [.ref r 0,.v (.int .u64 n)] h [] (h.set r (wr (xs++HB n))):=by
 refine AV AK8 rfl ?_;unfold u64 at hn;have h128:(128:Int)^(9+1)=1180591620717411303424:=by decide
 obtain⟨ys,m,e1,e2,e3,hw⟩:=ARa 9 n h r xs hn.1 (by omega) hn.2 hr (by omega);have hys:ys.length≤9:=by have:=IX 9 n;rw[e1]at this;simp at this;omega
 simp only[AHx,AB,AG,AS];simp;refine HV hw ?_;have hr2:∀x,(h.set r x)[r]?=some x:=λx=>BX hr;have hroom:Ae (xs.length+ys.length+1) 1=true:=by simp[Ae];omega
 simp only[AA,oV];simp[wr,hr2,V.cells,EN,CK,hroom,uT e2 (show m <256 by omega),oY,De,HB,e1]
theorem XQ (a b:Int):PX 190 [.int .u64 a,.int .u64 b] [.int .u64 (Fv a b)]:=by
 refine AK AK9 rfl ?_;simp[AHy,awp,oc,oa,oZ,od,AY];have e:((2:Int)^min 32 IntKind.u64.bits)=4294967296:=by decide
 rw[e,AVq _ (by decide)];rfl
def N2 (label:List Int) (l:List Int):Int:=
 Fv (l.foldl (λs n=>Fv s (IntKind.u64.wrap n)) (Fv (Fv ((BH label).foldl Fv 0) label.length) l.length)) 0
def Ah (b:ByteArray):List Int:=b.data.toList.map λc=>(c.toNat:Int)
attribute [simp] Db D.norm As D.arg Ba BX FQ V.cells De AR.d D.keep
@[simp] theorem AE5 (s:Nat):CK s []=true:=rfl
@[simp] theorem yO (s:Nat) (x:V) (xs:List V):CK s (x::xs)=(x.cells.length==s):=rfl
@[simp] theorem AE6 (k:IntKind) (l:List Int):CK 1 (l.map (V.int k))=true:=by cases l<;>rfl
theorem Ad {P:Program} {GL:AX} {c:AC} {Q:AExit→St→Prop} (n:Nat) (S:Nat→St) {s:St} (hs:s=S 0)
  (h:∀k,k≤n→awp P GL c (λe s'=>match e with| .normal=>k <n∧s'=S (k+1)|e=>Q e s') (S k)):awp P GL (.loop c) Q s:=
 hs▸Np n S h 0 (AU6 _)
theorem DJ {α β:Type} {f:α→List β} {l:List α} {k:Nat} (h:k <l.length):(l.take (k+1)).flatMap f=(l.take k).flatMap f++f l[k]:=by
 rw[AVC h,AVr];simp
theorem p98 (n:Int) (hn:i64 n) (h:List Row) (r:Nat) (xs:List Int) (hr:h[r]?=some (wr xs)) (hl:xs.length≤2^45):FX 98 [.ref r 0,.v (.int .i64 n)] h [] (h.set r (wr (xs++Af n))):=by
 refine AV k98 rfl ?_;simp[c98,awp,yl,AFc,AS];refine⟨_,_,(AQd n hn).fsp h,?_⟩;simp;exact⟨_,(AEf (IW n) (HX hn) h r xs hr hl)⟩
theorem AQc (b:ByteArray) (hb:b.size≤2^40) (h:List Row) (r:Nat) (xs:List Int) (hr:h[r]?=some (wr xs)) (hl:xs.length≤2^45):FX 194 [.ref r 0,.v (.str b)] h [] (h.set r (wr (xs++BN (Ah b)))):=by
 refine AV AK6 rfl ?_;have hbl:(Ah b).length=b.size:=by simp[Ah]
 have w1:IntKind.u64.wrap (b.size:Int)=b.size:=Bm (by omega) (by omega);simp[AHv,awp,oQ,oP,oR,AS,w1];refine⟨_,_,(AEf b.size ⟨by omega,by omega⟩ h r xs hr hl),?_⟩;have hu:=DP b.size;have hroom:Ae (xs.length+(HB b.size).length+b.size) 1=true:=by simp[Ae];omega
 simp[BX hr,wr,hroom,BN,hbl];simp[Ah,AWU]
theorem AJy (xs:List Int) (hb:xs.length≤2^45):∀h,FX 117 [.v (AL .u8 xs)] h [.own 5 1 (xs.map (.int .u8))] h:=by
 intro h;refine AV AE0 rfl ?_;have hroom:Ae xs.length 1=true:=by simp[Ae];omega
 cases xs with
 |nil=>simp[Wp,awp,Kq,Kp,Ko,Kn,Lt,AS,AL,Ae]
 |cons x xs=>simp[Wp,awp,Kq,Kp,Ko,Kn,Lt,AS,AL]at hroom ⊢;simp[hroom]
theorem AEm (h:List Row) (r:Nat) (xs:List Int) (hr:h[r]?=some (wr xs)) (hl:xs.length≤2^45):FX 102 [.ref r 0] h [.own 5 1 (xs.map (.int .u8))] h:=by
 refine AV ALT rfl ?_;simp[AIr,awp,tz,tx,t6,AS,hr,wr];refine⟨_,(AJy xs hl h),?_⟩;simp
theorem AEn (l:List Int) (hi:∀n∈l,i64 n) (hb:l.length≤2^40) (h:List Row) (r:Nat) (xs:List Int) (hr:h[r]?=some (wr xs)) (hl:xs.length≤2^44):FX 100 [.ref r 0,.v (AL .i64 l)] h [] (h.set r (wr (xs++BJ l))):=by
 refine AV ALU rfl ?_;have w1:IntKind.u64.wrap (l.length:Int)=l.length:=Bm (by omega) (by omega);simp only[AIs,AB,AG,AA,uD,uC,AS];simp[AL,w1];refine⟨_,_,(AEf l.length ⟨by omega,by omega⟩ h r xs hr (by omega)),?_⟩;have hu:=DP l.length
 try simp
 refine Ad l.length (λk=>⟨[(0,.ref r 0),(11,.v (AL .i64 l)),(12,.v (.int .i64 l.length)),(13,.v (.int .i64 k))],h.set r (wr (xs++(HB l.length++(l.take k).flatMap Af)))⟩) (by simp[AL]) ?_;intro k hk;simp only[uE,AB,AA,AG,AE,uB];simp[AL];by_cases h1:k <l.length
 ·have hx:l[k]?=some l[k]:=AT2 h1;have hw:IntKind.i64.wrap ((k:Int)+1)=k+1:=AJ;rw[if_pos (by omega),AD];simp only[AA,uA,t8,t7];simp[hx];have hf:=Ce (l.take k);have ht:(l.take k).length=k:=by simp;omega
  refine⟨_,_,(p98 l[k] (hi _ (AUs h1)) _ r (xs++(HB l.length++(l.take k).flatMap Af)) (BX hr) (by simp only[AT5];omega)),?_⟩;simp[h1,hw,DJ h1]
 ·have:k=l.length:=by omega
  subst this;rw[if_neg (by omega),AM];simp[uF,BJ]
theorem TM (l:List Int) (b:Int):le8 (l++[b])=le8 l+b*256^l.length:=by
 induction l with
 |nil=>simp[le8]
 |cons x l ih=>
  have e:∀l,le8 (x::l)=256*le8 l+x:=λ_=>rfl;rw[AUx,e,e,ih,AUO,AU2,Int.mul_add,AVL (256^l.length) 256,←AV8,←AV8,AVL b 256];omega
theorem OH {a b:Int} {j:Nat} (hj:j <8) (ha:0≤a) (ha2:a <256^j) (hb:0≤b) (hb2:b <256):
  IntKind.u64.wrap (((a%2^IntKind.u64.bits).toNat ||| (IntKind.u64.wrap (b*2^min (8*j) IntKind.u64.bits)%2^IntKind.u64.bits).toNat:Nat):Int)=a+b*256^j:=by
 have e3:((2:Int)^IntKind.u64.bits)=18446744073709551616:=by decide
 have e4:min (8*j) IntKind.u64.bits=8*j:=by simp[IntKind.bits];omega
 have e5:(2:Int)^(8*j)=256^j:=by rw[Int.pow_mul];rfl
 have q3:(256:Int)^j≤256^7:=TQ (by omega);have q4:(256:Int)^7=72057594037927936:=by decide
 have q0:(0:Int) <256^j:=AV9 (by decide);rw[e3,e4,e5];have hb3:0≤b*256^j:=AWA hb (by omega);have hb4:b*256^j≤255*256^j:=AU5 (by omega) (by omega);rw[Bm hb3 (by omega)];have m1:a%18446744073709551616=a:=by omega
 have m2:(b*256^j)%18446744073709551616=b*256^j:=by omega
 rw[m1,m2];have f1:(b*256^j).toNat=b.toNat <<< (8*j):=by
  rw[Nat.shiftLeft_eq,Nat.pow_mul];obtain⟨n,rfl⟩:=Int.eq_ofNat_of_zero_le hb;have:((n:Int)*256^j)=((n*256^j:Nat):Int):=by rw[Int.natCast_mul,AWS];rfl
  rw[this,AVs,AVs]
 have f2:a.toNat <2^(8*j):=by
  rw[Nat.pow_mul];have e6:((256^j:Nat):Int)=256^j:=by rw[AWS];rfl
  have e7:(2^8)^j=256^j:=rfl;rw[e7];omega
 rw[f1,Nat.or_comm,←Nat.shiftLeft_add_eq_or_of_lt f2,←f1,Bm (by omega) (by omega)];rw[AU7];omega
theorem JV (b:ByteArray):(Ah b).length=b.size:=by simp[Ah]
theorem Sq {b:ByteArray} {i:Nat} {x:Int} (h:(Ah b)[i]?=some x):∃c:UInt8,b[i]?=some c∧(c.toNat:Int)=x:=by
 unfold Ah at h;rw[AUG,AUA]at h;obtain⟨c,h1,h2⟩:=h;refine⟨c,?_,h2⟩;obtain⟨h3,h4⟩:=AT4.1 h1;have h5:i <b.size:=by simpa using h3
 rw[getElem?_pos b i h5]
 congr 1
theorem AKL (xs:List Int) (hb:∀x∈xs,0≤x∧x <256) (hl:xs.length≤2^40) (y:D) (h:List Row) (c:Nat) (hc:h[c]?=some (.cells [.v (AL .u8 xs)])) (k:Nat) (hk:8*k <xs.length):
  awp Tryz.prog GLx (.loop Qj) (λe s=>e= .exit 2∧AH s.e 0=y∧AH s.e 1= .ref c 0∧AH s.e 3= .v (.int .i64 (8*k:Nat))∧AH s.e 4= .v (.int .u64 (le8 ((xs.drop (8*k)).take 8)))∧s.h=h)
   ⟨[(0,y),(1,.ref c 0),(3,.v (.int .i64 (8*k:Nat))),(4,.v (.int .u64 0)),(5,.v (.int .i64 (8*k:Nat)))],h⟩:=by
 skip
 refine Ad (min (8*k+8) xs.length-8*k) (λj=>⟨[(0,y),(1,.ref c 0),(3,.v (.int .i64 (8*k:Nat))),(4,.v (.int .u64 (le8 ((xs.drop (8*k)).take j)))),(5,.v (.int .i64 (8*k+j:Nat)))],h⟩) (by simp[le8]) ?_;intro j hj;have hw:IntKind.i64.wrap (8*(k:Int)+8)=8*k+8:=AJ;simp only[Qj,AB,AA,AG,AE,dZ]
 try simp[AL]at hc
 simp[AL,hw,hc];by_cases h1:8*k+j <min (8*k+8) xs.length
 ·have hi:8*k+j <xs.length:=by omega
  obtain⟨b0,hb0⟩:∃b0,xs[8*k+j]?=some b0:=⟨_,AT2 hi⟩;obtain⟨hb1,hb2⟩:=hb b0 (AT3 hb0);have hd:(xs.drop (8*k)).take (j+1)=(xs.drop (8*k)).take j++[b0]:=by
   rw[AUP];simp[hb0]
  have ht:((xs.drop (8*k)).take j).length=j:=by simp only[AUT,List.length_drop];omega
  obtain⟨q1,q2⟩:=OR xs hb (8*k) j (by omega);have w4:IntKind.u64.wrap b0=b0:=Bm (by omega) (by omega);have hor:=OH (a:=le8 ((xs.drop (8*k)).take j)) (b:=b0) (j:=j) (by omega) q1 q2 hb1 hb2;rw[if_pos (by split<;>omega),AD]
  have w1:IntKind.i64.wrap (8*(k:Int)+j-8*k)=j:=by rw[AJ];omega
  have w2:IntKind.i64.wrap (8*(j:Int))=(8*j:Nat):=by rw[AJ];rfl
  have w3:IntKind.i64.wrap (8*(k:Int)+j+1)=8*k+j+1:=AJ;have x1:(8*(k:Int)+(j:Int)).toNat=8*k+j:=by omega
  have x2:0≤8*(k:Int)+(j:Int):=by omega
  skip
  simp only[AA,dY,dX];have x3:(8*(j:Int)).toNat=8*j:=by omega
  simp[hc,hb0,x1,x2,w1,w2,w3,w4,hd,TM,ht,x3];refine⟨by omega,?_⟩;simp[hor,w3]
  try omega
 ·have hj2:j=min (8*k+8) xs.length-8*k:=by omega
  have e9:(xs.drop (8*k)).take j=(xs.drop (8*k)).take 8:=by
   rcases AUS (xs.length-8*k) 8 with h8|h8
   ·rw[AUc (by simp;omega),AUc (by simp;omega)]
   ·rw[show j=8 by omega]
  rw[if_neg (by split<;>omega),AM]
  simp[e9]
theorem APU (xs:List Int) (hb:∀x∈xs,0≤x∧x <256) (hl:xs.length≤2^40) (r c:Nat) (hs:Nat→List Row) (hc:∀k,(hs k)[c]?=some (.cells [.v (AL .u8 xs)]))
  (hy:∀k w,(BH xs)[k]?=some w→YSp Tryz.prog GLx r [.v (.int .u64 w)] (hs k) true (hs (k+1))):
  FX 324 [.yld r,.ref c 0] (hs 0) [] (hs (BH xs).length):=by
 skip
 refine AV AKd rfl ?_;have hlen:(BH xs).length=(xs.length+7)/8:=by simp[BH]
 simp only[AGn,AB,AA,AG,dh,AS];simp;refine Ad (BH xs).length (λk=>⟨[(0,.yld r),(1,.ref c 0),(3,.v (.int .i64 (8*k:Nat)))],hs k⟩) (by simp) ?_;intro k hk;simp only[di,AB,AA,AG,AE,dg];have hc':=hc k
 try simp[AL]at hc'
 simp[AL,hc'];by_cases h1:8*k <xs.length
 ·rw[if_pos (by omega),AD];simp only[AA,de,dc];simp;refine Ag _ ?_ (AKL xs hb hl (.yld r) (hs k) c (hc k) k h1);rintro e ⟨se,sh⟩ ⟨rfl,f0,f1,f3,f4,rfl⟩;have hk2:k <(BH xs).length:=by omega
  have hw:(BH xs)[k]?=some (le8 ((xs.drop (8*k)).take 8)):=by
   rw[AT2 hk2];simp[BH]
  have hw3:IntKind.i64.wrap (8*(k:Int)+8)=8*k+8:=AJ;simp only[AA,dW,Qi];simp[f0,f1,f3,f4,AE,-Bool.exists_bool];refine⟨_,_,hy k _ hw,?_⟩;simp[AE,AD,AA,Qi,hw3,hk2,f0,f1,f3,f4];omega
 ·rw[if_neg (by omega),AM];have hk2:k=(BH xs).length:=by omega
  simp[dj,←hk2]
theorem AKP (b:ByteArray) (hb:∀x∈(Ah b),0≤x∧x <256) (hl:(Ah b).length≤2^40) (y:D) (h:List Row) (c:Nat) (hc:h[c]?=some (.cells [.v (.str b)])) (k:Nat) (hk:8*k <(Ah b).length):
  awp Tryz.prog GLx (.loop Q5) (λe s=>e= .exit 2∧AH s.e 0=y∧AH s.e 1= .ref c 0∧AH s.e 3= .v (.int .i64 (8*k:Nat))∧AH s.e 4= .v (.int .u64 (le8 (((Ah b).drop (8*k)).take 8)))∧s.h=h)
   ⟨[(0,y),(1,.ref c 0),(3,.v (.int .i64 (8*k:Nat))),(4,.v (.int .u64 0)),(5,.v (.int .i64 (8*k:Nat)))],h⟩:=by
 have hbl:(Ah b).length=b.size:=by simp[Ah]
 refine Ad (min (8*k+8) (Ah b).length-8*k) (λj=>⟨[(0,y),(1,.ref c 0),(3,.v (.int .i64 (8*k:Nat))),(4,.v (.int .u64 (le8 (((Ah b).drop (8*k)).take j)))),(5,.v (.int .i64 (8*k+j:Nat)))],h⟩) (by simp[le8]) ?_;intro j hj;have hw:IntKind.i64.wrap (8*(k:Int)+8)=8*k+8:=AJ;simp only[Q5,AB,AA,AG,AE,iG]
 try simp[AL]at hc
 simp[AL,hw,hc];by_cases h1:8*k+j <min (8*k+8) (Ah b).length
 ·have hi:8*k+j <(Ah b).length:=by omega
  obtain⟨b0,hb0⟩:∃b0,(Ah b)[8*k+j]?=some b0:=⟨_,AT2 hi⟩;obtain⟨hb1,hb2⟩:=hb b0 (AT3 hb0);have hd:((Ah b).drop (8*k)).take (j+1)=((Ah b).drop (8*k)).take j++[b0]:=by
   rw[AUP];simp[hb0]
  have ht:(((Ah b).drop (8*k)).take j).length=j:=by simp only[AUT,List.length_drop];omega
  obtain⟨q1,q2⟩:=OR (Ah b) hb (8*k) j (by omega);have w4:IntKind.u64.wrap b0=b0:=Bm (by omega) (by omega);have hor:=OH (a:=le8 (((Ah b).drop (8*k)).take j)) (b:=b0) (j:=j) (by omega) q1 q2 hb1 hb2;rw[if_pos (by split<;>omega),AD]
  have w1:IntKind.i64.wrap (8*(k:Int)+j-8*k)=j:=by rw[AJ];omega
  have w2:IntKind.i64.wrap (8*(j:Int))=(8*j:Nat):=by rw[AJ];rfl
  have w3:IntKind.i64.wrap (8*(k:Int)+j+1)=8*k+j+1:=AJ;have x1:(8*(k:Int)+(j:Int)).toNat=8*k+j:=by omega
  have x2:0≤8*(k:Int)+(j:Int):=by omega
  obtain⟨c1,hc1,hc2⟩:∃c:UInt8,b[8*k+j]?=some c∧(c.toNat:Int)=b0:=Sq hb0;simp only[AA,iF,iE];have x3:(8*(j:Int)).toNat=8*j:=by omega
  simp[hc,hb0,x1,x2,w1,w2,w3,w4,hd,TM,ht,x3,hc1,hc2,JV];refine⟨by omega,?_⟩;simp[hor,w3]
  try omega
 ·have hj2:j=min (8*k+8) (Ah b).length-8*k:=by omega
  have e9:((Ah b).drop (8*k)).take j=((Ah b).drop (8*k)).take 8:=by
   rcases AUS ((Ah b).length-8*k) 8 with h8|h8
   ·rw[AUc (by simp;omega),AUc (by simp;omega)]
   ·rw[show j=8 by omega]
  rw[if_neg (by split<;>omega),AM]
  simp[e9]
theorem APq (b:ByteArray) (hb:∀x∈(Ah b),0≤x∧x <256) (hl:(Ah b).length≤2^40) (r c:Nat) (hs:Nat→List Row) (hc:∀k,(hs k)[c]?=some (.cells [.v (.str b)]))
  (hy:∀k w,(BH (Ah b))[k]?=some w→YSp Tryz.prog GLx r [.v (.int .u64 w)] (hs k) true (hs (k+1))):
  FX 279 [.yld r,.ref c 0] (hs 0) [] (hs (BH (Ah b)).length):=by
 have hbl:(Ah b).length=b.size:=by simp[Ah]
 refine AV AKk rfl ?_;have hlen:(BH (Ah b)).length=((Ah b).length+7)/8:=by simp[BH]
 simp only[AG6,AB,AA,AG,iK,AS];simp;refine Ad (BH (Ah b)).length (λk=>⟨[(0,.yld r),(1,.ref c 0),(3,.v (.int .i64 (8*k:Nat)))],hs k⟩) (by simp) ?_;intro k hk;simp only[iL,AB,AA,AG,AE,iJ];have hc':=hc k
 try simp[AL]at hc'
 simp[AL,hc'];by_cases h1:8*k <(Ah b).length
 ·rw[if_pos (by omega),AD];simp only[AA,iI,iH];simp;refine Ag _ ?_ (AKP b hb hl (.yld r) (hs k) c (hc k) k h1);rintro e ⟨se,sh⟩ ⟨rfl,f0,f1,f3,f4,rfl⟩;have hk2:k <(BH (Ah b)).length:=by omega
  have hw:(BH (Ah b))[k]?=some (le8 (((Ah b).drop (8*k)).take 8)):=by
   rw[AT2 hk2];simp[BH]
  have hw3:IntKind.i64.wrap (8*(k:Int)+8)=8*k+8:=AJ;simp only[AA,iD,Q4];simp[f0,f1,f3,f4,AE,-Bool.exists_bool];refine⟨_,_,hy k _ hw,?_⟩;simp[AE,AD,AA,Q4,hw3,hk2,f0,f1,f3,f4];omega
 ·rw[if_neg (by omega),AM];have hk2:k=(BH (Ah b)).length:=by omega
  simp[iM,←hk2]
theorem AQe (b:ByteArray) (h:List Row):FX 189 [.v (.str b)] h [.func 279 [.ref h.length 0]] (h++[.cells [.v (.str b)]]):=by
 refine AV ALA rfl ?_;simp[AHz,awp,oh,og,oi,AS]
theorem APe (xs:List Int) (h:List Row):FX 296 [.v (AL .u8 xs)] h [.func 324 [.ref h.length 0]] (h++[.cells [.v (AL .u8 xs)]]):=by
 refine AV AKi rfl ?_;simp[AGz,awp,fG,fF,fH,AS,AL]
theorem Nl (b:ByteArray):∀x∈Ah b,0≤x∧x <256:=by
 intro x hx;simp only[Ah,AT9]at hx;obtain⟨c,_,rfl⟩:=hx;have:=c.toNat_lt;omega
theorem ARK (e0:Env) (h0:List Row) (hf:AH e0 5= .ref h0.length 0) (x:Row) (w s:Int):
  YSp Tryz.prog GLx (h0.length+2) [.v (.int .u64 w)] (h0++[.cells [.v (.int .u64 s)],x,An Tryz.prog GLx .ready e0 [11] Lq Lo]) true (h0++[.cells [.v (.int .u64 (Fv s w))],x,An Tryz.prog GLx .ready e0 [11] Lq Lo]):=by
 refine Cn (e0:=e0) (ps:=[11]) (asg:=Lq) (body:=Lo) (by simp) rfl ?_;simp only[Fo,Lq,Lo,AA,AG,yt,yr];simp[hf];refine⟨_,_,(XQ s w).fsp _,?_⟩;simp[CN,AN]
theorem Ca {P:Program} {GL:AX} {q:Opd} {ps:List Nat} {asg body:AC} {Q:AExit→St→Prop} {s:St} (fid:Nat) (caps rets:List D) (h1 h':List Row) (tag:Tag)
  (hq:Db (q.ev s.e)=some (fid,caps)) (hh:s.h++[An P GL .ready (cpE s.e) ps asg body]=h1) (hf:FSp P GL fid (.yld s.h.length::caps) h1 rets h')
  (hr:h'[s.h.length]?=some (An P GL tag (cpE s.e) ps asg body)) (he:Bo Q ⟨s.e,h'.set s.h.length .dead⟩ tag):awp P GL (.rangeF q ps asg body) Q s:=by
 rw[Kw];exact⟨fid,caps,rets,h',tag,hq,hh▸hf,hr,he⟩
theorem Lb {α β:Type} (f:β→α→β) (s0:β) {l:List α} {k:Nat} {x:α} (hx:l[k]?=some x):(l.take (k+1)).foldl f s0=f ((l.take k).foldl f s0) x:=by
 obtain⟨h1,h2⟩:=AT4.1 hx;rw[AVC h1,AVf,h2];rfl
theorem ARJ (l:List Int) (hl:l.length≤2^40) (a:D) (s0:Int) (h:List Row) (xs:List Row):
  awp Tryz.prog GLx (.loop YX) (λe s=>e= .exit 2∧AH s.e 5= .ref h.length 0∧s.h=h++ .cells [.v (.int .u64 (l.foldl (λs n=>Fv s (IntKind.u64.wrap n)) s0))]::xs)
   ⟨[(5,.ref h.length 0),(24,.v (AL .i64 l)),(25,.v (.int .i64 l.length)),(26,.v (.int .i64 0))],h++ .cells [.v (.int .u64 s0)]::xs⟩:=by
 refine Ad l.length (λk=>⟨[(5,.ref h.length 0),(24,.v (AL .i64 l)),(25,.v (.int .i64 l.length)),(26,.v (.int .i64 k))],h++ .cells [.v (.int .u64 ((l.take k).foldl (λs n=>Fv s (IntKind.u64.wrap n)) s0))]::xs⟩) (by simp) ?_;intro k hk;simp only[YX,AB,AA,AG,AE,yo];simp[AL];by_cases h1:k <l.length
 ·have hx:l[k]?=some l[k]:=AT2 h1;have hw:IntKind.i64.wrap ((k:Int)+1)=k+1:=AJ;rw[if_pos (by omega),AD];simp only[AA,yn,ym,YW];simp[hx];refine⟨_,_,(XQ ((l.take k).foldl (λs n=>Fv s (IntKind.u64.wrap n)) s0) (IntKind.u64.wrap l[k])).fsp _,?_⟩;simp[h1,hw,AN,Lb _ _ hx]
 ·have:k=l.length:=by omega
  subst this;rw[if_neg (by omega),AM];simp
theorem p96 (b:ByteArray) (l:List Int) (hb:b.size≤2^39) (hl:l.length≤2^40):PX 96 [.str b,AL .i64 l] [.int .u64 (N2 (Ah b) l)]:=by
 refine AK k96 rfl ?_;have hbl:(Ah b).length=b.size:=by simp[Ah]
 simp only[c96,AB,AA,AG,yw,yv,yu,AY];simp[AN];refine⟨_,_,AQe b _,?_⟩;simp;refine Ca 279 [.ref 1 0] [] _ _ .ready rfl rfl (APq b (Nl b) (by omega) 2 1 (λk=>[.cells [.v (.int .u64 (((BH (Ah b)).take k).foldl Fv 0))],.cells [.v (.str b)],
  An Tryz.prog GLx .ready (cpE [(0,.v (.str b)),(1,.v (AL .i64 l)),(5,.ref 0 0),(10,.func 279 [.ref 1 0])]) [11] Lq Lo]) (by simp) ?_) rfl ?_
 ·intro k w hw;have:=ARK (cpE [(0,.v (.str b)),(1,.v (AL .i64 l)),(5,.ref 0 0),(10,.func 279 [.ref 1 0])]) [] rfl (.cells [.v (.str b)]) w (((BH (Ah b)).take k).foldl Fv 0);rw[Lb _ _ hw];exact this
 ·have w1:IntKind.u64.wrap (b.size:Int)=b.size:=Bm (by omega) (by omega);have w2:IntKind.u64.wrap (l.length:Int)=l.length:=Bm (by omega) (by omega);simp only[Bo,yq];simp[w1];refine⟨_,_,(XQ ((BH (Ah b)).foldl Fv 0) b.size).fsp _,?_⟩;simp[AL,w2];refine⟨_,_,(XQ (Fv ((BH (Ah b)).foldl Fv 0) b.size) l.length).fsp _,?_⟩;simp[yp,AN];refine Ag _ ?_ (ARJ l hl .any (Fv (Fv ((BH (Ah b)).foldl Fv 0) b.size) l.length) [] _);rintro e ⟨se,sh⟩ ⟨rfl,f5,rfl⟩;simp at f5;simp[YV,f5];refine⟨_,_,(XQ _ 0).fsp _,?_⟩;simp[AF,AFd,N2,hbl]
def Oa (label bs:List Int):Int:=N2 label ((BH bs).map IntKind.i64.wrap++[(bs.length:Int)])
theorem AKQ (e0:Env) (hf:AH e0 5= .ref 0 0) (x:Row) (w:Int) (ws:List Int) (hl:ws.length≤2^40):
  YSp Tryz.prog GLx 2 [.v (.int .u64 w)] [.cells [.own 3 1 (ws.map (.int .i64))],x,An Tryz.prog GLx .ready e0 [9] Iw Iv] true [.cells [.own 3 1 ((ws++[IntKind.i64.wrap w]).map (.int .i64))],x,An Tryz.prog GLx .ready e0 [9] Iw Iv]:=by
 refine Cn (e0:=e0) (ps:=[9]) (asg:=Iw) (body:=Iv) (by simp) rfl ?_;have hroom:Ae (ws.length+1) 8=true:=by simp[Ae];omega
 simp only[Fo,Iw,Iv,AA,AG,ka,kZ];simp[hf,hroom,AN,EN,CN]
theorem AQF (b:ByteArray) (xs:List Int) (hx:∀x∈xs,0≤x∧x <256) (hb:b.size≤2^39) (hl:xs.length≤2^39):PX 234 [.str b,AL .u8 xs] [.int .u64 (Oa (Ah b) xs)]:=by
 refine AK AKu rfl ?_;have hlw:(BH xs).length=(xs.length+7)/8:=by simp[BH]
 simp only[AHL,AB,AA,AG,ke,kc,kb,AY];simp[AN];refine⟨_,_,APe xs _,?_⟩;simp;refine Ca 324 [.ref 1 0] [] _ _ .ready rfl rfl (APU xs hx (by omega) 2 1 (λk=>[.cells [.own 3 1 ((((BH xs).take k).map IntKind.i64.wrap).map (.int .i64))],.cells [.v (AL .u8 xs)],
  An Tryz.prog GLx .ready (cpE [(0,.v (.str b)),(1,.v (AL .u8 xs)),(5,.ref 0 0),(8,.func 324 [.ref 1 0])]) [9] Iw Iv]) (by simp) ?_) rfl ?_
 ·intro k w hw;have hk:=(AT4.1 hw).1;have:=AKQ (cpE [(0,.v (.str b)),(1,.v (AL .u8 xs)),(5,.ref 0 0),(8,.func 324 [.ref 1 0])]) rfl (.cells [.v (AL .u8 xs)]) w (((BH xs).take k).map IntKind.i64.wrap) (by simp;omega);have e:((BH xs).take (k+1)).map IntKind.i64.wrap=((BH xs).take k).map IntKind.i64.wrap++[IntKind.i64.wrap w]:=by
   rw[AUP,hw];simp
  rw[e];exact this
 ·simp only[Bo,kY];have hroom:Ae ((BH xs).length+1) 8=true:=by simp[Ae];omega
  simp[AL,hroom];have hp:=p96 b ((BH xs).map IntKind.i64.wrap++[(xs.length:Int)]) hb (by simp;omega);have hp2:=hp.fsp;simp[AL]at hp2;refine⟨_,_,hp2 _,?_⟩;simp[AF,kf,Oa]
section
variable {P:Program} {GL:AX}
theorem BQ {c:AC} {Q:AExit→St→Prop} (n:Nat) (S:Nat→St) (I:Nat→Prop) {s:St} (hs:s=S 0) (h0:I 0)
  (h:∀k,k≤n→I k→awp P GL c (λe s'=>match e with| .normal=>k <n∧I (k+1)∧s'=S (k+1)|e=>Q e s') (S k)):awp P GL (.loop c) Q s:=by
 subst hs;refine⟨λm s=>∃k,k≤n∧m=n-k∧I k∧s=S k,⟨n,0,AU6 _,rfl,h0,rfl⟩,?_⟩;rintro m s ⟨k,hk,rfl,hi,rfl⟩;refine Ag c ?_ (h k hk hi);intro e s' h;cases e with
 |normal=>obtain⟨hlt,hi',rfl⟩:=h;exact⟨n-(k+1),by omega,k+1,hlt,rfl,hi',rfl⟩
 |exit i=>exact h
 |ret=>exact h
end
def okR (n d:Int):Bool:=decide (1≤d∧d≤1048576∧n≤1099511627776∧ -1099511627776≤n∧Int.gcd n d=1)
def A5 (n d:Int):V:= .agg [.int .i64 n,.int .i64 d]
theorem ART (m:Nat):∀(a b:Nat),b≤m→a <2^64→b <2^64→
  awp Tryz.prog GLx (.loop Mi) (λe s=>e= .exit 0∧AH s.e 0= .v (.int .u64 (Nat.gcd a b))) ⟨[(0,.v (.int .u64 a)),(1,.v (.int .u64 b))],[]⟩:=by
 induction m with
 |zero=>
  intro a b hb h1 h2;have:b=0:=by omega
  subst this;refine A9 ?_;simp only[Mi,AB,AA,AG,AE,QW];simp[AM]
 |succ m ih=>
  intro a b hb h1 h2;by_cases h0:b=0
  ·exact ih a b (by omega) h1 h2
  ·have hlt:=Nat.mod_lt a (show 0 <b by omega);have hih:=ih b (a%b) (by omega) h2 (by omega);have e:Nat.gcd b (a%b)=Nat.gcd a b:=by rw[Nat.gcd_comm,←Nat.gcd_rec,Nat.gcd_comm]
   rw[e]at hih;refine Bl ?_ hih;simp only[Mi,AB,AA,AG,AE,QW];have w1:IntKind.u64.wrap ((a:Int)%b)=((a%b:Nat):Int):=by rw[Bm (by omega) (by omega)];rfl
   have h3:0 <b:=by omega
   simp[h3,AD,AW,cM,AWq,w1,h0]
theorem APP (a b:Nat) (h1:a <2^64) (h2:b <2^64):PX 350 [.int .u64 a,.int .u64 b] [.int .u64 (Nat.gcd a b)]:=by
 refine AK ARp rfl ?_;simp only[AMn,AB,AG,AA,cN,AY];simp;refine Ag _ ?_ (ART b a b (AT6 _) h1 h2);rintro e s ⟨rfl,h⟩;simp[cL,h,AF,AB7]
theorem AJT (n:Int) (hn:i64 n):PX 330 [.int .i64 n] [.int .u64 n.natAbs]:=by
 refine AK ARv rfl ?_;unfold i64 at hn;by_cases h0:n <0
 ·simp[AGY,awp,Qg,Qf,dL,dM,AY,h0];simp only[FA];omega
 ·simp[AGY,awp,Qg,Qf,dK,dM,AY,h0];simp only[FA];omega
def GP (neg:Bool) (n d:Nat):List V:=
 if n/Nat.gcd n d>1099511627776∨d/Nat.gcd n d>1048576 then [A5 0 0,.int .i64 5]
 else [A5 (if neg then -((n/Nat.gcd n d:Nat):Int) else ((n/Nat.gcd n d:Nat):Int)) ((d/Nat.gcd n d:Nat):Int),.int .i64 0]
theorem APT (neg:Bool) (n d:Nat) (h1:n <2^64) (h2:d <2^64) (hd:0 <d):PX 329 [.bool neg,.int .u64 n,.int .u64 d] (GP neg n d):=by
 refine AK ARw rfl ?_;have hg:0 <Nat.gcd n d:=Nat.gcd_pos_of_pos_right _ hd;have hn1:=Nat.div_le_self n (Nat.gcd n d);have hd1:=Nat.div_le_self d (Nat.gcd n d);have hp:=APP n d h1 h2;unfold GP;generalize Nat.gcd n d=g at*;have qa:(n:Int)/g=((n/g:Nat):Int):=rfl;have qb:(d:Int)/g=((d/g:Nat):Int):=rfl;generalize n/g=a at*;generalize d/g=b at*;have w1:IntKind.u64.wrap (a:Int)=a:=Bm (by omega) (by omega);have w2:IntKind.u64.wrap (b:Int)=b:=Bm (by omega) (by omega);have hg0:g≠0:=by omega
 simp only[AMw,AB,AA,AW,AG,AE,dV,dU,dT,dS,AY];simp;refine⟨_,_,hp.fsp _,?_⟩;simp[AWr,qa,qb,w1,w2,hg0];have w3:IntKind.i64.wrap (a:Int)=a∨1099511627776 <a:=by
  by_cases h:a≤1099511627776
  ·exact .inl (AJ)
  ·exact .inr (by omega)
 by_cases h3:1099511627776 <(a:Int)
 ·have h3':1099511627776 <a:=by omega
  simp[h3,h3',AB,AA,AF,Qh,UM,AN,A5]
 ·have h3':¬1099511627776 <a:=by omega
  by_cases h4:1048576 <(b:Int)
  ·have h4':1048576 <b:=by omega
   simp[h3,h3',h4,h4',AB,AA,AF,Qh,UM,AN,A5]
  ·have h4':¬1048576 <b:=by omega
   have w5:IntKind.i64.wrap (a:Int)=a:=AJ;have w6:IntKind.i64.wrap (b:Int)=b:=AJ;have w7:IntKind.i64.wrap (-(a:Int))= -a:=AJ;cases neg<;>simp[h3,h3',h4,h4',AB,AA,AE,AD,AF,dR,dQ,dP,dN,UM,AN,A5,w5,w6,w7]
theorem Wt (n d:Int) (hd:1≤d) (h1:i64 n) (h2:i64 d):(GP (decide (n <0) != decide (d <0)) n.natAbs d.natAbs=[A5 n d,.int .i64 0])↔okR n d=true:=by
 unfold GP okR;unfold i64 at h1 h2;have e:Int.gcd n d=Nat.gcd n.natAbs d.natAbs:=rfl;have hg:0 <Nat.gcd n.natAbs d.natAbs:=Nat.gcd_pos_of_pos_right _ (by omega);have hdn:decide (d <0)=false:=by simp;omega
 simp only[hdn];rw[e]
 constructor
 ·intro h;split at h
  ·simp[A5]at h
  ·rename_i hc;simp[A5]at h;have hb:d.natAbs/Nat.gcd n.natAbs d.natAbs=d.natAbs:=by omega
   have hg1:Nat.gcd n.natAbs d.natAbs=1:=by
    rcases AUS 1 (Nat.gcd n.natAbs d.natAbs)with h3|h3
    ·have:=Nat.div_lt_self (show 0 <d.natAbs by omega) h3;omega
    ·omega
   rw[hg1]at hc;simp[hg1]at hc ⊢;omega
 ·intro h;simp at h;obtain⟨h3,h4,h5,h6,h7⟩:=h;rw[h7];rw[if_neg (by simp;omega)];simp[A5]
  constructor
  ·split<;>omega
  ·omega
theorem Ku (neg:Bool) (n d:Nat):GP neg n d=[A5 0 0,.int .i64 5]∨∃a b,GP neg n d=[A5 a b,.int .i64 0]:=by
 unfold GP;split
 ·exact .inl rfl
 ·exact .inr ⟨_,_,rfl⟩
theorem APc (n d:Int) (hd:d≠0) (h1:i64 n) (h2:i64 d):PX 306 [.int .i64 n,.int .i64 d] (GP (decide (n <0) != decide (d <0)) n.natAbs d.natAbs):=by
 refine AK AR7 rfl ?_;simp only[AM5,AB,AA,AG,AE,eT,eS,AY];simp[hd,AD,AA,eR];refine⟨_,_,(AJT n h1).fsp _,?_⟩;simp;refine⟨_,_,(AJT d h2).fsp _,?_⟩;simp;have hx:(decide (n <0) != decide (d <0))= !(decide (n <0)==decide (d <0)):=rfl
 try rw[←hx]
 unfold i64 at h1 h2;refine⟨_,_,(APT _ n.natAbs d.natAbs (by omega) (by omega) (by omega)).fsp _,?_⟩;generalize (decide (n <0) != decide (d <0))=ng;obtain h|⟨a,b,h⟩:=Ku ng n.natAbs d.natAbs<;>rw[h]<;>simp[A5,AF,ACN,AN]
theorem um (n d:Int) (h1:i64 n) (h2:i64 d):PX 248 [A5 n d] [.int .i64 (if okR n d then 0 else 1)]:=by
 refine AK ASe rfl ?_;simp only[ANa,AB,AA,AG,AE,jd,jc,AY];simp[A5];by_cases hd:d <1
 ·have:okR n d=false:=by unfold okR;simp;omega
  simp[hd,this,AB,AA,AF,jb,Ug]
 ·have hp:=(APc n d (by omega) h1 h2);have hb:=Wt n d (by omega) h1 h2;simp[hd,AD,AA,ja];refine⟨_,_,hp.fsp _,?_⟩;obtain h|⟨a,b,h⟩:=Ku (decide (n <0) != decide (d <0)) n.natAbs d.natAbs
  ·have h3:okR n d=false:=by
    cases h4:okR n d with
    |false=>rfl
    |true=>rw[hb.2 h4]at h;simp at h
   rw[h,h3];simp[A5,AB,AA,AE,AF,RL,RJ,Ug,AN]
  ·have h3:okR n d=decide (a=n∧b=d):=by
    rw[h]at hb;simp[A5]at hb;rw[AU3,←hb];simp
   rw[h,h3];by_cases h4:a=n<;>by_cases h5:b=d<;>simp[h4,h5,A5,AB,AA,AE,AD,AF,RL,RJ,jZ,Ug,AN,V.eqL,V.eq1]
theorem OI {n d:Int} (h:okR n d=true):1≤d∧d≤1048576∧n≤1099511627776∧ -1099511627776≤n:=by
 unfold okR at h;simp at h;omega
theorem TI {a b:Int} (h1:a≤1099511627776) (h2: -1099511627776≤a) (h3:1≤b) (h4:b≤1048576):a*b≤1152921504606846976∧ -1152921504606846976≤a*b:=by
 have:=AU5 h1 (show 0≤b by omega);have:=AU5 h2 (show 0≤b by omega);omega
theorem u6 (L:List V) (k:Nat) (hk:k <2^40) (n d:Int) (h1:i64 n) (h2:i64 d) (hx:L[k]?=some (A5 n d)) (m:Int) (hm:(k:Int) <m) (h:List Row) (Q:AExit→St→Prop)
  (hok:okR n d=true→Q .normal ⟨[(6,.v (.list L)),(7,.v (.int .i64 m)),(8,.v (.int .i64 (k+1:Nat)))],h++[.cells [.v (.int .i64 n),.v (.int .i64 d)]]⟩)
  (hno:okR n d=false→∀s,AH s.e 2= .v (.int .i64 1)→Q .ret s):
  awp Tryz.prog GLx Mp Q ⟨[(6,.v (.list L)),(7,.v (.int .i64 m)),(8,.v (.int .i64 k))],h⟩:=by
 have hw:IntKind.i64.wrap ((k:Int)+1)=k+1:=AJ;simp only[Mp,AB,AA,AG,AE,Q3];simp[hm,AD,AA,fY,hx,A5,AN,fX];refine⟨_,_,(um n d h1 h2).fsp _,?_⟩;cases ho:okR n d with
 |true=>
  have:=hok ho;simp[Q2,AE,AD,AA,fV,hw];simpa using this
 |false=>
  simp[Q2,AE,AB,AA,AF,fW];exact hno ho _ rfl
theorem APi (a b c d:Int) (h1:i64 a) (h2:i64 b) (h3:i64 c) (h4:i64 d):PX 291 [.list [A5 a b,A5 c d]] [.int .i64 (if okR a b&&okR c d then 0 else 1)]:=by
 refine AK ASF rfl ?_;simp only[AND,AB,AA,AG,AE,fc,fZ,AY];simp;cases ho:okR a b with
 |false=>
  refine A9 ?_;refine u6 [A5 a b,A5 c d] 0 (by omega) a b h1 h2 rfl 2 (by omega) [] _ (λh=>by rw[h]at ho;cases ho) ?_;intro _ s hs;simp[UW,hs]
 |true=>
  refine Bl (s1:=⟨[(6,.v (.list [A5 a b,A5 c d])),(7,.v (.int .i64 2)),(8,.v (.int .i64 1))],[.cells [.v (.int .i64 a),.v (.int .i64 b)]]⟩) ?_ ?_
  ·exact u6 [A5 a b,A5 c d] 0 (by omega) a b h1 h2 rfl 2 (by omega) [] _ (λ_=>rfl) (λh=>by rw[h]at ho;cases ho)
  cases ho2:okR c d with
  |false=>
   refine A9 ?_;refine u6 [A5 a b,A5 c d] 1 (by omega) c d h3 h4 rfl 2 (by omega) [.cells [.v (.int .i64 a),.v (.int .i64 b)]] _ (λh=>by rw[h]at ho2;cases ho2) ?_;intro _ s hs;simp[UW,hs]
  |true=>
   refine Bl (s1:=⟨[(6,.v (.list [A5 a b,A5 c d])),(7,.v (.int .i64 2)),(8,.v (.int .i64 2))],[.cells [.v (.int .i64 a),.v (.int .i64 b)],.cells [.v (.int .i64 c),.v (.int .i64 d)]]⟩) ?_ ?_
   ·exact u6 [A5 a b,A5 c d] 1 (by omega) c d h3 h4 rfl 2 (by omega) [.cells [.v (.int .i64 a),.v (.int .i64 b)]] _ (λ_=>rfl) (λh=>by rw[h]at ho2;cases ho2)
   refine A9 ?_;simp only[Mp,AB,AA,AG,AE,Q3];simp[AM,AB,AA,AF,fU,UW]
def TL (a b c d:Int):Bool:=decide (a*d <c*b)
def P2 (a b c d:Int):Int:=if a*d <c*b then -1 else if c*b <a*d then 1 else 0
theorem APh (a b c d:Int) (h1:okR a b=true) (h2:okR c d=true):PX 292 [A5 a b,A5 c d] [.int .i64 (P2 a b c d)]:=by
 refine AK ASE rfl ?_;have q1:=OI h1;have q2:=OI h2;have m1:=TI (a:=a) (b:=d) (by omega) (by omega) (by omega) (by omega);have m2:=TI (a:=c) (b:=b) (by omega) (by omega) (by omega) (by omega);unfold P2;have w1:IntKind.i64.wrap (a*d)=a*d:=AJ;have w2:IntKind.i64.wrap (c*b)=c*b:=AJ;simp only[ANC,AB,AA,AW,AG,AE,fT,fS,fR,AY];simp[A5,w1,w2];by_cases l1:a*d <c*b
 ·simp[l1,AB,AA,AF,fQ,UV]
 ·by_cases l2:c*b <a*d
  ·simp[l1,l2,AB,AA,AE,AF,Q1,fP,UV]
  ·simp[l1,l2,AB,AA,AE,AD,AF,Q1,fO,UV]
theorem AJk (a b c d:Int) (h1:i64 a) (h2:i64 b) (h3:i64 c) (h4:i64 d):PX 227 [A5 a b,A5 c d] (if okR a b&&okR c d then [.int .i64 (P2 a b c d),.int .i64 0] else [.int .i64 0,.int .i64 1]):=by
 refine AK ASo rfl ?_;have hp:=(APi a b c d h1 h2 h3 h4).fsp;simp only[ANp,AB,AA,AG,AE,lh,lg,lY,AY];simp[A5]at hp ⊢;refine⟨_,_,hp _,?_⟩;cases ho1:okR a b<;>cases ho2:okR c d<;>simp[AB,AA,AD,AF,lW,lV,AC6]
 have hq:=(APh a b c d ho1 ho2).fsp;simp[A5]at hq;refine⟨_,⟨_,hq _⟩,?_⟩;simp
theorem AJR (a b c d:Int) (h1:okR a b=true) (h2:okR c d=true):PX 352 [A5 a b,A5 c d] [.bool (TL a b c d)]:=by
 refine AK ARn rfl ?_;have q1:=OI h1;have q2:=OI h2;have m1:=TI (a:=a) (b:=d) (by omega) (by omega) (by omega) (by omega);have m2:=TI (a:=c) (b:=b) (by omega) (by omega) (by omega) (by omega);have w1:IntKind.i64.wrap (a*d)=a*d:=AJ;have w2:IntKind.i64.wrap (c*b)=c*b:=AJ;simp[AMl,awp,cF,cE,AB6,AY,A5,w1,w2,TL]
theorem ARY (m:Nat):∀(a b:Int),b.natAbs≤m→a.natAbs≤1099511627776→b.natAbs≤1099511627776→
  awp Tryz.prog GLx (.loop Mx) (λe s=>e= .exit 0∧∃g:Int,g.natAbs=Int.gcd a b∧AH s.e 0= .v (.int .i64 g)) ⟨[(0,.v (.int .i64 a)),(1,.v (.int .i64 b))],[]⟩:=by
 induction m with
 |zero=>
  intro a b hb h1 h2;have:b=0:=by omega
  subst this;refine A9 ?_;simp only[Mx,AB,AA,AG,AE,RW];simp[AM]
 |succ m ih=>
  intro a b hb h1 h2;by_cases h0:b=0
  ·exact ih a b (by omega) h1 h2
  ·have e:(a.tmod b).natAbs=a.natAbs%b.natAbs:=Int.natAbs_tmod a b;have hlt:=Nat.mod_lt a.natAbs (show 0 <b.natAbs by omega);have hih:=ih b (a.tmod b) (by omega) h2 (by omega);have e2:Int.gcd b (a.tmod b)=Int.gcd a b:=by
    unfold Int.gcd;rw[e,Nat.gcd_comm,←Nat.gcd_rec,Nat.gcd_comm]
   rw[e2]at hih;refine Bl ?_ hih;simp only[Mx,AB,AA,AG,AE,RW];have w1:IntKind.i64.wrap (a.tmod b)=a.tmod b:=AJ;simp[AD,AW,mi,w1,h0]
theorem AQU (a b:Int) (h1:a.natAbs≤1099511627776) (h2:b.natAbs≤1099511627776):PX 215 [.int .i64 a,.int .i64 b] [.int .i64 (Int.gcd a b)]:=by
 refine AK ASu rfl ?_;simp only[ANv,AB,AG,AA,mj,AY];simp;refine Ag _ ?_ (ARY b.natAbs a b (AT6 _) h1 h2);rintro e s ⟨rfl,g,hg,h⟩;have hgb:Int.gcd a b≤2199023255552:=by
  unfold Int.gcd;rcases AV2 a.natAbs with h3|h3
  ·rw[h3,Nat.gcd_zero_left];omega
  ·have:=Nat.gcd_le_left b.natAbs h3;omega
 by_cases h0:g <0
 ·have w:IntKind.i64.wrap (-g)= -g:=AJ;simp[RV,h,h0,AB,AA,AE,AF,mh,ml,w];omega
 ·simp[RV,h,h0,AB,AA,AE,AD,AF,mg,ml];omega
set_option maxHeartbeats 2000000 in
theorem AJu (n d:Int) (h1:i64 n) (h2:i64 d):PX 127 [A5 n d] [.int .i64 (if okR n d then 0 else 1)]:=by
 refine AK ATS rfl ?_;simp only[AOw,AB,AA,AG,AE,sj,si,AY];unfold okR;by_cases b1:d <1
 ·simp[A5,b1,AB,AA,AF,I0,Km];omega
 by_cases b2:1048576 <d
 ·simp[A5,b1,b2,AB,AA,AF,I0,Km];omega
 by_cases b3:1099511627776 <n
 ·simp[A5,b1,b2,b3,AB,AA,AF,I0,Km];omega
 by_cases b4:n < -1099511627776
 ·simp[A5,b1,b2,b3,b4,AB,AA,AF,I0,Km];omega
 simp[A5,b1,b2,b3,b4];refine⟨_,_,(AQU n d (by omega) (by omega)).fsp _,?_⟩;by_cases b5:Int.gcd n d=1
 ·simp[b5,AD,AA,AF,sf,Km];omega
 ·simp[b5,AB,AA,AF,I0,Km];omega
structure Ivl where
 (ln ld hn hd:Int)
 (lo ho li hi:Bool)
def Ivl.V (x:Ivl):V:= .agg [.int .i64 x.ln,.int .i64 x.ld,.int .i64 x.hn,.int .i64 x.hd,.bool x.lo,.bool x.ho,.bool x.li,.bool x.hi]
def Ivl.ok (x:Ivl):Prop:=i64 x.ln∧i64 x.ld∧i64 x.hn∧i64 x.hd
structure End where
 (far n d:Int)
 (after:Bool)
def End.V (x:End):V:= .agg [.int .i64 x.far,.int .i64 x.n,.int .i64 x.d,.bool x.after]
def loE (x:Ivl):End:=if x.li then ⟨-1,0,0,false⟩ else ⟨0,x.ln,x.ld,x.lo⟩
def hiE (x:Ivl):End:=if x.hi then ⟨1,0,0,false⟩ else ⟨0,x.hn,x.hd,!x.ho⟩
theorem A6 {K:St→Prop} {n0:Nat} {s:St} (π:List (Nat×Nat)) (hp:KH n0 s.h.length π=true) (ho:LV s.h=true) (hK:K ⟨s.e.map λp=>(p.1,p.2.ren π),Ap π s.h⟩):∃s2,PR n0 s s2∧K s2:=
 ⟨_,.inr ⟨π,hp,ho,λn=>Dy π s.e n,rfl⟩,hK⟩
set_option maxHeartbeats 2000000 in
theorem AEd (x:Ivl):PX 303 [x.V] [(loE x).V,(hiE x).V]:=by
 obtain⟨ln,ld,hn,hd,lo,ho,li,hi⟩:=x;refine AK ASA rfl ?_;unfold AM8;rw[AB,AA];simp[eo,AY,Ivl.V];rw[AB,BO];obtain⟨R0,hR0⟩:∃R0:List D,R0=[.v (.int .i64 ln),.v (.int .i64 ld),.v (.int .i64 hn),.v (.int .i64 hd),.v (.bool lo),.v (.bool ho),.v (.bool li),.v (.bool hi)]:=⟨_,rfl⟩;obtain⟨Z,hZ⟩:∃Z:List D,Z=[.v (.int .i64 0),.v (.int .i64 0),.v (.int .i64 0),.v (.bool false)]:=⟨_,rfl⟩;obtain⟨A,hA⟩:∃A:List D,A=[.v (.int .i64 0),.v (.int .i64 ln),.v (.int .i64 ld),.v (.bool lo)]:=⟨_,rfl⟩;obtain⟨B,hB⟩:∃B:List D,B=[.v (.int .i64 0),.v (.int .i64 hn),.v (.int .i64 hd),.v (.bool !ho)]:=⟨_,rfl⟩;refine BG _ (K:=λs=>AH s.e 1= .ref 0 0∧AH s.e 2= .ref 1 0∧AH s.e 3= .ref 2 0∧
  ((AH s.e 4= .ref 3 0∧AH s.e 5= .ref 4 0∧s.h=[.cells R0,.cells Z,.cells Z,.cells A,.cells B])∨
   (AH s.e 4= .ref 4 0∧AH s.e 5= .ref 3 0∧s.h=[.cells R0,.cells Z,.cells Z,.cells B,.cells A]))) ?_ ?_
 ·rintro s ⟨f1,f2,f3,h⟩;have key:∀s:St,AH s.e 1= .ref 0 0→AH s.e 2= .ref 1 0→AH s.e 3= .ref 2 0→AH s.e 4= .ref 3 0→AH s.e 5= .ref 4 0→s.h=[.cells R0,.cells Z,.cells Z,.cells A,.cells B]→
    awp Tryz.prog GLx (.seq (.seq (.reg Q0 [1,2,3,4,5,18]) (.cond (.t 18 false) (.reg Qz [1,2,3,4,5]) .skip)) (.seq (.seq (.reg Qy [2,3,4,5,21]) (.cond (.t 21 false) (.reg Qx [2,3,4,5]) .skip)) (.seq (.regA Qw [2,3] [[],[],[0],[0,1,2]] (.take 0 (.pick (.alt 1 (.take 2 (.take 3 .done)) (.alt 2 (.take 1 (.take 3 .done)) .none))))) .ret))) (λe s=>(match e with| .exit _=>False|_=>True)∧CB s ep=some [(loE ⟨ln,ld,hn,hd,lo,ho,li,hi⟩).V,(hiE ⟨ln,ld,hn,hd,lo,ho,li,hi⟩).V]) ⟨BR s.e [1,2,3,4,5],s.h⟩:=by
   rintro s f1 f2 f3 f4 f5 fh;simp only[AB,AA,AE,Q0];simp[f1,f2,f3,f4,f5,fh,hR0];cases li<;>cases hi<;>simp[AD,AA,AF,BO,Qz,Qy,Qx,Qw,AN,loE,hiE,End.V,hA,hB,hZ]<;>refine⟨_,.inl rfl,?_⟩<;>simp[ep]
  rcases h with ⟨f4,f5,fh⟩|⟨f4,f5,fh⟩
  ·exact⟨s,.inl rfl,key s f1 f2 f3 f4 f5 fh⟩
  ·refine A6 [(3,4),(4,3)] (by rw[fh];rfl) (by rw[fh];rfl) (key _ ?_ ?_ ?_ ?_ ?_ ?_)
   ·rw[Dy,f1];rfl
   ·rw[Dy,f2];rfl
   ·rw[Dy,f3];rfl
   ·rw[Dy,f4];rfl
   ·rw[Dy,f5];rfl
   ·rw[fh,hR0,hZ,hA,hB];rfl
 ·simp[em,AN,hR0,hZ,hA,hB]
def End.b (x:End):Prop:=x.far≤1∧ -1≤x.far∧x.n≤1099511627776∧ -1099511627776≤x.n∧0≤x.d∧x.d≤1048576
def Hr (a b:End):Bool:=
 if a.far≠b.far then decide (a.far <b.far) else if a.far≠0 then false else if a.n*b.d≠b.n*a.d then decide (a.n*b.d <b.n*a.d) else !a.after&&b.after
theorem XU {a b:Int} (h1:a≤1099511627776) (h2: -1099511627776≤a) (h3:0≤b) (h4:b≤1048576):a*b≤1152921504606846976∧ -1152921504606846976≤a*b:=by
 have:=AU5 h1 h3;have:=AU5 h2 h3;omega
theorem AJW (a b:End) (ha:a.b) (hb:b.b):PX 304 [a.V,b.V] [.bool (Hr a b)]:=by
 obtain⟨fa,na,da,aa⟩:=a;obtain⟨fb,nb,db,ab⟩:=b;unfold End.b at ha hb;simp only at ha hb;have m1:=XU (a:=na) (b:=db) (by omega) (by omega) (by omega) (by omega);have m2:=XU (a:=nb) (b:=da) (by omega) (by omega) (by omega) (by omega);have w1:IntKind.i64.wrap (na*db)=na*db:=AJ;have w2:IntKind.i64.wrap (nb*da)=nb*da:=AJ;refine AK AR9 rfl ?_;unfold Hr;simp only[AM7,AB,AA,AE,ek,AY];simp only[End.V];simp[ei];by_cases h1:fa=fb
 ·subst h1;simp[AD,AA,eg];by_cases h2:fa=0
  ·subst h2;simp[AD,AA,AW,ed,w1,w2,eb];by_cases h3:na*db=nb*da
   ·rw[h3];simp[AD,AA,eZ];cases aa<;>simp[AF,O6]
   ·simp[h3,AB,AA,AF,ea,O6]
  ·simp[h2,AB,AA,AF,ef,O6]
 ·simp[h1,AB,AA,AF,eh,O6]
def BV (n d:Int):Bool:=okR n d&&decide (n≤1073741824∧ -1073741824≤n∧d≤32768)
theorem APa (n d:Int) (h1:i64 n) (h2:i64 d):PX 309 [A5 n d] [.bool (BV n d)]:=by
 refine AK AR4 rfl ?_;have hp:=(um n d h1 h2).fsp;unfold BV;simp only[AM3,AB,AA,AE,eL,AY];simp[A5]at hp ⊢;simp[eK];refine⟨_,_,hp _,?_⟩;cases okR n d with
 |false=>simp[AF,eM]
 |true=>
  by_cases b1: -1073741824≤n<;>by_cases b2:n≤1073741824<;>simp[b1,b2,AF,eM]
theorem AJV (n d:Int) (h1:i64 n) (h2:i64 d) (op inf:Bool):PX 308 [A5 n d,.bool op,.bool inf] [.bool (if inf then decide (n=0∧d=0)&& !op else BV n d)]:=by
 refine AK AR5 rfl ?_;have hp:=(APa n d h1 h2).fsp;simp only[AM4,AB,AA,AE,eP,AY];simp[A5]at hp ⊢;cases inf with
 |false=>
  simp[Qv,AD,AA,eN];refine⟨_,_,hp _,?_⟩;simp[AF,eQ]
 |true=>
  simp[Qv,AB,AA,eO];by_cases b1:n=0<;>by_cases b2:d=0<;>simp[b1,b2,V.eqL,V.eq1,AF,eQ]
theorem APd (l:List V):PX 305 [.list l] [.int .i64 (if l.length>32 then 4 else 0)]:=by
 refine AK AR8 rfl ?_;simp only[AM6,AB,AA,AE,eX,AY];simp[eW];by_cases h:32 <(l.length:Int)
 ·have h':32 <l.length:=by omega
  simp[h,h',AB,AA,AF,eV,eY]
 ·have h':¬32 <l.length:=by omega
  simp[h,h',AD,AA,AF,eU,eY]
def K8 (n d:Int) (op inf:Bool):Bool:=if inf then decide (n=0∧d=0)&& !op else BV n d
def Ej (x:Ivl):Bool:=K8 x.ln x.ld x.lo x.li&&K8 x.hn x.hd x.ho x.hi&&Hr (loE x) (hiE x)
theorem N4 {n d:Int} (h:BV n d=true):1≤d∧d≤32768∧n≤1073741824∧ -1073741824≤n:=by
 unfold BV at h;simp at h;have:=OI h.1;omega
theorem yJ {x:Ivl} (h:K8 x.ln x.ld x.lo x.li=true):(loE x).b:=by
 unfold K8 at h;unfold loE End.b;split at h
 ·rename_i hi;simp[hi]
 ·rename_i hi;have:=N4 h;simp[hi];omega
theorem yN {x:Ivl} (h:K8 x.hn x.hd x.ho x.hi=true):(hiE x).b:=by
 unfold K8 at h;unfold hiE End.b;split at h
 ·rename_i hi;simp[hi]
 ·rename_i hi;have:=N4 h;simp[hi];omega
theorem AJd (x:Ivl) (hx:x.ok):PX 258 [x.V] [.bool (Ej x)]:=by
 refine AK ASV rfl ?_;have p1:=(AJV x.ln x.ld hx.1 hx.2.1 x.lo x.li).fsp;have p2:=(AJV x.hn x.hd hx.2.2.1 hx.2.2.2 x.ho x.hi).fsp;have p3:=(AEd x).fsp;have p4:=λh1 h2=>(AJW (loE x) (hiE x) (yJ h1) (yN h2)).fsp;unfold Ej;have e1:∀n d op inf,(if inf then decide (n=0∧d=0)&& !op else BV n d)=K8 n d op inf:=λ_ _ _ _=>rfl;rw[e1]at p1 p2;generalize hl1:K8 x.ln x.ld x.lo x.li=l1 at*;generalize hl2:K8 x.hn x.hd x.ho x.hi=l2 at*;simp only[ANT,AB,AA,AE,jF,jE,AY];simp[A5,Ivl.V]at p1 p2 p3 ⊢;simp[jD];refine⟨_,_,p1 _,?_⟩;simp;cases l1 with
 |false=>simp[AB,AA,AF,RF,Uf]
 |true=>
  simp;refine⟨_,_,p2 _,?_⟩;simp;cases l2 with
  |false=>simp[AB,AA,AF,RF,Uf]
  |true=>
   simp[AD,AA,jC];refine⟨_,_,p3 _,?_⟩;have q:=p4 rfl rfl;simp[End.V]at q ⊢;refine⟨_,_,q _,?_⟩;simp[AF,Uf]
theorem At (h l:List Row) (n k:Nat) (hn:n=h.length+k):(h++l)[n]?=l[k]?:=by
 subst hn;rw[AUa (by omega)];congr 1;omega
theorem Bt (h l:List Row) (n k:Nat) (x:Row) (hn:n=h.length+k):(h++l).set n x=h++l.set k x:=by
 subst hn;rw[AVp _ _ (by omega)];congr 2;omega
@[simp high] theorem yf (h l:List Row):(h++l)[h.length]?=l[0]?:=At h l _ 0 (by omega)
@[simp high] theorem yA (h l:List Row) (x:Row):(h++l).set (h.length) x=h++l.set 0 x:=Bt h l _ 0 x (by omega)
@[simp high] theorem ye (h l:List Row):(h++l)[h.length+1]?=l[1]?:=At h l _ 1 (by omega)
@[simp high] theorem xh (h l:List Row) (x:Row):(h++l).set (h.length+1) x=h++l.set 1 x:=Bt h l _ 1 x (by omega)
@[simp high] theorem yd (h l:List Row):(h++l)[h.length+1+1]?=l[2]?:=At h l _ 2 (by omega)
@[simp high] theorem xd (h l:List Row) (x:Row):(h++l).set (h.length+1+1) x=h++l.set 2 x:=Bt h l _ 2 x (by omega)
@[simp high] theorem yc (h l:List Row):(h++l)[h.length+2]?=l[2]?:=At h l _ 2 (by omega)
@[simp high] theorem xY (h l:List Row) (x:Row):(h++l).set (h.length+2) x=h++l.set 2 x:=Bt h l _ 2 x (by omega)
@[simp high] theorem ya (h l:List Row):(h++l)[h.length+1+1+1]?=l[3]?:=At h l _ 3 (by omega)
@[simp high] theorem xX (h l:List Row) (x:Row):(h++l).set (h.length+1+1+1) x=h++l.set 3 x:=Bt h l _ 3 x (by omega)
@[simp high] theorem yZ (h l:List Row):(h++l)[h.length+3]?=l[3]?:=At h l _ 3 (by omega)
@[simp high] theorem xU (h l:List Row) (x:Row):(h++l).set (h.length+3) x=h++l.set 3 x:=Bt h l _ 3 x (by omega)
@[simp high] theorem yY (h l:List Row):(h++l)[h.length+1+1+1+1]?=l[4]?:=At h l _ 4 (by omega)
@[simp high] theorem xR (h l:List Row) (x:Row):(h++l).set (h.length+1+1+1+1) x=h++l.set 4 x:=Bt h l _ 4 x (by omega)
@[simp high] theorem yX (h l:List Row):(h++l)[h.length+4]?=l[4]?:=At h l _ 4 (by omega)
@[simp high] theorem xP (h l:List Row) (x:Row):(h++l).set (h.length+4) x=h++l.set 4 x:=Bt h l _ 4 x (by omega)
@[simp high] theorem yW (h l:List Row):(h++l)[h.length+1+1+1+1+1]?=l[5]?:=At h l _ 5 (by omega)
@[simp high] theorem xM (h l:List Row) (x:Row):(h++l).set (h.length+1+1+1+1+1) x=h++l.set 5 x:=Bt h l _ 5 x (by omega)
@[simp high] theorem yV (h l:List Row):(h++l)[h.length+5]?=l[5]?:=At h l _ 5 (by omega)
@[simp high] theorem xJ (h l:List Row) (x:Row):(h++l).set (h.length+5) x=h++l.set 5 x:=Bt h l _ 5 x (by omega)
@[simp high] theorem yU (h l:List Row):(h++l)[h.length+1+1+1+1+1+1]?=l[6]?:=At h l _ 6 (by omega)
@[simp high] theorem w9 (h l:List Row) (x:Row):(h++l).set (h.length+1+1+1+1+1+1) x=h++l.set 6 x:=Bt h l _ 6 x (by omega)
@[simp high] theorem yT (h l:List Row):(h++l)[h.length+6]?=l[6]?:=At h l _ 6 (by omega)
@[simp high] theorem w8 (h l:List Row) (x:Row):(h++l).set (h.length+6) x=h++l.set 6 x:=Bt h l _ 6 x (by omega)
@[simp high] theorem yS (h l:List Row):(h++l)[h.length+1+1+1+1+1+1+1]?=l[7]?:=At h l _ 7 (by omega)
@[simp high] theorem wz (h l:List Row) (x:Row):(h++l).set (h.length+1+1+1+1+1+1+1) x=h++l.set 7 x:=Bt h l _ 7 x (by omega)
@[simp high] theorem yR (h l:List Row):(h++l)[h.length+7]?=l[7]?:=At h l _ 7 (by omega)
@[simp high] theorem wy (h l:List Row) (x:Row):(h++l).set (h.length+7) x=h++l.set 7 x:=Bt h l _ 7 x (by omega)
@[simp high] theorem yQ (h l:List Row):(h++l)[h.length+1+1+1+1+1+1+1+1]?=l[8]?:=At h l _ 8 (by omega)
@[simp high] theorem wx (h l:List Row) (x:Row):(h++l).set (h.length+1+1+1+1+1+1+1+1) x=h++l.set 8 x:=Bt h l _ 8 x (by omega)
@[simp high] theorem yP (h l:List Row):(h++l)[h.length+8]?=l[8]?:=At h l _ 8 (by omega)
@[simp high] theorem ww (h l:List Row) (x:Row):(h++l).set (h.length+8) x=h++l.set 8 x:=Bt h l _ 8 x (by omega)
section
variable {P:Program} {GL:AX}
theorem Aa {c:AC} {Q:AExit→St→Prop} (n:Nat) (I:Nat→St→Prop) {s:St} (h0:I 0 s)
  (h:∀k s,k≤n→I k s→awp P GL c (λe s'=>match e with| .normal=>k <n∧I (k+1) s'|e=>Q e s') s):awp P GL (.loop c) Q s:=by
 refine⟨λm s=>∃k,k≤n∧m=n-k∧I k s,⟨n,0,AU6 _,rfl,h0⟩,?_⟩;rintro m s ⟨k,hk,rfl,hi⟩;refine Ag c ?_ (h k s hk hi);intro e s' h;cases e with
 |normal=>obtain⟨hlt,hi'⟩:=h;exact⟨n-(k+1),by omega,k+1,hlt,rfl,hi'⟩
 |exit i=>exact h
 |ret=>exact h
end
def C8 (l:List Ivl) (k:Nat):Bool:=
 match l[k]? with
 |none=>true
 |some x=> !Ej x||(match k with|0=>false|j+1=>match l[j]? with|none=>true|some y=> !Hr (hiE y) (loE x))
def Fn (l:List Ivl):Int:=if (List.range l.length).any (C8 l) then 1 else if l.length>32 then 4 else 0
theorem Em {n k:Nat} {f:Nat→Bool} (hk:k <n) (h:f k=true):(List.range n).any f=true:=by
 rw[AWf];exact⟨k,by simpa using hk,h⟩
theorem GS {n:Nat} {f:Nat→Bool} (h:∀k <n,f k=false):(List.range n).any f=false:=by
 rw[AVg];intro k hk;simpa using h k (by simpa using hk)
theorem TV {x:Ivl} (h:Ej x=true):(loE x).b∧(hiE x).b:=by
 unfold Ej at h;simp at h;exact⟨yJ h.1.1,yN h.1.2⟩
theorem AP7 (l:List Ivl) (hl:∀x∈l,x.ok) (hn:l.length≤2^40):PX 246 [.list (l.map Ivl.V)] [.int .i64 (Fn l)]:=by
 refine AK ASg rfl ?_;simp only[ANc,AB,AA,AG,jv,ju,AY];simp;refine Aa l.length (λk s=>s.e=[(0,.v (.list (l.map Ivl.V))),(9,.v (.list (l.map Ivl.V))),(10,.v (.int .i64 l.length)),(11,.v (.int .i64 k))]∧∀j <k,C8 l j=false) ⟨rfl,by omega⟩ ?_;rintro k ⟨se,sh⟩ hk ⟨he,hg⟩;simp only at he;subst he;simp only[jw,AB,AA,AG,AE,jt];simp;by_cases h1:k <l.length
 ·obtain⟨x,hx⟩:∃x,l[k]?=some x:=⟨_,AT2 h1⟩;have hxm:=AT3 hx;have hw:IntKind.i64.wrap ((k:Int)+1)=k+1:=AJ;have p1:=(AJd x (hl x hxm)).fsp;rw[if_pos (by omega),AD];simp only[AA,js];simp[Ivl.V]at p1;simp[hx,Ivl.V,AN,jr];refine⟨_,_,p1 _,?_⟩;simp;cases hgx:Ej x with
  |false=>
   have hb:C8 l k=true:=by unfold C8;rw[hx];simp[hgx]
   simp[AB,AA,AF,jq,Ul];unfold Fn;rw[Em h1 hb];rfl
  |true=>
   simp[AD,AA,jp];cases k with
   |zero=>
    have hb:C8 l 0=false:=by unfold C8;rw[hx];simp[hgx]
    simp[AD,AA,Mu];simp at hw;simp[hw,h1];exact hb
   |succ j=>
    obtain⟨y,hy⟩:∃y,l[j]?=some y:=⟨_,AT2 (by omega)⟩;have hgy:Ej y=true:=by
     have:=hg j (by omega);unfold C8 at this;rw[hy]at this;simp at this;exact this.1
    have p2:=(AEd x).fsp;have p3:=(AEd y).fsp;have p4:=(AJW (hiE y) (loE x) (TV hgy).2 (TV hgx).1).fsp;have hw2:IntKind.i64.wrap (j:Int)=j:=AJ;simp[Ivl.V,End.V]at p2 p3 p4;simp[AB,AA,jo];refine⟨_,_,p2 _,?_⟩;simp[AN,jn,hw2,hy,Ivl.V];refine⟨_,_,p3 _,?_⟩;simp[AN,jm];refine⟨_,_,p4 _,?_⟩;simp;cases hle:Hr (hiE y) (loE x)with
    |false=>
     have hb:C8 l (j+1)=true:=by unfold C8;rw[hx];simp[hgx,hy,hle]
     simp[AE,AB,AA,AF,Uk,Ul];unfold Fn;rw[Em h1 hb];rfl
    |true=>
     have hb:C8 l (j+1)=false:=by unfold C8;rw[hx];simp[hgx,hy,hle]
     simp at hw;simp[AE,AD,AA,Mu,hw,h1];intro i hi;rcases AUS i (j+1)with h|h
     ·exact hg i h
     ·have:i=j+1:=by omega
      subst this;exact hb
 ·have hk2:k=l.length:=by omega
  subst hk2;rw[if_neg (by omega),AM];have p5:=(APd (l.map Ivl.V)).fsp;simp at p5;simp[Uj];refine⟨_,_,p5 _,?_⟩;simp[AF,Ul];unfold Fn;rw[GS hg];simp
end Go.Va
