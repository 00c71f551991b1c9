/- Part 3 of the proof that ExtractBetter returns true for every input and leaves its arguments alone. Condition: the variable that the row lists holds what the text of the program lays. Texts joined here: VaS VcA VcB VcC VcD VcE VcF VcG VcH VcI VcJ VcK VcL Vt VaT VwE VwB VwC VwF VwG VwH VwI. -/
import Derived.KernelRfl
import Derived.Test.YtopldfpkgbkomaaGreatDoorL02
set_option linter.all false
set_option maxRecDepth 100000
namespace Go.Va
structure Ev where
 F:Nat→List D→List Row→Lp→Option (List D×List Row×Lp)
 Pf:Nat→List V→Option (List V)
 C:AC→ES→Option (List (AExit×ES))
abbrev Tbl:=Nat→Option (Nat×AC×List AR)
def GB {α β:Type} (f:α→Option (List β)):List α→Option (List β)
 |[]=>some []
 |x::xs=>match f x,GB f xs with
  |some ys,some zs=>some (ys++zs)
  |_,_=>none
def L9 {α β:Type} (f:α→Option β):List α→Option (List β)
 |[]=>some []
 |x::xs=>match f x,L9 f xs with
  |some y,some zs=>some (y::zs)
  |_,_=>none
def LJ {α:Type} (eq:α→α→Bool):List α→Option α
 |[]=>none
 |x::xs=>if xs.all (eq x) then some x else none
theorem Ga {α β:Type} {f:α→Option (List β)}:∀ {xs:List α} {ys:List β},GB f xs=some ys→∀x∈xs,∃zs,f x=some zs∧∀z∈zs,z∈ys
 |[],ys,_,x,hx=>by simp at hx
 |x::xs,ys,h,y,hy=>by
  simp only[GB]at h;split at h
  ·rename_i asx bs ha hb;simp only[ATm]at h;subst h;rcases ATt.1 hy with rfl|hy
   ·exact⟨asx,ha,λz hz=>AVr _ hz⟩
   ·obtain⟨zs,h1,h2⟩:=Ga hb y hy;exact⟨zs,h1,λz hz=>AVV _ (h2 z hz)⟩
  ·cases h
theorem HY {α β:Type} {f:α→Option β}:∀ {xs:List α} {ys:List β},L9 f xs=some ys→∀x∈xs,∃z,f x=some z∧z∈ys
 |[],ys,_,x,hx=>by simp at hx
 |x::xs,ys,h,y,hy=>by
  simp only[L9]at h;split at h
  ·rename_i a bs ha hb;simp only[ATm]at h;subst h;rcases ATt.1 hy with rfl|hy
   ·exact⟨a,ha,by simp⟩
   ·obtain⟨z,h1,h2⟩:=HY hb y hy;exact⟨z,h1,by simp[h2]⟩
  ·cases h
theorem J9 {α β:Type} {f:α→Option β}:∀ {xs:List α} {ys:List β},L9 f xs=some ys→∀y∈ys,∃x∈xs,f x=some y
 |[],ys,h,y,hy=>by simp only[L9,ATm]at h;subst h;simp at hy
 |x::xs,ys,h,y,hy=>by
  simp only[L9]at h;split at h
  ·rename_i a bs ha hb;simp only[ATm]at h;subst h;rcases ATt.1 hy with rfl|hy
   ·exact⟨x,by simp,ha⟩
   ·obtain⟨z,h1,h2⟩:=J9 hb y hy;exact⟨z,by simp[h1],h2⟩
  ·cases h
theorem IU {α:Type} {eq:α→α→Bool} {xs:List α} {x:α} (h:LJ eq xs=some x):x∈xs∧∀y∈xs,y=x∨eq x y=true:=by
 cases xs with
 |nil=>simp[LJ]at h
 |cons a xs=>
  simp only[LJ]at h;split at h
  ·rename_i hall;simp only[ATm]at h;subst h;refine⟨by simp,λy hy=>?_⟩;rcases ATt.1 hy with rfl|hy
   ·exact .inl rfl
   ·exact .inr (AT4.1 hall y hy)
  ·cases h
def Vt (t:Lp) (r:Nat):AExit→Bool×Lp
 | .normal=>(true,t.tag r .ready)
 | .ret=>(false,t.tag r (.done none))
 | .exit i=>(false,t.tag r (.done (some i)))
def yEq (x y:Bool×List Row×Lp):Bool:=x.1==y.1&&JR Row.beq x.2.1 y.2.1&&Lp.beq x.2.2 y.2.2
def fEq (x y:List D×List Row×Lp):Bool:=D.beqs x.1 y.1&&JR Row.beq x.2.1 y.2.1&&Lp.beq x.2.2 y.2.2
def evY (E:Ev) (r:Nat) (args:List D) (h:List Row) (t:Lp):Option (Bool×List Row×Lp):=
 match t.get r with
 |some (.ready,l)=>if args.length=l.ps.length then
   match E.C l.asg ⟨FZ l.e l.ps args,h,t⟩with
   |some [(.normal,s1)]=>match s1.t.get r with
    |some (.ready,_)=>match E.C l.body ⟨s1.e,s1.h,s1.t.tag r .busy⟩with
     |some o2=>match L9 (λo=>match o.2.t.get r with
       |some (.busy,_)=>some ((Vt o.2.t r o.1).1,o.2.h,(Vt o.2.t r o.1).2)
       |_=>none) o2 with
      |some rs=>LJ yEq rs
      |none=>none
     |none=>none
    |_=>none
   |_=>none
  else none
 |_=>none
def tC:List D→Option (List V)
 |[]=>some []
 | .v x::ds=>match tC ds with
  |some xs=>some (x::xs)
  |none=>none
 |_=>none
theorem Ot:∀ {ds:List D} {vs:List V},tC ds=some vs→ds=vs.map .v
 |[],vs,h=>by simp only[tC,ATm]at h;subst h;rfl
 |d::ds,vs,h=>by
  cases d<;>simp only[tC,reduceCtorEq]at h
  split at h
  ·rename_i xs hxs;simp only[ATm]at h;subst h;simp only[ATz,Ot hxs]
  ·cases h
def Ib (E:Ev) (f:Nat) (args:List D) (h:List Row) (t:Lp):Option (List D×List Row×Lp):=
 match tC args with
 |some vs=>match E.Pf f vs with
  |some rets=>some (rets.map .v,h,t)
  |none=>E.F f args h t
 |none=>E.F f args h t
def Wo (E:Ev) (d:Option Nat) (f:Opd) (args:List Opd) (s:ES):Option (List ES):=
 match f.ev s.e with
 | .yld r=>(evY E r (Ar s.e args) s.h s.t).map λx=>[⟨BN s.e d (.v (.bool x.1)),x.2.1,x.2.2⟩]
 | .meth fid fs=>(Ib E fid (fs++Ar s.e args) s.h s.t).map λx=>[⟨BN s.e d (BQ x.1),x.2.1,x.2.2⟩]
 |fd=>match DR fd with
  |some (fid,caps)=>(Ib E fid (Ar s.e args++caps) s.h s.t).map λx=>[⟨BN s.e d (BQ x.1),x.2.1,x.2.2⟩]
  |none=>none
def evI (E:Ev) (i:AI) (s:ES):Option (List ES):=
 match i with
 | .call d f args=>Wo E d f args s
 | .callF d f args=>Wo E d f args s
 | .callC d f args=>Wo E d f args s
 | .nilS d ne x=>match (x.ev s.e).copy with
  | .v (.list [])| .nil _ _=>some [⟨(d,.v (.bool (true != ne)))::s.e,s.h,s.t⟩,⟨(d,.v (.bool (false != ne)))::s.e,s.h,s.t⟩]
  | .v (.list (_::_))=>some [⟨(d,.v (.bool (false != ne)))::s.e,s.h,s.t⟩]
  |_=>none
 |i=>(i.step ⟨s.e,s.h⟩).map λs'=>[⟨s'.e,s'.h,s.t⟩]
def evG (E:Ev) (x:GI) (s:ES):Option (List ES):=
 match x.g with
 |none=>evI E x.i s
 |some (t,want)=>match AH s.e t with
  | .v (.bool b)=>if b=want then evI E x.i s else some [⟨BN s.e x.i.dst (.tup []),s.h,s.t⟩]
  | .tup []=>some [⟨BN s.e x.i.dst (.tup []),s.h,s.t⟩]
  |_=>none
def LX (E:Ev):List GI→ES→Option (List ES)
 |[],s=>some [s]
 |x::xs,s=>match evG E x s with
  |some ss=>GB (LX E xs) ss
  |none=>none
def uB (E:Ev) (t:Lp) (fd:D) (args:List D) (h:List Row):Option (List D×List Row):=
 match (match fd with
  | .yld r=>(evY E r args h t).map λx=>([.v (.bool x.1)],x.2)
  | .meth fid fs=>Ib E fid (fs++args) h t
  |fd=>match DR fd with
   |some (fid,caps)=>Ib E fid (args++caps) h t
   |none=>none:Option (List D×List Row×Lp))with
 |some x=>if Lp.beq t x.2.2 then some (x.1,x.2.1) else none
 |none=>none
def uA (E:Ev) (t:Lp) (i:AI) (s:St):Option St:=
 match i with
 | .callF d f args=>(uB E t (f.ev s.e) (Ar s.e args) s.h).map λx=>⟨BN s.e d (BQ x.1),x.2⟩
 | .callC d f args=>match uB E t (f.ev s.e) (Ar s.e args) s.h with
  |some x=>if JR Row.beq (x.2.take s.h.length) s.h then some ⟨BN s.e d (BQ x.1),x.2⟩ else none
  |none=>none
 | .call d f args=>match (f.ev s.e).toV,Gr s.e args with
  |some (.func fid caps),some vs=>(E.Pf fid (vs++caps)).map λrets=>⟨BN s.e d (HS rets),s.h⟩
  |_,_=>none
 |i=>i.step s
def Wn (E:Ev) (t0:Lp) (x:GI) (s:St):Option St:=
 match x.g with
 |none=>uA E t0 x.i s
 |some (t,want)=>match AH s.e t with
  | .v (.bool b)=>if b=want then uA E t0 x.i s else some ⟨BN s.e x.i.dst (.tup []),s.h⟩
  | .tup []=>some ⟨BN s.e x.i.dst (.tup []),s.h⟩
  |_=>none
def evJ (E:Ev) (t0:Lp):List GI→St→Option St
 |[],s=>some s
 |x::xs,s=>match Wn E t0 x s with
  |some s1=>evJ E t0 xs s1
  |none=>none
def evT (E:Ev) (t0:Lp) (is:List GI):AT→St→Option (List St)
 | .done,s=>some [s]
 | .take i t,s=>match Wn E t0 (is.getD i default) s with
  |some s1=>evT E t0 is t s1
  |none=>none
 | .pick c,s=>evT E t0 is c s
 | .alt i t r,s=>match Wn E t0 (is.getD i default) s with
  |some s1=>match evT E t0 is t s1,evT E t0 is r s with
   |some a,some b=>some (a++b)
   |_,_=>none
  |none=>none
 | .none,_=>some []
def ACz (o s1:St):List (Nat×Nat):=s1.e.filterMap λp=>match p.2,AH o.e p.1 with
 | .ref a _,.ref b _=>some (b,a)
 | .sref a _,.sref b _=>some (b,a)
 | .mref a,.mref b=>some (b,a)
 |_,_=>none
def SV (π:List (Nat×Nat)) (s:St):St:=⟨s.e.map λp=>(p.1,p.2.ren π),Aq π s.h⟩
def OP (keep:List Nat) (a b:St):Bool:=D.beqs ((BL a.e keep).map (·.2)) ((BL b.e keep).map (·.2))&&JR Row.beq a.h b.h
def tD (n0:Nat) (t:Lp) (keep:List Nat) (o s1:St):Bool:=
 OP keep o s1||(t.isEmpty&&(let π:=ACz o s1;Jx n0 o.h.length π&&LL o.h&&OP keep (SV π o) s1))
def E7 (n0:Nat) (t:Lp) (keep:List Nat):List St→List St
 |[]=>[]
 |s1::ss=>s1::ss.filter λo=> !tD n0 t keep o s1
def evC (E:Ev) (ac:AC) (s:ES):Option (List (AExit×ES)):=
 match ac with
 | .skip=>some [(.normal,s)]
 | .reg ops keep=>(LX E ops s).map λss=>ss.map λs'=>(.normal,⟨BL s'.e keep,s'.h,s'.t⟩)
 | .regD ops keep _=>(evJ E s.t ops ⟨s.e,s.h⟩).map λs'=>[(.normal,⟨BL s'.e keep,s'.h,s.t⟩)]
 | .regA ops keep _ t=>(evT E s.t ops t ⟨s.e,s.h⟩).map λss=>(E7 s.h.length s.t keep ss).map λs'=>(.normal,⟨BL s'.e keep,s'.h,s.t⟩)
 | .regV _ _ _=>none
 | .seq a b=>match E.C a s with
  |some os=>GB (λo=>match o.1 with| .normal=>E.C b o.2|e=>some [(e,o.2)]) os
  |none=>none
 | .cond x a b=>match x.ev s.e with
  | .v (.bool t)=>if t then E.C a s else E.C b s
  |_=>none
 | .block id c=>(E.C c s).map λos=>os.map λo=>match o.1 with| .exit id'=>if id'=id then (.normal,o.2) else o|_=>o
 | .loop c=>match E.C c s with
  |some os=>GB (λo=>match o.1 with| .normal=>E.C (.loop c) o.2|e=>some [(e,o.2)]) os
  |none=>none
 | .never=>none
 | .exit id=>some [(.exit id,s)]
 | .ret=>some [(.ret,s)]
 | .rangeF q ps asg body=>match DR (q.ev s.e)with
  |some (fid,caps)=>match E.F fid (.yld s.h.length::caps) (s.h++[.dead]) ((s.h.length,.ready,⟨cpE s.e,ps,asg,body⟩)::s.t)with
   |some (_,h',x::t')=>match x.2.1 with
    | .ready=>some [(.normal,⟨s.e,h',t'⟩)]
    | .busy=>none
    | .done none=>some [(.ret,⟨s.e,h',t'⟩)]
    | .done (some i)=>some [(.exit i,⟨s.e,h',t'⟩)]
   |_=>none
  |none=>none
abbrev Ow:=Nat→List D→List Row→Option (List D×List Row)
def Kv (n:Nat) (x:List D×List Row×Lp):List D×List Row×Lp:=
 if D.lts n x.1&&(x.2.1.take n).all (Row.lt n) then (x.1,Kz n x.2.1,x.2.2) else x
def evF (T:Tbl) (Pr:Ow) (E:Ev) (f:Nat) (args:List D) (h:List Row) (t:Lp):Option (List D×List Row×Lp):=
 match T f with
 |some (n,ac,rs)=>if args.length=n then
   match E.C ac ⟨AQ args,h,t⟩with
   |some os=>match L9 (λo=>match o.1 with
     | .exit _=>none
     |_=>(DW ⟨o.2.e,o.2.h⟩ rs).map λr=>Kv h.length (r,o.2.h,o.2.t)) os with
    |some xs=>LJ fEq xs
    |none=>none
   |none=>none
  else none
 |none=>(Pr f args h).map λx=>(x.1,h++x.2,t)
def evP (T:Tbl) (E:Ev) (f:Nat) (vs:List V):Option (List V):=
 match T f with
 |some (n,ac,rs)=>if vs.length=n then
   match E.C ac ⟨AY vs,[],[]⟩with
   |some os=>match L9 (λo=>match o.1 with
     | .exit _=>none
     |_=>B8 ⟨o.2.e,o.2.h⟩ rs) os with
    |some xs=>LJ V.beqs xs
    |none=>none
   |none=>none
  else none
 |none=>none
def ev (T:Tbl) (Pr:Ow):Nat→Ev
 |0=>⟨λ_ _ _ _=>none,λ_ _=>none,λ_ _=>none⟩
 |n+1=>⟨evF T Pr (ev T Pr n),evP T (ev T Pr n),evC (ev T Pr n)⟩
section
variable (P:Program) (GL:AV)
def ES.real (s:ES):St:=⟨s.e,s.t.ins P GL s.h⟩
structure Snd (E:Ev):Prop where
 F:∀ {f args h t r},E.F f args h t=some r→OKT t h→FSp P GL f args (t.ins P GL h) r.1 (r.2.2.ins P GL r.2.1)∧t.kin r.2.2∧OKT r.2.2 r.2.1
 Pf:∀ {f vs rets},E.Pf f vs=some rets→PSp P GL f vs rets
 K:∀ {ac s os},E.C ac s=some os→OKT s.t s.h→∀o∈os,s.t.kin o.2.t∧OKT o.2.t o.2.h
 C:∀ {ac s os},E.C ac s=some os→OKT s.t s.h→awp P GL ac (λe s'=>∃o∈os,e=o.1∧s'=o.2.real P GL) (s.real P GL)
end
section
variable {P:Program} {GL:AV} {E:Ev} {T:Tbl} {Pr:Ow}
theorem Lx {h h':List Row} (hb:JR Row.beq h h'=true):h=h':=Jh (λ_ _ h=>Row.beq_eq h) hb
theorem Jj (t:Lp) (r:Nat) (e:AExit):t.kin (Vt t r e).2:=by cases e<;>exact Lp.kin_tag _ _ _
theorem LW (hE:Snd P GL E) {r:Nat} {args:List D} {h:List Row} {t:Lp} {x:Bool×List Row×Lp} (he:evY E r args h t=some x) (hk:OKT t h):
  YSp P GL r args (t.ins P GL h) x.1 (x.2.2.ins P GL x.2.1)∧t.kin x.2.2∧OKT x.2.2 x.2.1:=by
 unfold evY at he;split at he
 ·rename_i l Ba;split at he
  ·rename_i hlen;split at he
   ·rename_i s1 h1;split at he
    ·rename_i l1 hget1;split at he
     ·rename_i o2 h2;split at he
      ·rename_i rs hrs;obtain⟨hmem,hall⟩:=IU he;have hlt:r <h.length:=hk.lt (JY t Ba);have hasg:=hE.C h1 hk;obtain⟨hk1,hok1⟩:=hE.K h1 hk (.normal,s1) (by simp);simp only at hk1 hok1;have hl1:l1=l:=(MG hk1 Ba hget1).symm;subst hl1;have hokb:OKT (s1.t.tag r .busy) s1.h:=hok1.kin (Lp.kin_tag _ _ _);have hbody:=hE.C h2 hokb;have hK:=hE.K h2 hokb;have hkin:∀o∈o2,t.kin o.2.t∧OKT o.2.t o.2.h:=λo ho=>⟨(hk1.trans (Lp.kin_tag _ _ _)).trans (hK o ho).1,(hK o ho).2⟩;have hkx:t.kin x.2.2∧OKT x.2.2 x.2.1:=by
        obtain⟨o,ho,hz⟩:=J9 hrs x hmem;split at hz
        ·simp only[ATm]at hz;subst hz;exact⟨(hkin o ho).1.trans (Jj _ _ _),(hkin o ho).2.kin (Jj _ _ _)⟩
        ·cases hz
       have hend:∀o∈o2,∃lb,o.2.t.get r=some (.busy,lb)∧lb=l1∧(Vt o.2.t r o.1).1=x.1∧o.2.h=x.2.1∧(Vt o.2.t r o.1).2=x.2.2:=by
        intro o ho;obtain⟨z,hz,hzm⟩:=HY hrs o ho;split at hz
        ·rename_i lb hgb;simp only[ATm]at hz;subst hz;refine⟨lb,hgb,(MG (hkin o ho).1 Ba hgb).symm,?_⟩;rcases hall _ hzm with rfl|heq
         ·exact⟨rfl,rfl,rfl⟩
         ·simp only[yEq,ATn,beq_iff_eq]at heq;exact⟨heq.1.1.symm,(Lx heq.1.2).symm,(Lp.beq_eq hkx.1 ((hkin o ho).1.trans (Jj _ _ _)) heq.2).symm⟩
        ·cases hz
       refine⟨?_,hkx⟩;refine Ci (Hi t hlt Ba) hlen (AX _ ?_ hasg);rintro e s' ⟨o,ho,rfl,rfl⟩;simp only[ATy]at ho;subst ho;have hlt1:r <s1.h.length:=hok1.lt (JY _ hget1);refine⟨rfl,Hi _ hlt1 hget1,?_⟩;have e1:(s1.t.tag r .busy).ins P GL s1.h=(s1.t.ins P GL s1.h).set r (Ao P GL .busy l1.e l1.ps l1.asg l1.body):=MD _ hok1.nod hget1;simp only[ES.real,←e1];refine AX _ ?_ hbody;rintro e s' ⟨o,ho,rfl,rfl⟩;obtain⟨lb,hgb,rfl,q1,q2,q3⟩:=hend o ho;have hok:=(hkin o ho).2;have hlt2:r <o.2.h.length:=hok.lt (JY _ hgb);refine⟨Hi _ hlt2 hgb,?_⟩;rw[←q1,←q2,←q3];cases o.1<;>exact⟨rfl,MD _ hok.nod hgb⟩
      ·cases he
     ·cases he
    ·cases he
   ·cases he
  ·cases he
 ·cases he
theorem D4 (hE:Snd P GL E) {f:Nat} {args:List D} {h:List Row} {t:Lp} {r:List D×List Row×Lp} (he:Ib E f args h t=some r) (hk:OKT t h):
  FSp P GL f args (t.ins P GL h) r.1 (r.2.2.ins P GL r.2.1)∧t.kin r.2.2∧OKT r.2.2 r.2.1:=by
 unfold Ib at he;split at he
 ·rename_i vs hvs;split at he
  ·rename_i rets hr;simp only[ATm]at he;subst he;rw[Ot hvs];exact⟨(hE.Pf hr).fsp _,Lp.kin.refl _,hk⟩
  ·exact hE.F he hk
 ·exact hE.F he hk
theorem G3 (hE:Snd P GL E) {d:Option Nat} {f:Opd} {args:List Opd} {s:ES} {os:List ES} (he:Wo E d f args s=some os) (hk:OKT s.t s.h):
  (∀o∈os,s.t.kin o.t∧OKT o.t o.h)∧∀K:St→Prop,(∀o∈os,K (o.real P GL))→Aj P GL d f args K (s.real P GL):=by
 unfold Wo at he;split at he
 ·rename_i r hf;simp only[ATv]at he;obtain⟨x,hx,rfl⟩:=he;obtain⟨h1,h2,h3⟩:=LW hE hx hk;refine⟨λo ho=>by simp only[ATy]at ho;subst ho;exact⟨h2,h3⟩,λK hK=>?_⟩;have hf':f.ev (s.real P GL).e= .yld r:=hf;simp only[Aj,hf'];have hK':=hK _ (ATy.2 rfl);exact⟨x.1,_,h1,hK'⟩
 ·rename_i fid fs hf;simp only[ATv]at he;obtain⟨x,hx,rfl⟩:=he;obtain⟨h1,h2,h3⟩:=D4 hE hx hk;refine⟨λo ho=>by simp only[ATy]at ho;subst ho;exact⟨h2,h3⟩,λK hK=>?_⟩;have hf':f.ev (s.real P GL).e= .meth fid fs:=hf;simp only[Aj,hf'];have hK':=hK _ (ATy.2 rfl);exact⟨x.1,_,h1,hK'⟩
 ·rename_i hny hnm;split at he
  ·rename_i fid caps hfn;simp only[ATv]at he;obtain⟨x,hx,rfl⟩:=he;obtain⟨h1,h2,h3⟩:=D4 hE hx hk;refine⟨λo ho=>by simp only[ATy]at ho;subst ho;exact⟨h2,h3⟩,λK hK=>?_⟩;simp only[Aj];split
   ·rename_i r hr;exact absurd hr (hny r)
   ·rename_i a b hr;exact absurd hr (hnm a b)
   ·have hfn':DR (f.ev (s.real P GL).e)=some (fid,caps):=hfn;simp only[hfn'];have hK':=hK _ (ATy.2 rfl);exact⟨x.1,_,h1,hK'⟩
  ·cases he
theorem LY (hE:Snd P GL E) {i:AI} {s:ES} {os:List ES} (he:evI E i s=some os) (hk:OKT s.t s.h):
  (∀o∈os,s.t.kin o.t∧OKT o.t o.h)∧∀K:St→Prop,(∀o∈os,K (o.real P GL))→DQ P GL i K (s.real P GL):=by
 by_cases hc:∃d f args,i= .call d f args∨i= .callF d f args∨i= .callC d f args
 ·obtain⟨d,f,args,rfl|rfl|rfl⟩:=hc
  ·exact G3 hE he hk
  ·exact G3 hE he hk
  ·exact G3 hE he hk
 ·by_cases hn:∃d ne x,i= .nilS d ne x
  ·obtain⟨d,ne,x,rfl⟩:=hn;simp only[evI]at he;have hx:∀(s':ES),(x.ev (ES.real P GL s').e)=x.ev s'.e:=λ_=>rfl;split at he<;>simp only[ATm,reduceCtorEq]at he<;>subst he
   all_goals
    rename_i hcp;refine⟨λo ho=>?_,λK hK=>?_⟩
    ·simp only[ATt,AT2,or_false]at ho
     first
      |(rcases ho with rfl|rfl<;>exact⟨Lp.kin.refl _,hk⟩)
      |(subst ho;exact⟨Lp.kin.refl _,hk⟩)
    ·simp only[DQ,hx,hcp]
     first
      |(have h1:=hK _ (AWE ..)
        have h2:=hK _ (AVI _ (AWE ..));exact⟨h1,h2⟩)
      |(have h1:=hK _ (AWE ..)
        exact h1)
  ·have hs:evI E i s=(i.step ⟨s.e,s.h⟩).map λs'=>[⟨s'.e,s'.h,s.t⟩]:=by
    unfold evI;split
    ·exact absurd ⟨_,_,_,.inl rfl⟩ hc
    ·exact absurd ⟨_,_,_,.inr (.inl rfl)⟩ hc
    ·exact absurd ⟨_,_,_,.inr (.inr rfl)⟩ hc
    ·exact absurd ⟨_,_,_,rfl⟩ hn
    ·rfl
   rw[hs]at he;simp only[ATv]at he;obtain⟨s',hs',rfl⟩:=he;obtain⟨h1,h2⟩:=LA (P:=P) (GL:=GL) hk hs';refine⟨λo ho=>by simp only[ATy]at ho;subst ho;exact⟨Lp.kin.refl _,h2⟩,λK hK=>?_⟩;unfold DQ;split
   ·exact absurd ⟨_,_,_,.inl rfl⟩ hc
   ·exact absurd ⟨_,_,_,.inr (.inl rfl)⟩ hc
   ·exact absurd ⟨_,_,_,.inr (.inr rfl)⟩ hc
   ·cases hs'
   ·cases hs'
   ·cases hs'
   ·cases hs'
   ·cases hs'
   ·exact absurd ⟨_,_,_,rfl⟩ hn
   ·have hK':=hK _ (ATy.2 rfl);simp only[ES.real,h1];exact hK'
theorem VS (hE:Snd P GL E) {x:GI} {s:ES} {os:List ES} (he:evG E x s=some os) (hk:OKT s.t s.h):
  (∀o∈os,s.t.kin o.t∧OKT o.t o.h)∧∀K:St→Prop,(∀o∈os,K (o.real P GL))→DU P GL x K (s.real P GL):=by
 unfold evG at he;split at he
 ·rename_i hg;obtain⟨h1,h2⟩:=LY hE he hk;refine⟨h1,λK hK=>?_⟩;simp only[DU,hg];exact h2 K hK
 ·rename_i t want hg;have skip:some [(⟨BN s.e x.i.dst (.tup []),s.h,s.t⟩:ES)]=some os→(∀o∈os,s.t.kin o.t∧OKT o.t o.h)∧∀K:St→Prop,(∀o∈os,K (o.real P GL))→K ⟨BN s.e x.i.dst (.tup []),s.t.ins P GL s.h⟩:=by
   intro h;simp only[ATm]at h;subst h;exact⟨λo ho=>by simp only[ATy]at ho;subst ho;exact⟨Lp.kin.refl _,hk⟩,λK hK=>by have hK':=hK _ (ATy.2 rfl);exact hK'⟩
  have hfe:AH (s.real P GL).e t=AH s.e t:=rfl;split at he
  ·rename_i b hb;split at he
   ·rename_i hbw;obtain⟨h1,h2⟩:=LY hE he hk;refine⟨h1,λK hK=>?_⟩;simp only[DU,hg,hfe,hb,hbw,if_true];exact h2 K hK
   ·rename_i hbw;obtain⟨h1,h2⟩:=skip he;refine⟨h1,λK hK=>?_⟩;simp only[DU,hg,hfe,hb,hbw,if_false];exact h2 K hK
  ·rename_i hb;obtain⟨h1,h2⟩:=skip he;refine⟨h1,λK hK=>?_⟩;simp only[DU,hg,hfe,hb];exact h2 K hK
  ·cases he
theorem Eb (hE:Snd P GL E):∀ {ops:List GI} {s:ES} {os:List ES},LX E ops s=some os→OKT s.t s.h→
  (∀o∈os,s.t.kin o.t∧OKT o.t o.h)∧∀K:St→Prop,(∀o∈os,K (o.real P GL))→Bd P GL ops K (s.real P GL)
 |[],s,os,he,hk=>by
  simp only[LX,ATm]at he;subst he;exact⟨λo ho=>by simp only[ATy]at ho;subst ho;exact⟨Lp.kin.refl _,hk⟩,λK hK=>hK _ (by simp)⟩
 |x::xs,s,os,he,hk=>by
  simp only[LX]at he;split at he
  ·rename_i ss hss;obtain⟨h1,h2⟩:=VS hE hss hk;refine⟨λo ho=>?_,λK hK=>?_⟩
   ·have:∃y∈ss,∃zs,LX E xs y=some zs∧o∈zs:=by
     clear h1 h2 hss;induction ss generalizing os with
     |nil=>simp only[GB,ATm]at he;subst he;simp at ho
     |cons y ss ih=>
      simp only[GB]at he;split at he
      ·rename_i asx bs ha hb;simp only[ATm]at he;subst he;rcases AT7.1 ho with ho|ho
       ·exact⟨y,by simp,asx,ha,ho⟩
       ·obtain⟨y',hy',zs,q1,q2⟩:=ih _ hb ho;exact⟨y',by simp[hy'],zs,q1,q2⟩
      ·cases he
    obtain⟨y,hy,zs,q1,q2⟩:=this;obtain⟨r1,_⟩:=Eb hE q1 (h1 y hy).2;exact⟨(h1 y hy).1.trans (r1 o q2).1,(r1 o q2).2⟩
   ·refine h2 _ λy hy=>?_;obtain⟨zs,q1,q2⟩:=Ga he y hy;exact(Eb hE q1 (h1 y hy).2).2 K λo ho=>hK o (q2 o ho)
  ·cases he
theorem Ir {α β:Type} {f:α→Option (List β)}:∀ {xs:List α} {ys:List β},GB f xs=some ys→∀y∈ys,∃x∈xs,∃zs,f x=some zs∧y∈zs
 |[],ys,h,y,hy=>by simp only[GB,ATm]at h;subst h;simp at hy
 |x::xs,ys,h,y,hy=>by
  simp only[GB]at h;split at h
  ·rename_i asx bs ha hb;simp only[ATm]at h;subst h;rcases AT7.1 hy with hy|hy
   ·exact⟨x,by simp,asx,ha,hy⟩
   ·obtain⟨x',hx',zs,q1,q2⟩:=Ir hb y hy;exact⟨x',by simp[hx'],zs,q1,q2⟩
  ·cases h
theorem KG (hE:Snd P GL E) {i:AI} {e:Env} {h:List Row} {t:Lp} {s':St} (he:uA E t i ⟨e,h⟩=some s') (hk:OKT t h):Iy P GL i ⟨e,t.ins P GL h⟩ ⟨s'.e,t.ins P GL s'.h⟩∧OKT t s'.h:=by
 unfold uA at he;have call:∀ {d:Option Nat} {f:Opd} {args:List Opd} {x:List D×List Row},uB E t (f.ev e) (Ar e args) h=some x→Ex P GL (f.ev e) (Ar e args) (t.ins P GL h) x.1 (t.ins P GL x.2)∧OKT t x.2:=by
  intro d f args x hx;unfold uB at hx;split at hx
  ·rename_i y hy;split at hx
   ·rename_i hb;simp only[ATm]at hx;subst hx;have fin:∀ {rets:List D} {z:List Row×Lp},Ex P GL (f.ev e) (Ar e args) (t.ins P GL h) rets (z.2.ins P GL z.1)→t.kin z.2→OKT z.2 z.1→Lp.beq t z.2=true→
      Ex P GL (f.ev e) (Ar e args) (t.ins P GL h) rets (t.ins P GL z.1)∧OKT t z.1:=by
     intro rets z hc hkin hok hb;have:=Lp.beq_eq (Lp.kin.refl t) hkin hb;rw[←this]at hc hok;exact⟨hc,hok⟩
    split at hy
    ·rename_i r hf;simp only[ATv]at hy;obtain⟨z,hz,rfl⟩:=hy;obtain⟨h1,h2,h3⟩:=LW hE hz hk;have hf':f.ev e= .yld r:=hf;exact fin (z:=z.2) (by simp only[Ex,hf'];exact⟨z.1,h1,rfl⟩) h2 h3 hb
    ·rename_i fid fs hf;obtain⟨h1,h2,h3⟩:=D4 hE hy hk;have hf':f.ev e= .meth fid fs:=hf;exact fin (z:=y.2) (by simp only[Ex,hf'];exact h1) h2 h3 hb
    ·rename_i hny hnm;split at hy
     ·rename_i fid caps hfn;obtain⟨h1,h2,h3⟩:=D4 hE hy hk;refine fin (z:=y.2) ?_ h2 h3 hb;unfold Ex;split
      ·rename_i r hr;exact absurd hr (hny r)
      ·rename_i a b hr;exact absurd hr (hnm a b)
      ·exact⟨fid,caps,hfn,h1⟩
     ·cases hy
   ·cases hx
  ·cases hx
 split at he
 ·rename_i d f args;simp only[ATv]at he;obtain⟨x,hx,rfl⟩:=he;obtain⟨h1,h2⟩:=call (d:=d) hx;exact⟨.inr (.inr (.inl ⟨d,f,args,x.1,_,.inl rfl,h1,rfl⟩)),h2⟩
 ·rename_i d f args;split at he
  ·rename_i x hx;split at he
   ·rename_i hb;simp only[ATm]at he;subst he;obtain⟨h1,h2⟩:=call (d:=d) hx;refine⟨.inr (.inr (.inl ⟨d,f,args,x.1,_,.inr ⟨rfl,x.2.drop h.length,?_⟩,h1,rfl⟩)),h2⟩;have e1:x.2=h++x.2.drop h.length:=by
     have:=Lx hb;conv=>lhs;rw[←AUe h.length x.2,this]
    have e2:∀(l:List Row),Lp.ins P GL t (h++l)=Lp.ins P GL t h++l:=λl=>Fy t l λr hr=>hk.lt hr;show Lp.ins P GL t x.2=Lp.ins P GL t h++x.2.drop h.length;rw[←e2,←e1]
   ·cases he
  ·cases he
 ·rename_i d f args;split at he
  ·rename_i fid caps vs hf hv;simp only[ATv]at he;obtain⟨rets,hr,rfl⟩:=he;exact⟨.inr (.inl ⟨d,f,args,fid,caps,vs,rets,rfl,hf,hv,hE.Pf hr,rfl⟩),hk⟩
  ·cases he
 ·obtain⟨h1,h2⟩:=LA (P:=P) (GL:=GL) hk he;exact⟨.inl h1,h2⟩
theorem G2 (hE:Snd P GL E) {x:GI} {e:Env} {h:List Row} {t:Lp} {s':St} (he:Wn E t x ⟨e,h⟩=some s') (hk:OKT t h):BC P GL x ⟨e,t.ins P GL h⟩ ⟨s'.e,t.ins P GL s'.h⟩∧OKT t s'.h:=by
 unfold Wn at he;split at he
 ·rename_i hg;simp only[BC,hg];exact KG hE he hk
 ·rename_i tt want hg;split at he
  ·rename_i b hb;have hb':AH e tt= .v (.bool b):=hb;split at he
   ·rename_i hbw;simp only[BC,hg,hb',hbw,if_true];exact KG hE he hk
   ·rename_i hbw;simp only[ATm]at he;subst he;simp only[BC,hg,hb',hbw,if_false];exact⟨trivial,hk⟩
  ·rename_i hb;have hb':AH e tt= .tup []:=hb;simp only[ATm]at he;subst he;simp only[BC,hg,hb'];exact⟨trivial,hk⟩
  ·cases he
theorem Ia (hE:Snd P GL E) {t:Lp}:∀ {ops:List GI} {e:Env} {h:List Row} {s':St},evJ E t ops ⟨e,h⟩=some s'→OKT t h→Kw P GL ops ⟨e,t.ins P GL h⟩ ⟨s'.e,t.ins P GL s'.h⟩∧OKT t s'.h
 |[],e,h,s',he,hk=>by
  simp only[evJ,ATm]at he;subst he;exact⟨rfl,hk⟩
 |x::xs,e,h,s',he,hk=>by
  simp only[evJ]at he;split at he
  ·rename_i s1 h1;obtain⟨q1,q2⟩:=G2 hE h1 hk;obtain⟨q3,q4⟩:=Ia hE he q2;exact⟨⟨_,q1,q3⟩,q4⟩
  ·cases he
theorem IZ (hE:Snd P GL E) {t:Lp} {is:List GI}:∀(tr:AT) {e:Env} {h:List Row} {os:List St},evT E t is tr ⟨e,h⟩=some os→OKT t h→
  (∀o∈os,OKT t o.h)∧∀K:St→Prop,(∀o∈os,K ⟨o.e,t.ins P GL o.h⟩)→tr.ok P GL is K ⟨e,t.ins P GL h⟩:=by
 intro tr;induction tr with
 |done=>
  intro e h os he hk;simp only[evT,ATm]at he;subst he;exact⟨λo ho=>by simp only[ATy]at ho;subst ho;exact hk,λK hK=>by have hK':=hK _ (ATy.2 rfl);exact hK'⟩
 |take i tr ih=>
  intro e h os he hk;simp only[evT]at he;split at he
  ·rename_i s1 h1;obtain⟨q1,q2⟩:=G2 hE h1 hk;obtain⟨q3,q4⟩:=ih he q2;exact⟨q3,λK hK=>⟨_,q1,q4 K hK⟩⟩
  ·cases he
 |pick c ih=>intro e h os he hk;exact ih he hk
 |alt i tr r iht ihr=>
  intro e h os he hk;simp only[evT]at he;split at he
  ·rename_i s1 h1;obtain⟨q1,q2⟩:=G2 hE h1 hk;split at he
   ·rename_i a b ha hb;simp only[ATm]at he;subst he;obtain⟨q3,q4⟩:=iht ha q2;obtain⟨q5,q6⟩:=ihr hb hk;refine⟨λo ho=>(AT7.1 ho).elim (q3 o) (q5 o),λK hK=>⟨⟨_,q1,q4 K λo ho=>hK o (AVr _ ho)⟩,q6 K λo ho=>hK o (AVV _ ho)⟩⟩
   ·cases he
  ·cases he
 |none=>
  intro e h os he hk;simp only[evT,ATm]at he;subst he;exact⟨by simp,λK _=>trivial⟩
theorem PB {n0:Nat} {t:Lp} {keep:List Nat} {ss:List St} {o:St} (h:o∈E7 n0 t keep ss):o∈ss:=by
 cases ss with
 |nil=>exact h
 |cons s1 ss=>
  simp only[E7,ATt,AVL]at h ⊢;rcases h with h|h
  ·exact .inl h
  ·exact .inr h.1
theorem LK:∀(e e':Env) (keep:List Nat),(BL e keep).map (·.2)=(BL e' keep).map (·.2)→BL e keep=BL e' keep
 |_,_,[],_=>rfl
 |e,e',n::ns,h=>by
  simp only[BL,ATz,List.cons.injEq]at h ⊢;exact⟨by rw[h.1],LK e e' ns h.2⟩
theorem KH {keep:List Nat} {a b:St} (h:OP keep a b=true):BL a.e keep=BL b.e keep∧a.h=b.h:=by
 simp only[OP,ATn]at h;exact⟨LK _ _ _ (D.beqs_eq h.1),Lx h.2⟩
theorem Dm (π:List (Nat×Nat)):∀(e:Env) (n:Nat),AH (e.map λp=>(p.1,p.2.ren π)) n=(AH e n).ren π
 |[],n=>by simp only[AVM,AH,D.ren]
 |p::e,n=>by
  simp only[ATz,AH];by_cases h:p.1=n
  ·simp[h]
  ·rw[if_neg h,if_neg h,Dm π e n]
theorem L7 {n0:Nat} {t:Lp} {keep:List Nat} {ss:List St} {o:St} (h:o∈ss):
  ∃s1∈E7 n0 t keep ss,∃s2,Ov n0 ⟨o.e,t.ins P GL o.h⟩ s2∧(⟨BL s2.e keep,s2.h⟩:St)=ES.real P GL ⟨BL s1.e keep,s1.h,t⟩:=by
 cases ss with
 |nil=>simp at h
 |cons s1 ss=>
  have own:∀o,o∈E7 n0 t keep (s1::ss)→∃s1'∈E7 n0 t keep (s1::ss),∃s2,Ov n0 ⟨o.e,t.ins P GL o.h⟩ s2∧(⟨BL s2.e keep,s2.h⟩:St)=ES.real P GL ⟨BL s1'.e keep,s1'.h,t⟩:=
   λo ho=>⟨o,ho,_,.inl rfl,rfl⟩
  rcases ATt.1 h with rfl|h
  ·exact own _ (by simp[E7])
  ·cases ha:tD n0 t keep o s1 with
   |false=>exact own o (by simp only[E7,ATt,AVL];exact .inr ⟨h,by simp[ha]⟩)
   |true=>
    refine⟨s1,by simp[E7],?_⟩;simp only[tD,AUw,ATn]at ha;rcases ha with ha|⟨hte,⟨hp,hno⟩,he⟩
    ·obtain⟨h1,h2⟩:=KH ha;exact⟨⟨o.e,t.ins P GL o.h⟩,.inl rfl,by simp only[ES.real,h1,h2]⟩
    ·have htn:t=[]:=by simpa using hte
     subst htn;obtain⟨h1,h2⟩:=KH he;refine⟨SV (ACz o s1) o,.inr ⟨ACz o s1,hp,hno,λn=>Dm _ _ _,rfl⟩,?_⟩;simp only[ES.real,Lp.ins,h1,h2]
theorem AKK (hE:Snd P GL E) {ac:AC} {s:ES} {os:List (AExit×ES)} (he:evC E ac s=some os) (hk:OKT s.t s.h):∀o∈os,s.t.kin o.2.t∧OKT o.2.t o.2.h:=by
 have here:∀(e:AExit),∀o∈[(e,s)],s.t.kin o.2.t∧OKT o.2.t o.2.h:=λe o ho=>by simp only[ATy]at ho;subst ho;exact⟨Lp.kin.refl _,hk⟩
 cases ac with
 |skip=>simp only[evC,ATm]at he;subst he;exact here _
 |reg ops keep=>
  simp only[evC,ATv]at he;obtain⟨ss,hs,rfl⟩:=he;intro o ho;obtain⟨y,hy,rfl⟩:=ATw.1 ho;exact(Eb hE hs hk).1 y hy
 |regD ops keep cl=>
  simp only[evC,ATv]at he;obtain⟨s',hs,rfl⟩:=he;intro o ho;simp only[ATy]at ho;subst ho;exact⟨Lp.kin.refl _,(Ia hE hs hk).2⟩
 |regV ops keep cl=>simp[evC]at he
 |regA ops keep cl t=>
  simp only[evC,ATv]at he;obtain⟨ss,hs,rfl⟩:=he;intro o ho;obtain⟨y,hy,rfl⟩:=ATw.1 ho;exact⟨Lp.kin.refl _,(IZ hE t hs hk).1 y (PB hy)⟩
 |seq a b=>
  simp only[evC]at he;split at he
  ·rename_i o1 h1;intro o ho;obtain⟨x,hx,zs,q1,q2⟩:=Ir he o ho;have k1:=hE.K h1 hk x hx;split at q1
   ·have k2:=hE.K q1 k1.2 o q2;exact⟨k1.1.trans k2.1,k2.2⟩
   ·simp only[ATm]at q1;subst q1;simp only[ATy]at q2;subst q2;exact k1
  ·cases he
 |cond x a b=>
  simp only[evC]at he;split at he
  ·split at he
   ·exact hE.K he hk
   ·exact hE.K he hk
  ·cases he
 |block id c=>
  simp only[evC,ATv]at he;obtain⟨ss,hs,rfl⟩:=he;intro o ho;obtain⟨y,hy,rfl⟩:=ATw.1 ho;have:=hE.K hs hk y hy;split
  ·split
   ·exact this
   ·exact this
  ·exact this
 |loop c=>
  simp only[evC]at he;split at he
  ·rename_i o1 h1;intro o ho;obtain⟨x,hx,zs,q1,q2⟩:=Ir he o ho;have k1:=hE.K h1 hk x hx;split at q1
   ·have k2:=hE.K q1 k1.2 o q2;exact⟨k1.1.trans k2.1,k2.2⟩
   ·simp only[ATm]at q1;subst q1;simp only[ATy]at q2;subst q2;exact k1
  ·cases he
 |never=>cases he
 |exit id=>simp only[evC,ATm]at he;subst he;exact here _
 |ret=>simp only[evC,ATm]at he;subst he;exact here _
 |rangeF q ps asg body=>
  simp only[evC]at he;split at he
  ·rename_i fid caps hf;split at he
   ·rename_i rets h' x t' hF;have hk0:OKT ((s.h.length,Tag.ready,(⟨cpE s.e,ps,asg,body⟩:LD))::s.t) (s.h++[.dead]):=by
     obtain⟨h1,_⟩:=hk.append (P:=P) (GL:=GL) .dead;refine⟨λr hr=>?_,?_⟩
     ·simp only[Lp.has,ATz,ATt]at hr;rcases hr with rfl|hr
      ·simp
      ·exact h1.dead r hr
     ·rw[ATz,AVK];exact⟨λhh=>by have:=hk.lt hh;simp at this,hk.nod⟩
    obtain⟨_,k2,k3⟩:=hE.F hF hk0;have k4:s.t.kin t':=k2.2.2;have k5:OKT t' h':=⟨λr hr=>k3.dead r (by simp only[Lp.has,ATz,ATt];exact .inr hr),by have:=k3.nod;rw[ATz,AVK]at this;exact this.2⟩;intro o ho;split at he<;>simp only[ATm,reduceCtorEq]at he<;>subst he<;>simp only[ATy]at ho<;>subst ho<;>exact⟨k4,k5⟩
   ·cases he
  ·cases he
def LoopW (P:Program) (GL:AV) (c:AC) (Q:AExit→St→Prop):Nat→St→Prop
 |0,_=>False
 |n+1,s=>awp P GL c (λe s'=>match e with| .normal=>LoopW P GL c Q n s'|e=>Q e s') s
theorem LoopW.step {c:AC} {Q:AExit→St→Prop}:∀ {n:Nat} {s:St},LoopW P GL c Q n s→LoopW P GL c Q (n+1) s
 |0,s,h=>h.elim
 |n+1,s,h=>by
  refine AX c ?_ h;intro e s' h;cases e with
  |normal=>exact LoopW.step h
  |exit i=>exact h
  |ret=>exact h
theorem LoopW.le {c:AC} {Q:AExit→St→Prop} {n m:Nat} {s:St} (h:LoopW P GL c Q n s) (hm:n≤m):LoopW P GL c Q m s:=by
 induction hm with
 |refl=>exact h
 |step _ ih=>exact ih.step
theorem LoopW.awp {c:AC} {Q:AExit→St→Prop} {n:Nat} {s:St} (h:LoopW P GL c Q n s):Go.Va.awp P GL (.loop c) Q s:=by
 refine⟨λm s=>LoopW P GL c Q m s,⟨n,h⟩,λm s h=>?_⟩;cases m with
 |zero=>exact h.elim
 |succ m=>
  refine AX c ?_ h;intro e s' h;cases e with
  |normal=>exact⟨m,by omega,h⟩
  |exit i=>exact h
  |ret=>exact h
theorem Lk {c:AC} {Q:AExit→St→Prop} {s:St} (h:awp P GL (.loop c) Q s):∃n,LoopW P GL c Q n s:=by
 obtain⟨I,⟨m,hm⟩,h⟩:=h
 suffices ∀m s,I m s→LoopW P GL c Q (m+1) s from⟨_,this m s hm⟩
 intro m;induction m using Nat.strongRecOn with
 |_ m ih=>
  intro s hs;refine AX c ?_ (h m s hs);intro e s' h;cases e with
  |normal=>obtain⟨m',hlt,hI⟩:=h;exact(ih m' hlt s' hI).le hlt
  |exit i=>exact h
  |ret=>exact h
theorem Uy {α:Type} {p:Nat→α→Prop} (hp:∀n m x,n≤m→p n x→p m x):∀ {xs:List α},(∀x∈xs,∃n,p n x)→∃n,∀x∈xs,p n x
 |[],_=>⟨0,by simp⟩
 |x::xs,h=>by
  obtain⟨n,hn⟩:=h x (by simp);obtain⟨m,hm⟩:=Uy hp (xs:=xs) λy hy=>h y (by simp[hy]);refine⟨max n m,λy hy=>?_⟩;rcases ATt.1 hy with rfl|hy
  ·exact hp _ _ _ (Nat.le_max_left _ _) hn
  ·exact hp _ _ _ (Nat.le_max_right _ _) (hm y hy)
theorem VU (hE:Snd P GL E) {ac:AC} {s:ES} {os:List (AExit×ES)} (he:evC E ac s=some os) (hk:OKT s.t s.h):awp P GL ac (λe s'=>∃o∈os,e=o.1∧s'=o.2.real P GL) (s.real P GL):=by
 cases ac with
 |skip=>
  simp only[evC,ATm]at he;subst he;exact⟨_,ATy.2 rfl,rfl,rfl⟩
 |reg ops keep=>
  simp only[evC,ATv]at he;obtain⟨ss,hs,rfl⟩:=he;rw[AA];exact(Eb hE hs hk).2 _ λo ho=>⟨_,ATw.2 ⟨o,ho,rfl⟩,rfl,rfl⟩
 |regD ops keep cl=>
  simp only[evC,ATv]at he;obtain⟨s',hs,rfl⟩:=he;exact⟨_,(Ia hE hs hk).1,_,ATy.2 rfl,rfl,rfl⟩
 |regV ops keep cl=>simp[evC]at he
 |regA ops keep cl t=>
  simp only[evC,ATv]at he;obtain⟨ss,hs,rfl⟩:=he;rw[Bq];obtain⟨hok,hall⟩:=IZ hE t hs hk;refine hall _ λo ho=>?_;obtain⟨s1,hs1,hr⟩:=L7 (P:=P) (GL:=GL) (n0:=s.h.length) (t:=s.t) (keep:=keep) ho;obtain⟨s2,hren,heq⟩:=hr;have hl:(s.real P GL).h.length=s.h.length:=Cf _ _;rw[hl];exact⟨s2,hren,_,ATw.2 ⟨s1,hs1,rfl⟩,rfl,heq⟩
 |seq a b=>
  simp only[evC]at he;split at he
  ·rename_i o1 h1;rw[AB];refine AX _ ?_ (hE.C h1 hk);rintro e s' ⟨o,ho,rfl,rfl⟩;obtain⟨zs,q1,q2⟩:=Ga he o ho;have hko:=(hE.K h1 hk o ho).2;split at q1
   ·rename_i hn
    try rw[hn]
    refine AX _ ?_ (hE.C q1 hko);rintro e s' ⟨o',ho',r⟩;exact⟨o',q2 o' ho',r⟩
   ·rename_i hn;simp only[ATm]at q1;subst q1;have:=q2 _ (ATy.2 rfl);cases he1:o.1 with
    |normal=>exact absurd he1 hn
    |exit i=>exact⟨_,this,he1.symm▸rfl,rfl⟩
    |ret=>exact⟨_,this,he1.symm▸rfl,rfl⟩
  ·cases he
 |cond x a b=>
  simp only[evC]at he;rw[AE];have hx:x.ev (s.real P GL).e=x.ev s.e:=rfl;split at he
  ·rename_i t ht;rw[hx,ht];simp only[];split at he
   ·rename_i htt;rw[if_pos htt];exact hE.C he hk
   ·rename_i htt;rw[if_neg htt];exact hE.C he hk
  ·cases he
 |block id c=>
  simp only[evC,ATv]at he;obtain⟨ss,hs,rfl⟩:=he;rw[AF];refine AX _ ?_ (hE.C hs hk);rintro e s' ⟨o,ho,rfl,rfl⟩;have hm:=List.mem_map_of_mem (f:=λo:AExit×ES=>match o.1 with| .exit id'=>if id'=id then ((.normal,o.2):AExit×ES) else o|_=>o) ho
  obtain⟨e,s'⟩:=o;cases e with
  |normal=>exact⟨_,hm,rfl,rfl⟩
  |ret=>exact⟨_,hm,rfl,rfl⟩
  |exit i=>
   simp only at hm ⊢;by_cases hi:i=id
   ·simp only[hi,if_true]at hm ⊢;exact⟨_,hm,rfl,rfl⟩
   ·simp only[hi,if_false]at hm ⊢;exact⟨_,hm,rfl,rfl⟩
 |loop c=>
  simp only[evC]at he;split at he
  ·rename_i o1 h1;have hb:∀o∈o1,∃n,(match o.1 with| .normal=>LoopW P GL c (λe s'=>∃o∈os,e=o.1∧s'=o.2.real P GL) n (o.2.real P GL)|e=>∃o'∈os,e=o'.1∧o.2.real P GL=o'.2.real P GL):=by
    intro o ho;obtain⟨zs,q1,q2⟩:=Ga he o ho;have hko:=(hE.K h1 hk o ho).2;split at q1
    ·rename_i hn;refine Lk (AX _ ?_ (hE.C q1 hko));rintro e s' ⟨o',ho',r⟩;exact⟨o',q2 o' ho',r⟩
    ·rename_i hn;simp only[ATm]at q1;subst q1;have:=q2 _ (ATy.2 rfl);cases he1:o.1 with
     |normal=>exact absurd he1 hn
     |exit i=>exact⟨0,_,this,he1.symm▸rfl,rfl⟩
     |ret=>exact⟨0,_,this,he1.symm▸rfl,rfl⟩
   obtain⟨n,hn⟩:=Uy (λn m x hnm h=>by
    cases hx:x.1 with
    |normal=>simp only[hx]at h ⊢;exact h.le hnm
    |exit i=>simp only[hx]at h ⊢;exact h
    |ret=>simp only[hx]at h ⊢;exact h) hb
   refine LoopW.awp (n:=n+1) (AX _ ?_ (hE.C h1 hk));rintro e s' ⟨o,ho,rfl,rfl⟩;have:=hn o ho;cases he1:o.1 with
   |normal=>simp only[he1]at this ⊢;exact this
   |exit i=>simp only[he1]at this ⊢;exact this
   |ret=>simp only[he1]at this ⊢;exact this
  ·cases he
 |never=>cases he
 |exit id=>
  simp only[evC,ATm]at he;subst he;exact⟨_,ATy.2 rfl,rfl,rfl⟩
 |ret=>
  simp only[evC,ATm]at he;subst he;exact⟨_,ATy.2 rfl,rfl,rfl⟩
 |rangeF q ps asg body=>
  simp only[evC]at he;split at he
  ·rename_i fid caps hf;split at he
   ·rename_i rets h' x t' hF;obtain⟨h1,h2⟩:=hk.append (P:=P) (GL:=GL) .dead;have hnl:¬s.t.has s.h.length:=λhh=>by have:=hk.lt hh;simp at this
    have hk0:OKT ((s.h.length,Tag.ready,(⟨cpE s.e,ps,asg,body⟩:LD))::s.t) (s.h++[.dead]):=by
     refine⟨λr hr=>?_,?_⟩
     ·simp only[Lp.has,ATz,ATt]at hr;rcases hr with rfl|hr
      ·simp
      ·exact h1.dead r hr
     ·rw[ATz,AVK];exact⟨hnl,hk.nod⟩
    obtain⟨k1,k2,k3⟩:=hE.F hF hk0;have hx1:s.h.length=x.1:=k2.1;have hx2:(⟨cpE s.e,ps,asg,body⟩:LD)=x.2.2:=k2.2.1;have hl:(s.real P GL).h.length=s.h.length:=Cf _ _;have e0:Lp.ins P GL ((s.h.length,Tag.ready,(⟨cpE s.e,ps,asg,body⟩:LD))::s.t) (s.h++[.dead])=(s.real P GL).h++[Ao P GL .ready (cpE s.e) ps asg body]:=by
     simp only[Lp.ins,h2,ES.real];rw[AVb _ _ (by rw[Cf];exact ATs _),Cf,AVs];rfl
    have e1:Lp.ins P GL (x::t') h'=(Lp.ins P GL t' h').set s.h.length (Ao P GL x.2.1 (cpE s.e) ps asg body):=by
     simp only[Lp.ins,←hx1,←hx2]
    have hd:=k3.dead x.1 (by simp[Lp.has]);have hlt:s.h.length <h'.length:=by rw[hx1];exact(ATp.1 hd).1
    have hnt:¬Lp.has t' s.h.length:=by
     have:=k3.nod;rw[ATz,AVK]at this;rw[hx1];exact this.1
    simp only[e0,e1]at k1;rw[Ko];have hq:∀Q:AExit→St→Prop,Bo Q ⟨s.e,Lp.ins P GL t' h'⟩ x.2.1→
      ∃fid caps rets h' tag,DR (q.ev (s.real P GL).e)=some (fid,caps)∧FSp P GL fid (.yld (s.real P GL).h.length::caps) ((s.real P GL).h++[Ao P GL .ready (cpE (s.real P GL).e) ps asg body]) rets h'∧
       h'[(s.real P GL).h.length]?=some (Ao P GL tag (cpE (s.real P GL).e) ps asg body)∧Bo Q ⟨(s.real P GL).e,h'.set (s.real P GL).h.length .dead⟩ tag:=by
     intro Q hQ;refine⟨fid,caps,rets,(Lp.ins P GL t' h').set s.h.length (Ao P GL x.2.1 (cpE s.e) ps asg body),x.2.1,hf,?_,?_,?_⟩
     ·rw[hl];exact k1
     ·rw[hl,AUJ (by rw[Cf];exact hlt)];rfl
     ·rw[hl,AU6];have:(Lp.ins P GL t' h').set s.h.length .dead=Lp.ins P GL t' h':=Fo (by rw[ME t' hnt,hx1];exact hd);rw[this];exact hQ
    refine hq _ ?_;split at he<;>simp only[ATm,reduceCtorEq]at he<;>subst he<;>rename_i hxt<;>rw[hxt]<;>exact⟨_,ATy.2 rfl,rfl,rfl⟩
   ·cases he
  ·cases he
theorem Oo {t:Lp} {e:Env} {h:List Row} (hk:OKT t h):∀ {rs:List AR} {xs:List D},DW ⟨e,h⟩ rs=some xs→DW ⟨e,t.ins P GL h⟩ rs=some xs
 |[],xs,hx=>hx
 |r::rs,xs,hx=>by
  simp only[DW]at hx ⊢;split at hx
  ·rename_i y ys hy hys;rw[Oo hk hys];have:r.d ⟨e,t.ins P GL h⟩=some y:=by
    cases r with
    |t n=>exact hy
    |c n sz ag=>
     simp only[AR.d,AWS]at hy ⊢;obtain⟨d,hd,hd2⟩:=hy;exact⟨d,Nc hk hd,hd2⟩
   rw[this];exact hx
  ·cases hx
theorem Jl {f:Nat} {args:List D} {h:List Row} {t:Lp} {n:Nat} {x:List D×List Row×Lp} (hk:t.kin x.2.2) (hok:OKT x.2.2 x.2.1) (hn:∀r,t.has r→r <n):
  t.kin (Kv n x).2.2∧OKT (Kv n x).2.2 (Kv n x).2.1∧(FSp P GL f args h x.1 (x.2.2.ins P GL x.2.1)→FSp P GL f args h (Kv n x).1 ((Kv n x).2.2.ins P GL (Kv n x).2.1)):=by
 unfold Kv;split
 ·have hn':∀r,Lp.has x.2.2 r→r <n:=λr hr=>hn r (by simp only[Lp.has,hk.map];exact hr);obtain⟨h1,h2⟩:=hok.kill (P:=P) (GL:=GL) hn';exact⟨hk,h1,λhf=>by simp only[h2];exact hf.kill n⟩
 ·exact⟨hk,hok,id⟩
theorem VT (hT:∀f n ac rs,T f=some (n,ac,rs)→DT P GL f n ac rs=true)
  (hP:∀f args h x,Pr f args h=some x→∀t,OKT t h→FSp P GL f args (t.ins P GL h) x.1 (t.ins P GL h++x.2)) (hE:Snd P GL E) {f:Nat} {args:List D} {h:List Row} {t:Lp} {r:List D×List Row×Lp} (he:evF T Pr E f args h t=some r) (hk:OKT t h):
  FSp P GL f args (t.ins P GL h) r.1 (r.2.2.ins P GL r.2.1)∧t.kin r.2.2∧OKT r.2.2 r.2.1:=by
 unfold evF at he;split at he
 ·rename_i n ac rs htb;split at he
  ·rename_i hlen;split at he
   ·rename_i os hos;split at he
    ·rename_i xs hxs;obtain⟨hmem,hall⟩:=IU he;have hK:=hE.K hos hk;have hC:=hE.C hos hk;simp only at hK;have hn:∀r,t.has r→r <h.length:=λr hr=>hk.lt hr;have outs:∀o∈os,∃y,(∀i,o.1≠ .exit i)∧DW ⟨o.2.e,o.2.h⟩ rs=some y∧Kv h.length (y,o.2.h,o.2.t)∈xs:=by
      intro o ho;obtain⟨z,hz,hzm⟩:=HY hxs o ho;split at hz
      ·cases hz
      ·rename_i hne;simp only[ATv]at hz;obtain⟨y,hy,rfl⟩:=hz;exact⟨y,λi hi=>hne i hi,hy,hzm⟩
     have kinx:∀y∈xs,t.kin y.2.2∧OKT y.2.2 y.2.1:=by
      intro y hy;obtain⟨o,ho,hz⟩:=J9 hxs y hy;have hko:=hK o ho;split at hz
      ·cases hz
      ·simp only[ATv]at hz;obtain⟨z,_,rfl⟩:=hz;obtain⟨q1,q2,_⟩:=Jl (P:=P) (GL:=GL) (f:=f) (args:=args) (h:=h) (n:=h.length) (x:=(z,o.2.h,o.2.t)) hko.1 hko.2 hn;exact⟨q1,q2⟩
     have same:∀y∈xs,y=r:=by
      intro y hy;rcases hall y hy with h|h
      ·exact h
      ·simp only[fEq,ATn]at h;exact(AU5 (D.beqs_eq h.1.1) (AU5 (Lx h.1.2) (Lp.beq_eq (kinx r hmem).1 (kinx y hy).1 h.2))).symm
     refine⟨?_,kinx r hmem⟩;refine OI (hT f n ac rs htb) hlen (AX _ ?_ hC);rintro e s' ⟨o,ho,rfl,rfl⟩;obtain⟨y,hne,hy,hym⟩:=outs o ho;have hok:=hK o ho;obtain⟨_,_,q3⟩:=Jl (P:=P) (GL:=GL) (f:=f) (args:=args) (h:=t.ins P GL h) (n:=h.length) (x:=(y,o.2.h,o.2.t)) hok.1 hok.2 hn;refine⟨?_,y,Oo hok.2 hy,λg w μ t' u' O hi=>?_⟩
     ·cases hoe:o.1 with
      |normal=>trivial
      |ret=>trivial
      |exit i=>exact absurd hoe (hne i)
     ·rw[←same _ hym];unfold Kv;split
      ·have hn':∀r,Lp.has o.2.t r→r <h.length:=λr hr=>hn r (by simp only[Lp.has,hok.1.map];exact hr);obtain⟨_,h2⟩:=hok.2.kill (P:=P) (GL:=GL) hn';refine⟨rfl,?_⟩;simp only[h2];exact hi.kill _
      ·exact⟨rfl,hi⟩
    ·cases he
   ·cases he
  ·cases he
 ·simp only[ATv]at he;obtain⟨x,hr,rfl⟩:=he;have hlt:∀r,t.has r→r <h.length:=λr hr=>hk.lt hr;refine⟨?_,Lp.kin.refl _,⟨λr hr=>?_,hk.nod⟩⟩
  ·have:=hP f args h x hr t hk;simp only[Fy t x.2 hlt];exact this
  ·rw[AUB (hlt r hr)];exact hk.dead r hr
theorem VR (hT:∀f n ac rs,T f=some (n,ac,rs)→DT P GL f n ac rs=true) (hE:Snd P GL E) {f:Nat} {vs rets:List V} (he:evP T E f vs=some rets):PSp P GL f vs rets:=by
 unfold evP at he;split at he
 ·rename_i n ac rs htb;split at he
  ·rename_i hlen;split at he
   ·rename_i os hos;split at he
    ·rename_i xs hxs;obtain⟨hmem,hall⟩:=IU he;have hk:OKT ([]:Lp) ([]:List Row):=⟨λr hr=>by simp[Lp.has]at hr,by simp⟩;have hK:=hE.K hos hk;have hC:=hE.C hos hk;refine AK (hT f n ac rs htb) hlen (AX _ ?_ hC);rintro e s' ⟨o,ho,rfl,rfl⟩;obtain⟨z,hz,hzm⟩:=HY hxs o ho;have hzr:z=rets:=by
      rcases hall z hzm with h|h
      ·exact h
      ·exact(V.beqs_eq h).symm
     have ht:o.2.t=[]:=by
      have:=(hK o ho).1;simp only at this;cases h:o.2.t with
      |nil=>rfl
      |cons a b=>rw[h]at this;exact this.elim
     split at hz
     ·cases hz
     ·rename_i hne;refine⟨?_,?_⟩
      ·cases hoe:o.1 with
       |normal=>trivial
       |ret=>trivial
       |exit i=>exact absurd hoe (hne i)
      ·simp only[ES.real,ht,Lp.ins];rw[←hzr];exact hz
    ·cases he
   ·cases he
  ·cases he
 ·cases he
theorem PL (hT:∀f n ac rs,T f=some (n,ac,rs)→DT P GL f n ac rs=true)
  (hP:∀f args h x,Pr f args h=some x→∀t,OKT t h→FSp P GL f args (t.ins P GL h) x.1 (t.ins P GL h++x.2)):∀n,Snd P GL (ev T Pr n)
 |0=>by
  constructor
  ·intro f args h t r h;cases h
  ·intro f vs rets h;cases h
  ·intro ac s os h;cases h
  ·intro ac s os h;cases h
 |n+1=>by
  have ih:=PL hT hP n
  constructor
  ·intro f args h t r he hk;exact VT hT hP ih he hk
  ·intro f vs rets he;exact VR hT ih he
  ·intro ac s os he hk;exact AKK ih he hk
  ·intro ac s os he hk;exact VU ih he hk
theorem GQ (hT:∀f n ac rs,T f=some (n,ac,rs)→DT P GL f n ac rs=true)
  (hP:∀f args h x,Pr f args h=some x→∀t,OKT t h→FSp P GL f args (t.ins P GL h) x.1 (t.ins P GL h++x.2)) {fuel f:Nat} {vs rets:List V} (h:(ev T Pr fuel).Pf f vs=some rets):PSp P GL f vs rets:=(PL hT hP fuel).Pf h
end
open Go.Proofs
def ATg:=[xw 8 false]
def ATf:=[x0 24 9,xm 9 24]
def ATe:=[xn 25 0,x1 26 10 25,xn 10 26]
def ATd:=[xo (.bsl 27 32 8 []),xm 28 10,xo (.appR 29 (xt 27) (xt 28) 32 8 144),xn 11 29]
def ATc:=[xo (.bsl 30 32 8 []),xm 31 10,xo (.app 32 (xu 30) (xt 31) 32 8 144),xn 12 32]
def ATb:=[xo (.mv 13 (.c (.own 32 8 [])))]
def ATa:=[xm 33 10,xA 34 33,xC 35 .sub 34 1,xm 14 35]
def ATZ:=[xm 36 14,xC 37 .geq 36 0]
def ATX:=[xn 40 13,xm 41 10,xm 42 14,xI 43 41 42 8,xL 44 43 8,xo (.bsl 45 32 8 [(xt 44)]),xo (.app 46 (xu 40) (xt 45) 32 8 144),xn 13 46]
def ATY:=[xm 38 14,xC 39 .sub 38 1,xm 14 39]
def ATi:AC:=.seq (xS ATZ [1,2,3,9,10,11,12,13,14,37] (xD 37 0)) (.seq (.block 1 (.reg ATX [1,2,3,9,10,11,12,13,14])) (.reg ATY [1,2,3,9,10,11,12,13,14]))
def AME:=[xm 47 10,xA 48 47,xC 49 .gtr 48 0]
def AMD:=[xm 50 3,xm 51 10,xA 52 51,x2 53 11 50 52,xm 15 53]
def AMC:=[xm 54 11,xm 55 15,xm 56 11,xm 57 15,xI 58 56 57 8,xL 59 58 8,xm 60 1,xm 61 2,x3 62 12 59 60 61,xI 63 54 55 8,xs 63 62 8]
def AMB:=[xn 64 12,xm 65 10,xm 66 15,xI 67 65 66 8,xL 68 67 8,xo (.bsl 69 32 8 [(xt 68)]),xo (.app 70 (xu 64) (xt 69) 32 8 144),xn 12 70]
def AMA:=[xm 71 10,xo (.frz 72 (xt 11) 8),xn 73 12,xn 74 13,xo (.bsl 75 25 1 [(xt 71),(xt 72),(xt 73),(xt 74),(.c (.nil 32 8))]),xn 16 75]
def AL9:=[xv 17 0]
def AL8:=[xm 76 17,xm 77 16,xA 78 77,xB 79 .lss 76 78]
def AL6:=[xm 83 9,xm 84 16,xm 85 17,xI 86 84 85 1,xl 87 86 1,x1 88 14 87,x2 89 13 83 88,xn 82 89,xe 90 82 0,xe 91 82 1,xm 18 90,xm 19 91]
def AL5:=[x0 93 16,xm 94 16,xm 95 17,xI 96 94 95 1,xl 97 96 1,xo (.callF (some 98) (xf 15) [(xt 93),(xt 97)]),xn 92 98,xe 99 92 0,xe 100 92 1,xm 20 99,xm 21 100]
def AL4:=[xm 101 19,xm 102 21,xB 103 .neq 101 102,xm 104 103,xG 104 false (xm 105 18),xG 104 false (xp 106 (.eqP true (xt 105) (.c (.v .nilp)))),xG 104 false (xm 107 19),xG 104 false (xC 108 .eql 107 0),xG 104 false (xp 109 (.eqB true (xt 106) (xt 108))),xO 110 104 109]
def AL3:=[xw 8 false]
def AL2:=[xm 111 18,xp 112 (.eqP true (xt 111) (.c (.v .nilp))),xm 113 112,xG 113 true (xm 114 18),xg 113 true (.callF (some 115) (xf 17) [(xt 114)]),xG 113 true (xm 116 20),xG 113 true (xZ 117 116),xG 113 true (xa 118 117 2 1),xG 113 true (xl 119 118 1),xg 113 true (.callF (some 120) (xf 18) [(xt 119)]),xG 113 true (xB 121 .neq 115 120),xG 113 true (xm 122 121),xG 122 false (xm 123 18),xg 122 false (.callF (some 124) (xf 19) [(xt 123)]),xG 122 false (xm 125 16),xG 122 false (xm 126 17),xG 122 false (xI 127 125 126 1),xG 122 false (xl 128 127 1),xG 122 false (xA 129 128),xG 122 false (xB 130 .neq 124 129),xG 113 true (xO 131 122 130),xN 132 113 131]
def AL1:=[xw 8 false]
def AL7:=[xm 80 17,xC 81 .add 80 1,xm 17 81]
def ATh:AC:=.seq (xS AL8 [9,10,16,17,79] (xD 79 2)) (.seq (.block 3 (xS AL6 [9,10,16,17,18,19] (.seq (.regD AL5 [9,10,16,17,18,19,20,21] (xK [[],[],[],[1,2],[3],[0,4],[5],[6],[6],[7],[8,9]])) (xQ AL4 [9,10,16,17,18,20,110] 110 (xE AL3 [8]) (.seq (.regA AL2 [9,10,16,17,132] (xK [[],[0],[1],[2],[3],[2],[5],[6],[7],[4,8],[9],[10],[11],[12],[11],[11],[14,15],[16],[17],[13,18],[19],[20]]) (.take 0 (.take 1 (.take 2 (.take 3 (.take 5 (.take 6 (.take 7 (.pick (.alt 4 (.take 8 tq1) (.alt 8 (.take 4 tq1) .none))))))))))) (.cond (xt 132) (xE AL1 [8]) .skip)))))) (.reg AL7 [9,10,16,17]))
def AL0:=[xn 134 10,x1 135 14 134,xc 136 13 [(.c (.v .nilp)),(xt 135)],xn 133 136,xe 137 133 0,xe 138 133 1,xm 22 137,xm 23 138]
def ALz:=[xm 139 23,xC 140 .eql 139 1,xm 141 140,xG 141 true (x0 142 20),xN 143 141 142,xm 8 143]
def c3:AC:=xS ATg [0,1,2,3] (xS ATf [0,1,2,3,9] (xS ATe [1,2,3,9,10] (xS ATd [1,2,3,9,10,11] (xS ATc [1,2,3,9,10,11,12] (xS ATb [1,2,3,9,10,11,12,13] (.seq (xS ATa [1,2,3,9,10,11,12,13,14] (.block 0 (.loop ATi))) (xQ AME [1,2,3,9,10,11,12,13,49] 49 (xS AMD [1,2,9,10,11,12,13,15] (xS AMC [9,10,11,12,13,15] (.reg AMB [9,10,11,12,13]))) (xS AMA [9,10,16] (.seq (xS AL9 [9,10,16,17] (.block 2 (.loop ATh))) (xS AL0 [23] (xE ALz [8])))))))))))
def c3R:List AR:=[.t 8]
theorem k3:AU 3 4 c3 c3R:=by kernel_rfl
def ADZ:=[xo (.mv 0 (.c (.v .nilp)))]
def ADY:=[x0 4 16,x1 5 46 4,xn 3 5,xe 6 3 0,xe 7 3 1,xm 1 6,xm 2 7]
def ADX:=[xm 8 2,xC 9 .neq 8 0]
def ATW:=[xo (.mv 0 (.c (.v .nilp)))]
def ADW:=[xm 10 1,xm 0 10]
def c9:AC:=xS ADZ [] (xS ADY [1,2] (xQ ADX [1,9] 9 (xE ATW [0]) (xE ADW [0])))
def c9R:List AR:=[.t 0]
theorem k9:AU 9 0 c9 c9R:=by kernel_rfl
def ACD:=[xo (.mv 2 (.c (.own 32 8 [])))]
def ACC:=[xo (.mv 3 (.c (.own 32 8 [])))]
def ACB:=[xm 8 0,xc 9 47 [(xt 8),(xi 0),(xi 5)],xm 4 9]
def ACA:=[xv 5 0]
def sW:=[xm 10 5,xm 11 4,xB 12 .lss 10 11]
def sU:=[xm 15 0,xm 16 0,xA 17 16,xm 18 5,xb 19 .mul (xi 4) (xt 18),xb 20 .add (xi 1) (xt 19),xp 21 (.minmax false (xt 17) (xt 20)),xp 22 (.slc (xt 15) (some (xt 21)) none 1),x1 23 48 22,xo (.alloc 6 [xz,xz,xz,.own 130 5 [],.own 131 4 [],.own 3 1 [],.own 135 3 [],.own 137 4 []]),xs 6 23 8]
def sT:=[xo (.bsl 24 3 1 [(xi 0),(xi 7),(xi 8),(xi 4095),(xi 2047)]),xm 25 5,xm 26 4,xB 27 .add 25 26,xC 28 .rem 27 5,xI 29 24 28 1,xl 30 29 1,xa 31 6 0 1,xs 31 30 1]
def Uw:=[xm 32 5,xC 33 .rem 32 2,xC 34 .eql 33 0]
def sS:=[xa 35 6 2 1,xo (.store (xt 35) (xi 0) 1)]
def NT:=[xL 36 6 8,x1 37 49 36,xm 7 37]
def Iq:=[xm 38 7]
def NS:=[xn 39 3,xL 40 6 8,xo (.bsl 41 32 8 [(xt 40)]),xo (.app 42 (xu 39) (xt 41) 32 8 144),xn 3 42]
def sV:=[xm 13 5,xC 14 .add 13 1,xm 5 14]
def ACE:AC:=.seq (xS sW [0,3,4,5,12] (xD 12 0)) (.seq (.block 1 (xS sU [0,3,4,5,6] (xS sT [0,3,4,5,6] (xQ Uw [0,3,4,5,6,34] 34 (.reg sS [0,3,4,5,6]) (xS NT [0,3,4,5,6,7] (xS Iq [0,3,4,5,6,38] (.cond (xt 38) (.reg NS [0,3,4,5]) .skip))))))) (.reg sV [0,3,4,5]))
def sX:=[xn 43 3,xn 2 43]
def c10:AC:=xS ACD [0] (xS ACC [0,3] (xS ACB [0,3,4] (.seq (xS ACA [0,3,4,5] (.block 0 (.loop ACE))) (xE sX [2]))))
def AO3:List AR:=[.t 2]
theorem k10:AU 10 1 c10 AO3:=by kernel_rfl
def AB3:=[xv 4 0]
def AB2:=[xm 5 0,xC 6 .lss 5 0]
def AB1:=[xm 7 0,xC 8 .add 7 1,xp 9 (.neg (xt 8)),xm 0 9]
def AB0:=[xm 10 0,xm 11 1,xB 12 .rem 10 11,xm 4 12]
def c11:AC:=xS AB3 [0,1] (xQ AB2 [0,1,6] 6 (.reg AB1 [0,1]) (xE AB0 [4]))
def AOy:List AR:=[.t 4]
theorem k11:AU 11 2 c11 AOy:=by kernel_rfl
def ABs:=[xo (.mv 4 (.c (.v .nilp))),xv 5 0]
def ABr:=[xm 14 0,xp 15 (.eqP false (xt 14) (.c (.v .nilp)))]
def AOn:=[xo (.mv 4 (.c (.v .nilp))),xv 5 1]
def ABq:=[xm 16 0,xo (.mkm 17),x0 18 50,xp 19 (.build [.v .nilp,.v .nilm,.v .nilp] [(0,1,(xt 16)),(1,1,(xt 17)),(2,1,(xt 18))]),xx 20 19,xm 6 20]
def ABp:=[xn 21 1,xA 22 21,xv 23 0]
def qD:=[xB 24 .lss 23 22]
def qC:=[xI 25 21 23 8,xL 26 25 8,xo (.alloc 8 [xz,xz,xz,.own 130 5 [],.own 88 4 [],.own 3 1 [],.own 246 3 [],.own 247 4 []]),xs 8 26 8]
def qB:=[xL 28 8 8,x1 29 51 28,xn 27 29,xe 30 27 0,xe 31 27 1,xn 9 30,xm 10 31]
def Uc:=[xm 32 10,xC 33 .neq 32 0]
def qA:=[xm 34 10,xo (.mv 4 (.c (.v .nilp))),xm 5 34]
def RX:=[xm 36 6,xZ 37 36,xa 38 37 1 1,xl 39 38 1,xa 40 8 0 1,xl 41 40 1,xp 42 (.look (xt 39) (xt 41) false [0] [.nil 5 1] false true),xn 35 42,xe 43 35 0,xe 44 35 1,xn 11 43,xm 12 44]
def M1:=[xm 45 12]
def RW:=[xo (.mv 4 (.c (.v .nilp))),xv 5 8]
def RV:=[xm 46 6,xZ 47 46,xa 48 47 2 1,xl 49 48 1,xa 50 8 0 1,xl 51 50 1,xm 52 9,xo (.callF (some 53) (xf 52) [(xt 49),(xt 51),(xt 52)]),xm 13 53]
def M0:=[xm 54 13,xC 55 .neq 54 0]
def RU:=[xm 56 13,xo (.mv 4 (.c (.v .nilp))),xm 5 56]
def RT:=[xm 57 6,xZ 58 57,xa 59 58 1 1,xl 60 59 1,xa 61 8 0 1,xl 62 61 1,xn 63 9,xo (.mput (xt 60) (xt 62) (xt 63) false [0])]
def RS:=[xC 64 .add 23 1,xm 23 64]
def qG:AC:=xS qD [6,21,22,23,24] (.seq (xD 24 0) (.seq (.block 1 (xS qC [6,8,21,22,23] (xS qB [6,8,9,10,21,22,23] (xQ Uc [6,8,9,10,21,22,23,33] 33 (xE qA [4,5]) (.seq (.seq (.regD RX [6,8,9,12,21,22,23] (xK [[],[0],[1],[2],[],[4],[3,5],[6],[7],[7],[8],[9,10]])) (xS M1 [6,8,9,21,22,23,45] (.cond (xt 45) (xE RW [4,5]) .skip))) (.seq (.seq (.regD RV [6,8,9,13,21,22,23] (xK [[],[0],[1],[2],[],[4],[],[3,5,6],[7]])) (xS M0 [6,8,9,13,21,22,23,55] (.cond (xt 55) (xE RU [4,5]) .skip))) (.regD RT [6,21,22,23] (xK [[],[0],[1],[2],[],[4],[],[3,5,6]])))))))) (.reg RS [6,21,22,23])))
def qE:=[xm 65 6,xm 4 65,xv 5 0]
def c13:AC:=xS ABs [0,1] (xQ ABr [0,1,15] 15 (xE AOn [4,5]) (xS ABq [1,6] (.seq (xS ABp [6,21,22,23] (.block 0 (.loop qG))) (xE qE [4,5]))))
def vH:List AR:=[.t 4,.t 5]
theorem k13:AU 13 2 c13 vH:=by kernel_rfl
def ABi:=[xo (.mv 2 (.c (.own 74 8 [])))]
def ABh:=[xo (.mv 3 (.c (.own 74 8 [])))]
def ABg:=[xv 4 0]
def ABf:=[xm 5 4,xm 6 0,xA 7 6,xB 8 .lss 5 7]
def ABd:=[xn 11 3,xm 12 0,xm 13 4,xI 14 12 13 8,xL 15 14 8,x1 16 53 15,xo (.bsl 17 74 8 [(xt 16)]),xo (.app 18 (xu 11) (xt 17) 74 8 144),xn 3 18]
def ABe:=[xm 9 4,xC 10 .add 9 1,xm 4 10]
def ABj:AC:=.seq (xS ABf [0,3,4,8] (xD 8 0)) (.seq (.block 1 (.reg ABd [0,3,4])) (.reg ABe [0,3,4]))
def ABc:=[xn 19 3,xn 2 19]
def c14:AC:=xS ABi [0] (xS ABh [0,3] (.seq (xS ABg [0,3,4] (.block 0 (.loop ABj))) (xE ABc [2])))
def AOd:List AR:=[.t 2]
theorem k14:AU 14 1 c14 AOd:=by kernel_rfl
def AOS:=[xo (.mv 4 (.c (.v .nilp))),xv 5 0]
def AOR:=[xn 13 0,xp 14 (.build [.nil 200 2] []),xx 15 14,xp 16 (.build [.nil 22 1,.nil 32 8,.v .nilp] [(0,1,(xt 13)),(2,1,(xt 15))]),xx 17 16,xm 6 17]
def AOQ:=[xv 7 0]
def AOP:=[xm 18 7,xm 19 1,xA 20 19,xB 21 .lss 18 20]
def AON:=[xm 25 1,xm 26 7,xI 27 25 26 8,xL 28 27 8,x1 29 54 28,xn 24 29,xe 30 24 0,xe 31 24 1,xn 8 30,xm 9 31]
def AOM:=[xm 32 9,xC 33 .neq 32 0]
def AOL:=[xm 34 9,xo (.mv 4 (.c (.v .nilp))),xm 5 34]
def AOK:=[xm 35 6,xZ 36 35,xa 37 36 2 1,xl 38 37 1,xm 39 1,xm 40 7,xI 41 39 40 8,xa 42 41 0 1,xl 43 42 1,xo (.callF (some 44) (xf 55) [(xt 38),(xt 43)]),xC 45 .geq 44 0]
def AOJ:=[xo (.mv 4 (.c (.v .nilp))),xv 5 8]
def AHF:=[xm 46 6,xZ 47 46,xa 48 47 2 1,xl 49 48 1,xm 50 1,xm 51 7,xI 52 50 51 8,xa 53 52 0 1,xl 54 53 1,xn 55 8,xo (.callF (some 56) (xf 56) [(xt 49),(xt 54),(xt 55)]),xm 10 56]
def AHE:=[xm 57 10,xC 58 .neq 57 0]
def AHD:=[xm 59 10,xo (.mv 4 (.c (.v .nilp))),xm 5 59]
def AHC:=[xv 11 0]
def AHB:=[xm 60 11,xm 61 6,xZ 62 61,xa 63 62 1 1,xl 64 63 1,xA 65 64,xB 66 .lss 60 65,xm 67 66,xG 67 true (xm 68 6),xG 67 true (xZ 69 68),xG 67 true (xa 70 69 1 1),xG 67 true (xl 71 70 1),xG 67 true (xm 72 11),xG 67 true (xI 73 71 72 8),xG 67 true (xa 74 73 0 1),xG 67 true (xl 75 74 1),xG 67 true (xm 76 1),xG 67 true (xm 77 7),xG 67 true (xI 78 76 77 8),xG 67 true (xa 79 78 0 1),xG 67 true (xl 80 79 1),xG 67 true (xB 81 .lss 75 80),xN 82 67 81]
def AHA:=[xm 83 11,xC 84 .add 83 1,xm 11 84]
def AOT:AC:=.seq (.seq (.regD AHB [1,6,7,11,82] (xK [[],[],[1],[2],[3],[4],[0,5],[6],[7],[8],[9],[10],[7],[11,12],[13],[14],[7],[7],[16,17],[18],[19],[15,20],[21]])) (xD 82 2)) (.block 3 (.reg AHA [1,6,7,11]))
def AG9:=[xo (.mv 12 (.c (.own 32 8 [])))]
def AG8:=[xn 85 12,xm 86 6,xZ 87 86,xa 88 87 1 1,xl 89 88 1,xm 90 11,xp 91 (.slc (xt 89) none (some (xt 90)) 8),xo (.app 92 (xu 85) (xt 91) 32 8 144),xm 93 1,xm 94 7,xI 95 93 94 8,xL 96 95 8,xo (.bsl 97 32 8 [(xt 96)]),xo (.app 98 (xu 92) (xt 97) 32 8 144),xn 12 98]
def AG7:=[xm 99 6,xn 100 12,xm 101 6,xZ 102 101,xa 103 102 1 1,xl 104 103 1,xm 105 11,xp 106 (.slc (xt 104) (some (xt 105)) none 8),xo (.app 107 (xu 100) (xt 106) 32 8 144),xZ 108 99,xa 109 108 1 1,xo (.store (xt 109) (xu 107) 1)]
def AOO:=[xm 22 7,xC 23 .add 22 1,xm 7 23]
def AOU:AC:=.seq (xS AOP [1,6,7,21] (xD 21 0)) (.seq (.block 1 (xS AON [1,6,7,8,9] (xQ AOM [1,6,7,8,9,33] 33 (xE AOL [4,5]) (.seq (.seq (.regD AOK [1,6,7,8,45] (xK [[],[0],[1],[2],[],[],[4,5],[6],[7],[3,8],[9]])) (.cond (xt 45) (xE AOJ [4,5]) .skip)) (.seq (.regD AHF [1,6,7,10] (xK [[],[0],[1],[2],[],[],[4,5],[6],[7],[],[3,8,9],[10]])) (xQ AHE [1,6,7,10,58] 58 (xE AHD [4,5]) (xS AHC [1,6,7,11] (.seq (.block 2 (.loop AOT)) (xS AG9 [1,6,7,11,12] (.seq (.regD AG8 [1,6,7,11,12] (xK [[],[],[1],[2],[3],[],[4,5],[0,6],[],[],[8,9],[10],[11],[7,12],[13]])) (.reg AG7 [1,6,7]))))))))))) (.reg AOO [1,6,7]))
def AG6:=[xm 110 6,xm 4 110,xv 5 0]
def c15:AC:=xS AOS [0,1] (xS AOR [1,6] (.seq (xS AOQ [1,6,7] (.block 0 (.loop AOU))) (xE AG6 [4,5])))
def ATk:List AR:=[.t 4,.t 5]
theorem k15:AU 15 2 c15 ATk:=by kernel_rfl
def ABT:=[xo (.mv 0 (.c (.own 22 1 [])))]
def ABS:=[xo (.bsl 1 3 1 [(xi 0)]),xo (.bsl 2 3 1 [(xi 0)]),xo (.bsl 3 3 1 [(xi 1),(xi 2)]),xo (.bsl 4 3 1 [(xi 4)]),xo (.bsl 5 22 1 [(.c (.nil 3 1)),(xt 1),(xt 2),(xt 3),(.c (.nil 3 1)),(xt 4)]),xn 0 5]
def c16:AC:=xS ABT [] (xE ABS [0])
def AOG:List AR:=[.t 0]
theorem k16:AU 16 0 c16 AOG:=by kernel_rfl
def AOB:=[xo (.mv 2 (xj 0))]
def AOA:=[xm 3 0,xZ 4 3,xa 5 4 2 1,xl 6 5 1,x1 7 57 6,xm 2 7]
def c17:AC:=xS AOB [0] (xE AOA [2])
def AOC:List AR:=[.t 2]
theorem k17:AU 17 1 c17 AOC:=by kernel_rfl
def AN6:=[xv 2 0]
def AN5:=[xm 3 0,xZ 4 3,xa 5 4 1 1,xl 6 5 1,xp 7 (.mlen (xt 6)),xm 2 7]
def c19:AC:=xS AN6 [0] (xE AN5 [2])
def ATj:List AR:=[.t 2]
theorem k19:AU 19 1 c19 ATj:=by kernel_rfl
def ANx:=[xw 0 false]
def ANw:=[x0 8 9,xm 1 8]
def ANv:=[xm 10 1,xp 11 (.build [xz,xz,xz,.nil 130 5,.nil 88 4,.nil 3 1,.nil 246 3,.nil 247 4] [(0,1,(xi 7))]),xo (.bsl 12 74 8 [(xt 11)]),x2 13 13 10 12,xn 9 13,xe 14 9 0,xe 15 9 1,xm 2 14,xm 3 15]
def ANu:=[xm 16 1,xp 17 (.eqP false (xt 16) (.c (.v .nilp))),xm 18 17,xG 18 false (xm 19 2),xG 18 false (xp 20 (.eqP false (xt 19) (.c (.v .nilp)))),xO 21 18 20,xm 22 21,xG 22 false (xm 23 3),xG 22 false (xC 24 .neq 23 0),xO 25 22 24]
def ANt:=[xw 0 false]
def ANs:=[xm 27 2,xc 28 59 [(xt 27),(xi 8)],xn 26 28,xe 29 26 0,xe 30 26 1,xo (.alloc 4 [xz,xz,xz,xz,.own 3 1 [],.own 171 3 [],.own 58 3 [],.own 74 8 [],.own 76 2 [],.own 3 1 [],.own 47 1 [],.own 47 1 [],.own 5 1 []]),xs 4 29 13,xm 5 30]
def ANr:=[xm 31 2,x1 32 17 31,xp 33 (.build [xz,xz,xz,xz,.v (.int .u64 0),.v (.int .u64 0),xz,.v (.int .u64 0)] [(5,1,(xt 32))]),xc 34 39 [(xj 5),(xt 33)],xo (.alloc 6 [xz,xz,xz,xz,.v (.int .u64 0),.v (.int .u64 0),xz,.v (.int .u64 0)]),xs 6 34 8]
def ANq:=[xL 35 4 13,xo (.alloc 7 [xz,xz,xz,xz,.own 3 1 [],.own 171 3 [],.own 58 3 [],.own 74 8 [],.own 76 2 [],.own 3 1 [],.own 47 1 [],.own 47 1 [],.own 5 1 []]),xs 7 35 13]
def ANp:=[xa 36 7 1 1,xo (.store (xt 36) (xi 7) 1)]
def ANo:=[xm 37 5,xC 38 .eql 37 0,xm 39 38,xG 39 true (xa 40 4 7 1),xG 39 true (xl 41 40 1),xG 39 true (xA 42 41),xG 39 true (xC 43 .eql 42 0),xN 44 39 43,xm 45 44,xG 45 true (xm 46 1),xG 45 true (xc 47 40 [(xj 5)]),xG 45 true (xL 48 6 8),xG 45 true (xL 49 4 13),xg 45 true (.callF (some 50) (xf 34) [(xt 46),(xt 47),(xt 48),(xt 49)]),xG 45 true (xC 51 .eql 50 0),xN 52 45 51,xm 53 52,xG 53 true (xm 54 1),xG 53 true (xc 55 40 [(xj 5)]),xG 53 true (xL 56 6 8),xG 53 true (xL 57 7 13),xg 53 true (.callF (some 58) (xf 34) [(xt 54),(xt 55),(xt 56),(xt 57)]),xG 53 true (xC 59 .neq 58 0),xN 60 53 59,xm 0 60]
def c20:AC:=xS ANx [] (xS ANw [1] (xS ANv [1,2,3] (xQ ANu [1,2,25] 25 (xE ANt [0]) (xS ANs [1,2,4,5] (xS ANr [1,4,5,6] (xS ANq [1,4,5,6,7] (xS ANp [1,4,5,6,7] (.seq (.regD ANo [0] (xK [[],[0],[1],[2],[3],[4],[5],[6],[7],[8],[8],[8],[8],[9,10,11,12],[13],[14],[15],[16],[16],[16],[16],[17,18,19,20],[21],[22],[23]])) .ret))))))))
def ANy:List AR:=[.t 0]
theorem k20:AU 20 0 c20 ANy:=by kernel_rfl
def AAw:=[xo (.mv 4 (.c (.own 84 4 []))),xv 5 0]
def AAv:=[xm 14 0,xm 15 1,x2 16 63 14 15,xm 6 16]
def AAu:=[xm 17 6,xC 18 .neq 17 0]
def ANL:=[xm 19 6,xo (.mv 4 (.c (.own 84 4 []))),xm 5 19]
def AAt:=[xo (.mkm 20),xm 7 20]
def AAs:=[xn 21 0,xm 22 1,xC 23 .add 22 1,xp 24 (.slc (xt 21) none (some (xt 23)) 5),xA 25 24,xv 26 0]
def AAr:=[xB 27 .lss 26 25]
def AAq:=[xm 28 26,xI 29 24 26 5,xL 30 29 5,xo (.alloc 9 [.own 3 1 [],xz,xz,.own 368 8 [],.own 84 4 []]),xm 8 28,xs 9 30 5]
def AAp:=[xL 32 9 5,xm 33 7,x2 34 64 32 33,xn 31 34,xe 35 31 0,xe 36 31 1,xn 10 35,xm 11 36]
def iX:=[xm 37 11]
def Qr:=[xm 38 7,xm 39 8,xn 40 10,xo (.mput (xt 38) (xt 39) (xt 40) false [0])]
def Qq:=[xC 41 .add 26 1,xm 26 41]
def ib:AC:=xS AAr [1,7,24,25,26,27] (.seq (xD 27 0) (.seq (.block 1 (xS AAq [1,7,8,9,24,25,26] (xS AAp [1,7,8,10,11,24,25,26] (xS iX [1,7,8,10,24,25,26,37] (.cond (xt 37) (.reg Qr [1,7,24,25,26]) .skip))))) (.reg Qq [1,7,24,25,26])))
def ia:=[xm 43 7,xm 44 1,xp 45 (.look (xt 43) (xt 44) false [0] [.nil 84 4] false true),xn 42 45,xe 46 42 0,xe 47 42 1,xn 12 46,xm 13 47]
def iZ:=[xm 48 13,xT 49 48]
def AFZ:=[xo (.mv 4 (.c (.own 84 4 []))),xv 5 4]
def iY:=[xn 50 12,xn 4 50,xv 5 0]
def c24:AC:=xS AAw [0,1] (.seq (xS AAv [0,1,6] (xS AAu [0,1,6,18] (.cond (xt 18) (xE ANL [4,5]) .skip))) (xS AAt [0,1,7] (.seq (xS AAs [1,7,24,25,26] (.block 0 (.loop ib))) (xS ia [12,13] (xQ iZ [12,49] 49 (xE AFZ [4,5]) (xE iY [4,5]))))))
def ANM:List AR:=[.t 4,.t 5]
theorem k24:AU 24 2 c24 ANM:=by kernel_rfl
def AAm:=[xx 3 0,xx 4 1,xx 5 2,xo (.alloc 6 [.v (.bool false)]),xo (.alloc 7 [xz])]
def AAl:=[xl 10 3 1,xp 11 (.eqP false (xt 10) (.c (.v .nilp)))]
def ANB:=[xo (.store (xt 6) (xy false) 1),xo (.store (xt 7) (xi 1) 1)]
def AAk:=[xL 12 4 4,x1 13 66 12,xL 14 5 3,x1 15 67 14,xo (.bsl 16 37 1 [(xt 13),(xt 15)]),x1 17 65 16,xm 8 17]
def AAj:=[xm 18 8,xC 19 .neq 18 0]
def AAi:=[xm 20 8,xo (.store (xt 6) (xy false) 1),xs 7 20 1]
def AAh:=[xL 21 4 4,x1 22 68 21]
def AAg:=[xo (.alloc 9 [xz,xz,.own 368 8 [],.own 84 4 []]),xs 9 23 4]
def AAf:=[xa 24 9 0 1,xl 25 24 1,xC 26 .eql 25 1,xm 27 26,xG 27 true (xa 28 9 1 1),xG 27 true (xl 29 28 1),xG 27 true (xl 30 3 1),xg 27 true (.callF (some 31) (xf 69) [(xt 30)]),xG 27 true (xB 32 .geq 29 31),xN 33 27 32]
def gF:=[xo (.store (xt 6) (xy false) 1),xo (.store (xt 7) (xi 7) 1)]
def Te:AC:=.reg AAg [3,6,7,9]
def Td:AC:=.block 1 (.seq (.regA AAf [6,7,33] (xK [[],[0],[1],[2],[3],[4],[3],[6],[5,7],[8]]) (.take 0 (.take 1 (.take 2 (.take 3 (.take 4 (.take 6 (.pick (.alt 5 (.take 7 tq2) (.alt 7 (.take 5 tq2) .none)))))))))) (.cond (xt 33) (xE gF []) .skip))
def gG:=[xL 34 5 3,xl 35 3 1,xo (.callF (some 36) (xf 69) [(xt 35)]),x2 37 70 34 36,xT 38 37]
def Qh:=[xo (.store (xt 6) (xy false) 1),xo (.store (xt 7) (xi 7) 1)]
def Qg:=[xl 39 3 1,xL 40 4 4,xL 41 5 3,x3 42 71 39 40 41,xs 6 42 1,xo (.store (xt 7) (xi 0) 1)]
def c25:AC:=xS AAm [3,4,5,6,7] (xQ AAl [3,4,5,6,7,11] 11 (xE ANB [6,7]) (.seq (.seq (.regD AAk [3,4,5,6,7,8] (xK [[],[0],[],[1,2],[3],[4],[5]])) (xS AAj [3,4,5,6,7,8,19] (.cond (xt 19) (xE AAi [6,7]) .skip))) (.seq (xS AAh [3,4,5,6,7,22] (.block 0 (.rangeF (xt 22) [23] Te Td))) (.seq (.seq (.regA gG [3,4,5,6,7,38] (xK [[],[],[1],[0,2],[3]]) (.take 1 (.pick (.alt 0 (.take 2 tq3) (.alt 2 (.take 0 tq3) .none))))) (.cond (xt 38) (xE Qh [6,7]) .skip)) (xE Qg [6,7])))))
def Qi:List AR:=[.c 6 1 false,.c 7 1 false]
theorem k25:AU 25 3 c25 Qi:=by kernel_rfl
def AMW:=[xx 6 2,xx 7 3,xv 8 0]
def AMV:=[xm 22 0,xp 23 (.eqP false (xt 22) (.c (.v .nilp)))]
def AMU:=[xv 8 1]
def AMT:=[xm 24 1,xL 25 6 8,x2 26 86 24 25,xm 9 26]
def AMS:=[xm 27 9,xC 28 .neq 27 0]
def AMR:=[xm 29 9,xm 8 29]
def AMQ:=[xL 30 7 13,x1 31 87 30,xm 10 31]
def AMP:=[xm 32 10,xC 33 .neq 32 0]
def AMO:=[xm 34 10,xm 8 34]
def AMN:=[xo (.mv 11 (.c (.own 193 2 [])))]
def AEU:=[xa 35 7 7 1,xl 36 35 1,xA 37 36,xv 38 0]
def AET:=[xB 39 .lss 38 37]
def AES:=[xI 40 36 38 8,xL 41 40 8,xo (.alloc 13 [xz,xz,xz,.own 130 5 [],.own 88 4 [],.own 3 1 [],.own 246 3 [],.own 247 4 []]),xs 13 41 8]
def AER:=[xL 43 13 8,x1 44 51 43,xn 42 44,xe 45 42 0,xe 46 42 1,xn 14 45,xm 15 46]
def AEQ:=[xm 47 15,xC 48 .neq 47 0]
def AEP:=[xm 49 15,xm 8 49]
def AEO:=[xn 50 11,xa 51 13 0 1,xl 52 51 1,xn 53 14,xp 54 (.build [xz,.nil 5 1] [(0,1,(xt 52)),(1,1,(xt 53))]),xo (.bsl 55 193 2 [(xt 54)]),xo (.app 56 (xu 50) (xt 55) 193 2 32),xn 11 56]
def AEN:=[xC 57 .add 38 1,xm 38 57]
def AMX:AC:=xS AET [0,6,7,11,36,37,38,39] (.seq (xD 39 0) (.seq (.block 1 (xS AES [0,6,7,11,13,36,37,38] (xS AER [0,6,7,11,13,14,15,36,37,38] (xQ AEQ [0,6,7,11,13,14,15,36,37,38,48] 48 (xE AEP [8]) (.reg AEO [0,6,7,11,36,37,38]))))) (.reg AEN [0,6,7,11,36,37,38])))
def AEM:=[xL 59 7 13,x1 60 88 59,xn 58 60,xe 61 58 0,xe 62 58 1,xm 16 61,xm 17 62]
def AEL:=[xa 63 6 5 1,xl 64 63 1,xm 65 16,xm 66 17,xn 67 11,xa 68 7 10 3,xL 69 68 3,xc 70 89 [(xt 64),(xt 65),(xt 66),(xt 67),(xt 69)],xm 18 70]
def AEK:=[xm 71 18,xC 72 .neq 71 0]
def AEJ:=[xm 73 18,xm 8 73]
def AEI:=[xm 75 0,xL 76 7 13,x2 77 90 75 76,xn 74 77,xe 78 74 0,xe 79 74 1,xe 80 74 2,xn 19 78,xn 20 79,xm 21 80]
def AEH:=[xm 82 21,xC 83 .neq 82 0,xm 81 83]
def AEG:=[xm 84 21,xm 8 84]
def AEF:=[xn 86 19,xa 87 7 8 1,xl 88 87 1,x2 89 91 86 88,xT 90 89,xm 91 90,xG 91 false (xn 92 20),xG 91 false (xa 93 7 9 1),xG 91 false (xl 94 93 1),xG 91 false (x2 95 92 92 94),xG 91 false (xT 96 95),xO 97 91 96,xm 85 97]
def AEE:=[xv 8 10]
def AED:=[xv 8 0]
def c34:AC:=xS AMW [0,1,6,7] (xQ AMV [0,1,6,7,23] 23 (xE AMU [8]) (.seq (xS AMT [0,6,7,9] (xS AMS [0,6,7,9,28] (.cond (xt 28) (xE AMR [8]) .skip))) (.seq (xS AMQ [0,6,7,10] (xS AMP [0,6,7,10,33] (.cond (xt 33) (xE AMO [8]) .skip))) (xS AMN [0,6,7,11] (.seq (xS AEU [0,6,7,11,36,37,38] (.block 0 (.loop AMX))) (xS AEM [0,6,7,11,16,17] (.seq (xS AEL [0,7,18] (xS AEK [0,7,18,72] (.cond (xt 72) (xE AEJ [8]) .skip))) (xS AEI [7,19,20,21] (.seq (.block 2 (xS AEH [7,19,20,21,81] (.cond (xt 81) (xE AEG [8]) (xS AEF [85] (.cond (xt 85) (xE AEE [8]) .skip))))) (xE AED [8]))))))))))
def AMY:List AR:=[.t 8]
theorem k34:AU 34 4 c34 AMY:=by kernel_rfl
def AMH:=[xx 3 1,xo (.alloc 4 [xz,xz,xz,xz,.v (.int .u64 0),.v (.int .u64 0),xz,.v (.int .u64 0)])]
def AMG:=[xm 5 0,x1 6 40 5,xL 7 3 8,x2 8 95 6 7,xa 9 3 7 1,xs 9 8 1]
def AMF:=[xL 10 3 8,xs 4 10 8]
def c39:AC:=xS AMH [0,3,4] (.seq (.regD AMG [3,4] (xK [[],[0],[],[1,2],[3],[4]])) (xE AMF [4]))
def AMI:List AR:=[.c 4 8 true]
theorem k39:AU 39 2 c39 AMI:=by kernel_rfl
def ALx:=[xo (.mv 2 (xj 0))]
def ALw:=[xm 3 0,xp 4 (.cint .i64 (xt 3)),xo (.bsl 5 3 1 [(xt 4)]),xc 6 96 [(.c (.v (.str ⟨#[107,101,121]⟩))),(xt 5)],xm 2 6]
def c40:AC:=xS ALx [0] (xE ALw [2])
def ALy:List AR:=[.t 2]
theorem k40:AU 40 1 c40 ALy:=by kernel_rfl
def AAF:=[xo (.mv 2 (.c (.v .nilp)))]
def AAE:=[xn 3 0,x1 4 117 3,xp 5 (.build [.nil 5 1,xz] [(0,1,(xt 4))]),xx 6 5,xm 2 6]
def c44:AC:=xS AAF [0] (xE AAE [2])
def ALv:List AR:=[.t 2]
theorem k44:AU 44 1 c44 ALv:=by kernel_rfl
def AAD:=[xv 2 0]
def AAC:=[xm 3 0,x1 4 119 3,x1 5 118 4,xm 2 5]
def c45:AC:=xS AAD [0] (xE AAC [2])
def ALu:List AR:=[.t 2]
theorem k45:AU 45 1 c45 ALu:=by kernel_rfl
def AAB:=[xo (.mv 2 (.c (.v .nilp))),xv 3 0]
def AAA:=[xm 8 0,xA 9 8,xm 4 9]
def z8:=[xm 10 4,xC 11 .gtr 10 64]
def ALs:=[xo (.mv 2 (.c (.v .nilp))),xv 3 4]
def z7:=[xp 12 (.build (.nil 22 1::List.replicate 4096 (.v (.bool false))) []),xx 13 12,xm 5 13]
def z6:=[xn 14 0,xA 15 14,xv 16 0]
def zz:=[xB 17 .lss 16 15]
def zy:=[xI 18 14 16 1,xl 19 18 1,xn 7 19]
def zx:=[xm 20 4,xm 21 7,x2 22 120 20 21,xT 23 22,xm 24 23,xG 24 false (xm 25 7),xG 24 false (x1 26 121 25),xG 24 false (xT 27 26),xO 28 24 27]
def ALr:=[xo (.mv 2 (.c (.v .nilp))),xv 3 1]
def Zx:=[xm 29 5,xm 30 5,xZ 31 30,xa 32 31 0 1,xo (.take 33 (xt 32)),xn 34 7,x1 35 122 34,xo (.bsl 36 22 1 [(xt 35)]),xo (.app 37 (xu 33) (xt 36) 22 1 24),xZ 38 29,xa 39 38 0 1,xo (.store (xt 39) (xu 37) 1)]
def Zw:=[xC 40 .add 16 1,xm 16 40]
def Zy:AC:=xS zz [4,5,14,15,16,17] (.seq (xD 17 0) (.seq (.block 1 (xS zy [4,5,7,14,15,16] (xQ zx [4,5,7,14,15,16,28] 28 (xE ALr [2,3]) (.regD Zx [4,5,14,15,16] (xK [[],[],[1],[2],[3],[],[5],[6],[4,7],[0,8],[9],[10]]))))) (.reg Zw [4,5,14,15,16])))
def Zv:=[xm 41 5,x1 42 123 41,xT 43 42]
def AEC:=[xo (.mv 2 (.c (.v .nilp))),xv 3 9]
def Zu:=[xm 44 5,xm 2 44,xv 3 0]
def c46:AC:=xS AAB [0] (xS AAA [0,4] (xQ z8 [0,4,11] 11 (xE ALs [2,3]) (xS z7 [0,4,5] (.seq (xS z6 [4,5,14,15,16] (.block 0 (.loop Zy))) (xQ Zv [5,43] 43 (xE AEC [2,3]) (xE Zu [2,3]))))))
def ALt:List AR:=[.t 2,.t 3]
theorem k46:AU 46 1 c46 ALt:=by kernel_rfl
def TI:=[xv 6 0]
def TH:=[xm 7 1,xC 8 .lss 7 0,xm 9 8,xG 9 false (xm 10 1),xG 9 false (xm 11 0),xG 9 false (xA 12 11),xG 9 false (xB 13 .geq 10 12),xO 14 9 13]
def Zq:=[xv 6 0]
def zw:=[xn 15 0,xm 16 1,xI 17 15 16 1,xl 18 17 1,xm 19 2,x2 20 11 18 19,xm 6 20]
def c47:AC:=xS TI [0,1,2] (xQ TH [0,1,2,14] 14 (xE Zq [6]) (xE zw [6]))
def uP:List AR:=[.t 6]
theorem k47:AU 47 3 c47 uP:=by kernel_rfl
def Zp:=[xo (.alloc 2 [xz,xz,xz,.own 130 5 [],.own 131 4 [],.own 3 1 [],.own 135 3 [],.own 137 4 []])]
def Zo:=[xm 9 0,xc 10 47 [(xt 9),(xi 0),(xi 40)],xm 11 0,xc 12 47 [(xt 11),(xi 1),(xi 5)],xm 13 0,x1 14 124 13,xp 15 (.build [xz,xz,xz,.nil 130 5,.nil 131 4,.nil 3 1,.nil 135 3,.nil 137 4] [(0,1,(xt 10)),(1,1,(xt 12)),(3,1,(xt 14))]),xo (.alloc 3 [xz,xz,xz,.own 130 5 [],.own 131 4 [],.own 3 1 [],.own 135 3 [],.own 137 4 []]),xs 3 15 8]
def Zi:=[xm 16 0,xc 17 47 [(xt 16),(xi 2),(xi 3)],xC 18 .eql 17 0]
def Zh:=[xm 19 0,xc 20 47 [(xt 19),(xi 3),(xi 5)],xa 21 3 2 1,xs 21 20 1]
def Zg:=[xv 4 0]
def zu:=[xm 22 4,xa 23 3 3 1,xl 24 23 1,xA 25 24,xB 26 .lss 22 25]
def zt:=[xm 29 0,xm 30 4,xb 31 .add (xi 4) (xt 30),xc 32 47 [(xt 29),(xt 31),(xi 1000)],xm 5 32]
def zr:=[xa 33 3 4 1,xo (.take 34 (xt 33)),xm 35 4,xm 36 5,xC 37 .rem 36 3,xp 38 (.build [xz,xz] [(0,1,(xt 35)),(1,1,(xt 37))]),xm 39 5,xC 40 .rem 39 50,xb 41 .add (xi 36000) (xt 40),xm 42 5,xC 43 .rem 42 20,xp 44 (.build [xz,xz,xz,xz] [(0,2,(xt 38)),(2,1,(xt 41)),(3,1,(xt 43))]),xo (.bsl 45 131 4 [(xt 44)]),xo (.app 46 (xu 34) (xt 45) 131 4 32),xa 47 3 4 1,xo (.store (xt 47) (xu 46) 1)]
def Ze:=[xm 48 5,xC 49 .rem 48 5,xC 50 .eql 49 0]
def Zn:=[xa 51 3 5 1,xo (.take 52 (xt 51)),xm 53 4,xo (.bsl 54 3 1 [(xt 53)]),xo (.app 55 (xu 52) (xt 54) 3 1 8),xa 56 3 5 1,xo (.store (xt 56) (xu 55) 1)]
def Zf:=[xm 27 4,xC 28 .add 27 1,xm 4 28]
def TG:AC:=.seq (xS zu [0,2,3,4,26] (xD 26 0)) (.seq (.block 1 (xS zt [0,2,3,4,5] (xS zr [0,2,3,4,5] (xS Ze [0,2,3,4,50] (.cond (xt 50) (.reg Zn [0,2,3,4]) .skip))))) (.reg Zf [0,2,3,4]))
def Py:=[xm 57 0,xc 58 47 [(xt 57),(xi 8),(xi 3)],xm 6 58]
def Px:=[xv 7 0]
def Zm:=[xm 59 7,xm 60 6,xB 61 .lss 59 60]
def Zl:=[xm 64 0,xm 65 7,xb 66 .add (xi 9) (xt 65),xc 67 47 [(xt 64),(xt 66),(xi 1000)],xm 8 67]
def Zk:=[xa 68 3 6 1,xo (.take 69 (xt 68)),xm 70 7,xb 71 .mul (xi 2) (xt 70),xb 72 .add (xi 1) (xt 71),xm 73 8,xC 74 .rem 73 2,xB 75 .add 72 74,xm 76 6,xp 77 (.build [xz,xz] [(0,1,(xi 1)),(1,1,(xt 76))]),xp 78 (.build [xz,xz,xz] [(0,1,(xt 75)),(1,2,(xt 77))]),xo (.bsl 79 135 3 [(xt 78)]),xo (.app 80 (xu 69) (xt 79) 135 3 24),xa 81 3 6 1,xo (.store (xt 81) (xu 80) 1)]
def Pv:=[xm 82 8,xC 83 .rem 82 3,xC 84 .eql 83 0]
def Zj:=[xa 85 3 7 1,xo (.take 86 (xt 85)),xm 87 8,xC 88 .rem 87 5,xb 89 .add (xi 1) (xt 88),xm 90 8,xC 91 .rem 90 7,xb 92 .add (xi 2) (xt 91),xm 93 8,xm 94 8,xm 95 8,xC 96 .quo 95 7,xB 97 .add 94 96,xp 98 (.build [xz,xz,xz,xz] [(0,1,(xt 89)),(1,1,(xt 92)),(2,1,(xt 93)),(3,1,(xt 97))]),xo (.bsl 99 137 4 [(xt 98)]),xo (.app 100 (xu 86) (xt 99) 137 4 32),xa 101 3 7 1,xo (.store (xt 101) (xu 100) 1)]
def Pw:=[xm 62 7,xC 63 .add 62 1,xm 7 63]
def TF:AC:=.seq (xS Zm [0,2,3,6,7,61] (xD 61 2)) (.seq (.block 3 (xS Zl [0,2,3,6,7,8] (xS Zk [0,2,3,6,7,8] (xS Pv [0,2,3,6,7,8,84] (.cond (xt 84) (.reg Zj [0,2,3,6,7]) .skip))))) (.reg Pw [0,2,3,6,7]))
def Pu:=[xL 102 3 8,xs 2 102 8]
def c48:AC:=xS Zp [0,2] (xS Zo [0,2,3] (xQ Zi [0,2,3,18] 18 (.reg Zh [0,2,3]) (.seq (xS Zg [0,2,3,4] (.block 0 (.loop TG))) (xS Py [0,2,3,6] (.seq (xS Px [0,2,3,6,7] (.block 2 (.loop TF))) (xE Pu [2]))))))
def AEB:List AR:=[.c 2 8 true]
theorem k48:AU 48 1 c48 AEB:=by kernel_rfl
def Zd:=[xx 1 0,xw 2 false]
def Zc:=[xa 12 1 3 1,xl 13 12 1,xA 14 13,xm 3 14]
def ZU:=[xa 15 1 0 1,xl 16 15 1,xc 17 125 [(xt 16),(xi 0),(xi 4095)],xT 18 17,xm 19 18,xG 19 false (xa 20 1 1 1),xG 19 false (xl 21 20 1),xG 19 false (xc 22 125 [(xt 21),(xi 0),(xi 4)]),xG 19 false (xT 23 22),xO 24 19 23,xm 25 24,xG 25 false (xa 26 1 2 1),xG 25 false (xl 27 26 1),xG 25 false (xc 28 125 [(xt 27),(xi 0),(xi 4)]),xG 25 false (xT 29 28),xO 30 25 29,xm 31 30,xG 31 false (xa 32 1 3 1),xG 31 false (xl 33 32 1),xG 31 false (x1 34 126 33),xG 31 false (xC 35 .neq 34 0),xO 36 31 35,xm 37 36,xG 37 false (xa 38 1 4 1),xG 37 false (xl 39 38 1),xG 37 false (xA 40 39),xG 37 false (xC 41 .gtr 40 4096),xO 42 37 41,xm 43 42,xG 43 false (xa 44 1 7 1),xG 43 false (xl 45 44 1),xG 43 false (xA 46 45),xG 43 false (xC 47 .gtr 46 4096),xO 48 43 47]
def JF:=[xw 2 false]
def ZN:=[xo (.mv 4 (.c (.v (.int .i64 (-1)))))]
def ZM:=[xv 5 0]
def zq:=[xm 49 5,xa 50 1 4 1,xl 51 50 1,xA 52 51,xB 53 .lss 49 52]
def zo:=[xa 56 1 4 1,xl 57 56 1,xm 58 5,xI 59 57 58 4,xL 60 59 4,xo (.alloc 6 [xz,xz,xz,xz]),xs 6 60 4]
def ZL:=[xa 61 6 0 2,xa 62 61 0 1,xl 63 62 1,xm 64 3,xC 65 .sub 64 1,xc 66 125 [(xt 63),(xi 0),(xt 65)],xT 67 66,xm 68 67,xG 68 false (xa 69 6 0 2),xG 68 false (xa 70 69 1 1),xG 68 false (xl 71 70 1),xG 68 false (xc 72 125 [(xt 71),(xi 0),(xi 63)]),xG 68 false (xT 73 72),xO 74 68 73,xm 75 74,xG 75 false (xa 76 6 2 1),xG 75 false (xl 77 76 1),xG 75 false (xc 78 125 [(xt 77),(xi 0),(xi 131072)]),xG 75 false (xT 79 78),xO 80 75 79,xm 81 80,xG 81 false (xa 82 6 3 1),xG 81 false (xl 83 82 1),xG 81 false (xc 84 125 [(xt 83),(xi 0),(xi 4095)]),xG 81 false (xT 85 84),xO 86 81 85,xm 87 86,xG 87 false (xa 88 6 0 2),xG 87 false (xa 89 88 0 1),xG 87 false (xl 90 89 1),xG 87 false (xb 91 .mul (xi 64) (xt 90)),xG 87 false (xa 92 6 0 2),xG 87 false (xa 93 92 1 1),xG 87 false (xl 94 93 1),xG 87 false (xB 95 .add 91 94),xG 87 false (xm 96 4),xG 87 false (xB 97 .leq 95 96),xO 98 87 97]
def Zb:=[xw 2 false]
def Za:=[xa 99 6 0 2,xa 100 99 0 1,xl 101 100 1,xb 102 .mul (xi 64) (xt 101),xa 103 6 0 2,xa 104 103 1 1,xl 105 104 1,xB 106 .add 102 105,xm 4 106]
def zp:=[xm 54 5,xC 55 .add 54 1,xm 5 55]
def TE:AC:=.seq (xS zq [1,3,4,5,53] (xD 53 0)) (.seq (.block 1 (xS zo [1,3,4,5,6] (xQ ZL [1,3,5,6,98] 98 (xE Zb [2]) (.reg Za [1,3,4,5])))) (.reg zp [1,3,4,5]))
def Pt:=[xv 7 0]
def ZZ:=[xm 107 7,xa 108 1 5 1,xl 109 108 1,xA 110 109,xB 111 .lss 107 110]
def Ps:=[xa 114 1 5 1,xl 115 114 1,xm 116 7,xI 117 115 116 1,xl 118 117 1,xm 119 3,xC 120 .sub 119 1,xc 121 125 [(xt 118),(xi 0),(xt 120)],xT 122 121,xm 123 122,xG 123 false (xm 124 7),xG 123 false (xC 125 .gtr 124 0),xG 123 false (xm 126 125),xG 126 true (xa 127 1 5 1),xG 126 true (xl 128 127 1),xG 126 true (xm 129 7),xG 126 true (xI 130 128 129 1),xG 126 true (xl 131 130 1),xG 126 true (xa 132 1 5 1),xG 126 true (xl 133 132 1),xG 126 true (xm 134 7),xG 126 true (xC 135 .sub 134 1),xG 126 true (xI 136 133 135 1),xG 126 true (xl 137 136 1),xG 126 true (xB 138 .leq 131 137),xG 123 false (xN 139 126 138),xO 140 123 139]
def ZX:=[xw 2 false]
def ZY:=[xm 112 7,xC 113 .add 112 1,xm 7 113]
def TD:AC:=.seq (xS ZZ [1,3,7,111] (xD 111 2)) (.seq (.block 3 (.seq (.regD Ps [1,3,7,140] (xK [[],[0],[],[1,2],[3],[],[5],[4,6],[7],[8],[9],[10],[11],[12],[13],[12],[14,15],[16],[12],[18],[12],[20],[19,21],[22],[17,23],[24],[25]])) (.cond (xt 140) (xE ZX [2]) .skip))) (.reg ZY [1,3,7]))
def Pq:=[xv 8 0]
def ZW:=[xm 141 8,xa 142 1 6 1,xl 143 142 1,xA 144 143,xB 145 .lss 141 144]
def ZT:=[xa 148 1 6 1,xl 149 148 1,xm 150 8,xI 151 149 150 3,xL 152 151 3,xo (.alloc 9 [xz,xz,xz]),xs 9 152 3]
def Pp:=[xa 153 9 0 1,xl 154 153 1,xc 155 125 [(xt 154),(xi 1),(xi 4095)],xT 156 155,xm 157 156,xG 157 false (xa 158 9 1 2),xG 157 false (xL 159 158 2),xG 157 false (x1 160 127 159),xG 157 false (xC 161 .neq 160 0),xO 162 157 161,xm 163 162,xG 163 false (xa 164 9 1 2),xG 163 false (xa 165 164 0 1),xG 163 false (xl 166 165 1),xG 163 false (xC 167 .leq 166 0),xO 168 163 167,xm 169 168,xG 169 false (xa 170 9 1 2),xG 169 false (xa 171 170 0 1),xG 169 false (xl 172 171 1),xG 169 false (xa 173 9 1 2),xG 169 false (xa 174 173 1 1),xG 169 false (xl 175 174 1),xG 169 false (xB 176 .gtr 172 175),xO 177 169 176,xm 178 177,xG 178 false (xm 179 8),xG 178 false (xC 180 .gtr 179 0),xG 178 false (xm 181 180),xG 181 true (xa 182 9 0 1),xG 181 true (xl 183 182 1),xG 181 true (xa 184 1 6 1),xG 181 true (xl 185 184 1),xG 181 true (xm 186 8),xG 181 true (xC 187 .sub 186 1),xG 181 true (xI 188 185 187 3),xG 181 true (xa 189 188 0 1),xG 181 true (xl 190 189 1),xG 181 true (xB 191 .leq 183 190),xG 178 false (xN 192 181 191),xO 193 178 192]
def ZS:=[xw 2 false]
def ZV:=[xm 146 8,xC 147 .add 146 1,xm 8 147]
def TC:AC:=.seq (xS ZW [1,8,145] (xD 145 4)) (.seq (.block 5 (xS ZT [1,8,9] (.seq (.regD Pp [1,8,193] (xK [[],[0],[1],[2],[3],[4],[5],[6],[7],[8],[9],[10],[11],[12],[13],[14],[15],[16],[17],[18],[16],[20],[21],[19,22],[23],[24],[25],[26],[27],[28],[29],[28],[31],[28],[33],[32,34],[35],[36],[30,37],[38],[39]])) (.cond (xt 193) (xE ZS [2]) .skip)))) (.reg ZV [1,8]))
def Po:=[xv 10 0]
def ZR:=[xm 194 10,xa 195 1 7 1,xl 196 195 1,xA 197 196,xB 198 .lss 194 197]
def ZP:=[xa 201 1 7 1,xl 202 201 1,xm 203 10,xI 204 202 203 4,xL 205 204 4,xo (.alloc 11 [xz,xz,xz,xz]),xs 11 205 4]
def Pn:=[xa 206 11 0 1,xl 207 206 1,xc 208 125 [(xt 207),(xi 1),(xi 4095)],xT 209 208,xm 210 209,xG 210 false (xa 211 11 1 1),xG 210 false (xl 212 211 1),xG 210 false (xc 213 125 [(xt 212),(xi 1),(xi 4095)]),xG 210 false (xT 214 213),xO 215 210 214,xm 216 215,xG 216 false (xa 217 11 2 1),xG 216 false (xl 218 217 1),xG 216 false (xa 219 11 3 1),xG 216 false (xl 220 219 1),xG 216 false (xc 221 125 [(xt 218),(xi 0),(xt 220)]),xG 216 false (xT 222 221),xO 223 216 222,xm 224 223,xG 224 false (xa 225 11 3 1),xG 224 false (xl 226 225 1),xG 224 false (xC 227 .gtr 226 131072),xO 228 224 227]
def ZO:=[xw 2 false]
def ZQ:=[xm 199 10,xC 200 .add 199 1,xm 10 200]
def TB:AC:=.seq (xS ZR [1,10,198] (xD 198 6)) (.seq (.block 7 (xS ZP [1,10,11] (xS Pn [1,10,228] (.cond (xt 228) (xE ZO [2]) .skip)))) (.reg ZQ [1,10]))
def Pm:=[xw 2 true]
def c49:AC:=xS Zd [1] (xS Zc [1,3] (xQ ZU [1,3,48] 48 (xE JF [2]) (xS ZN [1,3,4] (.seq (xS ZM [1,3,4,5] (.block 0 (.loop TE))) (.seq (xS Pt [1,3,7] (.block 2 (.loop TD))) (.seq (xS Pq [1,8] (.block 4 (.loop TC))) (.seq (xS Po [1,10] (.block 6 (.loop TB))) (xE Pm [2]))))))))
def Ih:List AR:=[.t 2]
theorem k49:AU 49 1 c49 Ih:=by kernel_rfl
def zX:=[xo (.mv 0 (.c (.v .nilp)))]
def zW:=[xo (.mkm 1),xo (.mkm 2),xp 3 (.build [.v .nilm,.v .nilm] [(0,1,(xt 1)),(1,1,(xt 2))]),xx 4 3,xm 0 4]
def c50:AC:=xS zX [] (xE zW [0])
def ADv:List AR:=[.t 0]
theorem k50:AU 50 0 c50 ADv:=by kernel_rfl
def Y6:=[xx 1 0,xo (.mv 2 (.c (.own 5 1 []))),xv 3 0]
def Y5:=[xL 14 1 8,x1 15 128 14,xT 16 15]
def zV:=[xo (.mv 2 (.c (.own 5 1 []))),xv 3 1]
def zU:=[xo (.alloc 4 [.own 5 1 []])]
def zT:=[xp 17 (.mkf 129 [(xt 4)]),xm 5 17]
def zS:=[xm 18 5,xa 19 1 0 1,xl 20 19 1,xa 21 1 1 1,xl 22 21 1,xa 23 1 2 1,xl 24 23 1,xo (.bsl 25 3 1 [(xt 20),(xt 22),(xt 24)]),xo (.call (some 26) (xt 18) [(xt 25)])]
def zR:=[xa 28 1 3 1,xl 29 28 1,x1 30 130 29,xn 27 30,xe 31 27 0,xe 32 27 1,xn 6 31,xm 7 32]
def zQ:=[xn 33 6,x2 34 99 4 33]
def zO:=[xm 35 5,xa 36 1 4 1,xl 37 36 1,xA 38 37,xo (.bsl 39 3 1 [(xt 38)]),xo (.call (some 40) (xt 35) [(xt 39)])]
def zN:=[xa 41 1 4 1,xl 42 41 1,xA 43 42,xv 44 0]
def Y4:=[xB 45 .lss 44 43]
def Y3:=[xI 46 42 44 4,xL 47 46 4,xo (.alloc 9 [xz,xz,xz,xz]),xs 9 47 4]
def Y2:=[xm 48 5,xa 49 9 0 2,xa 50 49 0 1,xl 51 50 1,xa 52 9 0 2,xa 53 52 1 1,xl 54 53 1,xa 55 9 2 1,xl 56 55 1,xa 57 9 3 1,xl 58 57 1,xo (.bsl 59 3 1 [(xt 51),(xt 54),(xt 56),(xt 58)]),xo (.call (some 60) (xt 48) [(xt 59)])]
def Y1:=[xC 61 .add 44 1,xm 44 61]
def Y9:AC:=xS Y4 [1,4,5,42,43,44,45] (.seq (xD 45 0) (.seq (.block 1 (xS Y3 [1,4,5,9,42,43,44] (.reg Y2 [1,4,5,42,43,44]))) (.reg Y1 [1,4,5,42,43,44])))
def Y0:=[xa 62 1 5 1,xl 63 62 1,x2 64 100 4 63]
def Yz:=[xm 65 5,xa 66 1 6 1,xl 67 66 1,xA 68 67,xo (.bsl 69 3 1 [(xt 68)]),xo (.call (some 70) (xt 65) [(xt 69)])]
def Yy:=[xa 71 1 6 1,xl 72 71 1,xA 73 72,xv 74 0]
def Yx:=[xB 75 .lss 74 73]
def Yw:=[xI 76 72 74 3,xL 77 76 3,xo (.alloc 11 [xz,xz,xz]),xs 11 77 3]
def Yv:=[xm 78 5,xa 79 11 0 1,xl 80 79 1,xa 81 11 1 2,xa 82 81 0 1,xl 83 82 1,xa 84 11 1 2,xa 85 84 1 1,xl 86 85 1,xo (.bsl 87 3 1 [(xt 80),(xt 83),(xt 86)]),xo (.call (some 88) (xt 78) [(xt 87)])]
def Yu:=[xC 89 .add 74 1,xm 74 89]
def Y8:AC:=xS Yx [1,4,5,72,73,74,75] (.seq (xD 75 2) (.seq (.block 3 (xS Yw [1,4,5,11,72,73,74] (.reg Yv [1,4,5,72,73,74]))) (.reg Yu [1,4,5,72,73,74])))
def Yt:=[xm 90 5,xa 91 1 7 1,xl 92 91 1,xA 93 92,xo (.bsl 94 3 1 [(xt 93)]),xo (.call (some 95) (xt 90) [(xt 94)])]
def Ys:=[xa 96 1 7 1,xl 97 96 1,xA 98 97,xv 99 0]
def Yr:=[xB 100 .lss 99 98]
def Yq:=[xI 101 97 99 4,xL 102 101 4,xo (.alloc 13 [xz,xz,xz,xz]),xs 13 102 4]
def Yp:=[xm 103 5,xa 104 13 0 1,xl 105 104 1,xa 106 13 1 1,xl 107 106 1,xa 108 13 2 1,xl 109 108 1,xa 110 13 3 1,xl 111 110 1,xo (.bsl 112 3 1 [(xt 105),(xt 107),(xt 109),(xt 111)]),xo (.call (some 113) (xt 103) [(xt 112)])]
def Yo:=[xC 114 .add 99 1,xm 99 114]
def Y7:AC:=xS Yr [4,5,97,98,99,100] (.seq (xD 100 4) (.seq (.block 5 (xS Yq [4,5,13,97,98,99] (.reg Yp [4,5,97,98,99]))) (.reg Yo [4,5,97,98,99])))
def Yn:=[x1 115 102 4,xn 2 115,xv 3 0]
def c51:AC:=xS Y6 [1] (xQ Y5 [1,16] 16 (xE zV [2,3]) (xS zU [1,4] (xS zT [1,4,5] (xS zS [1,4,5] (xS zR [1,4,5,6] (xS zQ [1,4,5] (xS zO [1,4,5] (.seq (xS zN [1,4,5,42,43,44] (.block 0 (.loop Y9))) (xS Y0 [1,4,5] (xS Yz [1,4,5] (.seq (xS Yy [1,4,5,72,73,74] (.block 2 (.loop Y8))) (xS Yt [1,4,5] (.seq (xS Ys [4,5,97,98,99] (.block 4 (.loop Y7))) (xE Yn [2,3]))))))))))))))
def uL:List AR:=[.t 2,.t 3]
theorem k51:AU 51 1 c51 uL:=by kernel_rfl
def TA:=[xv 6 0]
def S9:=[xm 8 1,x1 9 131 8,xT 10 9,xm 7 10]
def zM:=[xv 6 5]
def Ym:=[xm 12 2,xA 13 12,xC 14 .gtr 13 65536,xm 11 14]
def zL:=[xv 6 4]
def zK:=[xm 15 0,xZ 16 15,xa 17 16 0 1,xl 18 17 1,xm 19 1,xm 20 2,x1 21 117 20,xo (.mput (xt 18) (xt 19) (xt 21) false [0])]
def Yl:=[xm 22 0,xm 23 1,xm 24 1,xn 25 2,x2 26 133 24 25,xp 27 (.build [.v (.int .u64 0),.v (.bool false)] [(0,1,(xt 26)),(1,1,(xy true))]),x3 28 132 22 23 27]
def Yk:=[xv 6 0]
def c52:AC:=xS TA [0,1,2] (.seq (.block 0 (xS S9 [0,1,2,7] (.cond (xt 7) (xE zM [6]) (xS Ym [0,1,2,11] (.cond (xt 11) (xE zL [6]) .skip))))) (.seq (.regD zK [0,1,2] (xK [[],[0],[1],[2],[],[],[5],[3,4,6]])) (xS Yl [] (xE Yk [6]))))
def Vd:List AR:=[.t 6]
theorem k52:AU 52 3 c52 Vd:=by kernel_rfl
def zJ:=[xx 1 0,xo (.alloc 2 [xz,xz,xz,.own 130 5 [],.own 88 4 [],.own 3 1 [],.own 246 3 [],.own 247 4 []])]
def zI:=[xa 8 1 0 1,xl 9 8 1,xa 10 1 1 1,xl 11 10 1,xa 12 1 2 1,xl 13 12 1,xa 14 1 3 1,xl 15 14 1,xa 16 1 5 1,xl 17 16 1,xp 18 (.build [xz,xz,xz,.nil 130 5,.nil 88 4,.nil 3 1,.nil 246 3,.nil 247 4] [(0,1,(xt 9)),(1,1,(xt 11)),(2,1,(xt 13)),(3,1,(xt 15)),(5,1,(xt 17))]),xo (.alloc 3 [xz,xz,xz,.own 130 5 [],.own 88 4 [],.own 3 1 [],.own 246 3 [],.own 247 4 []]),xs 3 18 8]
def zH:=[xv 4 0]
def zG:=[xm 19 4,xa 20 1 4 1,xl 21 20 1,xA 22 21,xB 23 .lss 19 22]
def zE:=[xa 26 3 4 1,xo (.take 27 (xt 26)),xa 28 1 4 1,xl 29 28 1,xm 30 4,xI 31 29 30 4,xa 32 31 0 2,xL 33 32 2,xa 34 1 4 1,xl 35 34 1,xm 36 4,xI 37 35 36 4,xa 38 37 2 1,xl 39 38 1,xa 40 1 4 1,xl 41 40 1,xm 42 4,xI 43 41 42 4,xa 44 43 3 1,xl 45 44 1,xp 46 (.build [xz,xz,xz,xz] [(0,2,(xt 33)),(2,1,(xt 39)),(3,1,(xt 45))]),xo (.bsl 47 88 4 [(xt 46)]),xo (.app 48 (xu 27) (xt 47) 88 4 32),xa 49 3 4 1,xo (.store (xt 49) (xu 48) 1)]
def zF:=[xm 24 4,xC 25 .add 24 1,xm 4 25]
def Yj:AC:=.seq (xS zG [1,2,3,4,23] (xD 23 0)) (.seq (.block 1 (.regD zE [1,2,3,4] (xK [[],[0],[],[2],[],[3,4],[5],[6],[],[8],[],[9,10],[11],[12],[],[14],[],[15,16],[17],[18],[7,13,19],[20],[1,21],[22],[23]]))) (.reg zF [1,2,3,4]))
def zC:=[xv 5 0]
def zB:=[xm 50 5,xa 51 1 6 1,xl 52 51 1,xA 53 52,xB 54 .lss 50 53]
def y8:=[xa 57 3 6 1,xo (.take 58 (xt 57)),xa 59 1 6 1,xl 60 59 1,xm 61 5,xI 62 60 61 3,xa 63 62 0 1,xl 64 63 1,xa 65 1 6 1,xl 66 65 1,xm 67 5,xI 68 66 67 3,xa 69 68 1 2,xL 70 69 2,xp 71 (.build [xz,xz,xz] [(0,1,(xt 64)),(1,2,(xt 70))]),xo (.bsl 72 246 3 [(xt 71)]),xo (.app 73 (xu 58) (xt 72) 246 3 24),xa 74 3 6 1,xo (.store (xt 74) (xu 73) 1)]
def zA:=[xm 55 5,xC 56 .add 55 1,xm 5 56]
def Yi:AC:=.seq (xS zB [1,2,3,5,54] (xD 54 2)) (.seq (.block 3 (.regD y8 [1,2,3,5] (xK [[],[0],[],[2],[],[3,4],[5],[6],[],[8],[],[9,10],[11],[12],[7,13],[14],[1,15],[16],[17]]))) (.reg zA [1,2,3,5]))
def Yg:=[xv 6 0]
def Yf:=[xm 75 6,xa 76 1 7 1,xl 77 76 1,xA 78 77,xB 79 .lss 75 78]
def Yd:=[xa 82 1 7 1,xl 83 82 1,xm 84 6,xI 85 83 84 4,xL 86 85 4,xo (.alloc 7 [xz,xz,xz,xz]),xs 7 86 4]
def Yc:=[xa 87 3 7 1,xo (.take 88 (xt 87)),xa 89 7 0 1,xl 90 89 1,xa 91 7 1 1,xl 92 91 1,xa 93 7 2 1,xl 94 93 1,xa 95 7 3 1,xl 96 95 1,xp 97 (.build [xz,xz,xz,xz] [(0,1,(xt 90)),(1,1,(xt 92)),(2,1,(xt 94)),(3,1,(xt 96))]),xo (.bsl 98 247 4 [(xt 97)]),xo (.app 99 (xu 88) (xt 98) 247 4 32),xa 100 3 7 1,xo (.store (xt 100) (xu 99) 1)]
def Ye:=[xm 80 6,xC 81 .add 80 1,xm 6 81]
def Yh:AC:=.seq (xS Yf [1,2,3,6,79] (xD 79 4)) (.seq (.block 5 (xS Yd [1,2,3,6,7] (.reg Yc [1,2,3,6]))) (.reg Ye [1,2,3,6]))
def Yb:=[xL 101 3 8,xs 2 101 8]
def c53:AC:=xS zJ [1,2] (xS zI [1,2,3] (.seq (xS zH [1,2,3,4] (.block 0 (.loop Yj))) (.seq (xS zC [1,2,3,5] (.block 2 (.loop Yi))) (.seq (xS Yg [1,2,3,6] (.block 4 (.loop Yh))) (xE Yb [2])))))
def ALn:List AR:=[.c 2 8 true]
theorem k53:AU 53 1 c53 ALn:=by kernel_rfl
def ALl:=[xo (.mv 2 (xj 0))]
def ALk:=[xm 3 0,xZ 4 3,xa 5 4 1 1,xl 6 5 1,xp 7 (.load (.g 0 [.int .i64 12,.int .i64 0]) 2 true),xp 8 (.look (xt 6) (xt 7) true [0,0] [.v (.int .u64 0)] false false),xm 2 8]
def c57:AC:=xS ALl [0] (.seq (.regD ALk [2] (xK [[],[0],[1],[2],[],[3,4],[5]])) .ret)
def ALm:List AR:=[.t 2]
theorem k57:AU 57 1 c57 ALm:=by kernel_rfl
def ALi:=[xo (.alloc 4 [xz,xz,xz,xz,.own 3 1 [],.own 171 3 [],.own 58 3 [],.own 74 8 [],.own 76 2 [],.own 3 1 [],.own 47 1 [],.own 47 1 [],.own 5 1 []]),xv 5 0]
def ALh:=[xm 6 0,xm 7 1,xp 8 (.build [xz,xz,xz,xz,.nil 3 1,.nil 171 3,.nil 58 3,.nil 74 8,.nil 76 2,.nil 3 1,.nil 47 1,.nil 47 1,.nil 5 1] [(0,1,(xi 0)),(1,1,(xt 7))]),x2 9 61 6 8,xe 10 9 0,xe 11 9 1,xs 4 10 13,xm 5 11]
def c59:AC:=xS ALi [0,1,4] (xE ALh [4,5])
def ALj:List AR:=[.c 4 13 true,.t 5]
theorem k59:AU 59 2 c59 ALj:=by kernel_rfl
def yp:=[xx 3 1,xo (.alloc 4 [xz,xz,xz,xz,.own 3 1 [],.own 171 3 [],.own 58 3 [],.own 74 8 [],.own 76 2 [],.own 3 1 [],.own 47 1 [],.own 47 1 [],.own 5 1 []]),xv 5 0]
def yo:=[xL 16 3 13,x1 17 88 16,xn 15 17,xe 18 15 0,xe 19 15 1,xm 6 18,xm 7 19]
def yn:=[xm 21 0,xZ 22 21,xa 23 22 2 1,xl 24 23 1,xm 25 6,xm 26 7,x3 27 137 24 25 26,xn 20 27,xe 28 20 0,xe 29 20 1,xe 30 20 2,xo (.alloc 9 [.own 47 1 [],.own 47 1 [],.own 5 1 []]),xn 8 28,xs 9 29 3,xm 10 30]
def ym:=[xm 31 10,xC 32 .neq 31 0]
def ALf:=[xp 33 (.build [xz,xz,xz,xz,.nil 3 1,.nil 171 3,.nil 58 3,.nil 74 8,.nil 76 2,.nil 3 1,.nil 47 1,.nil 47 1,.nil 5 1] []),xm 34 10,xs 4 33 13,xm 5 34]
def yl:=[xn 35 8,xA 36 35,xv 37 0]
def yj:=[xB 38 .lss 37 36]
def yi:=[xI 39 35 37 2,xL 40 39 2,xo (.alloc 12 [xz,.own 5 1 []]),xs 12 40 2]
def yh:=[xa 42 12 1 1,xl 43 42 1,x1 44 113 43,xn 41 44,xe 45 41 0,xe 46 41 1,xo (.alloc 13 [xz,xz,xz,.own 130 5 [],.own 88 4 [],.own 3 1 [],.own 246 3 [],.own 247 4 []]),xs 13 45 8,xm 14 46]
def yg:=[xa 47 3 7 1,xo (.take 48 (xt 47)),xL 49 13 8,xo (.bsl 50 74 8 [(xt 49)]),xo (.app 51 (xu 48) (xt 50) 74 8 144),xa 52 3 7 1,xo (.store (xt 52) (xu 51) 1)]
def YH:=[xC 53 .add 37 1,xm 37 53]
def YI:AC:=xS yj [0,3,4,9,35,36,37,38] (.seq (xD 38 0) (.seq (.block 1 (xS yi [0,3,4,9,12,35,36,37] (xS yh [0,3,4,9,13,35,36,37] (.reg yg [0,3,4,9,35,36,37])))) (.reg YH [0,3,4,9,35,36,37])))
def YG:=[xL 54 9 3,xa 55 3 10 3,xs 55 54 3]
def YF:=[xm 57 0,xZ 58 57,xa 59 58 0 1,xl 60 59 1,xL 61 3 13,xo (.callF (some 62) (xf 90) [(xt 60),(xt 61)]),xn 56 62,xe 63 56 0,xe 64 56 1,xe 65 56 2,xa 66 3 8 1,xo (.store (xt 66) (xu 63) 1),xa 67 3 9 1,xo (.store (xt 67) (xu 64) 1),xm 10 65]
def Pi:=[xm 68 10,xC 69 .neq 68 0]
def ADu:=[xp 70 (.build [xz,xz,xz,xz,.nil 3 1,.nil 171 3,.nil 58 3,.nil 74 8,.nil 76 2,.nil 3 1,.nil 47 1,.nil 47 1,.nil 5 1] []),xm 71 10,xs 4 70 13,xm 5 71]
def Ph:=[xL 72 3 13,xs 4 72 13,xv 5 0]
def c61:AC:=xS yp [0,3,4] (xS yo [0,3,4,6,7] (xS yn [0,3,4,8,9,10] (xQ ym [0,3,4,8,9,10,32] 32 (xE ALf [4,5]) (.seq (xS yl [0,3,4,9,35,36,37] (.block 0 (.loop YI))) (xS YG [0,3,4] (.seq (.seq (.regD YF [3,4,10] (xK [[],[0],[1],[2],[],[3,4],[5],[6],[6],[6],[7],[10],[8,11],[12],[9,13]])) (xS Pi [3,4,10,69] (.cond (xt 69) (xE ADu [4,5]) .skip))) (xE Ph [4,5])))))))
def uK:List AR:=[.c 4 13 true,.t 5]
theorem k61:AU 61 2 c61 uK:=by kernel_rfl
def ya:=[xv 4 0]
def yZ:=[xm 6 0,x1 7 138 6,xm 5 7]
def yY:=[xm 8 5,xC 9 .neq 8 0]
def ALb:=[xm 10 5,xm 4 10]
def yX:=[xm 11 1,xC 12 .lss 11 0,xm 13 12,xG 13 false (xm 14 1),xG 13 false (xn 15 0),xG 13 false (xA 16 15),xG 13 false (xB 17 .geq 14 16),xO 18 13 17]
def ALa:=[xv 4 7]
def yW:=[xv 4 0]
def c63:AC:=xS ya [0,1] (.seq (xS yZ [0,1,5] (xS yY [0,1,5,9] (.cond (xt 9) (xE ALb [4]) .skip))) (xQ yX [18] 18 (xE ALa [4]) (xE yW [4])))
def ALc:List AR:=[.t 4]
theorem k63:AU 63 2 c63 ALc:=by kernel_rfl
def yV:=[xx 2 0,xo (.mv 4 (.c (.own 84 4 []))),xw 5 false]
def yU:=[xo (.alloc 6 [.own 84 4 []]),xo (.mv 7 (.c (.own 84 4 [])))]
def yT:=[xa 18 2 1 4,xL 19 18 4,x1 20 139 19]
def yS:=[xo (.alloc 8 [xz,xz,.own 368 8 [],.own 84 4 []]),xs 8 21 4]
def Eu:=[xo (.take 22 (xt 6)),xL 23 8 4,xA 24 22,xo (.bsl 25 84 4 [(.c (.v (.agg [.int .i64 0,.int .i64 0,.list [],.list []])))]),xo (.appP 26 (xu 22) (xt 25) 84 4 64),xp 27 (.iaddrP (xu 26) (xt 24) 4),xo (.fin 26 (xt 6) (xt 27) (xt 23) 4),xo (.store (xt 6) (xu 26) 1)]
def S7:AC:=.reg yS [6,8]
def S6:AC:=.block 1 (.regV Eu [] [[],[],[0],[],[0,1,2,3],[0,1,2,3,4],[0,1,2,3,4,5],[0,1,2,3,4]])
def Xh:=[xa 28 2 0 1,xl 29 28 1,xA 30 29,xC 31 .eql 30 0]
def yR:=[xl 32 6 1,xl 33 6 1,xA 34 33,xC 35 .leq 34 64,xn 4 32,xm 5 35]
def yQ:=[xa 36 2 0 1,xl 37 36 1,xA 38 37,xv 39 0]
def yP:=[xB 40 .lss 39 38]
def yO:=[xI 41 37 39 1,xl 42 41 1,xm 10 42]
def Xw:=[xm 44 1,xm 45 10,xp 46 (.look (xt 44) (xt 45) false [0] [.nil 84 4] false true),xn 43 46,xe 47 43 0,xe 48 43 1,xn 11 47,xm 12 48]
def Xv:=[xm 49 12,xT 50 49,xm 51 50,xG 51 false (xm 52 7),xG 51 false (xA 53 52),xG 51 false (xm 54 11),xG 51 false (xA 55 54),xG 51 false (xl 56 6 1),xG 51 false (xA 57 56),xG 51 false (xB 58 .mul 55 57),xG 51 false (xB 59 .add 53 58),xG 51 false (xC 60 .gtr 59 64),xO 61 51 60]
def ADr:=[xo (.mv 4 (.c (.own 84 4 []))),xw 5 false]
def Xu:=[xn 62 11,xA 63 62,xv 64 0]
def Xt:=[xB 65 .lss 64 63]
def Xs:=[xI 66 62 64 4,xL 67 66 4,xo (.alloc 14 [xz,xz,.own 368 8 [],.own 84 4 []]),xs 14 67 4]
def Xr:=[xl 68 6 1,xA 69 68,xv 70 0]
def Xq:=[xB 71 .lss 70 69]
def Xp:=[xI 72 68 70 4,xL 73 72 4,xo (.alloc 16 [xz,xz,.own 368 8 [],.own 84 4 []]),xs 16 73 4]
def Xo:=[xL 74 14 4,x1 75 141 74,xL 76 16 4,x1 77 141 76,xo (.bsl 78 77 1 [(xt 75),(xt 77)]),x1 79 140 78,xp 80 (.build [xz,xz,.nil 368 8,.nil 84 4] [(0,1,(xi 4)),(3,1,(xt 79))]),xo (.alloc 17 [xz,xz,.own 368 8 [],.own 84 4 []]),xs 17 80 4]
def Xn:=[xL 81 17 4,x1 82 66 81,xC 83 .neq 82 0]
def ADq:=[xo (.mv 4 (.c (.own 84 4 []))),xw 5 false]
def Xm:=[xn 84 7,xL 85 17 4,xo (.bsl 86 84 4 [(xt 85)]),xo (.app 87 (xu 84) (xt 86) 84 4 64),xn 7 87]
def Xl:=[xC 88 .add 70 1,xm 70 88]
def Xx:AC:=xS Xq [1,6,7,14,37,38,39,62,63,64,68,69,70,71] (.seq (xD 71 6) (.seq (.block 7 (xS Xp [1,6,7,14,16,37,38,39,62,63,64,68,69,70] (.seq (.regD Xo [1,6,7,14,17,37,38,39,62,63,64,68,69,70] (xK [[],[0],[],[1,2],[3],[4],[5],[],[6,7]])) (xQ Xn [1,6,7,14,17,37,38,39,62,63,64,68,69,70,83] 83 (xE ADq [4,5]) (.reg Xm [1,6,7,14,37,38,39,62,63,64,68,69,70]))))) (.reg Xl [1,6,7,14,37,38,39,62,63,64,68,69,70])))
def Xk:=[xC 89 .add 64 1,xm 64 89]
def Xy:AC:=xS Xt [1,6,7,37,38,39,62,63,64,65] (.seq (xD 65 4) (.seq (.block 5 (xS Xs [1,6,7,14,37,38,39,62,63,64] (xS Xr [1,6,7,14,37,38,39,62,63,64,68,69,70] (.block 6 (.loop Xx))))) (.reg Xk [1,6,7,37,38,39,62,63,64])))
def Xj:=[xC 90 .add 39 1,xm 39 90]
def Xz:AC:=xS yP [1,6,7,37,38,39,40] (.seq (xD 40 2) (.seq (.block 3 (xS yO [1,6,7,10,37,38,39] (xS Xw [1,6,7,11,12,37,38,39] (xQ Xv [1,6,7,11,37,38,39,61] 61 (xE ADr [4,5]) (xS Xu [1,6,7,37,38,39,62,63,64] (.block 4 (.loop Xy))))))) (.reg Xj [1,6,7,37,38,39])))
def Xi:=[xn 91 7,xn 4 91,xw 5 true]
def c64:AC:=xS yV [1,2] (xS yU [1,2,6,7] (.seq (xS yT [1,2,6,7,20] (.block 0 (.rangeF (xt 20) [21] S7 S6))) (xQ Xh [1,2,6,7,31] 31 (.seq (.regD yR [4,5] (xK [[],[],[1],[2],[0],[3,4]])) .ret) (.seq (xS yQ [1,6,7,37,38,39] (.block 2 (.loop Xz))) (xE Xi [4,5])))))
def ADs:List AR:=[.t 4,.t 5]
theorem k64:AU 64 2 c64 ADs:=by kernel_rfl
def yM:=[xv 2 0]
def yL:=[xv 3 0]
def yK:=[xn 6 0,xA 7 6,xv 8 0]
def yJ:=[xB 9 .lss 8 7]
def yI:=[xI 10 6 8 1,xl 11 10 1,xm 5 11]
def yH:=[xm 12 5,xm 13 3,xB 14 .neq 12 13]
def yG:=[xm 15 5,xm 2 15]
def yF:=[xC 16 .add 8 1,xm 8 16]
def yN:AC:=xS yJ [3,6,7,8,9] (.seq (xD 9 0) (.seq (.block 1 (xS yI [3,5,6,7,8] (xS yH [3,5,6,7,8,14] (.cond (xt 14) (xE yG [2]) .skip)))) (.reg yF [3,6,7,8])))
def yE:=[xm 17 3,xm 2 17]
def c65:AC:=xS yM [0] (xS yL [0,3] (.seq (xS yK [3,6,7,8] (.block 0 (.loop yN))) (xE yE [2])))
def ADp:List AR:=[.t 2]
theorem k65:AU 65 1 c65 ADp:=by kernel_rfl
def yD:=[xx 1 0,xo (.alloc 2 [xz])]
def yC:=[xL 4 1 4,x1 5 142 4,xC 6 .gtr 5 96,xm 7 6,xG 7 false (xL 8 1 4),xG 7 false (x1 9 143 8),xG 7 false (xC 10 .gtr 9 8),xO 11 7 10]
def Xf:=[xo (.store (xt 2) (xi 4) 1)]
def yB:=[xL 12 1 4,x1 13 68 12]
def yA:=[xo (.alloc 3 [xz,xz,.own 368 8 [],.own 84 4 []]),xs 3 14 4]
def x8:=[xL 15 3 4,x1 16 144 15,xT 17 16]
def xr:=[xo (.store (xt 2) (xi 1) 1)]
def Hu:AC:=.reg yA [2,3]
def Ht:AC:=.block 1 (xS x8 [2,17] (.cond (xt 17) (xE xr []) .skip))
def xq:=[xo (.store (xt 2) (xi 0) 1)]
def c66:AC:=xS yD [1,2] (xQ yC [1,2,11] 11 (xE Xf [2]) (.seq (xS yB [2,13] (.block 0 (.rangeF (xt 13) [14] Hu Ht))) (xE xq [2])))
def Xg:List AR:=[.c 2 1 false]
theorem k66:AU 66 1 c66 Xg:=by kernel_rfl
def xh:=[xx 1 0,xv 2 0]
def xd:=[xL 4 1 3,x1 5 145 4,xT 6 5,xm 3 6]
def xY:=[xv 2 4]
def xX:=[xL 8 1 3,x1 9 146 8,xT 10 9,xm 7 10]
def xW:=[xv 2 1]
def xV:=[xv 2 0]
def c67:AC:=xS xh [1] (.seq (.block 0 (xS xd [1,3] (.cond (xt 3) (xE xY [2]) (xS xX [7] (.cond (xt 7) (xE xW [2]) .skip))))) (xE xV [2]))
def uJ:List AR:=[.t 2]
theorem k67:AU 67 1 c67 uJ:=by kernel_rfl
def xU:=[xx 1 0,xo (.mv 2 (.c (.v .nilf)))]
def xR:=[xp 3 (.mkf 147 [(xt 1)]),xm 2 3]
def c68:AC:=xS xU [1] (xE xR [2])
def ALZ:List AR:=[.t 2]
theorem k68:AU 68 1 c68 ALZ:=by kernel_rfl
def xP:=[xv 2 0]
def xM:=[xm 3 0,xZ 4 3,xa 5 4 0 1,xl 6 5 1,xA 7 6,xm 2 7]
def c69:AC:=xS xP [0] (xE xM [2])
def ALY:List AR:=[.t 2]
theorem k69:AU 69 1 c69 ALY:=by kernel_rfl
def xJ:=[xx 2 0,xx 3 1,xw 4 false]
def xH:=[xa 5 2 0 1,xl 6 5 1,xp 7 (.mkf 152 [(xt 3)]),x2 8 151 6 7,xT 9 8,xm 10 9,xG 10 true (xa 11 2 2 1),xG 10 true (xl 12 11 1),xG 10 true (xp 13 (.mkf 154 [(xt 3)])),xG 10 true (x2 14 153 12 13),xG 10 true (xT 15 14),xN 16 10 15,xm 4 16]
def c70:AC:=xS xJ [2,3] (xE xH [4])
def ADo:List AR:=[.t 4]
theorem k70:AU 70 2 c70 ADo:=by kernel_rfl
def xF:=[xx 3 0,xx 4 1,xx 5 2,xw 6 false]
def w9:=[xp 10 (.mkf 155 [(xt 3),(xt 5)]),xo (.alloc 7 [.v .nilf]),xs 7 10 1]
def w8:=[xa 11 4 0 1,xl 12 11 1]
def wz:=[xC 14 .eql 12 1,xm 13 14]
def wy:=[xa 15 5 0 1,xl 16 15 1,xp 17 (.mkf 156 [(xt 3),(xt 4)]),x2 18 151 16 17,xm 6 18]
def wx:=[xC 20 .eql 12 2,xm 19 20]
def ww:=[xL 22 5 3,xa 23 4 1 1,xl 24 23 1,x2 25 158 22 24,xn 21 25,xe 26 21 0,xe 27 21 1,xo (.alloc 8 [xz,xz]),xs 8 26 2,xm 9 27]
def wv:=[xm 28 9,xm 29 28,xG 29 true (xa 30 4 2 1),xG 29 true (xl 31 30 1),xG 29 true (xL 32 8 2),xG 29 true (x2 33 159 31 32),xN 34 29 33,xm 6 34]
def wu:=[xC 36 .eql 12 3,xm 35 36]
def wt:=[xa 37 5 2 1,xl 38 37 1,xp 39 (.mkf 160 [(xt 3),(xt 4)]),x2 40 153 38 39,xm 6 40]
def Xe:=[xC 42 .eql 12 4,xm 41 42]
def Xd:=[xa 43 4 3 1,xl 44 43 1,xp 45 (.mkf 161 [(xt 7)]),x2 46 149 44 45,xT 47 46,xm 6 47]
def Xc:=[xC 49 .eql 12 5,xm 48 49]
def Xb:=[xa 50 4 3 1,xl 51 50 1,xl 52 7 1,x2 53 149 51 52,xm 6 53]
def Xa:=[xC 55 .eql 12 6,xm 54 55]
def XZ:=[xl 56 7 1,xa 57 4 3 1,xl 58 57 1,xp 59 (.iaddr (xt 58) (xi 0) 4),xL 60 59 4,xo (.callF (some 61) (xt 56) [(xt 60)]),xT 62 61,xm 6 62]
def XY:=[xw 6 true]
def c71:AC:=xS xF [3,4,5] (xS w9 [3,4,5,7] (.seq (xS w8 [3,4,5,7,12] (.block 0 (xS wz [3,4,5,7,12,13] (.cond (xt 13) (xE wy [6]) (xS wx [3,4,5,7,12,19] (.cond (xt 19) (xS ww [4,8,9] (xE wv [6])) (xS wu [3,4,5,7,12,35] (.cond (xt 35) (xE wt [6]) (xS Xe [4,7,12,41] (.cond (xt 41) (xE Xd [6]) (xS Xc [4,7,12,48] (.cond (xt 48) (xE Xb [6]) (xS Xa [4,7,54] (.cond (xt 54) (.seq (.regD XZ [6] (xK [[],[],[1],[2],[3],[0,4],[5],[6]])) .ret) .skip)))))))))))))) (xE XY [6])))
def MU:List AR:=[.t 6]
theorem k71:AU 71 3 c71 MU:=by kernel_rfl
def ALW:=[xx 3 1,xv 4 0]
def ALV:=[xL 6 3 8,xo (.bsl 7 108 8 [(xt 6)]),x1 8 176 7,xT 9 8,xm 5 9]
def ALU:=[xv 4 1]
def ALT:=[xa 11 3 7 1,xl 12 11 1,xm 13 0,xL 14 3 8,x2 15 95 13 14,xB 16 .neq 12 15,xm 10 16]
def ALS:=[xv 4 23]
def ALR:=[xv 4 0]
def c86:AC:=xS ALW [0,3] (.seq (.block 0 (xS ALV [0,3,5] (.cond (xt 5) (xE ALU [4]) (.seq (.regD ALT [10] (xK [[],[0],[],[],[2,3],[1,4],[5]])) (.cond (xt 10) (xE ALS [4]) .skip))))) (xE ALR [4]))
def ALX:List AR:=[.t 4]
theorem k86:AU 86 2 c86 ALX:=by kernel_rfl
def ALP:=[xx 1 0,xv 2 0]
def ALO:=[xa 5 1 0 1,xl 6 5 1,xC 7 .eql 6 1,xm 8 7,xG 8 false (xa 9 1 0 1),xG 8 false (xl 10 9 1),xG 8 false (xC 11 .eql 10 3),xO 12 8 11,xm 3 12]
def ALN:=[xa 13 1 4 3,xa 14 13 0 1,xl 15 14 1,xA 16 15,xa 17 1 4 3,xa 18 17 1 1,xl 19 18 1,xA 20 19,xB 21 .add 16 20,xa 22 1 4 3,xa 23 22 2 1,xl 24 23 1,xA 25 24,xB 26 .add 21 25,xC 27 .eql 26 0,xm 4 27]
def ALM:=[xa 29 1 0 1,xl 30 29 1,xC 31 .lss 30 0,xm 32 31,xG 32 false (xa 33 1 0 1),xG 32 false (xl 34 33 1),xG 32 false (xC 35 .gtr 34 3),xO 36 32 35,xm 28 36]
def ALL:=[xa 37 1 0 1,xl 38 37 1,xC 39 .neq 38 0,xm 40 39,xG 40 true (xa 41 1 1 1),xG 40 true (xl 42 41 1),xG 40 true (xC 43 .neq 42 0),xN 44 40 43,xm 28 44]
def ALK:=[xa 45 1 0 1,xl 46 45 1,xC 47 .neq 46 2,xm 48 47,xG 48 true (xa 49 1 2 1),xG 48 true (xl 50 49 1),xG 48 true (xC 51 .neq 50 0),xG 48 true (xm 52 51),xG 52 false (xa 53 1 9 1),xG 52 false (xl 54 53 1),xG 52 false (xA 55 54),xG 52 false (xC 56 .gtr 55 0),xG 48 true (xO 57 52 56),xN 58 48 57,xm 28 58]
def ALJ:=[xa 59 1 0 1,xl 60 59 1,xC 61 .neq 60 3,xm 62 61,xG 62 true (xa 63 1 3 1),xG 62 true (xl 64 63 1),xG 62 true (xC 65 .neq 64 0),xN 66 62 65,xm 28 66]
def ALI:=[xm 67 3,xT 68 67,xm 69 68,xG 69 true (xm 70 4),xG 69 true (xT 71 70),xG 69 true (xm 72 71),xG 72 false (xa 73 1 8 1),xG 72 false (xl 74 73 1),xG 72 false (xA 75 74),xG 72 false (xC 76 .gtr 75 0),xG 69 true (xO 77 72 76),xN 78 69 77,xm 28 78]
def ALH:=[xv 2 1]
def ALG:=[xa 80 1 1 1,xl 81 80 1,xC 82 .lss 81 0,xm 83 82,xG 83 false (xa 84 1 1 1),xG 83 false (xl 85 84 1),xG 83 false (xC 86 .gtr 85 4095),xO 87 83 86,xm 79 87]
def ADn:=[xa 88 1 3 1,xl 89 88 1,xC 90 .lss 89 0,xm 91 90,xG 91 false (xa 92 1 3 1),xG 91 false (xl 93 92 1),xG 91 false (xC 94 .gtr 93 131072),xO 95 91 94,xm 79 95]
def ADm:=[xv 2 5]
def ADl:=[xa 97 1 0 1,xl 98 97 1,xC 99 .eql 98 2,xm 100 99,xG 100 true (xa 101 1 2 1),xG 100 true (xl 102 101 1),xG 100 true (xC 103 .lss 102 1),xG 100 true (xm 104 103),xG 104 false (xa 105 1 2 1),xG 104 false (xl 106 105 1),xG 104 false (xC 107 .gtr 106 4095),xG 100 true (xO 108 104 107),xN 109 100 108,xm 96 109]
def ADk:=[xv 2 1]
def ADj:=[xv 2 0]
def c87:AC:=xS ALP [1] (xS ALO [1,3] (xS ALN [1,3,4] (.seq (.block 0 (.seq (xS ALM [1,3,4,28] (.cond (xt 28) .skip (xS ALL [1,3,4,28] (.cond (xt 28) .skip (xS ALK [1,3,4,28] (.cond (xt 28) .skip (xS ALJ [1,3,4,28] (.cond (xt 28) .skip (.reg ALI [1,28]))))))))) (.cond (xt 28) (xE ALH [2]) (.seq (xS ALG [1,79] (.cond (xt 79) .skip (.reg ADn [1,79]))) (.cond (xt 79) (xE ADm [2]) (xS ADl [96] (.cond (xt 96) (xE ADk [2]) .skip))))))) (xE ADj [2]))))
def ALQ:List AR:=[.t 2]
theorem k87:AU 87 1 c87 ALQ:=by kernel_rfl
def wq:=[xx 1 0,xv 2 0,xv 3 0]
def wp:=[xa 4 1 0 1,xl 5 4 1,xC 6 .eql 5 0]
def ALF:=[xa 7 1 1 1,xl 8 7 1,xa 9 1 1 1,xl 10 9 1,xm 2 8,xm 3 10]
def wo:=[xv 2 0,xv 3 4095]
def c88:AC:=xS wq [1] (xQ wp [1,6] 6 (.seq (.regD ALF [2,3] (xK [[],[0],[],[2],[1],[3,4]])) .ret) (xE wo [2,3]))
def ADi:List AR:=[.t 2,.t 3]
theorem k88:AU 88 1 c88 ADi:=by kernel_rfl
def ALD:=[xx 9 4,xv 10 0]
def ALC:=[xm 15 1,xm 16 2,x2 17 177 15 16,xT 18 17,xm 14 18]
def ALB:=[xv 10 5]
def ALA:=[xm 20 1,xm 21 2,xm 22 3,x3 23 178 20 21 22,xm 19 23]
def AK9:=[xv 10 1]
def AK8:=[xm 25 1,xm 26 2,xn 27 3,xL 28 9 3,xc 29 179 [(xt 25),(xt 26),(xt 27),(xt 28)],xn 24 29,xe 30 24 0,xe 31 24 1,xo (.alloc 11 [.v .nilm]),xs 11 30 1,xm 12 31]
def AK7:=[xm 32 12,xT 33 32]
def AK6:=[xv 10 2]
def AK5:=[xo (.alloc 13 [.v .nilf])]
def AK4:=[xp 34 (.mkf 180 [(xt 11),(xt 13)]),xs 13 34 1]
def ADh:=[xl 35 13 1,xp 36 (.load (.g 0 [.int .i64 12,.int .i64 0]) 2 true),xo (.call (some 37) (xt 35) [(xt 36)]),xp 38 (.fld (xt 37) 0 1 false),xm 39 0,xB 40 .neq 38 39]
def ADg:=[xv 10 10]
def ADf:=[xv 10 0]
def c89:AC:=xS ALD [0,1,2,3,9] (.seq (.block 0 (xS ALC [0,1,2,3,9,14] (.cond (xt 14) (xE ALB [10]) (xS ALA [0,1,2,3,9,19] (.cond (xt 19) (xE AK9 [10]) .skip))))) (xS AK8 [0,11,12] (xQ AK7 [0,11,33] 33 (xE AK6 [10]) (xS AK5 [0,11,13] (xS AK4 [0,13] (xQ ADh [40] 40 (xE ADg [10]) (xE ADf [10])))))))
def ALE:List AR:=[.t 10]
theorem k89:AU 89 5 c89 ALE:=by kernel_rfl
def XV:=[xx 3 1,xo (.mv 4 (.c (.own 76 2 []))),xo (.mv 5 (.c (.own 3 1 []))),xv 6 0]
def XU:=[xa 17 3 0 1,xl 18 17 1]
def XP:=[xC 20 .eql 18 2,xm 19 20]
def AK1:=[xo (.mv 7 (.c (.own 3 1 [])))]
def AK0:=[xa 21 3 7 1,xl 22 21 1,xA 23 22,xv 24 0]
def AKz:=[xB 25 .lss 24 23]
def AKy:=[xI 26 22 24 8,xL 27 26 8,xo (.alloc 9 [xz,xz,xz,.own 130 5 [],.own 88 4 [],.own 3 1 [],.own 246 3 [],.own 247 4 []]),xs 9 27 8]
def AKx:=[xa 28 9 6 1,xl 29 28 1,xp 30 (.mkf 184 [(xt 3)]),x2 31 183 29 30]
def AKw:=[xn 32 7,xa 33 9 0 1,xl 34 33 1,xo (.bsl 35 3 1 [(xt 34)]),xo (.app 36 (xu 32) (xt 35) 3 1 8),xn 7 36]
def AKv:=[xC 37 .add 24 1,xm 24 37]
def AK2:AC:=xS AKz [3,7,22,23,24,25] (.seq (xD 25 1) (.seq (.block 2 (xS AKy [3,7,9,22,23,24] (xS AKx [3,7,9,22,23,24,31] (.cond (xt 31) (.reg AKw [3,7,22,23,24]) .skip)))) (.reg AKv [3,7,22,23,24])))
def ADe:=[xn 38 7,xo (.mv 4 (.c (.own 76 2 []))),xn 5 38,xv 6 0]
def Pg:=[xC 40 .eql 18 1,xm 39 40]
def XT:=[xC 41 .eql 18 3,xm 39 41]
def Pe:=[xm 43 0,xa 44 3 7 1,xl 45 44 1,xa 46 3 4 3,xL 47 46 3,x3 48 185 43 45 47,xn 42 48,xe 49 42 0,xe 50 42 1,xn 10 49,xm 11 50]
def Pd:=[xm 51 11,xC 52 .neq 51 0,xm 53 52,xG 53 false (xa 54 3 0 1),xG 53 false (xl 55 54 1),xG 53 false (xC 56 .eql 55 1),xO 57 53 56]
def XS:=[xn 58 10,xm 59 11,xn 4 58,xo (.mv 5 (.c (.own 3 1 []))),xm 6 59]
def XR:=[xo (.mv 12 (.c (.own 76 2 [])))]
def XQ:=[xn 60 10,xA 61 60,xv 62 0]
def Pc:=[xB 63 .lss 62 61]
def Pb:=[xI 64 60 62 2,xL 65 64 2,xo (.alloc 14 [xz,xz]),xs 14 65 2]
def Pa:=[xm 67 0,xL 68 3 13,xL 69 14 2,x3 70 186 67 68 69,xn 66 70,xe 71 66 0,xe 72 66 1,xm 15 71,xm 16 72]
def PZ:=[xm 73 16,xC 74 .neq 73 0]
def XO:=[xm 75 16,xo (.mv 4 (.c (.own 76 2 []))),xo (.mv 5 (.c (.own 3 1 []))),xm 6 75]
def PY:=[xm 76 15]
def PW:=[xn 77 12,xL 78 14 2,xo (.bsl 79 76 2 [(xt 78)]),xo (.app 80 (xu 77) (xt 79) 76 2 16),xn 12 80]
def MT:=[xC 81 .add 62 1,xm 62 81]
def XX:AC:=xS Pc [0,3,12,60,61,62,63] (.seq (xD 63 3) (.seq (.block 4 (xS Pb [0,3,12,14,60,61,62] (xS Pa [0,3,12,14,15,16,60,61,62] (xQ PZ [0,3,12,14,15,16,60,61,62,74] 74 (xE XO [4,5,6]) (xS PY [0,3,12,14,60,61,62,76] (.cond (xt 76) (.reg PW [0,3,12,60,61,62]) .skip)))))) (.reg MT [0,3,12,60,61,62])))
def XN:=[xn 82 12,xn 4 82,xo (.mv 5 (.c (.own 3 1 []))),xv 6 0]
def ADd:=[xo (.mv 4 (.c (.own 76 2 []))),xo (.mv 5 (.c (.own 3 1 []))),xv 6 0]
def c90:AC:=xS XV [0,3] (.seq (xS XU [0,3,18] (.block 0 (xS XP [0,3,18,19] (.cond (xt 19) (xS AK1 [3,7] (.seq (xS AK0 [3,7,22,23,24] (.block 1 (.loop AK2))) (xE ADe [4,5,6]))) (.seq (xS Pg [0,3,18,39] (.cond (xt 39) .skip (.reg XT [0,3,39]))) (.cond (xt 39) (xS Pe [0,3,10,11] (xQ Pd [0,3,10,11,57] 57 (xE XS [4,5,6]) (xS XR [0,3,10,12] (.seq (xS XQ [0,3,12,60,61,62] (.block 3 (.loop XX))) (xE XN [4,5,6]))))) .skip)))))) (xE ADd [4,5,6]))
def uI:List AR:=[.t 4,.t 5,.t 6]
theorem k90:AU 90 2 c90 uI:=by kernel_rfl
def AKs:=[xw 4 false]
def AKr:=[xm 6 0,xA 7 6,xm 8 1,xA 9 8,xB 10 .neq 7 9]
def AKq:=[xw 4 false]
def AKp:=[xm 11 0,xA 12 11,xv 13 0]
def AKo:=[xB 14 .lss 13 12]
def AKn:=[xm 15 13,xm 5 15]
def AKm:=[xm 16 0,xm 17 5,xI 18 16 17 2,xL 19 18 2,xm 20 1,xm 21 5,xI 22 20 21 2,xL 23 22 2,xp 24 (.eqA true [0,0] (xt 19) (xt 23))]
def AKl:=[xw 4 false]
def AKk:=[xC 25 .add 13 1,xm 13 25]
def AKt:AC:=xS AKo [0,1,12,13,14] (.seq (xD 14 0) (.seq (.block 1 (xS AKn [0,1,5,12,13] (.seq (.regD AKm [0,1,12,13,24] (xK [[],[],[0,1],[2],[],[],[4,5],[6],[3,7]])) (.cond (xt 24) (xE AKl [4]) .skip)))) (.reg AKk [0,1,12,13])))
def AKj:=[xw 4 true]
def c91:AC:=xS AKs [0,1] (xQ AKr [0,1,10] 10 (xE AKq [4]) (.seq (xS AKp [0,1,12,13] (.block 0 (.loop AKt))) (xE AKj [4])))
def AKu:List AR:=[.t 4]
theorem k91:AU 91 2 c91 AKu:=by kernel_rfl
def AKg:=[xw 4 false]
def AKf:=[xm 6 0,xA 7 6,xm 8 1,xA 9 8,xB 10 .neq 7 9]
def AKe:=[xw 4 false]
def AKd:=[xm 11 0,xA 12 11,xv 13 0]
def AKc:=[xB 14 .lss 13 12]
def AKb:=[xm 15 13,xm 5 15]
def AKa:=[xm 16 0,xm 17 5,xI 18 16 17 1,xl 19 18 1,xm 20 1,xm 21 5,xI 22 20 21 1,xl 23 22 1,xB 24 .neq 19 23]
def AKZ:=[xw 4 false]
def AKY:=[xC 25 .add 13 1,xm 13 25]
def AKh:AC:=xS AKc [0,1,12,13,14] (.seq (xD 14 0) (.seq (.block 1 (xS AKb [0,1,5,12,13] (.seq (.regD AKa [0,1,12,13,24] (xK [[],[],[0,1],[2],[],[],[4,5],[6],[3,7]])) (.cond (xt 24) (xE AKZ [4]) .skip)))) (.reg AKY [0,1,12,13])))
def AKX:=[xw 4 true]
def c92:AC:=xS AKg [0,1] (xQ AKf [0,1,10] 10 (xE AKe [4]) (.seq (xS AKd [0,1,12,13] (.block 0 (.loop AKh))) (xE AKX [4])))
def AKi:List AR:=[.t 4]
theorem k92:AU 92 2 c92 AKi:=by kernel_rfl
def AKV:=[xx 3 1,xo (.mv 4 (xj 0))]
def AKU:=[xm 6 0,xp 7 (.cint .i64 (xt 6)),xa 8 3 0 1,xl 9 8 1,xa 10 3 1 1,xl 11 10 1,xa 12 3 2 1,xl 13 12 1,xa 14 3 3 1,xl 15 14 1,xa 16 3 4 1,xl 17 16 1,xp 18 (.cint .i64 (xt 17)),xa 19 3 5 1,xl 20 19 1,xp 21 (.cint .i64 (xt 20)),xa 22 3 6 1,xl 23 22 1,xo (.bsl 24 3 1 [(xt 7),(xt 9),(xt 11),(xt 13),(xt 15),(xt 18),(xt 21),(xt 23)]),xn 5 24]
def AKT:=[xn 25 5,xc 26 96 [(.c (.v (.str ⟨#[115,105,103,110]⟩))),(xt 25)],xm 4 26]
def c95:AC:=xS AKV [0,3] (xS AKU [5] (xE AKT [4]))
def AKW:List AR:=[.t 4]
theorem k95:AU 95 2 c95 AKW:=by kernel_rfl
def wn:=[xo (.mv 4 (xj 0))]
def wm:=[xo (.alloc 5 [.v (.int .u64 0)]),xo (.store (xt 5) (xj 0) 1)]
def wl:=[xm 9 0,x1 10 189 9]
def wk:=[xm 6 11]
def wj:=[xl 12 5 1,xm 13 6,x2 14 190 12 13,xs 5 14 1]
def Le:AC:=.reg wk [5,6]
def Ld:AC:=.block 1 (.reg wj [])
def wi:=[xl 15 5 1,xm 16 0,xp 17 (.lenS (xt 16)),xp 18 (.cint .u64 (xt 17)),x2 19 190 15 18,xm 20 1,xA 21 20,xp 22 (.cint .u64 (xt 21)),x2 23 190 19 22,xs 5 23 1]
def wh:=[xn 24 1,xA 25 24,xv 26 0]
def wg:=[xB 27 .lss 26 25]
def we:=[xI 28 24 26 1,xl 29 28 1,xm 8 29]
def wd:=[xl 30 5 1,xm 31 8,xp 32 (.cint .u64 (xt 31)),x2 33 190 30 32,xs 5 33 1]
def XL:=[xC 34 .add 26 1,xm 26 34]
def XM:AC:=xS wg [5,24,25,26,27] (.seq (xD 27 2) (.seq (.block 3 (xS we [5,8,24,25,26] (.reg wd [5,24,25,26]))) (.reg XL [5,24,25,26])))
def XK:=[xl 35 5 1,xc 36 190 [(xt 35),(xj 0)],xm 4 36]
def c96:AC:=xS wn [0,1] (xS wm [0,1,5] (.seq (xS wl [0,1,5,10] (.block 0 (.rangeF (xt 10) [11] Le Ld))) (xS wi [1,5] (.seq (xS wh [5,24,25,26] (.block 2 (.loop XM))) (xE XK [4])))))
def ADc:List AR:=[.t 4]
theorem k96:AU 96 2 c96 ADc:=by kernel_rfl
def wc:=[xm 4 0,xm 5 1,x1 6 193 5,x2 7 192 4 6]
def c98:AC:=.reg wc []
def ADb:List AR:=[]
theorem k98:AU 98 2 c98 ADb:=by kernel_rfl
def wb:=[xm 4 0,xn 5 1,xp 6 (.b2s (xt 5)),x2 7 194 4 6]
def c99:AC:=.reg wb []
def ADa:List AR:=[]
theorem k99:AU 99 2 c99 ADa:=by kernel_rfl
def sj:=[xm 6 0,xm 7 1,xA 8 7,xp 9 (.cint .u64 (xt 8)),x2 10 192 6 9]
def si:=[xn 11 1,xA 12 11,xv 13 0]
def sg:=[xB 14 .lss 13 12]
def sf:=[xI 15 11 13 1,xl 16 15 1,xm 5 16]
def sd:=[xm 17 0,xm 18 5,x2 19 98 17 18]
def sc:=[xC 20 .add 13 1,xm 13 20]
def sk:AC:=xS sg [0,11,12,13,14] (.seq (xD 14 0) (.seq (.block 1 (xS sf [0,5,11,12,13] (.reg sd [0,11,12,13]))) (.reg sc [0,11,12,13])))
def AHi:AC:=xS sj [0,1] (xS si [0,11,12,13] (.block 0 (.loop sk)))
def sm:List AR:=[]
theorem AKG:AU 100 2 AHi sm:=by kernel_rfl
def sa:=[xo (.mv 2 (.c (.own 5 1 [])))]
def sZ:=[xm 3 0,xZ 4 3,xa 5 4 0 1,xl 6 5 1,x1 7 117 6,xn 2 7]
def AHh:AC:=xS sa [0] (xE sZ [2])
def sb:List AR:=[.t 2]
theorem AKF:AU 102 1 AHh sb:=by kernel_rfl
def sR:=[xo (.mv 2 (.c (.own 5 1 [])))]
def sQ:=[xm 3 0,xm 4 0,xp 5 (.mkme 203 [(xt 4)]),x2 6 202 3 5,xn 2 6]
def AO2:AC:=xS sR [0] (xE sQ [2])
def AB9:List AR:=[.t 2]
theorem ATT:AU 112 1 AO2 AB9:=by kernel_rfl
def SF:=[xx 1 0,xo (.alloc 2 [xz,xz,xz,.own 130 5 [],.own 88 4 [],.own 3 1 [],.own 246 3 [],.own 247 4 []]),xv 3 0]
def SE:=[xl 11 1 1,x1 12 44 11,xo (.alloc 4 [.v .nilp]),xs 4 12 1]
def SD:=[xp 13 (.mkf 204 [(xt 4),(xt 1)]),xm 5 13]
def NF:=[xl 14 4 1,xo (.callF (some 15) (xf 45) [(xt 14)]),xl 16 4 1,xo (.callF (some 17) (xf 45) [(xt 16)]),xl 18 4 1,xo (.callF (some 19) (xf 45) [(xt 18)]),xp 20 (.build [xz,xz,xz,.nil 130 5,.nil 88 4,.nil 3 1,.nil 246 3,.nil 247 4] [(0,1,(xt 15)),(1,1,(xt 17)),(2,1,(xt 19))]),xo (.alloc 6 [xz,xz,xz,.own 130 5 [],.own 88 4 [],.own 3 1 [],.own 246 3 [],.own 247 4 []]),xs 6 20 8]
def SC:=[xl 22 4 1,x1 23 112 22,x1 24 205 23,xn 21 24,xe 25 21 0,xe 26 21 1,xn 7 25,xm 8 26]
def SB:=[xm 27 8,xC 28 .neq 27 0]
def sN:=[xp 29 (.build [xz,xz,xz,.nil 130 5,.nil 88 4,.nil 3 1,.nil 246 3,.nil 247 4] []),xs 2 29 8,xv 3 2]
def SA:=[xn 30 7,xa 31 6 3 1,xo (.store (xt 31) (xu 30) 1)]
def R8:=[xm 32 5,xo (.call (some 33) (xt 32) []),xv 34 0]
def R6:=[xB 35 .lss 34 33]
def GY:=[xa 36 6 4 1,xo (.take 37 (xt 36)),xl 38 4 1,xo (.callF (some 39) (xf 45) [(xt 38)]),xl 40 4 1,xo (.callF (some 41) (xf 45) [(xt 40)]),xp 42 (.build [xz,xz] [(0,1,(xt 39)),(1,1,(xt 41))]),xl 43 4 1,xo (.callF (some 44) (xf 45) [(xt 43)]),xl 45 4 1,xo (.callF (some 46) (xf 45) [(xt 45)]),xp 47 (.build [xz,xz,xz,xz] [(0,2,(xt 42)),(2,1,(xt 44)),(3,1,(xt 46))]),xo (.bsl 48 88 4 [(xt 47)]),xo (.app 49 (xu 37) (xt 48) 88 4 32),xa 50 6 4 1,xo (.store (xt 50) (xu 49) 1)]
def NR:=[xC 51 .add 34 1,xm 34 51]
def Ip:AC:=xS R6 [1,2,4,5,6,33,34,35] (.seq (xD 35 0) (.seq (.block 1 (.regA GY [1,2,4,5,6,33,34] (xK [[],[0],[],[2],[],[3,4],[5],[],[5,7],[],[8,9],[6,10],[11],[1,12],[13],[14]]) (.take 0 (.take 2 (.pick (.alt 1 (.pick (.alt 3 (.take 4 tq14) (.alt 4 tq18 (.alt 7 tq20 (.alt 9 tq21 .none))))) (.alt 3 (.take 4 tq28) (.alt 4 (.pick (.alt 1 tq18 (.alt 3 tq28 (.alt 7 tq30 (.alt 9 tq31 .none))))) (.alt 7 (.pick (.alt 1 tq20 (.alt 3 (.take 4 tq26) (.alt 4 tq30 (.alt 9 tq32 .none))))) (.alt 9 (.pick (.alt 1 tq21 (.alt 3 (.take 4 tq27) (.alt 4 tq31 (.alt 7 tq32 .none))))) .none)))))))))) (.reg NR [1,2,4,5,6,33,34])))
def NQ:=[xl 52 4 1,x1 53 114 52,xa 54 6 5 1,xo (.store (xt 54) (xu 53) 1)]
def NP:=[xm 55 5,xo (.call (some 56) (xt 55) []),xv 57 0]
def NO:=[xB 58 .lss 57 56]
def Jg:=[xa 59 6 6 1,xo (.take 60 (xt 59)),xl 61 4 1,xo (.callF (some 62) (xf 45) [(xt 61)]),xl 63 4 1,xo (.callF (some 64) (xf 45) [(xt 63)]),xl 65 4 1,xo (.callF (some 66) (xf 45) [(xt 65)]),xp 67 (.build [xz,xz] [(0,1,(xt 64)),(1,1,(xt 66))]),xp 68 (.build [xz,xz,xz] [(0,1,(xt 62)),(1,2,(xt 67))]),xo (.bsl 69 246 3 [(xt 68)]),xo (.app 70 (xu 60) (xt 69) 246 3 24),xa 71 6 6 1,xo (.store (xt 71) (xu 70) 1)]
def NN:=[xC 72 .add 57 1,xm 57 72]
def Io:AC:=xS NO [1,2,4,5,6,56,57,58] (.seq (xD 58 2) (.seq (.block 3 (.regA Jg [1,2,4,5,6,56,57] (xK [[],[0],[],[2],[],[3,4],[],[5,6],[7],[8],[9],[1,10],[11],[12]]) (.take 0 (.take 2 (.pick (.alt 1 (.pick (.alt 3 (.take 4 tq36) (.alt 4 tq38 (.alt 6 tq39 .none)))) (.alt 3 (.take 4 tq42) (.alt 4 (.pick (.alt 1 tq38 (.alt 3 tq42 (.alt 6 tq43 .none)))) (.alt 6 (.pick (.alt 1 tq39 (.alt 3 (.take 4 tq41) (.alt 4 tq43 .none)))) .none))))))))) (.reg NN [1,2,4,5,6,56,57])))
def NM:=[xm 73 5,xo (.call (some 74) (xt 73) []),xv 75 0]
def NL:=[xB 76 .lss 75 74]
def Jf:=[xa 77 6 7 1,xo (.take 78 (xt 77)),xl 79 4 1,xo (.callF (some 80) (xf 45) [(xt 79)]),xl 81 4 1,xo (.callF (some 82) (xf 45) [(xt 81)]),xl 83 4 1,xo (.callF (some 84) (xf 45) [(xt 83)]),xl 85 4 1,xo (.callF (some 86) (xf 45) [(xt 85)]),xp 87 (.build [xz,xz,xz,xz] [(0,1,(xt 80)),(1,1,(xt 82)),(2,1,(xt 84)),(3,1,(xt 86))]),xo (.bsl 88 247 4 [(xt 87)]),xo (.app 89 (xu 78) (xt 88) 247 4 32),xa 90 6 7 1,xo (.store (xt 90) (xu 89) 1)]
def NK:=[xC 91 .add 75 1,xm 75 91]
def In:AC:=xS NL [1,2,4,6,74,75,76] (.seq (xD 76 4) (.seq (.block 5 (.regA Jf [1,2,4,6,74,75] (xK [[],[0],[],[2],[],[3,4],[],[5,6],[],[7,8],[9],[10],[1,11],[12],[13]]) (.take 0 (.take 2 (.pick (.alt 1 (.pick (.alt 3 (.take 4 tq54) (.alt 4 tq58 (.alt 6 tq60 (.alt 8 tq61 .none))))) (.alt 3 (.take 4 tq68) (.alt 4 (.pick (.alt 1 tq58 (.alt 3 tq68 (.alt 6 tq70 (.alt 8 tq71 .none))))) (.alt 6 (.pick (.alt 1 tq60 (.alt 3 (.take 4 tq66) (.alt 4 tq70 (.alt 8 tq72 .none))))) (.alt 8 (.pick (.alt 1 tq61 (.alt 3 (.take 4 tq67) (.alt 4 tq71 (.alt 6 tq72 .none))))) .none)))))))))) (.reg NK [1,2,4,6,74,75])))
def NJ:=[xl 92 4 1,x1 93 116 92,xC 94 .neq 93 0]
def Uv:=[xp 95 (.build [xz,xz,xz,.nil 130 5,.nil 88 4,.nil 3 1,.nil 246 3,.nil 247 4] []),xs 2 95 8,xv 3 2]
def NI:=[xL 97 6 8,x1 98 51 97,xn 96 98,xe 99 96 0,xe 100 96 1,xn 9 99,xm 10 100]
def NH:=[xm 101 10,xC 102 .neq 101 0,xm 103 102,xG 103 false (xn 104 9),xG 103 false (xp 105 (.b2s (xt 104))),xG 103 false (xl 106 1 1),xG 103 false (xp 107 (.b2s (xt 106))),xG 103 false (xB 108 .neq 105 107),xO 109 103 108]
def Uu:=[xp 110 (.build [xz,xz,xz,.nil 130 5,.nil 88 4,.nil 3 1,.nil 246 3,.nil 247 4] []),xs 2 110 8,xv 3 2]
def NG:=[xL 111 6 8,xs 2 111 8,xv 3 0]
def sP:AC:=xS SF [1,2] (xS SE [1,2,4] (xS SD [1,2,4,5] (.seq (.regA NF [1,2,4,5,6] (xK [[],[0],[],[1,2],[],[3,4],[5],[],[6,7]]) (.take 0 (.pick (.alt 1 (.take 2 tq79) (.alt 2 (.pick (.alt 1 tq79 (.alt 4 tq81 (.alt 7 tq82 .none)))) (.alt 4 (.pick (.alt 1 (.take 2 tq77) (.alt 2 tq81 (.alt 7 tq83 .none)))) (.alt 7 (.pick (.alt 1 (.take 2 tq78) (.alt 2 tq82 (.alt 4 tq83 .none)))) .none))))))) (xS SC [1,2,4,5,6,7,8] (xQ SB [1,2,4,5,6,7,28] 28 (xE sN [2,3]) (xS SA [1,2,4,5,6] (.seq (xS R8 [1,2,4,5,6,33,34] (.block 0 (.loop Ip))) (xS NQ [1,2,4,5,6] (.seq (xS NP [1,2,4,5,6,56,57] (.block 2 (.loop Io))) (.seq (xS NM [1,2,4,6,74,75] (.block 4 (.loop In))) (xQ NJ [1,2,6,94] 94 (xE Uv [2,3]) (.seq (xS NI [1,2,6,9,10] (xS NH [2,6,109] (.cond (xt 109) (xE Uu [2,3]) .skip))) (xE NG [2,3])))))))))))))
def AB8:List AR:=[.c 2 8 true,.t 3]
theorem ATS:AU 113 1 sP AB8:=by kernel_rfl
def sM:=[xo (.mv 2 (.c (.own 3 1 [])))]
def sL:=[xm 3 0,xm 4 0,xp 5 (.mkme 45 [(xt 4)]),x2 6 206 3 5,xn 2 6]
def AO1:AC:=xS sM [0] (xE sL [2])
def AB6:List AR:=[.t 2]
theorem ATR:AU 114 1 AO1 AB6:=by kernel_rfl
def sK:=[xv 2 0]
def sJ:=[xm 3 0,xZ 4 3,xa 5 4 1 1,xl 6 5 1,xC 7 .eql 6 0,xm 8 7,xG 8 true (xm 9 0),xG 8 true (xZ 10 9),xG 8 true (xa 11 10 0 1),xG 8 true (xl 12 11 1),xG 8 true (xA 13 12),xG 8 true (xC 14 .gtr 13 0),xN 15 8 14]
def AHf:=[xv 2 2]
def sI:=[xm 16 0,xZ 17 16,xa 18 17 1 1,xl 19 18 1,xm 2 19]
def AO0:AC:=xS sK [0] (xQ sJ [0,15] 15 (xE AHf [2]) (xE sI [2]))
def AB5:List AR:=[.t 2]
theorem ATQ:AU 116 1 AO0 AB5:=by kernel_rfl
def Ki:=[xo (.mv 2 (.c (.own 5 1 [])))]
def Kh:=[xm 3 0,xo (.nilS 4 false (xt 3))]
def Kg:=[xo (.mv 2 (.c (.own 5 1 [])))]
def Kf:=[xo (.bsl 5 5 1 []),xn 6 0,xo (.app 7 (xu 5) (xt 6) 5 1 1),xn 2 7]
def Vj:AC:=xS Ki [0] (xQ Kh [0,4] 4 (xE Kg [2]) (xE Kf [2]))
def Lh:List AR:=[.t 2]
theorem AC3:AU 117 1 Vj Lh:=by kernel_rfl
def Rz:=[xv 2 0]
def Ry:=[xm 3 0,xb 4 .shr (xt 3) (xj 1),xp 5 (.cint .i64 (xt 4)),xm 6 0,xb 7 .and (xt 6) (xj 1),xp 8 (.cint .i64 (xt 7)),xp 9 (.neg (xt 8)),xB 10 .xor 5 9,xm 2 10]
def AHe:AC:=xS Rz [0] (xE Ry [2])
def sH:List AR:=[.t 2]
theorem ATP:AU 118 1 AHe sH:=by kernel_rfl
def sG:=[xo (.mv 2 (xj 0))]
def sF:=[xo (.mv 3 (xj 0))]
def sE:=[xv 4 0]
def sD:=[xm 6 0,xZ 7 6,xa 8 7 1 1,xl 9 8 1,xC 10 .eql 9 0]
def r9:=[xm 13 0,x1 14 203 13,xm 5 14]
def NC:=[xm 15 4,xC 16 .eql 15 9,xm 17 16,xG 17 true (xm 18 5),xG 17 true (xb 19 .gtr (xt 18) (.c (.v (.int .u8 1)))),xN 20 17 19,xm 21 20,xG 21 false (xm 22 4),xG 21 false (xC 23 .gtr 22 0),xG 21 false (xm 24 23),xG 24 true (xm 25 5),xG 24 true (xb 26 .eql (xt 25) (.c (.v (.int .u8 0)))),xG 21 false (xN 27 24 26),xO 28 21 27]
def AHd:=[xm 29 0,xc 30 207 [(xt 29),(xi 2)]]
def Rw:=[xm 31 3,xm 32 5,xb 33 .andNot (xt 32) (.c (.v (.int .u8 128))),xp 34 (.cint .u64 (xt 33)),xm 35 4,xb 36 .mul (xi 7) (xt 35),xB 37 .shl 34 36,xB 38 .or 31 37,xm 3 38]
def Rv:=[xm 39 5,xb 40 .lss (xt 39) (.c (.v (.int .u8 128))),xm 41 40,xG 41 true (xm 42 0),xG 41 true (xZ 43 42),xG 41 true (xa 44 43 1 1),xG 41 true (xl 45 44 1),xG 41 true (xC 46 .eql 45 0),xN 47 41 46]
def ND:=[xm 48 3,xm 2 48]
def Rx:=[xm 11 4,xC 12 .add 11 1,xm 4 12]
def NE:AC:=.seq (xS sD [0,3,4,10] (xD 10 0)) (.seq (.block 1 (xS r9 [0,3,4,5] (xQ NC [0,3,4,5,28] 28 (.reg AHd [0,3,4,5]) (xS Rw [0,3,4,5] (xS Rv [0,3,4,47] (.cond (xt 47) (xE ND [2]) .skip)))))) (.reg Rx [0,3,4]))
def vT:=[xo (.mv 2 (xj 0))]
def AOz:AC:=xS sG [0] (xS sF [0,3] (.seq (xS sE [0,3,4] (.block 0 (.loop NE))) (xE vT [2])))
def AB4:List AR:=[.t 2]
theorem ATO:AU 119 1 AOz AB4:=by kernel_rfl
def r5:=[xx 2 0,xw 4 false]
def rz:=[xn 5 1,xp 6 (.mkf 208 [(xt 2)]),x2 7 151 5 6,xT 8 7,xm 4 8]
def AHc:AC:=xS r5 [1,2] (xE rz [4])
def r7:List AR:=[.t 4]
theorem AKE:AU 120 2 AHc r7:=by kernel_rfl
def AHb:=[xw 2 false]
def AHa:=[xm 3 0,x1 4 209 3,xm 5 4,xG 5 true (xm 6 0),xG 5 true (x1 7 122 6),xG 5 true (x1 8 210 7),xG 5 true (xA 9 8),xG 5 true (xn 10 0),xG 5 true (xA 11 10),xG 5 true (xB 12 .eql 9 11),xN 13 5 12,xm 2 13]
def AOx:AC:=xS AHb [0] (xE AHa [2])
def ABz:List AR:=[.t 2]
theorem ATN:AU 121 1 AOx ABz:=by kernel_rfl
def AHZ:=[xo (.mv 2 (.c (.own 3 1 [])))]
def AHY:=[xm 3 0,xo (.nilS 4 false (xt 3))]
def AHX:=[xo (.mv 2 (.c (.own 3 1 [])))]
def AHW:=[xo (.bsl 5 3 1 []),xn 6 0,xo (.app 7 (xu 5) (xt 6) 3 1 8),xn 2 7]
def AOw:AC:=xS AHZ [0] (xQ AHY [0,4] 4 (xE AHX [2]) (xE AHW [2]))
def ABy:List AR:=[.t 2]
theorem ATM:AU 122 1 AOw ABy:=by kernel_rfl
def Ru:=[xx 1 0,xw 2 false]
def Rt:=[xl 7 1 1,xZ 8 7,xa 9 8 0 1,xl 10 9 1,xA 11 10,xo (.mksl 12 (xt 11) (.v (.bool false))),xl 13 1 1,xZ 14 13,xa 15 14 0 1,xl 16 15 1,xA 17 16,xo (.mksl 18 (xt 17) (.v (.bool false))),xo (.alloc 3 [.own 4 1 []]),xo (.alloc 4 [.own 4 1 []]),xo (.store (xt 3) (xu 12) 1),xo (.store (xt 4) (xu 18) 1)]
def Rs:=[xo (.alloc 5 [.v .nilf])]
def Rr:=[xp 19 (.mkf 211 [(xt 3),(xt 4),(xt 1),(xt 5)]),xs 5 19 1]
def Rq:=[xl 20 1 1,xZ 21 20,xa 22 21 0 1,xl 23 22 1,xA 24 23,xv 25 0]
def rt:=[xB 26 .lss 25 24]
def rq:=[xm 27 25,xm 6 27]
def rp:=[xl 28 5 1,xm 29 6,xo (.call (some 30) (xt 28) [(xt 29)]),xT 31 30]
def AHV:=[xw 2 false]
def ro:=[xC 32 .add 25 1,xm 25 32]
def NA:AC:=xS rt [5,24,25,26] (.seq (xD 26 0) (.seq (.block 1 (xS rq [5,6,24,25] (xS rp [5,24,25,31] (.cond (xt 31) (xE AHV [2]) .skip)))) (.reg ro [5,24,25])))
def M9:=[xw 2 true]
def vS:AC:=xS Ru [1] (.seq (.regA Rt [1,3,4] (xK [[],[0],[1],[2],[3],[4],[],[6],[7],[8],[9],[10],[],[],[5,12,13],[11,14]]) (.take 0 (.take 1 (.take 2 (.take 3 (.take 4 (.pick (.alt 5 (.pick (.alt 6 (.take 7 (.take 8 tq95)) (.alt 12 tq97 (.alt 13 tq98 .none)))) (.alt 6 (.take 7 (.take 8 (.pick (.alt 5 tq95 (.alt 9 (.take 10 (.pick (.alt 5 tq90 (.alt 11 (.pick (.alt 5 tq85 (.alt 12 tq100 (.alt 13 tq101 .none)))) (.alt 12 tq103 (.alt 13 tq104 .none)))))) (.alt 12 tq106 (.alt 13 tq107 .none))))))) (.alt 12 (.pick (.alt 5 tq97 (.alt 6 (.take 7 (.take 8 tq106)) (.alt 13 tq108 .none)))) (.alt 13 (.pick (.alt 5 tq98 (.alt 6 (.take 7 (.take 8 tq107)) (.alt 12 tq108 .none)))) .none))))))))))) (xS Rs [1,3,4,5] (xS Rr [1,5] (.seq (xS Rq [5,24,25] (.block 0 (.loop NA))) (xE M9 [2])))))
def ABx:List AR:=[.t 2]
theorem ATL:AU 123 1 vS ABx:=by kernel_rfl
def rl:=[xo (.mv 2 (.c (.own 130 5 [])))]
def rk:=[xo (.mv 3 (.c (.own 130 5 [])))]
def rj:=[xm 8 0,xc 9 47 [(xt 8),(xi 0),(xi 3)],xb 10 .add (xi 1) (xt 9),xm 4 10]
def ri:=[xv 5 0]
def Rp:=[xm 11 5,xm 12 4,xB 13 .lss 11 12]
def Rn:=[xm 16 0,xm 17 5,xb 18 .mul (xi 2) (xt 17),xC 19 .add 18 1,xc 20 47 [(xt 16),(xt 19),(xi 1000)],xm 6 20]
def Rm:=[xm 21 0,xm 22 5,xb 23 .mul (xi 2) (xt 22),xC 24 .add 23 2,xc 25 47 [(xt 21),(xt 24),(xi 1048576)],x1 26 212 25,xp 27 (.build [.nil 3 1,xz,xz,.nil 368 8,.nil 84 4] [(1,4,(xt 26))]),xo (.alloc 7 [.own 3 1 [],xz,xz,.own 368 8 [],.own 84 4 []]),xs 7 27 5]
def Rl:=[xm 28 6,xC 29 .rem 28 4,xC 30 .eql 29 0]
def Rk:=[xa 31 7 1 4,xL 32 31 4,xm 33 6,xC 34 .quo 33 4,x1 35 212 34,xo (.bsl 36 84 4 [(xt 32),(xt 35)]),xp 37 (.build [xz,xz,.nil 368 8,.nil 84 4] [(0,1,(xi 5)),(3,1,(xt 36))]),xa 38 7 1 4,xs 38 37 4]
def M8:=[xm 39 5,xC 40 .gtr 39 0,xm 41 40,xG 41 true (xm 42 6),xG 41 true (xC 43 .quo 42 4),xG 41 true (xC 44 .rem 43 2),xG 41 true (xC 45 .eql 44 0),xN 46 41 45]
def M7:=[xm 47 6,xC 48 .quo 47 8,xm 49 5,xB 50 .rem 48 49,xo (.bsl 51 3 1 [(xt 50)]),xa 52 7 0 1,xo (.store (xt 52) (xu 51) 1)]
def D6:=[xm 53 5,xC 54 .eql 53 2,xm 55 54,xG 55 true (xm 56 6),xG 55 true (xC 57 .quo 56 16),xG 55 true (xC 58 .rem 57 4),xG 55 true (xC 59 .eql 58 0),xN 60 55 59]
def Je:=[xo (.bsl 61 3 1 [(xi 0),(xi 1)]),xa 62 7 0 1,xo (.store (xt 62) (xu 61) 1)]
def D5:=[xn 63 3,xL 64 7 5,xo (.bsl 65 130 5 [(xt 64)]),xo (.app 66 (xu 63) (xt 65) 130 5 88),xn 3 66]
def Ro:=[xm 14 5,xC 15 .add 14 1,xm 5 15]
def rn:AC:=.seq (xS Rp [0,3,4,5,13] (xD 13 0)) (.seq (.block 1 (xS Rn [0,3,4,5,6] (xS Rm [0,3,4,5,6,7] (xQ Rl [0,3,4,5,6,7,30] 30 (.regD Rk [0,3,4,5,6,7] (xK [[],[0],[],[2],[3],[1,4],[5],[6],[7]])) (xQ M8 [0,3,4,5,6,7,46] 46 (.reg M7 [0,3,4,5,6,7]) (xQ D6 [0,3,4,5,7,60] 60 (.reg Je [0,3,4,5,7]) (.reg D5 [0,3,4,5]))))))) (.reg Ro [0,3,4,5]))
def Ut:=[xn 67 3,xn 2 67]
def AOv:AC:=xS rl [0] (xS rk [0,3] (xS rj [0,3,4] (.seq (xS ri [0,3,4,5] (.block 0 (.loop rn))) (xE Ut [2]))))
def ABv:List AR:=[.t 2]
theorem ATK:AU 124 1 AOv ABv:=by kernel_rfl
def rf:=[xw 6 false]
def re:=[xm 7 0,xm 8 1,xB 9 .geq 7 8,xm 10 9,xG 10 true (xm 11 0),xG 10 true (xm 12 2),xG 10 true (xB 13 .leq 11 12),xN 14 10 13,xm 6 14]
def AOu:AC:=xS rf [0,1,2] (xE re [6])
def ABu:List AR:=[.t 6]
theorem ATJ:AU 125 3 AOu ABu:=by kernel_rfl
def rb:=[xv 2 0]
def ra:=[xm 5 0,xA 6 5,xC 7 .gtr 6 32]
def rZ:=[xv 2 4]
def rY:=[xv 3 0]
def rX:=[xm 8 3,xm 9 0,xA 10 9,xB 11 .lss 8 10]
def rV:=[xm 14 0,xm 15 3,xI 16 14 15 5,xa 17 16 0 1,xl 18 17 1,xA 19 18,xC 20 .gtr 19 8]
def rU:=[xv 2 4]
def rT:=[xm 21 0,xm 22 3,xI 23 21 22 5,xa 24 23 0 1,xl 25 24 1,xm 26 3,x2 27 213 25 26,xT 28 27]
def rS:=[xv 2 1]
def Us:=[xm 29 0,xm 30 3,xI 31 29 30 5,xa 32 31 1 4,xL 33 32 4,x1 34 214 33,xm 4 34]
def M6:=[xm 35 4,xC 36 .neq 35 0]
def Ur:=[xm 37 4,xm 2 37]
def rW:=[xm 12 3,xC 13 .add 12 1,xm 3 13]
def rc:AC:=.seq (xS rX [0,3,11] (xD 11 0)) (.seq (.block 1 (xQ rV [0,3,20] 20 (xE rU [2]) (xQ rT [0,3,28] 28 (xE rS [2]) (xS Us [0,3,4] (xS M6 [0,3,4,36] (.cond (xt 36) (xE Ur [2]) .skip)))))) (.reg rW [0,3]))
def Uq:=[xv 2 0]
def AOt:AC:=xS rb [0] (xQ ra [0,7] 7 (xE rZ [2]) (.seq (xS rY [0,3] (.block 0 (.loop rc))) (xE Uq [2])))
def Lg:List AR:=[.t 2]
theorem ATI:AU 126 1 AOt Lg:=by kernel_rfl
def rR:=[xx 1 0,xv 2 0]
def rQ:=[xa 3 1 1 1,xl 4 3 1,xC 5 .lss 4 1,xm 6 5,xG 6 false (xa 7 1 1 1),xG 6 false (xl 8 7 1),xG 6 false (xC 9 .gtr 8 1048576),xO 10 6 9,xm 11 10,xG 11 false (xa 12 1 0 1),xG 11 false (xl 13 12 1),xG 11 false (xC 14 .gtr 13 1099511627776),xO 15 11 14,xm 16 15,xG 16 false (xa 17 1 0 1),xG 16 false (xl 18 17 1),xG 16 false (xb 19 .lss (xt 18) (.c (.v (.int .i64 (-1099511627776))))),xO 20 16 19,xm 21 20,xG 21 false (xa 22 1 0 1),xG 21 false (xl 23 22 1),xG 21 false (xa 24 1 1 1),xG 21 false (xl 25 24 1),xG 21 false (x2 26 215 23 25),xG 21 false (xC 27 .neq 26 1),xO 28 21 27]
def Im:=[xv 2 1]
def rP:=[xv 2 0]
def AOs:AC:=xS rR [1] (xQ rQ [28] 28 (xE Im [2]) (xE rP [2]))
def Ke:List AR:=[.t 2]
theorem ATH:AU 127 1 AOs Ke:=by kernel_rfl
def rO:=[xx 1 0,xw 2 false]
def rN:=[xa 8 1 3 1,xl 9 8 1,xA 10 9,xo (.alloc 3 [xz]),xs 3 10 1]
def rM:=[xa 11 1 0 1,xl 12 11 1,xc 13 216 [(xt 12),(xi 0),(xi 4095)],xT 14 13,xm 15 14,xG 15 false (xa 16 1 1 1),xG 15 false (xl 17 16 1),xG 15 false (xc 18 216 [(xt 17),(xi 0),(xi 4)]),xG 15 false (xT 19 18),xO 20 15 19,xm 21 20,xG 21 false (xa 22 1 2 1),xG 21 false (xl 23 22 1),xG 21 false (xc 24 216 [(xt 23),(xi 0),(xi 4)]),xG 21 false (xT 25 24),xO 26 21 25,xm 27 26,xG 27 false (xa 28 1 3 1),xG 27 false (xl 29 28 1),xG 27 false (x1 30 138 29),xG 27 false (xC 31 .neq 30 0),xO 32 27 31,xm 33 32,xG 33 false (xa 34 1 4 1),xG 33 false (xl 35 34 1),xG 33 false (xA 36 35),xG 33 false (xC 37 .gtr 36 4096),xO 38 33 37,xm 39 38,xG 39 false (xa 40 1 7 1),xG 39 false (xl 41 40 1),xG 39 false (xA 42 41),xG 39 false (xC 43 .gtr 42 4096),xO 44 39 43]
def HA:=[xw 2 false]
def Rj:=[xa 45 1 4 1,xl 46 45 1,xp 47 (.mkf 218 [(xt 3)]),x2 48 217 46 47,xm 49 48,xG 49 true (xa 50 1 4 1),xG 49 true (xl 51 50 1),xG 49 true (xc 52 219 [(xt 51),(xf 220)]),xN 53 49 52,xm 4 53]
def Ri:=[xa 54 1 5 1,xl 55 54 1,xp 56 (.mkf 222 [(xt 3)]),x2 57 221 55 56,xm 58 57,xG 58 true (xa 59 1 5 1),xG 58 true (xl 60 59 1),xG 58 true (xc 61 223 [(xt 60),(xf 224)]),xN 62 58 61,xm 5 62]
def Rh:=[xa 63 1 6 1,xl 64 63 1,xc 65 225 [(xt 64),(xf 226)],xm 66 65,xG 66 true (xa 67 1 6 1),xG 66 true (xl 68 67 1),xG 66 true (xc 69 228 [(xt 68),(xf 229)]),xN 70 66 69,xm 6 70]
def Rg:=[xa 71 1 7 1,xl 72 71 1,xc 73 230 [(xt 72),(xf 231)],xm 7 73]
def rL:=[xm 74 4,xm 75 74,xG 75 true (xm 76 5),xN 77 75 76,xm 78 77,xG 78 true (xm 79 6),xN 80 78 79,xm 81 80,xG 81 true (xm 82 7),xN 83 81 82,xm 2 83]
def AHU:AC:=xS rO [1] (xS rN [1,3] (xQ rM [1,3,44] 44 (xE HA [2]) (xS Rj [1,3,4] (xS Ri [1,4,5] (xS Rh [1,4,5,6] (xS Rg [4,5,6,7] (xE rL [2])))))))
def IB:List AR:=[.t 2]
theorem AKD:AU 128 1 AHU IB:=by kernel_rfl
def rI:=[xn 5 0,xA 6 5,xv 7 0]
def rH:=[xB 8 .lss 7 6]
def rG:=[xI 9 5 7 1,xl 10 9 1,xm 4 10]
def rF:=[xm 11 4,x2 12 98 1 11]
def rE:=[xC 13 .add 7 1,xm 7 13]
def rJ:AC:=xS rH [1,5,6,7,8] (.seq (xD 8 0) (.seq (.block 1 (xS rG [1,4,5,6,7] (.reg rF [1,5,6,7]))) (.reg rE [1,5,6,7])))
def AHT:AC:=xS rI [1,5,6,7] (.block 0 (.loop rJ))
def rK:List AR:=[]
theorem AKC:AU 129 2 AHT rK:=by kernel_rfl
def rC:=[xo (.mv 2 (.c (.own 5 1 []))),xv 3 0]
def rA:=[xm 10 0,x1 11 138 10,xm 4 11]
def qz:=[xm 12 4,xC 13 .neq 12 0]
def qy:=[xm 14 4,xo (.mv 2 (.c (.own 5 1 []))),xm 3 14]
def qx:=[xp 15 (.build [.nil 5 1] []),xx 16 15,xm 5 16]
def qw:=[xm 17 5,xm 18 0,xA 19 18,x2 20 98 17 19]
def qv:=[xn 21 0,xA 22 21,xv 23 0]
def qu:=[xB 24 .lss 23 22]
def qt:=[xI 25 21 23 5,xL 26 25 5,xo (.alloc 7 [.own 3 1 [],xz,xz,.own 368 8 [],.own 84 4 []]),xs 7 26 5]
def qr:=[xa 28 7 1 4,xL 29 28 4,x1 30 232 29,xn 27 30,xe 31 27 0,xe 32 27 1,xn 8 31,xm 9 32]
def Uo:=[xm 33 9,xC 34 .neq 33 0]
def vQ:=[xm 35 9,xo (.mv 2 (.c (.own 5 1 []))),xm 3 35]
def Un:=[xm 36 5,xa 37 7 0 1,xl 38 37 1,x2 39 100 36 38]
def Um:=[xm 40 5,xn 41 8,x2 42 99 40 41]
def Ul:=[xC 43 .add 23 1,xm 23 43]
def rD:AC:=xS qu [5,21,22,23,24] (.seq (xD 24 0) (.seq (.block 1 (xS qt [5,7,21,22,23] (xS qr [5,7,8,9,21,22,23] (xQ Uo [5,7,8,9,21,22,23,34] 34 (xE vQ [2,3]) (xS Un [5,8,21,22,23] (.reg Um [5,21,22,23])))))) (.reg Ul [5,21,22,23])))
def Uk:=[xm 44 5,x1 45 102 44,xn 2 45,xv 3 0]
def AHS:AC:=xS rC [0] (.seq (xS rA [0,4] (xS qz [0,4,13] (.cond (xt 13) (xE qy [2,3]) .skip))) (xS qx [0,5] (xS qw [0,5] (.seq (xS qv [5,21,22,23] (.block 0 (.loop rD))) (xE Uk [2,3])))))
def Up:List AR:=[.t 2,.t 3]
theorem AKB:AU 130 1 AHS Up:=by kernel_rfl
def qp:=[xw 2 false]
def qo:=[xm 3 0,xC 4 .geq 3 0,xm 5 4,xG 5 true (xm 6 0),xG 5 true (xC 7 .leq 6 4095),xN 8 5 7,xm 2 8]
def AHR:AC:=xS qp [0] (xE qo [2])
def qq:List AR:=[.t 2]
theorem AKA:AU 131 1 AHR qq:=by kernel_rfl
def ql:=[xx 5 2]
def qk:=[xm 9 1,xp 10 (.build [xz,xz] [(0,1,(xi 0)),(1,1,(xt 9))]),xo (.alloc 6 [xz,xz]),xs 6 10 2]
def Rd:=[xa 18 6 0 1,xl 19 18 1,xC 20 .gtr 19 0]
def Rc:=[xL 22 6 2,x1 23 181 22,xn 21 23,xe 24 21 0,xe 25 21 1,xo (.alloc 7 [xz,xz]),xo (.alloc 8 [xz,xz]),xs 7 24 2,xs 8 25 2]
def Rb:=[xm 26 0,xL 27 7 2,xo (.callC (some 28) (xf 233) [(xt 26),(xt 27)]),xm 29 0,xL 30 8 2,xo (.callC (some 31) (xf 233) [(xt 29),(xt 30)]),x2 32 182 28 31,xs 5 32 2]
def Ra:=[xa 33 5 1 1,xl 34 33 1]
def RZ:=[xm 35 0,xZ 36 35,xa 37 36 1 1,xl 38 37 1,xL 39 6 2,xa 40 5 0 1,xl 41 40 1,xo (.mput (xt 38) (xt 39) (xt 41) true [0,0])]
def qj:=[xm 42 0,xZ 43 42,xa 44 43 1 1,xl 45 44 1,xL 46 6 2,xo (.mdel none (xt 45) (xt 46) true [0,0])]
def M3:=[xL 47 6 2,xp 48 (.load (.g 0 [.int .i64 12,.int .i64 0]) 2 true),xp 49 (.eqA false [0,0] (xt 47) (xt 48))]
def M5:=[xL 50 6 2]
def M4:=[xo (.alloc 6 [xz,xz]),xs 6 50 2]
def Re:=[xa 11 6 0 1,xl 12 11 1,xC 13 .add 12 1,xa 14 6 1 1,xl 15 14 1,xC 16 .quo 15 2,xp 17 (.build [xz,xz] [(0,1,(xt 13)),(1,1,(xt 16))]),xs 6 17 2]
def Rf:AC:=.seq (.block 1 (xQ Rd [0,5,6,20] 20 (xS Rc [0,5,6,7,8] (.regA Rb [0,5,6] (xK [[],[],[0,1],[],[],[2,3,4],[5],[6]]) tq112)) (.seq (xS Ra [0,5,6,34] (.cond (xt 34) (.regD RZ [0,5,6] (xK [[],[0],[1],[2],[],[],[5],[3,4,6]])) (.regD qj [0,5,6] (xK [[],[0],[1],[2],[],[3,4]])))) (xS M3 [0,5,6,49] (.cond (xt 49) .ret .skip))))) (.seq (xS M5 [0,5,50] (.reg M4 [0,5,6])) (.reg Re [0,5,6]))
def AHQ:AC:=xS ql [0,1,5] (xS qk [0,5,6] (.block 0 (.loop Rf)))
def qn:List AR:=[]
theorem AJ9:AU 132 3 AHQ qn:=by kernel_rfl
def qh:=[xo (.mv 4 (xj 0))]
def qg:=[xm 5 0,xm 6 1,xA 7 6,xn 8 1,xc 9 234 [(.c (.v (.str ⟨#[118,97,108,117,101]⟩))),(xt 8)],xp 10 (.cint .i64 (xt 9)),xo (.bsl 11 3 1 [(xt 5),(xt 7),(xt 10)]),xc 12 96 [(.c (.v (.str ⟨#[112,97,105,114]⟩))),(xt 11)],xm 4 12]
def AHP:AC:=xS qh [0,1] (xE qg [4])
def qi:List AR:=[.t 4]
theorem AJ8:AU 133 2 AHP qi:=by kernel_rfl
def qe:=[xx 3 0,xx 4 1,xo (.mv 6 (.c (.own 193 2 []))),xo (.alloc 7 [.own 47 1 [],.own 47 1 [],.own 5 1 []]),xv 8 0]
def qd:=[xl 16 4 1,xm 17 2,x2 18 177 16 17,xT 19 18]
def AHL:=[xp 20 (.build [.nil 47 1,.nil 47 1,.nil 5 1] []),xo (.mv 6 (.c (.own 193 2 []))),xs 7 20 3,xv 8 5]
def qc:=[xo (.mv 9 (.c (.own 193 2 [])))]
def qZ:=[xl 21 3 1,xZ 22 21,xa 23 22 0 1,xl 24 23 1,x1 25 238 24,x1 26 237 25,xA 27 26,xv 28 0]
def qY:=[xB 29 .lss 28 27]
def qX:=[xI 30 26 28 1,xl 31 30 1,xm 11 31]
def qW:=[xm 32 11,xl 33 4 1,xB 34 .geq 32 33,xm 35 34,xG 35 true (xm 36 11),xG 35 true (xm 37 2),xG 35 true (xB 38 .leq 36 37),xN 39 35 38]
def qV:=[xn 40 9,xm 41 11,xl 42 3 1,xZ 43 42,xa 44 43 0 1,xl 45 44 1,xm 46 11,xp 47 (.look (xt 45) (xt 46) false [0] [.nil 5 1] false false),x1 48 117 47,xp 49 (.build [xz,.nil 5 1] [(0,1,(xt 41)),(1,1,(xt 48))]),xo (.bsl 50 193 2 [(xt 49)]),xo (.app 51 (xu 40) (xt 50) 193 2 32),xn 9 51]
def qU:=[xC 52 .add 28 1,xm 28 52]
def RY:AC:=xS qY [2,3,4,7,9,26,27,28,29] (.seq (xD 29 0) (.seq (.block 1 (xS qX [2,3,4,7,9,11,26,27,28] (xS qW [2,3,4,7,9,11,26,27,28,39] (.cond (xt 39) (.reg qV [2,3,4,7,9,26,27,28]) .skip)))) (.reg qU [2,3,4,7,9,26,27,28])))
def Uj:=[xo (.alloc 12 [.own 47 1 [],.own 47 1 [],.own 5 1 []])]
def Ui:=[xl 53 4 1,xm 54 2,x2 55 239 53 54]
def vP:=[xo (.alloc 13 [xz,xz]),xs 13 56 2]
def vO:=[xl 58 3 1,xZ 59 58,xa 60 59 1 1,xl 61 60 1,xL 62 13 2,xp 63 (.look (xt 61) (xt 62) true [0,0] [.v (.int .u64 0)] false true),xn 57 63,xe 64 57 0,xe 65 57 1,xm 14 64,xm 15 65]
def vN:=[xm 66 15,xT 67 66]
def vM:=[xa 68 12 2 1,xo (.take 69 (xt 68)),xo (.bsl 70 5 1 [(.c (.v (.int .u8 0)))]),xo (.app 71 (xu 69) (xt 70) 5 1 1),xa 72 12 2 1,xo (.store (xt 72) (xu 71) 1)]
def vL:=[xa 73 12 2 1,xo (.take 74 (xt 73)),xo (.bsl 75 5 1 [(.c (.v (.int .u8 1)))]),xo (.app 76 (xu 74) (xt 75) 5 1 1),xa 77 12 2 1,xo (.store (xt 77) (xu 76) 1)]
def vK:=[xL 78 13 2,x1 79 240 78,xl 80 4 1,xB 81 .lss 79 80]
def vJ:=[xa 82 12 0 1,xo (.take 83 (xt 82)),xm 84 14,xo (.bsl 85 47 1 [(xt 84)]),xo (.app 86 (xu 83) (xt 85) 47 1 8),xa 87 12 0 1,xo (.store (xt 87) (xu 86) 1)]
def vI:=[xa 88 12 1 1,xo (.take 89 (xt 88)),xm 90 14,xo (.bsl 91 47 1 [(xt 90)]),xo (.app 92 (xu 89) (xt 91) 47 1 8),xa 93 12 1 1,xo (.store (xt 93) (xu 92) 1)]
def AHN:AC:=.reg vP [3,4,12,13]
def AHM:AC:=.block 3 (.seq (.regD vO [4,12,13,14,15] (xK [[],[0],[1],[2],[],[3,4],[5],[6],[6],[7],[8,9]])) (xQ vN [4,12,13,14,67] 67 (xS vM [] (.exit 3)) (xS vL [4,12,13,14] (.seq (.regD vK [12,14,81] [[],[0],[],[0,1,2]]) (.cond (xt 81) (.reg vJ []) (.reg vI []))))))
def Uh:=[xn 94 9,xL 95 12 3,xn 6 94,xs 7 95 3,xv 8 0]
def AHO:AC:=xS qe [2,3,4,7] (xQ qd [2,3,4,7,19] 19 (xE AHL [6,7,8]) (xS qc [2,3,4,7,9] (.seq (xS qZ [2,3,4,7,9,26,27,28] (.block 0 (.loop RY))) (xS Uj [2,3,4,7,9,12] (.seq (xS Ui [3,4,7,9,12,55] (.block 2 (.rangeF (xt 55) [56] AHN AHM))) (.seq (.regD Uh [6,7,8] (xK [[],[],[0],[1,2],[3]])) .ret))))))
def qf:List AR:=[.t 6,.c 7 3 true,.t 8]
theorem AJ7:AU 137 3 AHO qf:=by kernel_rfl
def qS:=[xv 2 0]
def qR:=[xm 6 0,xA 7 6,xC 8 .gtr 7 32]
def qQ:=[xv 2 4]
def qP:=[xn 9 0,xA 10 9,xv 11 0]
def qO:=[xB 12 .lss 11 10]
def qN:=[xm 13 11,xI 14 9 11 5,xL 15 14 5,xo (.alloc 4 [.own 3 1 [],xz,xz,.own 368 8 [],.own 84 4 []]),xm 3 13,xs 4 15 5]
def qM:=[xa 17 4 0 1,xl 18 17 1,xA 19 18,xC 20 .gtr 19 8,xm 16 20]
def qL:=[xv 2 4]
def qK:=[xa 22 4 0 1,xl 23 22 1,xm 24 3,x2 25 241 23 24,xT 26 25,xm 21 26]
def qJ:=[xv 2 1]
def Ug:=[xa 27 4 1 4,xL 28 27 4,x1 29 66 28,xm 5 29]
def M2:=[xm 30 5,xC 31 .neq 30 0]
def Uf:=[xm 32 5,xm 2 32]
def Ue:=[xC 33 .add 11 1,xm 11 33]
def qT:AC:=xS qO [9,10,11,12] (.seq (xD 12 0) (.seq (.block 1 (xS qN [3,4,9,10,11] (.seq (.block 2 (xS qM [3,4,9,10,11,16] (.cond (xt 16) (xE qL [2]) (xS qK [4,9,10,11,21] (.cond (xt 21) (xE qJ [2]) .skip))))) (xS Ug [5,9,10,11] (xS M2 [5,9,10,11,31] (.cond (xt 31) (xE Uf [2]) .skip)))))) (.reg Ue [9,10,11])))
def Ud:=[xv 2 0]
def AHK:AC:=xS qS [0] (xQ qR [0,8] 8 (xE qQ [2]) (.seq (xS qP [9,10,11] (.block 0 (.loop qT))) (xE Ud [2])))
def Kc:List AR:=[.t 2]
theorem AJ6:AU 138 1 AHK Kc:=by kernel_rfl
def qI:=[xx 1 0,xo (.mv 2 (.c (.v .nilf)))]
def qH:=[xp 3 (.mkf 242 [(xt 1)]),xm 2 3]
def AOr:AC:=xS qI [1] (xE qH [2])
def ABt:List AR:=[.t 2]
theorem ATG:AU 139 1 AOr ABt:=by kernel_rfl
def pz:=[xx 1 0,xo (.mv 2 (.c (.own 84 4 [])))]
def py:=[xa 3 1 0 1,xl 4 3 1,xC 5 .eql 4 4]
def px:=[xa 6 1 3 1,xl 7 6 1,xn 2 7]
def pw:=[xL 8 1 4,xo (.bsl 9 84 4 [(xt 8)]),xn 2 9]
def AOm:AC:=xS pz [1] (xQ py [1,5] 5 (xE px [2]) (xE pw [2]))
def ABo:List AR:=[.t 2]
theorem ATF:AU 141 1 AOm ABo:=by kernel_rfl
def pu:=[xx 1 0,xv 2 0]
def pt:=[xo (.alloc 3 [xz]),xo (.store (xt 3) (xi 0) 1)]
def pr:=[xL 4 1 4,x1 5 68 4]
def pq:=[xl 7 3 1,xC 8 .add 7 1,xs 3 8 1]
def Il:AC:=.skip
def Ik:AC:=.block 1 (.reg pq [])
def po:=[xl 9 3 1,xm 2 9]
def AOl:AC:=xS pu [1] (xS pt [1,3] (.seq (xS pr [3,5] (.block 0 (.rangeF (xt 5) [6] Il Ik))) (xE po [2])))
def ABn:List AR:=[.t 2]
theorem ATE:AU 142 1 AOl ABn:=by kernel_rfl
def pm:=[xx 1 0,xv 2 0]
def pl:=[xv 3 0]
def pk:=[xa 6 1 3 1,xl 7 6 1,xA 8 7,xv 9 0]
def pj:=[xB 10 .lss 9 8]
def ph:=[xI 11 7 9 4,xL 12 11 4,xo (.alloc 5 [xz,xz,.own 368 8 [],.own 84 4 []]),xs 5 12 4]
def pg:=[xm 13 3,xL 14 5 4,x1 15 143 14,xp 16 (.minmax true (xt 13) (xt 15)),xm 3 16]
def pf:=[xC 17 .add 9 1,xm 9 17]
def pn:AC:=xS pj [3,7,8,9,10] (.seq (xD 10 0) (.seq (.block 1 (xS ph [3,5,7,8,9] (.reg pg [3,7,8,9]))) (.reg pf [3,7,8,9])))
def pe:=[xm 18 3,xC 19 .add 18 1,xm 2 19]
def AOk:AC:=xS pm [1] (xS pl [1,3] (.seq (xS pk [3,7,8,9] (.block 0 (.loop pn))) (xE pe [2])))
def ABm:List AR:=[.t 2]
theorem ATD:AU 143 1 AOk ABm:=by kernel_rfl
def pd:=[xx 1 0,xw 2 false]
def RR:=[xa 4 1 0 1,xl 5 4 1,xC 6 .neq 5 2,xm 7 6,xG 7 true (xa 8 1 2 1),xG 7 true (xl 9 8 1),xG 7 true (xA 10 9),xG 7 true (xC 11 .gtr 10 0),xN 12 7 11,xm 13 12,xG 13 false (xa 14 1 0 1),xG 13 false (xl 15 14 1),xG 13 false (xC 16 .neq 15 2),xG 13 false (xm 17 16),xG 17 true (xa 18 1 0 1),xG 17 true (xl 19 18 1),xG 17 true (xC 20 .neq 19 1),xG 13 false (xN 21 17 20),xG 13 false (xm 22 21),xG 22 true (xa 23 1 1 1),xG 22 true (xl 24 23 1),xG 22 true (xC 25 .neq 24 0),xG 13 false (xN 26 22 25),xO 27 13 26]
def pZ:=[xw 2 false]
def pY:=[xa 28 1 3 1,xl 29 28 1,xA 30 29,xm 3 30]
def pX:=[xa 31 1 0 1,xl 32 31 1]
def pW:=[xC 34 .eql 32 0,xm 33 34]
def pV:=[xm 35 3,xC 36 .eql 35 0,xm 2 36]
def pU:=[xC 38 .eql 32 1,xm 37 38]
def pT:=[xm 39 3,xC 40 .eql 39 0,xm 41 40,xG 41 true (xa 42 1 1 1),xG 41 true (xl 43 42 1),xG 41 true (xC 44 .geq 43 0),xN 45 41 44,xm 46 45,xG 46 true (xa 47 1 1 1),xG 46 true (xl 48 47 1),xG 46 true (xC 49 .lss 48 64),xN 50 46 49,xm 2 50]
def pS:=[xC 52 .eql 32 2,xm 51 52]
def Ub:=[xm 53 3,xC 54 .eql 53 0,xm 55 54,xG 55 true (xa 56 1 1 1),xG 55 true (xl 57 56 1),xG 55 true (xC 58 .geq 57 0),xN 59 55 58,xm 60 59,xG 60 true (xa 61 1 1 1),xG 60 true (xl 62 61 1),xG 60 true (xC 63 .lss 62 32),xN 64 60 63,xm 65 64,xG 65 true (xa 66 1 2 1),xG 65 true (xl 67 66 1),xG 65 true (x1 68 246 67),xG 65 true (xC 69 .eql 68 0),xN 70 65 69,xm 2 70]
def Ua:=[xC 72 .eql 32 3,xm 71 72]
def UZ:=[xC 73 .eql 32 6,xm 71 73]
def Mz:=[xm 74 3,xC 75 .eql 74 1,xm 2 75]
def UY:=[xa 76 1 0 1,xl 77 76 1,xC 78 .eql 77 4,xm 79 78,xG 79 false (xa 80 1 0 1),xG 79 false (xl 81 80 1),xG 79 false (xC 82 .eql 81 5),xO 83 79 82,xm 2 83]
def AOj:AC:=xS pd [1] (xQ RR [1,27] 27 (xE pZ [2]) (xS pY [1,3] (.seq (xS pX [1,3,32] (.block 0 (xS pW [1,3,32,33] (.cond (xt 33) (xE pV [2]) (xS pU [1,3,32,37] (.cond (xt 37) (xE pT [2]) (xS pS [1,3,32,51] (.cond (xt 51) (xE Ub [2]) (.seq (xS Ua [1,3,32,71] (.cond (xt 71) .skip (.reg UZ [1,3,71]))) (.cond (xt 71) (xE Mz [2]) .skip)))))))))) (xE UY [2]))))
def Gn:List AR:=[.t 2]
theorem ATC:AU 144 1 AOj Gn:=by kernel_rfl
def pR:=[xx 1 0,xw 2 false]
def pQ:=[xL 3 1 3,xc 4 247 [(xt 3),(xi 1),(xi 96)],xC 5 .geq 4 0,xm 2 5]
def AOi:AC:=xS pR [1] (xE pQ [2])
def ABl:List AR:=[.t 2]
theorem ATB:AU 145 1 AOi ABl:=by kernel_rfl
def pP:=[xx 1 0,xw 2 false]
def pO:=[xo (.mv 3 (.c (.own 3 1 [])))]
def pN:=[xa 7 1 1 1,xl 8 7 1,xA 9 8,xv 10 0]
def pM:=[xB 11 .lss 10 9]
def pK:=[xI 12 8 10 3,xL 13 12 3,xo (.alloc 5 [xz,xz,xz]),xs 5 13 3]
def pJ:=[xn 14 3,xa 15 5 0 1,xl 16 15 1,xo (.bsl 17 3 1 [(xt 16)]),xo (.app 18 (xu 14) (xt 17) 3 1 8),xn 3 18]
def pI:=[xa 19 5 1 2,xL 20 19 2,x1 21 248 20,xC 22 .neq 21 0,xm 23 22,xG 23 false (xa 24 5 1 2),xG 23 false (xa 25 24 1 1),xG 23 false (xl 26 25 1),xG 23 false (xC 27 .gtr 26 65536),xO 28 23 27]
def RP:=[xw 2 false]
def pH:=[xC 29 .add 10 1,xm 10 29]
def RQ:AC:=xS pM [1,3,8,9,10,11] (.seq (xD 11 0) (.seq (.block 1 (xS pK [1,3,5,8,9,10] (xS pJ [1,3,5,8,9,10] (xS pI [1,3,8,9,10,28] (.cond (xt 28) (xE RP [2]) .skip))))) (.reg pH [1,3,8,9,10])))
def pG:=[xo (.mv 6 (xf 249))]
def UX:=[xa 30 1 0 1,xl 31 30 1,xc 32 250 [(xt 31),(xi 64)],xm 33 32,xG 33 true (xn 34 3),xG 33 true (xc 35 250 [(xt 34),(xi 32)]),xN 36 33 35,xm 37 36,xG 37 true (xa 38 1 2 1),xG 37 true (xl 39 38 1),xG 37 true (xm 40 6),xG 37 true (x2 41 153 39 40),xG 37 true (xT 42 41),xN 43 37 42,xm 2 43]
def AOh:AC:=xS pP [1] (xS pO [1,3] (.seq (xS pN [1,3,8,9,10] (.block 0 (.loop RQ))) (xS pG [1,3,6] (xE UX [2]))))
def Ok:List AR:=[.t 2]
theorem ATA:AU 146 1 AOh Ok:=by kernel_rfl
def pF:=[xx 2 0]
def pE:=[xo (.alloc 3 [.v .nilf])]
def pC:=[xp 4 (.mkf 148 [(xt 2),(xt 3)]),xs 3 4 1]
def pB:=[xl 5 3 1,xL 6 1 4,xo (.call (some 7) (xt 5) [(xt 6)])]
def AOg:AC:=xS pF [1,2] (xS pE [1,2,3] (xS pC [1,3] (.reg pB [])))
def AOf:List AR:=[]
theorem AS9:AU 147 2 AOg AOf:=by kernel_rfl
def RO:=[xx 3 0,xw 4 false]
def RN:=[xl 5 1 1,xL 6 3 4,xo (.call (some 7) (xt 5) [(xt 6)]),xm 8 7,xG 8 true (xa 9 3 3 1),xG 8 true (xl 10 9 1),xG 8 true (xp 11 (.mkf 150 [(xt 2)])),xG 8 true (x2 12 149 10 11),xG 8 true (xT 13 12),xN 14 8 13,xm 4 14]
def AHH:AC:=xS RO [1,2,3] (xE RN [4])
def pA:List AR:=[.t 4]
theorem AJ5:AU 148 3 AHH pA:=by kernel_rfl
def o9:=[xw 4 false]
def o8:=[xn 5 0,xm 6 1,x2 7 251 5 6,xC 8 .geq 7 0,xm 4 8]
def AOe:AC:=xS o9 [0,1] (xE o8 [4])
def ABk:List AR:=[.t 4]
theorem AS8:AU 149 2 AOe ABk:=by kernel_rfl
def o7:=[xx 2 0,xw 3 false]
def o6:=[xl 4 1 1,xL 5 2 4,xo (.call (some 6) (xt 4) [(xt 5)]),xT 7 6,xm 3 7]
def AOc:AC:=xS o7 [1,2] (xE o6 [3])
def ABb:List AR:=[.t 3]
theorem AS7:AU 150 2 AOc ABb:=by kernel_rfl
def oy:=[xw 4 false]
def ov:=[xn 5 0,xm 6 1,x2 7 252 5 6,xC 8 .geq 7 0,xm 4 8]
def AHG:AC:=xS oy [0,1] (xE ov [4])
def oz:List AR:=[.t 4]
theorem AJ4:AU 151 2 AHG oz:=by kernel_rfl
def ou:=[xw 3 false]
def ot:=[xm 4 0,xl 5 1 1,xB 6 .geq 4 5,xm 3 6]
def AOb:AC:=xS ou [0,1] (xE ot [3])
def ABa:List AR:=[.t 3]
theorem AS6:AU 152 2 AOb ABa:=by kernel_rfl
def oq:=[xw 4 false]
def oo:=[xn 5 0,xm 6 1,x2 7 253 5 6,xC 8 .geq 7 0,xm 4 8]
def AOa:AC:=xS oq [0,1] (xE oo [4])
def ABZ:List AR:=[.t 4]
theorem AS5:AU 153 2 AOa ABZ:=by kernel_rfl
def om:=[xx 2 0,xw 3 false]
def ol:=[xL 4 2 3,xl 5 1 1,x2 6 70 4 5,xT 7 6,xm 3 7]
def AOZ:AC:=xS om [1,2] (xE ol [3])
def ABY:List AR:=[.t 3]
theorem AS4:AU 154 2 AOZ ABY:=by kernel_rfl
def oj:=[xx 3 0,xw 4 false]
def oi:=[xl 5 1 1,xL 6 3 4,xL 7 2 3,x3 8 71 5 6 7,xm 4 8]
def Vh:AC:=xS oj [1,2,3] (xE oi [4])
def ABX:List AR:=[.t 4]
theorem AS3:AU 155 3 Vh ABX:=by kernel_rfl
def oh:=[xw 4 false]
def og:=[xl 5 1 1,xm 6 0,xa 7 2 1 1,xl 8 7 1,x3 9 157 5 6 8,xm 4 9]
def AOY:AC:=xS oh [0,1,2] (xE og [4])
def ABW:List AR:=[.t 4]
theorem AS2:AU 156 3 AOY ABW:=by kernel_rfl
def od:=[xw 6 false]
def oc:=[xm 7 0,x1 8 69 7,xm 9 1,xm 10 2,xo (.bsl 11 3 1 [(xt 9),(xt 10)]),x2 12 120 8 11,xm 13 12,xG 13 true (xm 14 0),xG 13 true (xm 15 1),xG 13 true (xm 16 2),xG 13 true (xZ 17 14),xG 13 true (xa 18 17 1 4096),xG 13 true (xp 19 (.iaddrA (xt 18) (xt 15) 64 64)),xG 13 true (xp 20 (.iaddrA (xt 19) (xt 16) 64 1)),xG 13 true (xl 21 20 1),xN 22 13 21,xm 6 22]
def AOX:AC:=xS od [0,1,2] (xE oc [6])
def UW:List AR:=[.t 6]
theorem AS1:AU 157 3 AOX UW:=by kernel_rfl
def oZ:=[xx 2 0,xx 3 1,xo (.alloc 4 [xz,xz]),xw 5 false]
def oY:=[xa 7 2 1 1,xl 8 7 1,xp 9 (.mkf 255 [(xt 3)]),x2 10 254 8 9,xm 6 10]
def oX:=[xm 11 6,xC 12 .lss 11 0]
def oW:=[xp 13 (.build [xz,xz] []),xs 4 13 2,xw 5 false]
def oV:=[xa 14 2 1 1,xl 15 14 1,xm 16 6,xI 17 15 16 3,xa 18 17 1 2,xL 19 18 2,xs 4 19 2,xw 5 true]
def AOW:AC:=xS oZ [2,3,4] (xS oY [2,4,6] (xQ oX [2,4,6,12] 12 (xE oW [4,5]) (xE oV [4,5])))
def oa:List AR:=[.c 4 2 true,.t 5]
theorem AS0:AU 158 2 AOW oa:=by kernel_rfl
def oT:=[xx 3 1,xw 4 false]
def oS:=[xL 5 3 2,x1 6 248 5,xC 7 .eql 6 0,xm 8 7,xG 8 true (xn 9 0),xG 8 true (xp 10 (.mkf 257 [(xt 3)])),xG 8 true (x2 11 256 9 10),xN 12 8 11,xm 4 12]
def AOV:AC:=xS oT [0,3] (xE oS [4])
def oU:List AR:=[.t 4]
theorem ASz:AU 159 2 AOV oU:=by kernel_rfl
def oR:=[xx 3 0,xw 4 false]
def oQ:=[xl 5 1 1,xa 6 2 3 1,xl 7 6 1,xp 8 (.iaddr (xt 7) (xi 0) 4),xL 9 8 4,xL 10 3 3,xo (.callF (some 11) (xf 71) [(xt 5),(xt 9),(xt 10)]),xm 4 11]
def AOI:AC:=xS oR [1,2,3] (.seq (.regD oQ [4] (xK [[],[],[1],[2],[3],[],[0,4,5],[6]])) .ret)
def ABV:List AR:=[.t 4]
theorem ASy:AU 160 3 AOI ABV:=by kernel_rfl
def oP:=[xx 2 0,xw 3 false]
def oO:=[xl 4 1 1,xL 5 2 4,xo (.call (some 6) (xt 4) [(xt 5)]),xT 7 6,xm 3 7]
def AOH:AC:=xS oP [1,2] (xE oO [3])
def ABU:List AR:=[.t 3]
theorem ASx:AU 161 2 AOH ABU:=by kernel_rfl
def AG4:=[xw 2 false]
def AG3:=[xo (.mv 3 (xf 270))]
def AG2:=[xn 6 0,xA 7 6,xv 8 0]
def AG1:=[xB 9 .lss 8 7]
def AG0:=[xI 10 6 8 8,xL 11 10 8,xo (.alloc 5 [xz,xz,xz,xz,.v (.int .u64 0),.v (.int .u64 0),xz,.v (.int .u64 0)]),xs 5 11 8]
def AGz:=[xm 12 3,xa 13 5 0 1,xl 14 13 1,xo (.call (some 15) (xt 12) [(xt 14),(xi 11)]),xT 16 15,xm 17 16,xG 17 false (xm 18 3),xG 17 false (xa 19 5 1 1),xG 17 false (xl 20 19 1),xg 17 false (.call (some 21) (xt 18) [(xt 20),(xi 1099511627776)]),xG 17 false (xT 22 21),xO 23 17 22,xm 24 23,xG 24 false (xm 25 3),xG 24 false (xa 26 5 2 1),xG 24 false (xl 27 26 1),xg 24 false (.call (some 28) (xt 25) [(xt 27),(xi 131072)]),xG 24 false (xT 29 28),xO 30 24 29,xm 31 30,xG 31 false (xm 32 3),xG 31 false (xa 33 5 3 1),xG 31 false (xl 34 33 1),xg 31 false (.call (some 35) (xt 32) [(xt 34),(xi 4096)]),xG 31 false (xT 36 35),xO 37 31 36,xm 38 37,xG 38 false (xm 39 3),xG 38 false (xa 40 5 6 1),xG 38 false (xl 41 40 1),xG 38 false (xa 42 5 3 1),xG 38 false (xl 43 42 1),xg 38 false (.call (some 44) (xt 39) [(xt 41),(xt 43)]),xG 38 false (xT 45 44),xO 46 38 45]
def AGy:=[xw 2 false]
def AGx:=[xC 47 .add 8 1,xm 8 47]
def AG5:AC:=xS AG1 [3,6,7,8,9] (.seq (xD 9 0) (.seq (.block 1 (xS AG0 [3,5,6,7,8] (xS AGz [3,6,7,8,46] (.cond (xt 46) (xE AGy [2]) .skip)))) (.reg AGx [3,6,7,8])))
def AGw:=[xw 2 true]
def AOF:AC:=xS AG4 [0] (xS AG3 [0,3] (.seq (xS AG2 [3,6,7,8] (.block 0 (.loop AG5))) (xE AGw [2])))
def ABR:List AR:=[.t 2]
theorem ASw:AU 176 1 AOF ABR:=by kernel_rfl
def oM:=[xw 4 false]
def oL:=[xm 5 0,x1 6 131 5,xm 7 6,xG 7 true (xm 8 1),xG 7 true (x1 9 131 8),xN 10 7 9,xm 11 10,xG 11 true (xm 12 0),xG 11 true (xm 13 1),xG 11 true (xB 14 .leq 12 13),xN 15 11 14,xm 4 15]
def AGv:AC:=xS oM [0,1] (xE oL [4])
def oN:List AR:=[.t 4]
theorem AJ3:AU 177 2 AGv oN:=by kernel_rfl
def AGt:=[xw 6 false]
def AGs:=[xm 9 2,xA 10 9,xv 11 0]
def AGr:=[xB 12 .lss 11 10]
def AGq:=[xm 13 11,xI 14 9 11 2,xL 15 14 2,xo (.alloc 8 [xz,.own 5 1 []]),xm 7 13,xs 8 15 2]
def AGp:=[xa 16 8 0 1,xl 17 16 1,xm 18 0,xB 19 .lss 17 18,xm 20 19,xG 20 false (xa 21 8 0 1),xG 20 false (xl 22 21 1),xG 20 false (xm 23 1),xG 20 false (xB 24 .gtr 22 23),xO 25 20 24,xm 26 25,xG 26 false (xm 27 7),xG 26 false (xC 28 .gtr 27 0),xG 26 false (xm 29 28),xG 29 true (xa 30 8 0 1),xG 29 true (xl 31 30 1),xG 29 true (xm 32 2),xG 29 true (xm 33 7),xG 29 true (xC 34 .sub 33 1),xG 29 true (xI 35 32 34 2),xG 29 true (xa 36 35 0 1),xG 29 true (xl 37 36 1),xG 29 true (xB 38 .leq 31 37),xG 26 false (xN 39 29 38),xO 40 26 39,xm 41 40,xG 41 false (xa 42 8 1 1),xG 41 false (xl 43 42 1),xG 41 false (xA 44 43),xG 41 false (xC 45 .gtr 44 65536),xO 46 41 45]
def AGo:=[xw 6 true]
def AGn:=[xC 47 .add 11 1,xm 11 47]
def AGu:AC:=xS AGr [0,1,2,9,10,11,12] (.seq (xD 12 0) (.seq (.block 1 (xS AGq [0,1,2,7,8,9,10,11] (.seq (.regD AGp [0,1,2,9,10,11,46] (xK [[],[0],[],[1,2],[3],[4],[5],[4],[6,7],[8],[9],[10],[11],[12],[13],[14],[13],[13],[17],[16,18],[19],[20],[15,21],[22],[23],[24],[25],[26],[27],[28],[29]])) (.cond (xt 46) (xE AGo [6]) .skip)))) (.reg AGn [0,1,2,9,10,11])))
def AGm:=[xw 6 false]
def AOE:AC:=xS AGt [0,1,2] (.seq (xS AGs [0,1,2,9,10,11] (.block 0 (.loop AGu))) (xE AGm [6]))
def ABQ:List AR:=[.t 6]
theorem ASv:AU 178 3 AOE ABQ:=by kernel_rfl
def AGi:=[xx 5 1,xx 7 3,xo (.alloc 8 [.v .nilm]),xo (.alloc 9 [.v (.bool false)])]
def AGh:=[xo (.mkm 18),xo (.alloc 10 [.v .nilm]),xs 10 18 1]
def AGg:=[xa 19 7 0 1,xl 20 19 1,xa 21 7 1 1,xl 22 21 1,xo (.alloc 11 [.own 47 1 []]),xo (.alloc 12 [.own 47 1 []]),xo (.store (xt 11) (xu 20) 1),xo (.store (xt 12) (xu 22) 1)]
def AGf:=[xo (.alloc 13 [xz]),xo (.store (xt 13) (xi 0) 1)]
def AGe:=[xm 23 0,xl 24 5 1,x2 25 239 23 24]
def AGd:=[xo (.alloc 14 [xz,xz]),xs 14 26 2]
def AGc:=[xl 27 13 1,xa 28 7 2 1,xl 29 28 1,xA 30 29,xB 31 .geq 27 30,xm 32 31,xG 32 false (xa 33 7 2 1),xG 32 false (xl 34 33 1),xG 32 false (xl 35 13 1),xG 32 false (xI 36 34 35 1),xG 32 false (xl 37 36 1),xG 32 false (xb 38 .gtr (xt 37) (.c (.v (.int .u8 1)))),xO 39 32 38]
def AGb:=[xo (.store (xt 8) (.c (.v .nilm)) 1),xo (.store (xt 9) (xy false) 1)]
def AGa:=[xm 15 11]
def AGZ:=[xL 40 14 2,x1 41 271 40,xl 42 5 1,xB 43 .gtr 41 42]
def vG:=[xm 15 12]
def vF:=[xl 44 10 1,xL 45 14 2,xp 46 (.build [.v (.int .u64 0),.v (.bool false)] []),xo (.mput (xt 44) (xt 45) (xt 46) true [0,0])]
def vE:=[xa 47 7 2 1,xl 48 47 1,xl 49 13 1,xI 50 48 49 1,xl 51 50 1,xb 52 .eql (xt 51) (.c (.v (.int .u8 1)))]
def vD:=[xm 53 15,xZ 54 53,xl 55 54 1,xA 56 55,xC 57 .eql 56 0]
def vC:=[xo (.store (xt 8) (.c (.v .nilm)) 1),xo (.store (xt 9) (xy false) 1)]
def vB:=[xl 58 10 1,xL 59 14 2,xm 60 15,xm 61 15,xZ 62 61,xl 63 62 1,xp 64 (.iaddr (xt 63) (xi 0) 1),xl 65 64 1,xp 66 (.build [.v (.int .u64 0),.v (.bool false)] [(0,1,(xt 65)),(1,1,(xy true))]),xm 67 15,xZ 68 67,xl 69 68 1,xp 70 (.slc (xt 69) (some (xi 1)) none 1),xo (.ment 71 (xt 58) (xt 59) true [0,0]),xe 72 71 1,xo (.mest (xt 58) (xt 72) (xt 66)),xZ 73 60,xo (.store (xt 73) (xu 70) 1)]
def vA:=[xl 74 13 1,xC 75 .add 74 1,xs 13 75 1]
def AGl:AC:=.reg AGd [5,7,8,9,10,11,12,13,14]
def AGk:AC:=.block 1 (xQ AGc [5,7,8,9,10,11,12,13,14,39] 39 (xE AGb []) (xS AGa [5,7,8,9,10,12,13,14,15] (.seq (.seq (.regD AGZ [7,8,9,10,12,13,14,15,43] [[],[0],[],[0,1,2]]) (.cond (xt 43) (.reg vG [7,8,9,10,13,14,15]) .skip)) (xS vF [7,8,9,10,13,14,15] (xQ vE [8,9,10,13,14,15,52] 52 (xQ vD [8,9,10,13,14,15,57] 57 (xE vC []) (.regA vB [13] (xK [[],[],[],[],[3],[4],[5],[6],[7],[],[9],[10],[11],[0,1,11],[13],[8,14],[2,12,15],[16]]) (.take 0 (.take 1 (.take 2 (.take 3 (.take 4 (.take 9 (.take 10 (.take 11 (.take 12 (.pick (.alt 5 (.take 6 (.pick (.alt 7 (.take 8 tq115) (.alt 13 tq116 .none)))) (.alt 13 (.take 5 (.take 6 tq116)) .none)))))))))))))) (.reg vA []))))))
def u9:=[xn 76 2,xA 77 76,xv 78 0]
def u7:=[xB 79 .lss 78 77]
def u6:=[xI 80 76 78 2,xL 81 80 2,xo (.alloc 17 [xz,.own 5 1 []]),xs 17 81 2]
def u5:=[xl 82 10 1,xa 83 17 0 1,xl 84 83 1,xp 85 (.build [xz,xz] [(0,1,(xi 0)),(1,1,(xt 84))]),xa 86 17 0 1,xl 87 86 1,xa 88 17 1 1,xl 89 88 1,x2 90 133 87 89,xp 91 (.build [.v (.int .u64 0),.v (.bool false)] [(0,1,(xt 90)),(1,1,(xy true))]),xo (.mput (xt 82) (xt 85) (xt 91) true [0,0])]
def u4:=[xC 92 .add 78 1,xm 78 92]
def AGj:AC:=xS u7 [7,8,9,10,11,12,13,76,77,78,79] (.seq (xD 79 2) (.seq (.block 3 (xS u6 [7,8,9,10,11,12,13,17,76,77,78] (.regD u5 [7,8,9,10,11,12,13,76,77,78] (xK [[],[],[1],[2],[],[4],[],[6],[5,7],[8],[0,3,9]])))) (.reg u4 [7,8,9,10,11,12,13,76,77,78])))
def u3:=[xl 93 10 1,xl 94 13 1,xa 95 7 2 1,xl 96 95 1,xA 97 96,xB 98 .eql 94 97,xm 99 98,xG 99 true (xl 100 11 1),xG 99 true (xA 101 100),xG 99 true (xC 102 .eql 101 0),xN 103 99 102,xm 104 103,xG 104 true (xl 105 12 1),xG 104 true (xA 106 105),xG 104 true (xC 107 .eql 106 0),xN 108 104 107,xs 8 93 1,xs 9 108 1]
def AOD:AC:=xS AGi [0,2,5,7,8,9] (xS AGh [0,2,5,7,8,9,10] (.seq (.regA AGg [0,2,5,7,8,9,10,11,12] (xK [[],[0],[],[2],[],[],[1,4,5],[3,6]]) (.take 0 (.take 1 (.take 2 (.pick (.alt 3 (.pick (.alt 4 tq111 (.alt 5 tq117 .none))) (.alt 4 (.pick (.alt 3 tq111 (.alt 5 tq118 .none))) (.alt 5 (.pick (.alt 3 tq117 (.alt 4 tq118 .none))) .none)))))))) (xS AGf [0,2,5,7,8,9,10,11,12,13] (.seq (xS AGe [2,5,7,8,9,10,11,12,13,25] (.block 0 (.rangeF (xt 25) [26] AGl AGk))) (.seq (xS u9 [7,8,9,10,11,12,13,76,77,78] (.block 2 (.loop AGj))) (.seq (.regA u3 [8,9] (xK [[],[],[],[2],[3],[1,4],[5],[6],[7],[8],[9],[10],[11],[12],[13],[14],[0,11],[15,16]]) (.take 0 (.take 1 (.take 2 (.take 3 (.take 4 (.take 5 (.take 6 (.take 7 (.take 8 (.take 9 (.take 10 (.take 11 (.pick (.alt 12 tq115 (.alt 16 (.take 12 (.take 13 (.take 14 (.take 15 tq113)))) .none)))))))))))))))) .ret))))))
def ABP:List AR:=[.c 8 1 false,.c 9 1 false]
theorem ASu:AU 179 4 AOD ABP:=by kernel_rfl
def AGY:=[xx 3 0,xo (.alloc 4 [.v (.int .u64 0),.v (.bool false)])]
def AGX:=[xl 10 1 1,xL 11 3 2,xp 12 (.look (xt 10) (xt 11) true [0,0] [.v (.int .u64 0),.v (.bool false)] true true),xn 9 12,xe 13 9 0,xe 14 9 1,xo (.alloc 5 [.v (.int .u64 0),.v (.bool false)]),xs 5 13 2,xm 6 14]
def AGW:=[xm 15 6,xm 16 15,xG 16 false (xa 17 3 0 1),xG 16 false (xl 18 17 1),xG 16 false (xC 19 .eql 18 0),xO 20 16 19]
def AGV:=[xL 21 5 2,xs 4 21 2]
def AGU:=[xL 23 3 2,x1 24 181 23,xn 22 24,xe 25 22 0,xe 26 22 1,xo (.alloc 7 [xz,xz]),xo (.alloc 8 [xz,xz]),xs 7 25 2,xs 8 26 2]
def AGT:=[xl 27 2 1,xL 28 7 2,xo (.callC (some 29) (xt 27) [(xt 28)]),xl 30 2 1,xL 31 8 2,xo (.callC (some 32) (xt 30) [(xt 31)]),x2 33 182 29 32,xs 4 33 2]
def AN9:AC:=xS AGY [1,2,3,4] (.seq (xS AGX [2,3,4,5,6] (xS AGW [2,3,4,5,20] (.cond (xt 20) (xE AGV [4]) .skip))) (xS AGU [2,4,7,8] (.seq (.regA AGT [4] (xK [[],[],[0,1],[],[],[2,3,4],[5],[6]]) tq112) .ret)))
def ABO:List AR:=[.c 4 2 true]
theorem ASt:AU 180 3 AN9 ABO:=by kernel_rfl
def oJ:=[xx 1 0,xo (.alloc 2 [xz,xz]),xo (.alloc 3 [xz,xz])]
def oI:=[xa 4 1 0 1,xl 5 4 1,xC 6 .sub 5 1,xa 7 1 1 1,xl 8 7 1,xb 9 .mul (xi 2) (xt 8),xp 10 (.build [xz,xz] [(0,1,(xt 6)),(1,1,(xt 9))]),xa 11 1 0 1,xl 12 11 1,xC 13 .sub 12 1,xa 14 1 1 1,xl 15 14 1,xb 16 .mul (xi 2) (xt 15),xC 17 .add 16 1,xp 18 (.build [xz,xz] [(0,1,(xt 13)),(1,1,(xt 17))]),xs 2 10 2,xs 3 18 2]
def AGS:AC:=xS oJ [1,2,3] (.seq (.regA oI [2,3] (xK [[],[0],[1],[],[3],[4],[2,5],[],[7],[8],[],[10],[11],[12],[9,13],[6],[14,15]]) (.take 0 (.take 1 (.take 2 (.take 3 (.take 4 (.take 5 (.take 6 (.take 7 (.take 10 (.pick (.alt 8 (.take 9 (.pick (.alt 11 (.take 12 (.take 13 tq120)) (.alt 15 tq122 .none)))) (.alt 11 (.take 12 (.take 13 (.pick (.alt 8 (.take 9 tq120) (.alt 15 (.take 8 (.take 9 tq121)) .none))))) (.alt 15 (.take 8 (.take 9 tq122)) .none)))))))))))))) .ret)
def oK:List AR:=[.c 2 2 true,.c 3 2 true]
theorem AJ2:AU 181 1 AGS oK:=by kernel_rfl
def oH:=[xx 2 0,xx 3 1,xo (.alloc 4 [.v (.int .u64 0),.v (.bool false)])]
def oG:=[xa 5 2 1 1,xl 6 5 1,xT 7 6,xm 8 7,xG 8 true (xa 9 3 1 1),xG 8 true (xl 10 9 1),xG 8 true (xT 11 10),xN 12 8 11]
def RM:=[xp 13 (.build [.v (.int .u64 0),.v (.bool false)] []),xs 4 13 2]
def oF:=[xa 14 2 0 1,xl 15 14 1,xp 16 (.cint .i64 (xt 15)),xa 17 3 0 1,xl 18 17 1,xp 19 (.cint .i64 (xt 18)),xo (.bsl 20 3 1 [(xt 16),(xt 19)]),xc 21 96 [(.c (.v (.str ⟨#[98,108,111,99,107]⟩))),(xt 20)],xp 22 (.build [.v (.int .u64 0),.v (.bool false)] [(0,1,(xt 21)),(1,1,(xy true))]),xs 4 22 2]
def AGR:AC:=xS oH [2,3,4] (xQ oG [2,3,4,12] 12 (xE RM [4]) (xE oF [4]))
def Oj:List AR:=[.c 4 2 true]
theorem AJ1:AU 182 2 AGR Oj:=by kernel_rfl
def oD:=[xw 4 false]
def oC:=[xn 5 0,xm 6 1,x2 7 272 5 6,xC 8 .geq 7 0,xm 4 8]
def AGQ:AC:=xS oD [0,1] (xE oC [4])
def oE:List AR:=[.t 4]
theorem AJ0:AU 183 2 AGQ oE:=by kernel_rfl
def oB:=[xx 5 2,xo (.mv 6 (.c (.own 76 2 []))),xv 7 0]
def oA:=[xm 17 0,xp 18 (.eqP false (xt 17) (.c (.v .nilp)))]
def AGP:=[xo (.mv 6 (.c (.own 76 2 []))),xv 7 1]
def n9:=[xL 19 5 3,x1 20 67 19,xm 8 20]
def nz:=[xm 21 8,xC 22 .neq 21 0]
def AGO:=[xm 23 8,xo (.mv 6 (.c (.own 76 2 []))),xm 7 23]
def nx:=[xo (.mv 9 (.c (.own 76 2 [])))]
def nw:=[xn 24 1,xA 25 24,xv 26 0]
def RJ:=[xB 27 .lss 26 25]
def RI:=[xI 28 24 26 8,xL 29 28 8,xo (.alloc 11 [xz,xz,xz,.own 130 5 [],.own 88 4 [],.own 3 1 [],.own 246 3 [],.own 247 4 []]),xs 11 29 8]
def Mx:=[xL 30 11 8,x1 31 273 30,xA 32 31,xv 33 0]
def UV:=[xB 34 .lss 33 32]
def UU:=[xI 35 31 33 1,xl 36 35 1,xm 13 36]
def UT:=[xa 38 11 3 1,xl 39 38 1,xm 40 13,x2 41 274 39 40,xn 37 41,xe 42 37 0,xe 43 37 1,xo (.alloc 14 [xz,xz,.own 368 8 [],.own 84 4 []]),xs 14 42 4,xm 15 43]
def US:=[xm 44 15,xC 45 .neq 44 0]
def u2:=[xm 46 15,xo (.mv 6 (.c (.own 76 2 []))),xm 7 46]
def UR:=[xm 48 0,xL 49 14 4,xL 50 5 3,x3 51 25 48 49 50,xn 47 51,xe 52 47 0,xe 53 47 1,xm 16 52,xm 15 53]
def UQ:=[xm 54 15,xC 55 .neq 54 0]
def u1:=[xm 56 15,xo (.mv 6 (.c (.own 76 2 []))),xm 7 56]
def UP:=[xm 57 16]
def UO:=[xn 58 9,xa 59 11 0 1,xl 60 59 1,xm 61 13,xp 62 (.build [xz,xz] [(0,1,(xt 60)),(1,1,(xt 61))]),xo (.bsl 63 76 2 [(xt 62)]),xo (.app 64 (xu 58) (xt 63) 76 2 16),xn 9 64]
def Mw:=[xC 65 .add 33 1,xm 33 65]
def My:AC:=xS UV [0,5,9,11,24,25,26,31,32,33,34] (.seq (xD 34 2) (.seq (.block 3 (xS UU [0,5,9,11,13,24,25,26,31,32,33] (xS UT [0,5,9,11,13,14,15,24,25,26,31,32,33] (xQ US [0,5,9,11,13,14,15,24,25,26,31,32,33,45] 45 (xE u2 [6,7]) (xS UR [0,5,9,11,13,15,16,24,25,26,31,32,33] (xQ UQ [0,5,9,11,13,15,16,24,25,26,31,32,33,55] 55 (xE u1 [6,7]) (xS UP [0,5,9,11,13,24,25,26,31,32,33,57] (.cond (xt 57) (.reg UO [0,5,9,11,24,25,26,31,32,33]) .skip)))))))) (.reg Mw [0,5,9,11,24,25,26,31,32,33])))
def Mv:=[xC 66 .add 26 1,xm 26 66]
def RL:AC:=xS RJ [0,5,9,24,25,26,27] (.seq (xD 27 0) (.seq (.block 1 (xS RI [0,5,9,11,24,25,26] (xS Mx [0,5,9,11,24,25,26,31,32,33] (.block 2 (.loop My))))) (.reg Mv [0,5,9,24,25,26])))
def UN:=[xn 67 9,xn 6 67,xv 7 0]
def AN8:AC:=xS oB [0,1,5] (xQ oA [0,1,5,18] 18 (xE AGP [6,7]) (.seq (xS n9 [0,1,5,8] (xS nz [0,1,5,8,22] (.cond (xt 22) (xE AGO [6,7]) .skip))) (xS nx [0,1,5,9] (.seq (xS nw [0,5,9,24,25,26] (.block 0 (.loop RL))) (xE UN [6,7])))))
def ABM:List AR:=[.t 6,.t 7]
theorem ASs:AU 185 3 AN8 ABM:=by kernel_rfl
def nv:=[xx 4 1,xx 5 2,xw 6 false,xv 7 0]
def nu:=[xa 17 4 7 1,xl 18 17 1,xp 19 (.mkf 276 [(xt 5)]),x2 20 275 18 19,xm 8 20]
def nr:=[xa 21 4 7 1,xl 22 21 1,xm 23 8,xI 24 22 23 8,xL 25 24 8,xo (.alloc 9 [xz,xz,xz,.own 130 5 [],.own 88 4 [],.own 3 1 [],.own 246 3 [],.own 247 4 []]),xs 9 25 8]
def nq:=[xa 27 9 3 1,xl 28 27 1,xa 29 5 1 1,xl 30 29 1,x2 31 24 28 30,xn 26 31,xe 32 26 0,xe 33 26 1,xn 10 32,xm 11 33]
def np:=[xm 34 11,xC 35 .neq 34 0]
def AGN:=[xm 36 11,xw 6 false,xm 7 36]
def nn:=[xw 12 false]
def nl:=[xn 37 10,xA 38 37,xv 39 0]
def RG:=[xB 40 .lss 39 38]
def RF:=[xm 41 39,xI 42 37 39 4,xL 43 42 4,xo (.alloc 13 [xz]),xo (.alloc 14 [xz,xz,.own 368 8 [],.own 84 4 []]),xs 13 41 1,xs 14 43 4]
def Mu:=[xm 45 0,xL 46 14 4,xa 47 4 4 3,xL 48 47 3,x3 49 25 45 46 48,xn 44 49,xe 50 44 0,xe 51 44 1,xm 15 50,xm 16 51]
def Mt:=[xm 52 16,xC 53 .neq 52 0]
def UM:=[xm 54 16,xw 6 false,xm 7 54]
def Ms:=[xm 55 12,xm 56 55,xG 56 false (xm 57 15),xG 56 false (xm 58 57),xG 58 true (xa 59 9 4 1),xG 58 true (xl 60 59 1),xG 58 true (xp 61 (.mkf 278 [(xt 5),(xt 13),(xt 4)])),xG 58 true (x2 62 277 60 61),xG 56 false (xN 63 58 62),xO 64 56 63,xm 12 64]
def IA:=[xC 65 .add 39 1,xm 39 65]
def RH:AC:=xS RG [0,4,5,9,12,37,38,39,40] (.seq (xD 40 0) (.seq (.block 1 (xS RF [0,4,5,9,12,13,14,37,38,39] (xS Mu [0,4,5,9,12,13,15,16,37,38,39] (xQ Mt [0,4,5,9,12,13,15,16,37,38,39,53] 53 (xE UM [6,7]) (.reg Ms [0,4,5,9,12,37,38,39]))))) (.reg IA [0,4,5,9,12,37,38,39])))
def UL:=[xm 66 12,xm 6 66,xv 7 0]
def AN7:AC:=xS nv [0,4,5] (xS nu [0,4,5,8] (xS nr [0,4,5,9] (xS nq [0,4,5,9,10,11] (xQ np [0,4,5,9,10,11,35] 35 (xE AGN [6,7]) (xS nn [0,4,5,9,10,12] (.seq (xS nl [0,4,5,9,12,37,38,39] (.block 0 (.loop RH))) (xE UL [6,7])))))))
def ABK:List AR:=[.t 6,.t 7]
theorem ASr:AU 186 3 AN7 ABK:=by kernel_rfl
def nj:=[xx 1 0,xo (.mv 2 (.c (.v .nilf)))]
def ni:=[xp 3 (.mkf 279 [(xt 1)]),xm 2 3]
def AGM:AC:=xS nj [1] (xE ni [2])
def nk:List AR:=[.t 2]
theorem AJz:AU 189 1 AGM nk:=by kernel_rfl
def nf:=[xo (.mv 4 (xj 0))]
def nZ:=[xm 6 0,xm 7 1,xB 8 .xor 6 7,xb 9 .mul (xt 8) (xj 11400714819323198485),xm 5 9]
def nY:=[xm 10 5,xm 11 5,xb 12 .shr (xt 11) (xj 32),xB 13 .xor 10 12,xm 4 13]
def AGL:AC:=xS nf [0,1] (xS nZ [5] (xE nY [4]))
def nh:List AR:=[.t 4]
theorem AJy:AU 190 2 AGL nh:=by kernel_rfl
def Mr:=[xm 4 1,xb 5 .geq (xt 4) (xj 128)]
def nV:=[xm 8 0,xm 9 0,xZ 10 9,xa 11 10 0 1,xo (.take 12 (xt 11)),xm 13 1,xp 14 (.cint .u8 (xt 13)),xb 15 .or (xt 14) (.c (.v (.int .u8 128))),xo (.bsl 16 5 1 [(xt 15)]),xo (.app 17 (xu 12) (xt 16) 5 1 1),xZ 18 8,xa 19 18 0 1,xo (.store (xt 19) (xu 17) 1)]
def nW:=[xm 6 1,xb 7 .shr (xt 6) (xj 7),xm 1 7]
def Kb:AC:=.seq (xS Mr [0,1,5] (xD 5 0)) (.seq (.block 1 (.reg nV [0,1])) (.reg nW [0,1]))
def nU:=[xm 20 0,xm 21 0,xZ 22 21,xa 23 22 0 1,xo (.take 24 (xt 23)),xm 25 1,xp 26 (.cint .u8 (xt 25)),xo (.bsl 27 5 1 [(xt 26)]),xo (.app 28 (xu 24) (xt 27) 5 1 1),xZ 29 20,xa 30 29 0 1,xo (.store (xt 30) (xu 28) 1)]
def AGK:AC:=.seq (.block 0 (.loop Kb)) (.reg nU [])
def nX:List AR:=[]
theorem AJx:AU 192 2 AGK nX:=by kernel_rfl
def nS:=[xo (.mv 2 (xj 0))]
def nR:=[xm 3 0,xp 4 (.cint .u64 (xt 3)),xb 5 .shl (xt 4) (xj 1),xm 6 0,xb 7 .shr (xt 6) (xj 63),xp 8 (.cint .u64 (xt 7)),xB 9 .xor 5 8,xm 2 9]
def AGJ:AC:=xS nS [0] (xE nR [2])
def nT:List AR:=[.t 2]
theorem AJw:AU 193 1 AGJ nT:=by kernel_rfl
def nP:=[xm 4 0,xm 5 1,xp 6 (.lenS (xt 5)),xp 7 (.cint .u64 (xt 6)),x2 8 192 4 7]
def nO:=[xm 9 0,xm 10 0,xZ 11 10,xa 12 11 0 1,xo (.take 13 (xt 12)),xm 14 1,xo (.appS 15 (xu 13) (xt 14) 5 1),xZ 16 9,xa 17 16 0 1,xo (.store (xt 17) (xu 15) 1)]
def AGI:AC:=xS nP [0,1] (.reg nO [])
def nQ:List AR:=[]
theorem AJv:AU 194 2 AGI nQ:=by kernel_rfl
def nM:=[xo (.mv 4 (.c (.own 5 1 [])))]
def nL:=[xm 8 0,x1 9 119 8,xm 5 9]
def nK:=[xm 10 5,xm 11 0,xZ 12 11,xa 13 12 0 1,xl 14 13 1,xA 15 14,xp 16 (.cint .u64 (xt 15)),xB 17 .gtr 10 16]
def AGH:=[xm 18 0,xc 19 207 [(xt 18),(xi 3)]]
def nJ:=[xo (.mv 6 (.c (.own 5 1 [])))]
def nI:=[xo (.mv 7 (xj 0))]
def nH:=[xm 20 7,xm 21 5,xB 22 .lss 20 21,xm 23 22,xG 23 true (xm 24 0),xG 23 true (xZ 25 24),xG 23 true (xa 26 25 1 1),xG 23 true (xl 27 26 1),xG 23 true (xC 28 .eql 27 0),xN 29 23 28]
def nF:=[xn 32 6,xm 33 1,xo (.call (some 34) (xt 33) []),xo (.bsl 35 5 1 [(xt 34)]),xo (.app 36 (xu 32) (xt 35) 5 1 1),xn 6 36]
def nG:=[xm 30 7,xb 31 .add (xt 30) (xj 1),xm 7 31]
def nN:AC:=.seq (xS nH [0,1,5,6,7,29] (xD 29 0)) (.seq (.block 1 (.reg nF [0,1,5,6,7])) (.reg nG [0,1,5,6,7]))
def nE:=[xm 37 0,xZ 38 37,xa 39 38 1 1,xl 40 39 1,xC 41 .neq 40 0]
def u0:=[xo (.mv 4 (.c (.own 5 1 [])))]
def UK:=[xn 42 6,xn 4 42]
def AN4:AC:=xS nM [0,1] (xS nL [0,1,5] (xQ nK [0,1,5,17] 17 (.reg AGH [0,1,5]) (xS nJ [0,1,5,6] (.seq (xS nI [0,1,5,6,7] (.block 0 (.loop nN))) (xQ nE [6,41] 41 (xE u0 [4]) (xE UK [4]))))))
def ABJ:List AR:=[.t 4]
theorem ASq:AU 202 2 AN4 ABJ:=by kernel_rfl
def nD:=[xo (.mv 2 (.c (.v (.int .u8 0))))]
def nB:=[xm 4 0,xZ 5 4,xa 6 5 0 1,xl 7 6 1,xA 8 7,xC 9 .eql 8 0]
def AGG:=[xm 10 0,xc 11 207 [(xt 10),(xi 3)]]
def m9:=[xm 12 0,xZ 13 12,xa 14 13 1 1,xl 15 14 1,xC 16 .neq 15 0]
def AGF:=[xo (.mv 2 (.c (.v (.int .u8 0))))]
def mz:=[xm 17 0,xZ 18 17,xa 19 18 0 1,xl 20 19 1,xp 21 (.iaddr (xt 20) (xi 0) 1),xl 22 21 1,xm 3 22]
def my:=[xm 23 0,xm 24 0,xZ 25 24,xa 26 25 0 1,xl 27 26 1,xp 28 (.slc (xt 27) (some (xi 1)) none 1),xZ 29 23,xa 30 29 0 1,xo (.store (xt 30) (xu 28) 1)]
def mw:=[xm 31 3,xm 2 31]
def AN3:AC:=xS nD [0] (xQ nB [0,9] 9 (.reg AGG [0]) (xQ m9 [0,16] 16 (xE AGF [2]) (xS mz [0,3] (xS my [3] (xE mw [2])))))
def ABI:List AR:=[.t 2]
theorem ASp:AU 203 1 AN3 ABI:=by kernel_rfl
def mt:=[xv 2 0]
def mr:=[xl 3 0 1,xo (.callF (some 4) (xf 45) [(xt 3)]),xp 5 (.minmax true (xt 4) (xi 0)),xl 6 1 1,xA 7 6,xp 8 (.minmax false (xt 5) (xt 7)),xm 2 8]
def AN2:AC:=xS mt [0,1] (.seq (.regA mr [2] (xK [[],[0],[1],[],[3],[2,4],[5]]) (.take 0 (.pick (.alt 1 (.take 2 (.take 3 tq123)) (.alt 3 (.take 1 (.take 2 tq123)) .none))))) .ret)
def mu:List AR:=[.t 2]
theorem ASo:AU 204 2 AN2 mu:=by kernel_rfl
def mn:=[xo (.mv 2 (.c (.own 130 5 []))),xv 3 0]
def mm:=[xm 13 0,x1 14 44 13,xm 4 14]
def ml:=[xm 15 4,x1 16 45 15,xm 5 16]
def mj:=[xo (.mv 6 (.c (.own 130 5 [])))]
def mi:=[xv 7 0]
def mh:=[xm 17 7,xm 18 5,xB 19 .lss 17 18,xm 20 19,xG 20 true (xm 21 5),xG 20 true (xC 22 .leq 21 32),xN 23 20 22]
def mf:=[xm 26 4,x1 27 114 26,xp 28 (.build [.nil 3 1,xz,xz,.nil 368 8,.nil 84 4] [(0,1,(xt 27))]),xo (.alloc 8 [.own 3 1 [],xz,xz,.own 368 8 [],.own 84 4 []]),xs 8 28 5]
def me:=[xm 30 4,x1 31 112 30,x1 32 282 31,xn 29 32,xe 33 29 0,xe 34 29 1,xo (.alloc 9 [xz,xz,.own 368 8 [],.own 84 4 []]),xs 9 33 4,xm 10 34]
def md:=[xm 35 10,xC 36 .neq 35 0]
def uz:=[xo (.mv 2 (.c (.own 130 5 []))),xv 3 2]
def UJ:=[xL 37 9 4,xa 38 8 1 4,xs 38 37 4]
def UI:=[xn 39 6,xL 40 8 5,xo (.bsl 41 130 5 [(xt 40)]),xo (.app 42 (xu 39) (xt 41) 130 5 88),xn 6 42]
def mg:=[xm 24 7,xC 25 .add 24 1,xm 7 25]
def mq:AC:=.seq (xS mh [0,4,5,6,7,23] (xD 23 0)) (.seq (.block 1 (xS mf [0,4,5,6,7,8] (xS me [0,4,5,6,7,8,9,10] (xQ md [0,4,5,6,7,8,9,36] 36 (xE uz [2,3]) (xS UJ [0,4,5,6,7,8] (.reg UI [0,4,5,6,7])))))) (.reg mg [0,4,5,6,7]))
def UH:=[xm 43 4,x1 44 116 43,xC 45 .neq 44 0,xm 46 45,xG 46 false (xm 47 6),xG 46 false (xA 48 47),xG 46 false (xm 49 5),xG 46 false (xB 50 .neq 48 49),xO 51 46 50]
def uy:=[xo (.mv 2 (.c (.own 130 5 []))),xv 3 2]
def UG:=[xm 53 6,x1 54 130 53,xn 52 54,xe 55 52 0,xe 56 52 1,xn 11 55,xm 12 56]
def UF:=[xm 57 12,xC 58 .neq 57 0,xm 59 58,xG 59 false (xn 60 11),xG 59 false (xn 61 0),xG 59 false (x2 62 283 60 61),xG 59 false (xT 63 62),xO 64 59 63]
def ux:=[xo (.mv 2 (.c (.own 130 5 []))),xv 3 2]
def UE:=[xn 65 6,xn 2 65,xv 3 0]
def AN1:AC:=xS mn [0] (xS mm [0,4] (xS ml [0,4,5] (xS mj [0,4,5,6] (.seq (xS mi [0,4,5,6,7] (.block 0 (.loop mq))) (xQ UH [0,6,51] 51 (xE uy [2,3]) (.seq (xS UG [0,6,11,12] (xS UF [6,64] (.cond (xt 64) (xE ux [2,3]) .skip))) (xE UE [2,3])))))))
def ABH:List AR:=[.t 2,.t 3]
theorem ASn:AU 205 1 AN1 ABH:=by kernel_rfl
def mb:=[xo (.mv 4 (.c (.own 3 1 [])))]
def ma:=[xm 8 0,x1 9 119 8,xm 5 9]
def mZ:=[xm 10 5,xm 11 0,xZ 12 11,xa 13 12 0 1,xl 14 13 1,xA 15 14,xp 16 (.cint .u64 (xt 15)),xB 17 .gtr 10 16]
def AGE:=[xm 18 0,xc 19 207 [(xt 18),(xi 3)]]
def mY:=[xo (.mv 6 (.c (.own 3 1 [])))]
def mX:=[xo (.mv 7 (xj 0))]
def mW:=[xm 20 7,xm 21 5,xB 22 .lss 20 21,xm 23 22,xG 23 true (xm 24 0),xG 23 true (xZ 25 24),xG 23 true (xa 26 25 1 1),xG 23 true (xl 27 26 1),xG 23 true (xC 28 .eql 27 0),xN 29 23 28]
def mU:=[xn 32 6,xm 33 1,xo (.call (some 34) (xt 33) []),xo (.bsl 35 3 1 [(xt 34)]),xo (.app 36 (xu 32) (xt 35) 3 1 8),xn 6 36]
def mV:=[xm 30 7,xb 31 .add (xt 30) (xj 1),xm 7 31]
def mc:AC:=.seq (xS mW [0,1,5,6,7,29] (xD 29 0)) (.seq (.block 1 (.reg mU [0,1,5,6,7])) (.reg mV [0,1,5,6,7]))
def mT:=[xm 37 0,xZ 38 37,xa 39 38 1 1,xl 40 39 1,xC 41 .neq 40 0]
def uw:=[xo (.mv 4 (.c (.own 3 1 [])))]
def UD:=[xn 42 6,xn 4 42]
def AN0:AC:=xS mb [0,1] (xS ma [0,1,5] (xQ mZ [0,1,5,17] 17 (.reg AGE [0,1,5]) (xS mY [0,1,5,6] (.seq (xS mX [0,1,5,6,7] (.block 0 (.loop mc))) (xQ mT [6,41] 41 (xE uw [4]) (xE UD [4]))))))
def ABG:List AR:=[.t 4]
theorem ASm:AU 206 2 AN0 ABG:=by kernel_rfl
def RE:=[xw 3 false]
def RD:=[xm 4 0,xC 5 .lss 4 0,xm 6 5,xG 6 false (xm 7 0),xG 6 false (xl 8 1 1),xG 6 false (xB 9 .geq 7 8),xO 10 6 9,xm 3 10]
def uv:AC:=xS RE [0,1] (xE RD [3])
def UC:List AR:=[.t 3]
theorem AJu:AU 208 2 uv UC:=by kernel_rfl
def AGC:=[xw 2 false]
def AGB:=[xm 4 0,xA 5 4,xC 6 .sub 5 1,xm 3 6]
def AGA:=[xm 7 3,xC 8 .gtr 7 0]
def AF8:=[xm 11 0,xm 12 3,xI 13 11 12 1,xl 14 13 1,xm 15 0,xm 16 3,xC 17 .sub 16 1,xI 18 15 17 1,xl 19 18 1,x2 20 284 14 19]
def AF7:=[xw 2 false]
def AF9:=[xm 9 3,xC 10 .sub 9 1,xm 3 10]
def AGD:AC:=.seq (xS AGA [0,3,8] (xD 8 0)) (.seq (.block 1 (.seq (.regD AF8 [0,3,20] (xK [[],[],[0,1],[2],[],[],[5],[4,6],[7],[3,8]])) (.cond (xt 20) (xE AF7 [2]) .skip))) (.reg AF9 [0,3]))
def AF6:=[xw 2 true]
def ANz:AC:=xS AGC [0] (.seq (xS AGB [0,3] (.block 0 (.loop AGD))) (xE AF6 [2]))
def ABF:List AR:=[.t 2]
theorem ASl:AU 209 1 ANz ABF:=by kernel_rfl
def AF3:=[xo (.mv 2 (.c (.own 3 1 [])))]
def AF2:=[xm 6 0,xA 7 6,xC 8 .lss 7 2]
def AF1:=[xn 9 0,xn 2 9]
def AF0:=[xv 3 1]
def AFz:=[xm 10 3,xm 11 0,xA 12 11,xB 13 .lss 10 12]
def AFx:=[xm 16 0,xm 17 3,xI 18 16 17 1,xl 19 18 1,xm 20 0,xm 21 3,xC 22 .sub 21 1,xI 23 20 22 1,xl 24 23 1,xB 25 .eql 19 24]
def AFw:=[xm 26 0,xm 27 3,xp 28 (.slc (xt 26) (some (xt 27)) none 1),xn 4 28]
def AFv:=[xv 5 1]
def AFu:=[xm 29 5,xm 30 4,xA 31 30,xB 32 .lss 29 31]
def ur:=[xm 35 4,xm 36 5,xI 37 35 36 1,xl 38 37 1,xm 39 4,xm 40 5,xC 41 .sub 40 1,xI 42 39 41 1,xl 43 42 1,xB 44 .neq 38 43]
def uq:=[xm 45 0,xm 46 3,xm 47 4,xm 48 5,xI 49 47 48 1,xl 50 49 1,xI 51 45 46 1,xs 51 50 1]
def up:=[xm 52 3,xC 53 .add 52 1,xm 3 53]
def uu:=[xm 33 5,xC 34 .add 33 1,xm 5 34]
def AF4:AC:=.seq (xS AFu [0,3,4,5,32] (xD 32 2)) (.seq (.block 3 (.seq (.regD ur [0,3,4,5,44] (xK [[],[],[0,1],[2],[],[],[5],[4,6],[7],[3,8]])) (.cond (xt 44) (xS uq [0,3,4,5] (.reg up [0,3,4,5])) .skip))) (.reg uu [0,3,4,5]))
def uo:=[xn 57 0,xm 58 3,xp 59 (.slc (xt 57) none (some (xt 58)) 1),xn 2 59]
def AFy:=[xm 14 3,xC 15 .add 14 1,xm 3 15]
def AF5:AC:=.seq (xS AFz [0,3,13] (xD 13 0)) (.seq (.block 1 (.seq (.regD AFx [0,3,25] (xK [[],[],[0,1],[2],[],[],[5],[4,6],[7],[3,8]])) (.cond (xt 25) (xS AFw [0,3,4] (.seq (xS AFv [0,3,4,5] (.block 2 (.loop AF4))) (.seq .never (xE uo [2])))) .skip))) (.reg AFy [0,3]))
def un:=[xn 60 0,xn 2 60]
def ANn:AC:=xS AF3 [0] (xQ AF2 [0,8] 8 (xE AF1 [2]) (.seq (xS AF0 [0,3] (.block 0 (.loop AF5))) (xE un [2])))
def ABE:List AR:=[.t 2]
theorem ASk:AU 210 1 ANn ABE:=by kernel_rfl
def Q8:=[xw 6 false]
def Q7:=[xl 11 1 1,xm 12 0,xI 13 11 12 1,xl 14 13 1,xm 15 14,xG 15 false (xl 16 2 1),xG 15 false (xm 17 0),xG 15 false (xI 18 16 17 1),xG 15 false (xl 19 18 1),xO 20 15 19]
def mR:=[xl 21 1 1,xm 22 0,xI 23 21 22 1,xl 24 23 1,xm 6 24]
def mQ:=[xl 25 2 1,xm 26 0,xI 27 25 26 1,xo (.store (xt 27) (xy true) 1)]
def mP:=[xl 28 3 1,xm 29 0,xm 30 0,xZ 31 28,xa 32 31 1 4096,xp 33 (.iaddrA (xt 32) (xt 29) 64 64),xp 34 (.iaddrA (xt 33) (xt 30) 64 1),xo (.store (xt 34) (xy true) 1)]
def mO:=[xl 35 3 1,xZ 36 35,xa 37 36 0 1,xl 38 37 1,xm 39 0,xI 40 38 39 1,xl 41 40 1,xA 42 41,xv 43 0]
def mN:=[xB 44 .lss 43 42]
def mM:=[xI 45 41 43 1,xl 46 45 1,xm 8 46]
def mL:=[xl 47 4 1,xm 48 8,xo (.call (some 49) (xt 47) [(xt 48)]),xT 50 49]
def AFs:=[xw 6 false]
def UB:=[xl 51 3 1,xm 52 8,xZ 53 51,xa 54 53 1 4096,xp 55 (.iaddrA (xt 54) (xt 52) 64 64),xL 56 55 64,xv 57 0]
def UA:=[xC 58 .lss 57 64]
def T9:=[xm 59 57,xp 60 (.idxA (xt 56) (xt 57) 64 1 false),xm 9 59,xm 10 60]
def T8:=[xl 61 3 1,xm 62 0,xm 63 9,xl 64 3 1,xm 65 0,xm 66 9,xZ 67 64,xa 68 67 1 4096,xp 69 (.iaddrA (xt 68) (xt 65) 64 64),xp 70 (.iaddrA (xt 69) (xt 66) 64 1),xl 71 70 1,xm 72 71,xG 72 false (xm 73 10),xO 74 72 73,xZ 75 61,xa 76 75 1 4096,xp 77 (.iaddrA (xt 76) (xt 62) 64 64),xp 78 (.iaddrA (xt 77) (xt 63) 64 1),xs 78 74 1]
def Mq:=[xC 79 .add 57 1,xm 57 79]
def Q9:AC:=xS UA [0,1,3,4,41,42,43,56,57,58] (.seq (xD 58 2) (.seq (.block 3 (xS T9 [0,1,3,4,9,10,41,42,43,56,57] (.regD T8 [0,1,3,4,41,42,43,56,57] (xK [[],[],[],[],[],[],[3],[6],[4,7],[5,8],[9],[10],[11],[12],[0],[14],[1,15],[2,13,16],[17]])))) (.reg Mq [0,1,3,4,41,42,43,56,57])))
def T7:=[xC 80 .add 43 1,xm 43 80]
def RC:AC:=xS mN [0,1,3,4,41,42,43,44] (.seq (xD 44 0) (.seq (.block 1 (xS mM [0,1,3,4,8,41,42,43] (xQ mL [0,1,3,4,8,41,42,43,50] 50 (xE AFs [6]) (xS UB [0,1,3,4,41,42,43,56,57] (.block 2 (.loop Q9)))))) (.reg T7 [0,1,3,4,41,42,43])))
def T6:=[xl 81 1 1,xm 82 0,xI 83 81 82 1,xo (.store (xt 83) (xy true) 1)]
def T5:=[xw 6 true]
def AFt:AC:=xS Q8 [0,1,2,3,4] (xQ Q7 [0,1,2,3,4,20] 20 (xE mR [6]) (xS mQ [0,1,3,4] (xS mP [0,1,3,4] (.seq (xS mO [0,1,3,4,41,42,43] (.block 0 (.loop RC))) (xS T6 [] (xE T5 [6]))))))
def mS:List AR:=[.t 6]
theorem AJt:AU 211 5 AFt mS:=by kernel_rfl
def mK:=[xo (.alloc 2 [xz,xz,.own 368 8 [],.own 84 4 []])]
def mJ:=[xm 8 0,xc 9 11 [(xt 8),(xi 1048576)],xm 3 9]
def mI:=[xm 10 3,xC 11 .quo 10 8,xC 12 .rem 11 6,xp 13 (.build [xz,xz,.nil 368 8,.nil 84 4] [(0,1,(xi 1)),(1,1,(xt 12))]),xo (.alloc 4 [xz,xz,.own 368 8 [],.own 84 4 []]),xs 4 13 4]
def mH:=[xm 14 3,xC 15 .quo 14 48,xC 16 .rem 15 4,xp 17 (.build [xz,xz] [(0,1,(xt 16)),(1,1,(xi 1))]),xo (.alloc 5 [xz,xz]),xs 5 17 2]
def mG:=[xm 18 3,xC 19 .quo 18 48,xC 20 .rem 19 4,xC 21 .add 20 1,xm 22 3,xC 23 .quo 22 192,xC 24 .rem 23 2,xB 25 .add 21 24,xp 26 (.build [xz,xz] [(0,1,(xt 25)),(1,1,(xi 1))]),xo (.alloc 6 [xz,xz]),xs 6 26 2]
def mF:=[xm 27 3,xC 28 .quo 27 8,xC 29 .rem 28 2,xL 30 5 2,xL 31 6 2,xm 32 3,xC 33 .quo 32 384,xC 34 .rem 33 2,xC 35 .eql 34 1,xp 36 (.build [xz,xz,xz,xz,.v (.bool false),.v (.bool false),.v (.bool false),.v (.bool false)] [(0,2,(xt 30)),(2,2,(xt 31)),(4,1,(xt 35))]),xo (.bsl 37 368 8 [(xt 36)]),xp 38 (.build [xz,xz,.nil 368 8,.nil 84 4] [(0,1,(xi 2)),(1,1,(xt 29)),(2,1,(xt 37))]),xo (.alloc 7 [xz,xz,.own 368 8 [],.own 84 4 []]),xs 7 38 4]
def FQ:=[xm 39 3,xC 40 .rem 39 8]
def FO:=[xC 42 .eql 40 0,xm 41 42]
def F9:=[xC 43 .eql 40 1,xm 41 43]
def G9:=[xC 44 .eql 40 2,xm 41 44]
def Jd:=[xL 45 4 4,xs 2 45 4]
def GX:=[xC 47 .eql 40 3,xm 46 47]
def H8:=[xC 48 .eql 40 4,xm 46 48]
def Mp:=[xL 49 7 4,xs 2 49 4]
def Jc:=[xC 51 .eql 40 5,xm 50 51]
def T4:=[xL 52 7 4,xL 53 4 4,xo (.bsl 54 84 4 [(xt 52),(xt 53)]),xp 55 (.build [xz,xz,.nil 368 8,.nil 84 4] [(0,1,(xi 4)),(3,1,(xt 54))]),xs 2 55 4]
def Mo:=[xC 57 .eql 40 6,xm 56 57]
def T3:=[xL 58 4 4,xo (.bsl 59 84 4 [(xt 58)]),xp 60 (.build [xz,xz,.nil 368 8,.nil 84 4] [(0,1,(xi 3)),(3,1,(xt 59))]),xs 2 60 4]
def T2:=[xL 61 4 4,xo (.bsl 62 84 4 [(xt 61)]),xp 63 (.build [xz,xz,.nil 368 8,.nil 84 4] [(0,1,(xi 6)),(3,1,(xt 62))]),xs 2 63 4]
def ANm:AC:=xS mK [0,2] (xS mJ [2,3] (xS mI [2,3,4] (xS mH [2,3,4,5] (xS mG [2,3,4,5,6] (xS mF [2,3,4,7] (.seq (xS FQ [2,4,7,40] (.block 0 (.seq (xS FO [2,4,7,40,41] (.cond (xt 41) .skip (xS F9 [2,4,7,40,41] (.cond (xt 41) .skip (.reg G9 [2,4,7,40,41]))))) (.cond (xt 41) (xE Jd [2]) (.seq (xS GX [2,4,7,40,46] (.cond (xt 46) .skip (.reg H8 [2,4,7,40,46]))) (.cond (xt 46) (xE Mp [2]) (xS Jc [2,4,7,40,50] (.cond (xt 50) (xE T4 [2]) (xS Mo [2,4,56] (.cond (xt 56) (xE T3 [2]) .skip)))))))))) (xE T2 [2])))))))
def H9:List AR:=[.c 2 4 true]
theorem ASj:AU 212 1 ANm H9:=by kernel_rfl
def mD:=[xw 4 false]
def mC:=[xv 5 0]
def mB:=[xm 6 5,xm 7 0,xA 8 7,xB 9 .lss 6 8]
def mA:=[xm 12 0,xm 13 5,xI 14 12 13 1,xl 15 14 1,xC 16 .lss 15 0,xm 17 16,xG 17 false (xm 18 0),xG 17 false (xm 19 5),xG 17 false (xI 20 18 19 1),xG 17 false (xl 21 20 1),xG 17 false (xm 22 1),xG 17 false (xB 23 .geq 21 22),xO 24 17 23,xm 25 24,xG 25 false (xm 26 5),xG 25 false (xC 27 .gtr 26 0),xG 25 false (xm 28 27),xG 28 true (xm 29 0),xG 28 true (xm 30 5),xG 28 true (xI 31 29 30 1),xG 28 true (xl 32 31 1),xG 28 true (xm 33 0),xG 28 true (xm 34 5),xG 28 true (xC 35 .sub 34 1),xG 28 true (xI 36 33 35 1),xG 28 true (xl 37 36 1),xG 28 true (xB 38 .leq 32 37),xG 25 false (xN 39 28 38),xO 40 25 39]
def Mn:=[xw 4 false]
def Q6:=[xm 10 5,xC 11 .add 10 1,xm 5 11]
def mE:AC:=.seq (xS mB [0,1,5,9] (xD 9 0)) (.seq (.block 1 (.seq (.regD mA [0,1,5,40] (xK [[],[],[0,1],[2],[3],[4],[5],[5],[6,7],[8],[5],[9,10],[11],[12],[13],[14],[15],[16],[16],[17,18],[19],[16],[16],[22],[21,23],[24],[20,25],[26],[27]])) (.cond (xt 40) (xE Mn [4]) .skip))) (.reg Q6 [0,1,5]))
def l0:=[xw 4 true]
def ANl:AC:=xS mD [0,1] (.seq (xS mC [0,1,5] (.block 0 (.loop mE))) (xE l0 [4]))
def Oi:List AR:=[.t 4]
theorem ASi:AU 213 2 ANl Oi:=by kernel_rfl
def lz:=[xx 1 0,xv 2 0]
def lu:=[xL 3 1 4,x1 4 285 3,xC 5 .gtr 4 96,xm 6 5,xG 6 false (xL 7 1 4),xG 6 false (x1 8 286 7),xG 6 false (xC 9 .gtr 8 8),xO 10 6 9]
def Q5:=[xv 2 4]
def lq:=[xL 11 1 4,x1 12 287 11,xT 13 12]
def lm:=[xv 2 1]
def lk:=[xv 2 0]
def ANk:AC:=xS lz [1] (xQ lu [1,10] 10 (xE Q5 [2]) (xQ lq [13] 13 (xE lm [2]) (xE lk [2])))
def Oh:List AR:=[.t 2]
theorem ASh:AU 214 1 ANk Oh:=by kernel_rfl
def lh:=[xv 4 0]
def Q4:=[xm 5 1,xC 6 .neq 5 0]
def lg:=[xm 7 1,xm 8 0,xm 9 1,xB 10 .rem 8 9,xm 0 7,xm 1 10]
def Mm:AC:=.seq (xS Q4 [0,1,6] (xD 6 0)) (.block 1 (.regD lg [0,1] (xK [[],[],[],[1,2],[0,1],[3,4]])))
def Q3:=[xm 11 0,xC 12 .lss 11 0]
def lZ:=[xm 13 0,xp 14 (.neg (xt 13)),xm 4 14]
def lY:=[xm 15 0,xm 4 15]
def ANj:AC:=xS lh [0,1] (.seq (.block 0 (.loop Mm)) (xQ Q3 [0,12] 12 (xE lZ [4]) (xE lY [4])))
def lj:List AR:=[.t 4]
theorem ASg:AU 215 2 ANj lj:=by kernel_rfl
def lW:=[xw 6 false]
def lV:=[xm 7 1,xm 8 0,xB 9 .leq 7 8,xm 10 9,xG 10 true (xm 11 0),xG 10 true (xm 12 2),xG 10 true (xB 13 .leq 11 12),xN 14 10 13,xm 6 14]
def AFr:AC:=xS lW [0,1,2] (xE lV [6])
def lX:List AR:=[.t 6]
theorem AJs:AU 216 3 AFr lX:=by kernel_rfl
def lT:=[xx 3 1,xw 4 false]
def lS:=[xn 5 0,xp 6 (.mkf 288 [(xt 3)]),x2 7 277 5 6,xT 8 7,xm 4 8]
def AFq:AC:=xS lT [0,3] (xE lS [4])
def lU:List AR:=[.t 4]
theorem AJr:AU 217 2 AFq lU:=by kernel_rfl
def lR:=[xx 2 0,xw 3 false]
def lQ:=[xa 4 2 0 2,xa 5 4 0 1,xl 6 5 1,xl 7 1 1,xC 8 .sub 7 1,xc 9 216 [(xt 6),(xi 0),(xt 8)],xm 10 9,xG 10 true (xa 11 2 0 2),xG 10 true (xa 12 11 1 1),xG 10 true (xl 13 12 1),xG 10 true (xc 14 216 [(xt 13),(xi 0),(xi 63)]),xN 15 10 14,xm 16 15,xG 16 true (xa 17 2 2 1),xG 16 true (xl 18 17 1),xG 16 true (xc 19 216 [(xt 18),(xi 0),(xi 131072)]),xN 20 16 19,xm 21 20,xG 21 true (xa 22 2 3 1),xG 21 true (xl 23 22 1),xG 21 true (xc 24 216 [(xt 23),(xi 0),(xi 4095)]),xN 25 21 24,xm 3 25]
def ANi:AC:=xS lR [1,2] (xE lQ [3])
def Og:List AR:=[.t 3]
theorem ASf:AU 218 2 ANi Og:=by kernel_rfl
def lO:=[xw 4 false]
def lN:=[xm 6 0,xA 7 6,xC 8 .sub 7 1,xp 9 (.minmax true (xt 8) (xi 0)),xv 10 0]
def lM:=[xB 11 .lss 10 9]
def lL:=[xm 12 10,xm 5 12]
def lK:=[xm 13 1,xm 14 0,xm 15 5,xI 16 14 15 4,xL 17 16 4,xm 18 0,xm 19 5,xC 20 .add 19 1,xI 21 18 20 4,xL 22 21 4,xo (.callF (some 23) (xt 13) [(xt 17),(xt 22)]),xT 24 23]
def lJ:=[xw 4 false]
def lI:=[xC 25 .add 10 1,xm 10 25]
def lP:AC:=xS lM [0,1,9,10,11] (.seq (xD 11 0) (.seq (.block 1 (xS lL [0,1,5,9,10] (.seq (.regD lK [0,1,9,10,24] (xK [[],[],[],[1,2],[3],[],[],[6],[5,7],[8],[0,4,9],[10]])) (.cond (xt 24) (xE lJ [4]) .skip)))) (.reg lI [0,1,9,10])))
def lH:=[xw 4 true]
def AFp:AC:=xS lO [0,1] (.seq (xS lN [0,1,9,10] (.block 0 (.loop lP))) (xE lH [4]))
def T1:List AR:=[.t 4]
theorem AJq:AU 219 2 AFp T1:=by kernel_rfl
def Ml:=[xx 2 0,xx 3 1,xw 4 false]
def Mk:=[xa 5 2 0 2,xa 6 5 0 1,xl 7 6 1,xa 8 3 0 2,xa 9 8 0 1,xl 10 9 1,xB 11 .lss 7 10,xm 12 11,xG 12 false (xa 13 2 0 2),xG 12 false (xa 14 13 0 1),xG 12 false (xl 15 14 1),xG 12 false (xa 16 3 0 2),xG 12 false (xa 17 16 0 1),xG 12 false (xl 18 17 1),xG 12 false (xB 19 .eql 15 18),xG 12 false (xm 20 19),xG 20 true (xa 21 2 0 2),xG 20 true (xa 22 21 1 1),xG 20 true (xl 23 22 1),xG 20 true (xa 24 3 0 2),xG 20 true (xa 25 24 1 1),xG 20 true (xl 26 25 1),xG 20 true (xB 27 .lss 23 26),xG 12 false (xN 28 20 27),xO 29 12 28,xm 4 29]
def um:AC:=xS Ml [2,3] (xE Mk [4])
def Tz:List AR:=[.t 4]
theorem ASe:AU 220 2 um Tz:=by kernel_rfl
def lF:=[xx 3 1,xw 4 false]
def lD:=[xn 5 0,xp 6 (.mkf 289 [(xt 3)]),x2 7 151 5 6,xT 8 7,xm 4 8]
def AFo:AC:=xS lF [0,3] (xE lD [4])
def lG:List AR:=[.t 4]
theorem AJp:AU 221 2 AFo lG:=by kernel_rfl
def lC:=[xw 3 false]
def lA:=[xm 4 0,xl 5 1 1,xC 6 .sub 5 1,xc 7 216 [(xt 4),(xi 0),(xt 6)],xm 3 7]
def ANg:AC:=xS lC [0,1] (xE lA [3])
def ABA:List AR:=[.t 3]
theorem ASd:AU 222 2 ANg ABA:=by kernel_rfl
def k0:=[xw 4 false]
def kz:=[xm 6 0,xA 7 6,xC 8 .sub 7 1,xp 9 (.minmax true (xt 8) (xi 0)),xv 10 0]
def kw:=[xB 11 .lss 10 9]
def ku:=[xm 12 10,xm 5 12]
def kr:=[xm 13 1,xm 14 0,xm 15 5,xI 16 14 15 1,xl 17 16 1,xm 18 0,xm 19 5,xC 20 .add 19 1,xI 21 18 20 1,xl 22 21 1,xo (.callF (some 23) (xt 13) [(xt 17),(xt 22)]),xT 24 23]
def kq:=[xw 4 false]
def km:=[xC 25 .add 10 1,xm 10 25]
def k8:AC:=xS kw [0,1,9,10,11] (.seq (xD 11 0) (.seq (.block 1 (xS ku [0,1,5,9,10] (.seq (.regD kr [0,1,9,10,24] (xK [[],[],[],[1,2],[3],[],[],[6],[5,7],[8],[0,4,9],[10]])) (.cond (xt 24) (xE kq [4]) .skip)))) (.reg km [0,1,9,10])))
def kj:=[xw 4 true]
def AFn:AC:=xS k0 [0,1] (.seq (xS kz [0,1,9,10] (.block 0 (.loop k8))) (xE kj [4]))
def Ty:List AR:=[.t 4]
theorem AJo:AU 223 2 AFn Ty:=by kernel_rfl
def kh:=[xw 4 false]
def kg:=[xm 5 0,xm 6 1,xB 7 .lss 5 6,xm 4 7]
def ANf:AC:=xS kh [0,1] (xE kg [4])
def AA9:List AR:=[.t 4]
theorem ASc:AU 224 2 ANf AA9:=by kernel_rfl
def ke:=[xx 3 1,xw 4 false]
def kc:=[xn 5 0,xp 6 (.mkf 290 [(xt 3)]),x2 7 183 5 6,xT 8 7,xm 4 8]
def AFm:AC:=xS ke [0,3] (xE kc [4])
def kf:List AR:=[.t 4]
theorem AJn:AU 225 2 AFm kf:=by kernel_rfl
def kb:=[xx 1 0,xw 2 false]
def ka:=[xa 6 1 1 2,xL 7 6 2,xp 8 (.build [xz,xz] [(0,1,(xi 1)),(1,1,(xi 1))]),x2 9 227 7 8,xn 5 9,xe 10 5 0,xe 11 5 1,xm 3 10,xm 4 11]
def Q2:=[xa 12 1 0 1,xl 13 12 1,xc 14 216 [(xt 13),(xi 1),(xi 4095)],xm 15 14,xG 15 true (xm 16 4),xG 15 true (xC 17 .eql 16 0),xN 18 15 17,xm 19 18,xG 19 true (xm 20 3),xG 19 true (xC 21 .leq 20 0),xN 22 19 21,xm 23 22,xG 23 true (xa 24 1 1 2),xG 23 true (xa 25 24 0 1),xG 23 true (xl 26 25 1),xG 23 true (xC 27 .gtr 26 0),xN 28 23 27,xm 2 28]
def ANe:AC:=xS kb [1] (xS ka [1,3,4] (xE Q2 [2]))
def Of:List AR:=[.t 2]
theorem ASb:AU 226 1 ANe Of:=by kernel_rfl
def kZ:=[xx 2 0,xx 3 1,xv 4 0,xv 5 0]
def kY:=[xL 7 2 2,xL 8 3 2,xo (.bsl 9 133 2 [(xt 7),(xt 8)]),x1 10 291 9,xm 6 10]
def kX:=[xm 11 6,xC 12 .neq 11 0]
def kW:=[xm 13 6,xv 4 0,xm 5 13]
def kV:=[xL 14 2 2,xL 15 3 2,x2 16 292 14 15,xm 4 16,xv 5 0]
def ANd:AC:=xS kZ [2,3] (.seq (xS kY [2,3,6] (xS kX [2,3,6,12] (.cond (xt 12) (xE kW [4,5]) .skip))) (xE kV [4,5]))
def AA8:List AR:=[.t 4,.t 5]
theorem ASa:AU 227 2 ANd AA8:=by kernel_rfl
def kT:=[xw 4 false]
def kS:=[xm 6 0,xA 7 6,xC 8 .sub 7 1,xp 9 (.minmax true (xt 8) (xi 0)),xv 10 0]
def kR:=[xB 11 .lss 10 9]
def kQ:=[xm 12 10,xm 5 12]
def kP:=[xm 13 1,xm 14 0,xm 15 5,xI 16 14 15 3,xL 17 16 3,xm 18 0,xm 19 5,xC 20 .add 19 1,xI 21 18 20 3,xL 22 21 3,xo (.callF (some 23) (xt 13) [(xt 17),(xt 22)]),xT 24 23]
def kO:=[xw 4 false]
def kN:=[xC 25 .add 10 1,xm 10 25]
def kU:AC:=xS kR [0,1,9,10,11] (.seq (xD 11 0) (.seq (.block 1 (xS kQ [0,1,5,9,10] (.seq (.regD kP [0,1,9,10,24] (xK [[],[],[],[1,2],[3],[],[],[6],[5,7],[8],[0,4,9],[10]])) (.cond (xt 24) (xE kO [4]) .skip)))) (.reg kN [0,1,9,10])))
def kM:=[xw 4 true]
def AFl:AC:=xS kT [0,1] (.seq (xS kS [0,1,9,10] (.block 0 (.loop kU))) (xE kM [4]))
def Tx:List AR:=[.t 4]
theorem AJm:AU 228 2 AFl Tx:=by kernel_rfl
def kL:=[xx 2 0,xx 3 1,xw 4 false]
def kK:=[xa 5 2 0 1,xl 6 5 1,xa 7 3 0 1,xl 8 7 1,xB 9 .lss 6 8,xm 4 9]
def ANc:AC:=xS kL [2,3] (xE kK [4])
def AA7:List AR:=[.t 4]
theorem ASZ:AU 229 2 ANc AA7:=by kernel_rfl
def kI:=[xx 3 1,xw 4 false]
def kH:=[xn 5 0,xp 6 (.mkf 294 [(xt 3)]),x2 7 293 5 6,xT 8 7,xm 4 8]
def AFk:AC:=xS kI [0,3] (xE kH [4])
def kJ:List AR:=[.t 4]
theorem AJl:AU 230 2 AFk kJ:=by kernel_rfl
def kG:=[xx 1 0,xw 2 false]
def kF:=[xa 3 1 0 1,xl 4 3 1,xc 5 216 [(xt 4),(xi 1),(xi 4095)],xm 6 5,xG 6 true (xa 7 1 1 1),xG 6 true (xl 8 7 1),xG 6 true (xc 9 216 [(xt 8),(xi 1),(xi 4095)]),xN 10 6 9,xm 11 10,xG 11 true (xa 12 1 2 1),xG 11 true (xl 13 12 1),xG 11 true (xa 14 1 3 1),xG 11 true (xl 15 14 1),xG 11 true (xc 16 216 [(xt 13),(xi 0),(xt 15)]),xN 17 11 16,xm 18 17,xG 18 true (xa 19 1 3 1),xG 18 true (xl 20 19 1),xG 18 true (xC 21 .leq 20 131072),xN 22 18 21,xm 2 22]
def ANa:AC:=xS kG [1] (xE kF [2])
def Oe:List AR:=[.t 2]
theorem ASY:AU 231 1 ANa Oe:=by kernel_rfl
def kD:=[xx 1 0,xo (.mv 2 (.c (.own 5 1 []))),xv 3 0]
def kC:=[xL 9 1 4,x1 10 66 9,xm 4 10]
def kB:=[xm 11 4,xC 12 .neq 11 0]
def kA:=[xm 13 4,xo (.mv 2 (.c (.own 5 1 []))),xm 3 13]
def j9:=[xp 14 (.build [.nil 5 1] []),xx 15 14,xo (.alloc 5 [.v .nilp]),xs 5 15 1]
def jz:=[xL 16 1 4,x1 17 68 16]
def jy:=[xo (.alloc 6 [xz,xz,.own 368 8 [],.own 84 4 []]),xs 6 18 4]
def jx:=[xl 19 5 1,xa 20 6 0 1,xl 21 20 1,x2 22 98 19 21]
def jw:=[xl 23 5 1,xa 24 6 1 1,xl 25 24 1,x2 26 98 23 25]
def jv:=[xl 27 5 1,xa 28 6 2 1,xl 29 28 1,xA 30 29,x2 31 98 27 30]
def Tw:=[xa 32 6 2 1,xl 33 32 1,xA 34 33,xv 35 0]
def Tv:=[xB 36 .lss 35 34]
def Tu:=[xI 37 33 35 8,xL 38 37 8,xo (.alloc 8 [xz,xz,xz,xz,.v (.bool false),.v (.bool false),.v (.bool false),.v (.bool false)]),xs 8 38 8]
def Tt:=[xl 39 5 1,xa 40 8 0 2,xa 41 40 0 1,xl 42 41 1,xa 43 8 0 2,xa 44 43 1 1,xl 45 44 1,xa 46 8 2 2,xa 47 46 0 1,xl 48 47 1,xa 49 8 2 2,xa 50 49 1 1,xl 51 50 1,xa 52 8 4 1,xl 53 52 1,x1 54 295 53,xa 55 8 5 1,xl 56 55 1,x1 57 295 56,xa 58 8 6 1,xl 59 58 1,x1 60 295 59,xa 61 8 7 1,xl 62 61 1,x1 63 295 62,xo (.bsl 64 3 1 [(xt 42),(xt 45),(xt 48),(xt 51),(xt 54),(xt 57),(xt 60),(xt 63)]),xo (.callF (some 65) (xf 100) [(xt 39),(xt 64)])]
def Ts:=[xC 66 .add 35 1,xm 35 66]
def Q1:AC:=xS Tv [5,6,33,34,35,36] (.seq (xD 36 2) (.seq (.block 3 (xS Tu [5,6,8,33,34,35] (.regD Tt [5,6,33,34,35] (xK [[],[],[1],[2],[],[4],[5],[],[7],[8],[],[10],[11],[],[13],[14],[],[16],[15,17],[],[19],[18,20],[],[22],[21,23],[3,6,9,12,24],[0,25]])))) (.reg Ts [5,6,33,34,35])))
def Tr:=[xl 67 5 1,xa 68 6 3 1,xl 69 68 1,xA 70 69,x2 71 98 67 70]
def FN:AC:=.reg jy [5,6]
def FM:AC:=.block 1 (xS jx [5,6] (xS jw [5,6] (xS jv [5,6] (.seq (xS Tw [5,6,33,34,35] (.block 2 (.loop Q1))) (.reg Tr [])))))
def Tq:=[xl 72 5 1,x1 73 102 72,xn 2 73,xv 3 0]
def ANZ:AC:=xS kD [1] (.seq (xS kC [1,4] (xS kB [1,4,12] (.cond (xt 12) (xE kA [2,3]) .skip))) (xS j9 [1,5] (.seq (xS jz [5,17] (.block 0 (.rangeF (xt 17) [18] FN FM))) (xE Tq [2,3]))))
def kE:List AR:=[.t 2,.t 3]
theorem ASX:AU 232 1 ANZ kE:=by kernel_rfl
def ju:=[xx 3 1,xo (.alloc 4 [.v (.int .u64 0),.v (.bool false)])]
def jt:=[xm 8 0,xZ 9 8,xa 10 9 1 1,xl 11 10 1,xL 12 3 2,xp 13 (.look (xt 11) (xt 12) true [0,0] [.v (.int .u64 0)] false true),xn 7 13,xe 14 7 0,xe 15 7 1,xm 5 14,xm 6 15]
def Q0:=[xm 16 5,xm 17 6,xp 18 (.build [.v (.int .u64 0),.v (.bool false)] [(0,1,(xt 16)),(1,1,(xt 17))]),xs 4 18 2]
def AFj:AC:=xS ju [0,3,4] (.seq (.regD jt [4,5,6] (xK [[],[0],[1],[2],[],[3,4],[5],[6],[6],[7],[8,9]])) (xE Q0 [4]))
def Tp:List AR:=[.c 4 2 true]
theorem AJk:AU 233 2 AFj Tp:=by kernel_rfl
def jr:=[xo (.mv 4 (xj 0))]
def jq:=[xo (.alloc 5 [.own 3 1 []])]
def jp:=[xm 7 1,x1 8 296 7]
def jo:=[xm 6 9]
def jn:=[xo (.take 10 (xt 5)),xm 11 6,xp 12 (.cint .i64 (xt 11)),xo (.bsl 13 3 1 [(xt 12)]),xo (.app 14 (xu 10) (xt 13) 3 1 8),xo (.store (xt 5) (xu 14) 1)]
def Ij:AC:=.reg jo [5,6]
def Ii:AC:=.block 1 (.reg jn [])
def jm:=[xm 15 0,xo (.take 16 (xt 5)),xn 17 1,xA 18 17,xo (.bsl 19 3 1 [(xt 18)]),xo (.app 20 (xu 16) (xt 19) 3 1 8),x2 21 96 15 20,xm 4 21]
def AFi:AC:=xS jr [0,1] (xS jq [0,1,5] (.seq (xS jp [0,1,5,8] (.block 0 (.rangeF (xt 8) [9] Ij Ii))) (xE jm [4])))
def js:List AR:=[.t 4]
theorem AJj:AU 234 2 AFi js:=by kernel_rfl
def AFh:=[xo (.mv 2 (.c (.own 3 1 [])))]
def AFg:=[xm 4 0,x1 5 298 4,xn 3 5]
def AFf:=[xm 6 3,x1 7 299 6]
def AFe:=[xn 8 3,xn 2 8]
def ANY:AC:=xS AFh [0] (xS AFg [3] (xS AFf [3] (xE AFe [2])))
def AA4:List AR:=[.t 2]
theorem ASW:AU 237 1 ANY AA4:=by kernel_rfl
def jk:=[xx 1 0,xo (.mv 2 (.c (.v .nilf)))]
def jj:=[xp 3 (.mkf 300 [(xt 1)]),xm 2 3]
def AFd:AC:=xS jk [1] (xE jj [2])
def jl:List AR:=[.t 2]
theorem AJi:AU 238 1 AFd jl:=by kernel_rfl
def jh:=[xx 2 0,xx 3 1,xo (.mv 4 (.c (.v .nilf)))]
def jg:=[xp 5 (.mkf 301 [(xt 2),(xt 3)]),xm 4 5]
def AFc:AC:=xS jh [2,3] (xE jg [4])
def ji:List AR:=[.t 4]
theorem AJh:AU 239 2 AFc ji:=by kernel_rfl
def je:=[xx 1 0,xv 2 0]
def jd:=[xa 3 1 1 1,xl 4 3 1,xC 5 .add 4 1,xa 6 1 0 1,xl 7 6 1,xB 8 .shl 5 7,xC 9 .sub 8 1,xm 2 9]
def AFb:AC:=xS je [1] (xE jd [2])
def jf:List AR:=[.t 2]
theorem AJg:AU 240 1 AFb jf:=by kernel_rfl
def jb:=[xw 4 false]
def ja:=[xo (.mv 5 (.c (.v (.int .i64 (-1)))))]
def jZ:=[xn 8 0,xA 9 8,xv 10 0]
def jY:=[xB 11 .lss 10 9]
def jX:=[xI 12 8 10 1,xl 13 12 1,xm 7 13]
def jW:=[xm 14 7,xm 15 5,xB 16 .leq 14 15,xm 17 16,xG 17 false (xm 18 7),xG 17 false (xm 19 1),xG 17 false (xB 20 .geq 18 19),xO 21 17 20]
def Qz:=[xw 4 false]
def jV:=[xm 22 7,xm 5 22]
def jU:=[xC 23 .add 10 1,xm 10 23]
def jc:AC:=xS jY [1,5,8,9,10,11] (.seq (xD 11 0) (.seq (.block 1 (xS jX [1,5,7,8,9,10] (xQ jW [1,7,8,9,10,21] 21 (xE Qz [4]) (.reg jV [1,5,8,9,10])))) (.reg jU [1,5,8,9,10])))
def jT:=[xw 4 true]
def ANU:AC:=xS jb [0,1] (xS ja [0,1,5] (.seq (xS jZ [1,5,8,9,10] (.block 0 (.loop jc))) (xE jT [4])))
def To:List AR:=[.t 4]
theorem ASV:AU 241 2 ANU To:=by kernel_rfl
def jS:=[xx 2 0]
def jR:=[xo (.alloc 3 [.v .nilf])]
def jQ:=[xp 4 (.mkf 243 [(xt 2),(xt 3)]),xs 3 4 1]
def jP:=[xl 5 3 1,xL 6 1 4,xo (.call (some 7) (xt 5) [(xt 6)])]
def ANT:AC:=xS jS [1,2] (xS jR [1,2,3] (xS jQ [1,3] (.reg jP [])))
def ANS:List AR:=[]
theorem ASU:AU 242 2 ANT ANS:=by kernel_rfl
def Qy:=[xx 3 0,xw 4 false]
def Qx:=[xa 5 3 0 1,xl 6 5 1,xC 7 .neq 6 5]
def jN:=[xl 8 1 1,xL 9 3 4,xo (.call (some 10) (xt 8) [(xt 9)]),xm 4 10]
def jM:=[xa 11 3 3 1,xl 12 11 1,xp 13 (.mkf 244 [(xt 2)]),x2 14 149 12 13,xT 15 14,xm 4 15]
def AFa:AC:=xS Qy [1,2,3] (xQ Qx [1,2,3,7] 7 (xE jN [4]) (xE jM [4]))
def jO:List AR:=[.t 4]
theorem AJf:AU 243 3 AFa jO:=by kernel_rfl
def jL:=[xx 2 0,xw 3 false]
def jK:=[xl 4 1 1,xL 5 2 4,xo (.call (some 6) (xt 4) [(xt 5)]),xT 7 6,xm 3 7]
def ANR:AC:=xS jL [1,2] (xE jK [3])
def AAy:List AR:=[.t 3]
theorem AST:AU 244 2 ANR AAy:=by kernel_rfl
def jI:=[xv 2 0]
def jH:=[xm 9 0,xA 10 9,xv 11 0]
def jG:=[xB 12 .lss 11 10]
def jF:=[xm 13 11,xI 14 9 11 8,xL 15 14 8,xo (.alloc 4 [xz,xz,xz,xz,.v (.bool false),.v (.bool false),.v (.bool false),.v (.bool false)]),xm 3 13,xs 4 15 8]
def jE:=[xL 16 4 8,x1 17 258 16,xT 18 17]
def jD:=[xv 2 1]
def jC:=[xm 19 3,xC 20 .gtr 19 0]
def jB:=[xL 22 4 8,x1 23 303 22,xn 21 23,xe 24 21 0,xe 25 21 1,xo (.alloc 5 [xz,xz,xz,.v (.bool false)]),xo (.alloc 6 [xz,xz,xz,.v (.bool false)]),xs 5 24 4,xs 6 25 4]
def jA:=[xm 27 0,xm 28 3,xC 29 .sub 28 1,xI 30 27 29 8,xL 31 30 8,x1 32 303 31,xn 26 32,xe 33 26 0,xe 34 26 1,xo (.alloc 7 [xz,xz,xz,.v (.bool false)]),xo (.alloc 8 [xz,xz,xz,.v (.bool false)]),xs 7 33 4,xs 8 34 4]
def iz:=[xL 35 8 4,xL 36 5 4,x2 37 304 35 36,xT 38 37]
def Tm:=[xv 2 1]
def Mj:=[xC 39 .add 11 1,xm 11 39]
def jJ:AC:=xS jG [0,9,10,11,12] (.seq (xD 12 0) (.seq (.block 1 (xS jF [0,3,4,9,10,11] (xQ jE [0,3,4,9,10,11,18] 18 (xE jD [2]) (xS jC [0,3,4,9,10,11,20] (.cond (xt 20) (xS jB [0,3,5,9,10,11] (xS jA [0,5,8,9,10,11] (xS iz [0,9,10,11,38] (.cond (xt 38) (xE Tm [2]) .skip)))) .skip))))) (.reg Mj [0,9,10,11])))
def Tl:=[xn 40 0,x1 41 305 40,xm 2 41]
def ANQ:AC:=xS jI [0] (.seq (xS jH [0,9,10,11] (.block 0 (.loop jJ))) (xE Tl [2]))
def Tn:List AR:=[.t 2]
theorem ASS:AU 246 1 ANQ Tn:=by kernel_rfl
def iy:=[xx 3 0,xv 6 0]
def iw:=[xm 9 1,xC 10 .gtr 9 8,xm 11 10,xG 11 false (xm 12 2),xG 11 false (xC 13 .lss 12 1),xO 14 11 13]
def Qv:=[xo (.mv 6 (.c (.v (.int .i64 (-1)))))]
def iv:=[xm 15 2,xC 16 .sub 15 1,xm 2 16]
def iu:=[xa 17 3 2 1,xl 18 17 1,xA 19 18,xv 20 0]
def ir:=[xB 21 .lss 20 19]
def iq:=[xI 22 18 20 3,xL 23 22 3,xo (.alloc 8 [.own 3 1 [],.own 171 3 [],.own 58 3 []]),xs 8 23 3]
def ip:=[xL 24 8 3,xm 25 1,xC 26 .add 25 1,xm 27 2,x3 28 247 24 26 27,xm 2 28]
def Qu:=[xm 29 2,xC 30 .lss 29 0]
def io:=[xo (.mv 6 (.c (.v (.int .i64 (-1)))))]
def Tk:=[xC 31 .add 20 1,xm 20 31]
def Qw:AC:=xS ir [1,2,18,19,20,21] (.seq (xD 21 0) (.seq (.block 1 (xS iq [1,2,8,18,19,20] (xS ip [1,2,18,19,20] (xS Qu [1,2,18,19,20,30] (.cond (xt 30) (xE io [6]) .skip))))) (.reg Tk [1,2,18,19,20])))
def Tj:=[xm 32 2,xm 6 32]
def ANP:AC:=xS iy [1,2,3] (xQ iw [1,2,3,14] 14 (xE Qv [6]) (xS iv [1,2,3] (.seq (xS iu [1,2,18,19,20] (.block 0 (.loop Qw))) (xE Tj [6]))))
def Od:List AR:=[.t 6]
theorem ASR:AU 247 3 ANP Od:=by kernel_rfl
def im:=[xx 1 0,xv 2 0]
def ik:=[xa 5 1 1 1,xl 6 5 1,xC 7 .lss 6 1]
def ij:=[xv 2 1]
def ii:=[xa 9 1 0 1,xl 10 9 1,xa 11 1 1 1,xl 12 11 1,x2 13 306 10 12,xn 8 13,xe 14 8 0,xe 15 8 1,xo (.alloc 3 [xz,xz]),xs 3 14 2,xm 4 15]
def Qt:=[xm 16 4,xC 17 .neq 16 0,xm 18 17,xG 18 false (xL 19 3 2),xG 18 false (xL 20 1 2),xG 18 false (xp 21 (.eqA true [0,0] (xt 19) (xt 20))),xO 22 18 21]
def Qs:=[xv 2 1]
def ig:=[xv 2 0]
def ANO:AC:=xS im [1] (xQ ik [1,7] 7 (xE ij [2]) (.seq (xS ii [1,3,4] (xS Qt [22] (.cond (xt 22) (xE Qs [2]) .skip))) (xE ig [2])))
def Ti:List AR:=[.t 2]
theorem ASQ:AU 248 1 ANO Ti:=by kernel_rfl
def ie:=[xx 1 0,xw 2 false]
def ic:=[xL 3 1 3,x1 4 146 3,xT 5 4,xm 2 5]
def ANN:AC:=xS ie [1] (xE ic [2])
def AAx:List AR:=[.t 2]
theorem ASP:AU 249 1 ANN AAx:=by kernel_rfl
def iV:=[xw 4 false]
def iU:=[xm 7 0,xA 8 7,xv 9 0]
def iT:=[xB 10 .lss 9 8]
def iS:=[xm 11 9,xI 12 7 9 1,xl 13 12 1,xm 5 11,xm 6 13]
def iR:=[xm 14 6,xC 15 .lss 14 0,xm 16 15,xG 16 false (xm 17 6),xG 16 false (xm 18 1),xG 16 false (xB 19 .geq 17 18),xO 20 16 19,xm 21 20,xG 21 false (xm 22 5),xG 21 false (xC 23 .gtr 22 0),xG 21 false (xm 24 23),xG 24 true (xm 25 6),xG 24 true (xm 26 0),xG 24 true (xm 27 5),xG 24 true (xC 28 .sub 27 1),xG 24 true (xI 29 26 28 1),xG 24 true (xl 30 29 1),xG 24 true (xB 31 .leq 25 30),xG 21 false (xN 32 24 31),xO 33 21 32]
def Mi:=[xw 4 false]
def Qp:=[xC 34 .add 9 1,xm 9 34]
def iW:AC:=xS iT [0,1,7,8,9,10] (.seq (xD 10 0) (.seq (.block 1 (xS iS [0,1,5,6,7,8,9] (xS iR [0,1,7,8,9,33] (.cond (xt 33) (xE Mi [4]) .skip)))) (.reg Qp [0,1,7,8,9])))
def iQ:=[xw 4 true]
def ANK:AC:=xS iV [0,1] (.seq (xS iU [0,1,7,8,9] (.block 0 (.loop iW))) (xE iQ [4]))
def Oc:List AR:=[.t 4]
theorem ASO:AU 250 2 ANK Oc:=by kernel_rfl
def iO:=[xv 4 0]
def iN:=[xm 6 0,xA 7 6,xv 8 0]
def Qo:=[xB 9 .lss 8 7]
def iM:=[xm 10 8,xm 5 10]
def iL:=[xm 11 1,xm 12 0,xm 13 5,xI 14 12 13 4,xL 15 14 4,xo (.call (some 16) (xt 11) [(xt 15)])]
def iK:=[xm 17 5,xm 4 17]
def iJ:=[xC 18 .add 8 1,xm 8 18]
def Ka:AC:=xS Qo [0,1,7,8,9] (.seq (xD 9 0) (.seq (.block 1 (xS iM [0,1,5,7,8] (xS iL [0,1,5,7,8,16] (.cond (xt 16) (xE iK [4]) .skip)))) (.reg iJ [0,1,7,8])))
def iI:=[xo (.mv 4 (.c (.v (.int .i64 (-1)))))]
def ANJ:AC:=xS iO [0,1] (.seq (xS iN [0,1,7,8] (.block 0 (.loop Ka))) (xE iI [4]))
def iP:List AR:=[.t 4]
theorem ASN:AU 251 2 ANJ iP:=by kernel_rfl
def iH:=[xv 4 0]
def iG:=[xm 6 0,xA 7 6,xv 8 0]
def Qn:=[xB 9 .lss 8 7]
def iF:=[xm 10 8,xm 5 10]
def iE:=[xm 11 1,xm 12 0,xm 13 5,xI 14 12 13 1,xl 15 14 1,xo (.call (some 16) (xt 11) [(xt 15)])]
def iD:=[xm 17 5,xm 4 17]
def iC:=[xC 18 .add 8 1,xm 8 18]
def KZ:AC:=xS Qn [0,1,7,8,9] (.seq (xD 9 0) (.seq (.block 1 (xS iF [0,1,5,7,8] (xS iE [0,1,5,7,8,16] (.cond (xt 16) (xE iD [4]) .skip)))) (.reg iC [0,1,7,8])))
def iB:=[xo (.mv 4 (.c (.v (.int .i64 (-1)))))]
def AFY:AC:=xS iH [0,1] (.seq (xS iG [0,1,7,8] (.block 0 (.loop KZ))) (xE iB [4]))
def Tg:List AR:=[.t 4]
theorem AJe:AU 252 2 AFY Tg:=by kernel_rfl
def hY:=[xv 4 0]
def gz:=[xm 6 0,xA 7 6,xv 8 0]
def Qm:=[xB 9 .lss 8 7]
def gw:=[xm 10 8,xm 5 10]
def gv:=[xm 11 1,xm 12 0,xm 13 5,xI 14 12 13 3,xL 15 14 3,xo (.call (some 16) (xt 11) [(xt 15)])]
def gu:=[xm 17 5,xm 4 17]
def gt:=[xC 18 .add 8 1,xm 8 18]
def KY:AC:=xS Qm [0,1,7,8,9] (.seq (xD 9 0) (.seq (.block 1 (xS gw [0,1,5,7,8] (xS gv [0,1,5,7,8,16] (.cond (xt 16) (xE gu [4]) .skip)))) (.reg gt [0,1,7,8])))
def gp:=[xo (.mv 4 (.c (.v (.int .i64 (-1)))))]
def ANI:AC:=xS hY [0,1] (.seq (xS gz [0,1,7,8] (.block 0 (.loop KY))) (xE gp [4]))
def iA:List AR:=[.t 4]
theorem ASM:AU 253 2 ANI iA:=by kernel_rfl
def gl:=[xv 4 0]
def gj:=[xm 6 0,xA 7 6,xv 8 0]
def Ql:=[xB 9 .lss 8 7]
def gg:=[xm 10 8,xm 5 10]
def ge:=[xm 11 1,xm 12 0,xm 13 5,xI 14 12 13 3,xL 15 14 3,xo (.call (some 16) (xt 11) [(xt 15)])]
def gZ:=[xm 17 5,xm 4 17]
def gY:=[xC 18 .add 8 1,xm 8 18]
def KX:AC:=xS Ql [0,1,7,8,9] (.seq (xD 9 0) (.seq (.block 1 (xS gg [0,1,5,7,8] (xS ge [0,1,5,7,8,16] (.cond (xt 16) (xE gZ [4]) .skip)))) (.reg gY [0,1,7,8])))
def gX:=[xo (.mv 4 (.c (.v (.int .i64 (-1)))))]
def ANH:AC:=xS gl [0,1] (.seq (xS gj [0,1,7,8] (.block 0 (.loop KX))) (xE gX [4]))
def gm:List AR:=[.t 4]
theorem ASL:AU 254 2 ANH gm:=by kernel_rfl
def gW:=[xx 2 0,xw 3 false]
def gV:=[xa 4 2 0 1,xl 5 4 1,xl 6 1 1,xB 7 .eql 5 6,xm 3 7]
def ANG:AC:=xS gW [1,2] (xE gV [3])
def AAo:List AR:=[.t 3]
theorem ASK:AU 255 2 ANG AAo:=by kernel_rfl
def gU:=[xw 4 false]
def gT:=[xn 5 0,xm 6 1,x2 7 307 5 6,xC 8 .geq 7 0,xm 4 8]
def ANF:AC:=xS gU [0,1] (xE gT [4])
def AAn:List AR:=[.t 4]
theorem ASJ:AU 256 2 ANF AAn:=by kernel_rfl
def gR:=[xx 2 0,xw 3 false]
def gQ:=[xL 4 2 8,x1 5 258 4,xm 6 5,xG 6 true (xL 7 2 8),xG 6 true (xL 8 1 2),xG 6 true (x2 9 259 7 8),xN 10 6 9,xm 3 10]
def ANE:AC:=xS gR [1,2] (xE gQ [3])
def gS:List AR:=[.t 3]
theorem ASI:AU 257 2 ANE gS:=by kernel_rfl
def gP:=[xx 1 0,xw 2 false]
def gO:=[xo (.mv 3 (xf 308))]
def gN:=[xm 4 3,xa 5 1 0 2,xL 6 5 2,xa 7 1 4 1,xl 8 7 1,xa 9 1 6 1,xl 10 9 1,xo (.call (some 11) (xt 4) [(xt 6),(xt 8),(xt 10)]),xT 12 11,xm 13 12,xG 13 false (xm 14 3),xG 13 false (xa 15 1 2 2),xG 13 false (xL 16 15 2),xG 13 false (xa 17 1 5 1),xG 13 false (xl 18 17 1),xG 13 false (xa 19 1 7 1),xG 13 false (xl 20 19 1),xg 13 false (.call (some 21) (xt 14) [(xt 16),(xt 18),(xt 20)]),xG 13 false (xT 22 21),xO 23 13 22]
def Qk:=[xw 2 false]
def gM:=[xL 24 1 8,x1 25 303 24,xe 26 25 0,xe 27 25 1,x2 28 304 26 27,xm 2 28]
def AND:AC:=xS gP [1] (xS gO [1,3] (xQ gN [1,23] 23 (xE Qk [2]) (xE gM [2])))
def Tf:List AR:=[.t 2]
theorem ASH:AU 258 1 AND Tf:=by kernel_rfl
def gL:=[xx 2 0,xx 3 1,xw 4 false]
def gK:=[xo (.mv 5 (xf 310))]
def gJ:=[xa 8 2 6 1,xl 9 8 1,xT 10 9]
def gI:=[xm 11 5,xL 12 3 2,xa 13 2 0 2,xL 14 13 2,xo (.call (some 15) (xt 11) [(xt 12),(xt 14)]),xm 6 15]
def gH:=[xm 16 6,xC 17 .lss 16 0,xm 18 17,xG 18 false (xm 19 6),xG 18 false (xC 20 .eql 19 0),xG 18 false (xm 21 20),xG 21 true (xa 22 2 4 1),xG 21 true (xl 23 22 1),xG 18 false (xN 24 21 23),xO 25 18 24]
def Qj:=[xw 4 false]
def Mh:=[xa 26 2 7 1,xl 27 26 1,xT 28 27]
def Mg:=[xm 29 5,xL 30 3 2,xa 31 2 2 2,xL 32 31 2,xo (.call (some 33) (xt 29) [(xt 30),(xt 32)]),xm 7 33]
def Mf:=[xm 34 7,xC 35 .gtr 34 0,xm 36 35,xG 36 false (xm 37 7),xG 36 false (xC 38 .eql 37 0),xG 36 false (xm 39 38),xG 39 true (xa 40 2 5 1),xG 39 true (xl 41 40 1),xG 36 false (xN 42 39 41),xO 43 36 42]
def G8:=[xw 4 false]
def Dj:=[xw 4 true]
def ANC:AC:=xS gL [2,3] (xS gK [2,3,5] (xQ gJ [2,3,5,10] 10 (xS gI [2,3,5,6] (xS gH [2,3,5,25] (.cond (xt 25) (xE Qj [4]) .skip))) (xQ Mh [2,3,5,28] 28 (xS Mg [2,7] (xS Mf [43] (.cond (xt 43) (xE G8 [4]) .skip))) (xE Dj [4]))))
def EM:List AR:=[.t 4]
theorem ASG:AU 259 2 ANC EM:=by kernel_rfl
def AFX:=[xw 4 false]
def AFW:=[xm 5 0,xC 6 .geq 5 0,xm 7 6,xG 7 true (xm 8 0),xG 7 true (xm 9 1),xG 7 true (xB 10 .leq 8 9),xN 11 7 10,xm 4 11]
def ANA:AC:=xS AFX [0,1] (xE AFW [4])
def AAe:List AR:=[.t 4]
theorem ASF:AU 270 2 ANA AAe:=by kernel_rfl
def gD:=[xx 1 0,xv 2 0]
def gC:=[xa 3 1 1 1,xl 4 3 1,xa 5 1 0 1,xl 6 5 1,xB 7 .shl 4 6,xm 2 7]
def AFV:AC:=xS gD [1] (xE gC [2])
def gE:List AR:=[.t 2]
theorem AJd:AU 271 1 AFV gE:=by kernel_rfl
def gB:=[xv 4 0]
def gA:=[xm 6 0,xA 7 6,xv 8 0]
def Qf:=[xB 9 .lss 8 7]
def fz:=[xm 10 8,xm 5 10]
def fy:=[xm 11 1,xm 12 0,xm 13 5,xI 14 12 13 3,xL 15 14 3,xo (.call (some 16) (xt 11) [(xt 15)])]
def fx:=[xm 17 5,xm 4 17]
def fw:=[xC 18 .add 8 1,xm 8 18]
def KW:AC:=xS Qf [0,1,7,8,9] (.seq (xD 9 0) (.seq (.block 1 (xS fz [0,1,5,7,8] (xS fy [0,1,5,7,8,16] (.cond (xt 16) (xE fx [4]) .skip)))) (.reg fw [0,1,7,8])))
def fv:=[xo (.mv 4 (.c (.v (.int .i64 (-1)))))]
def AFU:AC:=xS gB [0,1] (.seq (xS gA [0,1,7,8] (.block 0 (.loop KW))) (xE fv [4]))
def Tc:List AR:=[.t 4]
theorem AJc:AU 272 2 AFU Tc:=by kernel_rfl
def fq:=[xx 1 0,xo (.mv 2 (.c (.own 3 1 [])))]
def fj:=[xo (.mv 3 (.c (.own 3 1 [])))]
def fg:=[xa 5 1 2 1,xl 6 5 1,xC 7 .neq 6 0]
def ff:=[xn 8 3,xn 2 8]
def fc:=[xa 9 1 3 1,xl 10 9 1,xA 11 10,xv 12 0]
def fZ:=[xB 13 .lss 12 11]
def fY:=[xm 14 12,xm 4 14]
def fX:=[xa 15 1 5 1,xl 16 15 1,xm 17 4,x2 18 316 16 17,xT 19 18]
def fW:=[xn 20 3,xm 21 4,xo (.bsl 22 3 1 [(xt 21)]),xo (.app 23 (xu 20) (xt 22) 3 1 8),xn 3 23]
def Qe:=[xC 24 .add 12 1,xm 12 24]
def ft:AC:=xS fZ [1,3,11,12,13] (.seq (xD 13 0) (.seq (.block 1 (xS fY [1,3,4,11,12] (xS fX [1,3,4,11,12,19] (.cond (xt 19) (.reg fW [1,3,11,12]) .skip)))) (.reg Qe [1,3,11,12])))
def Ta:=[xn 25 3,xn 2 25]
def AM9:AC:=xS fq [1] (xS fj [1,3] (xQ fg [1,3,7] 7 (xE ff [2]) (.seq (xS fc [1,3,11,12] (.block 0 (.loop ft))) (xE Ta [2]))))
def fu:List AR:=[.t 2]
theorem ASE:AU 273 1 AM9 fu:=by kernel_rfl
def fV:=[xo (.alloc 4 [xz,xz,.own 368 8 [],.own 84 4 []]),xv 5 0]
def fU:=[xm 9 0,xm 10 1,x2 11 63 9 10,xm 6 11]
def fT:=[xm 12 6,xC 13 .neq 12 0]
def AFT:=[xp 14 (.build [xz,xz,.nil 368 8,.nil 84 4] []),xm 15 6,xs 4 14 4,xm 5 15]
def fS:=[xn 17 0,xm 18 1,x2 19 317 17 18,xm 20 1,xp 21 (.look (xt 19) (xt 20) false [0] [xz,xz,.nil 368 8,.nil 84 4] true true),xn 16 21,xe 22 16 0,xe 23 16 1,xo (.alloc 7 [xz,xz,.own 368 8 [],.own 84 4 []]),xs 7 22 4,xm 8 23]
def fR:=[xm 24 8,xT 25 24]
def AFS:=[xp 26 (.build [xz,xz,.nil 368 8,.nil 84 4] []),xs 4 26 4,xv 5 4]
def fQ:=[xL 27 7 4,xs 4 27 4,xv 5 0]
def AM8:AC:=xS fV [0,1,4] (.seq (xS fU [0,1,4,6] (xS fT [0,1,4,6,13] (.cond (xt 13) (xE AFT [4,5]) .skip))) (xS fS [4,7,8] (xQ fR [4,7,25] 25 (xE AFS [4,5]) (xE fQ [4,5]))))
def AAd:List AR:=[.c 4 4 true,.t 5]
theorem ASD:AU 274 2 AM8 AAd:=by kernel_rfl
def fO:=[xv 4 0]
def fN:=[xm 6 0,xA 7 6,xv 8 0]
def Qd:=[xB 9 .lss 8 7]
def fM:=[xm 10 8,xm 5 10]
def fL:=[xm 11 1,xm 12 0,xm 13 5,xI 14 12 13 8,xL 15 14 8,xo (.call (some 16) (xt 11) [(xt 15)])]
def fK:=[xm 17 5,xm 4 17]
def fJ:=[xC 18 .add 8 1,xm 8 18]
def KV:AC:=xS Qd [0,1,7,8,9] (.seq (xD 9 0) (.seq (.block 1 (xS fM [0,1,5,7,8] (xS fL [0,1,5,7,8,16] (.cond (xt 16) (xE fK [4]) .skip)))) (.reg fJ [0,1,7,8])))
def fI:=[xo (.mv 4 (.c (.v (.int .i64 (-1)))))]
def AM7:AC:=xS fO [0,1] (.seq (xS fN [0,1,7,8] (.block 0 (.loop KV))) (xE fI [4]))
def fP:List AR:=[.t 4]
theorem ASC:AU 275 2 AM7 fP:=by kernel_rfl
def fH:=[xx 2 0,xw 3 false]
def fG:=[xa 4 2 0 1,xl 5 4 1,xa 6 1 0 1,xl 7 6 1,xB 8 .eql 5 7,xm 3 8]
def AM6:AC:=xS fH [1,2] (xE fG [3])
def AAc:List AR:=[.t 3]
theorem ASB:AU 276 2 AM6 AAc:=by kernel_rfl
def fE:=[xw 4 false]
def fD:=[xn 5 0,xm 6 1,x2 7 318 5 6,xC 8 .geq 7 0,xm 4 8]
def AFR:AC:=xS fE [0,1] (xE fD [4])
def fF:List AR:=[.t 4]
theorem AJb:AU 277 2 AFR fF:=by kernel_rfl
def Qc:=[xx 4 0,xw 5 false]
def Qb:=[xa 6 4 0 2,xL 7 6 2,xa 8 1 1 1,xl 9 8 1,xl 10 2 1,xp 11 (.build [xz,xz] [(0,1,(xt 9)),(1,1,(xt 10))]),xp 12 (.eqA false [0,0] (xt 7) (xt 11)),xm 13 12,xG 13 true (xa 14 4 2 1),xG 13 true (xl 15 14 1),xG 13 true (xa 16 3 3 1),xG 13 true (xl 17 16 1),xG 13 true (xB 18 .lss 15 17),xN 19 13 18,xm 5 19]
def AFQ:AC:=xS Qc [1,2,3,4] (xE Qb [5])
def fC:List AR:=[.t 5]
theorem ASA:AU 278 4 AFQ fC:=by kernel_rfl
def ez:=[xv 3 0]
def ey:=[xm 6 3,xl 7 1 1,xp 8 (.lenS (xt 7)),xB 9 .lss 6 8]
def ew:=[xo (.mv 4 (xj 0))]
def eu:=[xm 12 3,xm 5 12]
def et:=[xm 13 5,xm 14 3,xC 15 .add 14 8,xl 16 1 1,xp 17 (.lenS (xt 16)),xp 18 (.minmax false (xt 15) (xt 17)),xB 19 .lss 13 18]
def eo:=[xm 22 4,xl 23 1 1,xm 24 5,xp 25 (.idxS (xt 23) (xt 24)),xp 26 (.cint .u64 (xt 25)),xm 27 5,xm 28 3,xB 29 .sub 27 28,xb 30 .mul (xi 8) (xt 29),xB 31 .shl 26 30,xB 32 .or 22 31,xm 4 32]
def ep:=[xm 20 5,xC 21 .add 20 1,xm 5 21]
def Qa:AC:=.seq (xS et [0,1,3,4,5,19] (xD 19 2)) (.seq (.block 3 (.reg eo [0,1,3,4,5])) (.reg ep [0,1,3,4,5]))
def em:=[xm 33 0,xm 34 4,xo (.call (some 35) (xt 33) [(xt 34)]),xT 36 35]
def QZ:=[xm 10 3,xC 11 .add 10 8,xm 3 11]
def fA:AC:=.seq (xS ey [0,1,3,9] (xD 9 0)) (.seq (.block 1 (xS ew [0,1,3,4] (.seq (xS eu [0,1,3,4,5] (.block 2 (.loop Qa))) (xS em [0,1,3,36] (.cond (xt 36) .ret .skip))))) (.reg QZ [0,1,3]))
def AFP:AC:=xS ez [0,1,3] (.block 0 (.loop fA))
def fB:List AR:=[]
theorem AJa:AU 279 2 AFP fB:=by kernel_rfl
def ek:=[xo (.alloc 2 [xz,xz,.own 368 8 [],.own 84 4 []]),xv 3 0]
def ei:=[xm 9 0,x1 10 44 9,xm 4 10]
def eh:=[xo (.alloc 5 [xz]),xo (.store (xt 5) (xi 96) 1)]
def eg:=[xm 11 4,x2 12 320 11 5,xo (.alloc 6 [xz,xz,.own 368 8 [],.own 84 4 []]),xs 6 12 4]
def ef:=[xl 13 5 1,xC 14 .lss 13 0,xm 15 14,xG 15 false (xm 16 4),xG 15 false (x1 17 116 16),xG 15 false (xC 18 .neq 17 0),xO 19 15 18]
def AFO:=[xp 20 (.build [xz,xz,.nil 368 8,.nil 84 4] []),xs 2 20 4,xv 3 2]
def ed:=[xL 22 6 4,x1 23 232 22,xn 21 23,xe 24 21 0,xe 25 21 1,xn 7 24,xm 8 25]
def eb:=[xm 26 8,xC 27 .neq 26 0,xm 28 27,xG 28 false (xn 29 7),xG 28 false (xn 30 0),xG 28 false (x2 31 283 29 30),xG 28 false (xT 32 31),xO 33 28 32]
def AFN:=[xp 34 (.build [xz,xz,.nil 368 8,.nil 84 4] []),xs 2 34 4,xv 3 2]
def ea:=[xL 35 6 4,xs 2 35 4,xv 3 0]
def AM5:AC:=xS ek [0,2] (xS ei [0,2,4] (xS eh [0,2,4,5] (xS eg [0,2,4,5,6] (xQ ef [0,2,6,19] 19 (xE AFO [2,3]) (.seq (xS ed [0,2,6,7,8] (xS eb [2,6,33] (.cond (xt 33) (xE AFN [2,3]) .skip))) (xE ea [2,3]))))))
def AAb:List AR:=[.c 2 4 true,.t 3]
theorem AR9:AU 282 1 AM5 AAb:=by kernel_rfl
def eY:=[xw 4 false]
def eX:=[xm 6 0,xA 7 6,xm 8 1,xA 9 8,xB 10 .neq 7 9]
def AFM:=[xw 4 false]
def eW:=[xm 11 0,xA 12 11,xv 13 0]
def eV:=[xB 14 .lss 13 12]
def eU:=[xm 15 13,xm 5 15]
def eT:=[xm 16 0,xm 17 5,xI 18 16 17 1,xl 19 18 1,xm 20 1,xm 21 5,xI 22 20 21 1,xl 23 22 1,xB 24 .neq 19 23]
def AFL:=[xw 4 false]
def eS:=[xC 25 .add 13 1,xm 13 25]
def eZ:AC:=xS eV [0,1,12,13,14] (.seq (xD 14 0) (.seq (.block 1 (xS eU [0,1,5,12,13] (.seq (.regD eT [0,1,12,13,24] (xK [[],[],[0,1],[2],[],[],[4,5],[6],[3,7]])) (.cond (xt 24) (xE AFL [4]) .skip)))) (.reg eS [0,1,12,13])))
def eR:=[xw 4 true]
def AM4:AC:=xS eY [0,1] (xQ eX [0,1,10] 10 (xE AFM [4]) (.seq (xS eW [0,1,12,13] (.block 0 (.loop eZ))) (xE eR [4])))
def AAa:List AR:=[.t 4]
theorem AR8:AU 283 2 AM4 AAa:=by kernel_rfl
def AFK:=[xw 4 false]
def AFJ:=[xm 5 0,x1 6 321 5,xm 7 6,xG 7 true (xm 8 1),xG 7 true (x1 9 321 8),xG 7 true (xT 10 9),xN 11 7 10,xm 12 11,xG 12 false (xm 13 0),xG 12 false (xm 14 1),xG 12 false (xB 15 .lss 13 14),xO 16 12 15,xm 4 16]
def AM3:AC:=xS AFK [0,1] (xE AFJ [4])
def AAZ:List AR:=[.t 4]
theorem AR7:AU 284 2 AM3 AAZ:=by kernel_rfl
def eP:=[xx 1 0,xv 2 0]
def eO:=[xv 3 1]
def eN:=[xv 4 0]
def eM:=[xm 5 4,xa 6 1 3 1,xl 7 6 1,xA 8 7,xB 9 .lss 5 8]
def eK:=[xm 12 3,xa 13 1 3 1,xl 14 13 1,xm 15 4,xI 16 14 15 4,xL 17 16 4,x1 18 285 17,xB 19 .add 12 18,xm 3 19]
def eL:=[xm 10 4,xC 11 .add 10 1,xm 4 11]
def eQ:AC:=.seq (xS eM [1,3,4,9] (xD 9 0)) (.seq (.block 1 (.reg eK [1,3,4])) (.reg eL [1,3,4]))
def eJ:=[xm 20 3,xm 2 20]
def AM2:AC:=xS eP [1] (xS eO [1,3] (.seq (xS eN [1,3,4] (.block 0 (.loop eQ))) (xE eJ [2])))
def AAY:List AR:=[.t 2]
theorem AR6:AU 285 1 AM2 AAY:=by kernel_rfl
def eH:=[xx 1 0,xv 2 0]
def eG:=[xv 3 0]
def eF:=[xv 4 0]
def eE:=[xm 5 4,xa 6 1 3 1,xl 7 6 1,xA 8 7,xB 9 .lss 5 8]
def dz:=[xm 12 3,xa 13 1 3 1,xl 14 13 1,xm 15 4,xI 16 14 15 4,xL 17 16 4,x1 18 286 17,xp 19 (.minmax true (xt 12) (xt 18)),xm 3 19]
def eD:=[xm 10 4,xC 11 .add 10 1,xm 4 11]
def eI:AC:=.seq (xS eE [1,3,4,9] (xD 9 0)) (.seq (.block 1 (.reg dz [1,3,4])) (.reg eD [1,3,4]))
def dy:=[xm 20 3,xC 21 .add 20 1,xm 2 21]
def AM1:AC:=xS eH [1] (xS eG [1,3] (.seq (xS eF [1,3,4] (.block 0 (.loop eI))) (xE dy [2])))
def AAX:List AR:=[.t 2]
theorem AR5:AU 286 1 AM1 AAX:=by kernel_rfl
def dw:=[xx 1 0,xw 2 false]
def dv:=[xL 4 1 4,x1 5 322 4,xT 6 5]
def du:=[xw 2 false]
def dt:=[xv 3 0]
def dq:=[xm 7 3,xa 8 1 3 1,xl 9 8 1,xA 10 9,xB 11 .lss 7 10]
def dl:=[xa 14 1 3 1,xl 15 14 1,xm 16 3,xI 17 15 16 4,xL 18 17 4,x1 19 287 18,xT 20 19]
def dj:=[xw 2 false]
def dm:=[xm 12 3,xC 13 .add 12 1,xm 3 13]
def dx:AC:=.seq (xS dq [1,3,11] (xD 11 0)) (.seq (.block 1 (xS dl [1,3,20] (.cond (xt 20) (xE dj [2]) .skip))) (.reg dm [1,3]))
def di:=[xw 2 true]
def AM0:AC:=xS dw [1] (xQ dv [1,6] 6 (xE du [2]) (.seq (xS dt [1,3] (.block 0 (.loop dx))) (xE di [2])))
def TZ:List AR:=[.t 2]
theorem AR4:AU 287 1 AM0 TZ:=by kernel_rfl
def dh:=[xx 2 0,xw 3 false]
def dg:=[xl 4 1 1,xL 5 2 4,xo (.call (some 6) (xt 4) [(xt 5)]),xT 7 6,xm 3 7]
def AMz:AC:=xS dh [1,2] (xE dg [3])
def AAW:List AR:=[.t 3]
theorem AR3:AU 288 2 AMz AAW:=by kernel_rfl
def de:=[xw 3 false]
def dc:=[xl 4 1 1,xm 5 0,xo (.call (some 6) (xt 4) [(xt 5)]),xT 7 6,xm 3 7]
def AMy:AC:=xS de [0,1] (xE dc [3])
def AAV:List AR:=[.t 3]
theorem AR2:AU 289 2 AMy AAV:=by kernel_rfl
def dZ:=[xx 2 0,xw 3 false]
def dY:=[xl 4 1 1,xL 5 2 3,xo (.call (some 6) (xt 4) [(xt 5)]),xT 7 6,xm 3 7]
def AMx:AC:=xS dZ [1,2] (xE dY [3])
def AAU:List AR:=[.t 3]
theorem AR1:AU 290 2 AMx AAU:=by kernel_rfl
def dX:=[xv 2 0]
def dW:=[xn 6 0,xA 7 6,xv 8 0]
def QY:=[xB 9 .lss 8 7]
def dV:=[xI 10 6 8 2,xL 11 10 2,xo (.alloc 4 [xz,xz]),xs 4 11 2]
def dU:=[xL 12 4 2,x1 13 248 12,xm 5 13]
def QX:=[xm 14 5,xC 15 .neq 14 0]
def dT:=[xm 16 5,xm 2 16]
def dS:=[xC 17 .add 8 1,xm 8 17]
def Me:AC:=xS QY [6,7,8,9] (.seq (xD 9 0) (.seq (.block 1 (xS dV [4,6,7,8] (xS dU [5,6,7,8] (xS QX [5,6,7,8,15] (.cond (xt 15) (xE dT [2]) .skip))))) (.reg dS [6,7,8])))
def dR:=[xv 2 0]
def AMw:AC:=xS dX [0] (.seq (xS dW [6,7,8] (.block 0 (.loop Me))) (xE dR [2]))
def TY:List AR:=[.t 2]
theorem AR0:AU 291 1 AMw TY:=by kernel_rfl
def dQ:=[xx 2 0,xx 3 1,xv 4 0]
def dP:=[xa 7 2 0 1,xl 8 7 1,xa 9 3 1 1,xl 10 9 1,xB 11 .mul 8 10,xa 12 3 0 1,xl 13 12 1,xa 14 2 1 1,xl 15 14 1,xB 16 .mul 13 15,xm 5 11,xm 6 16]
def dN:=[xm 18 5,xm 19 6,xB 20 .lss 18 19,xm 17 20]
def dM:=[xo (.mv 4 (.c (.v (.int .i64 (-1)))))]
def QW:=[xm 22 5,xm 23 6,xB 24 .gtr 22 23,xm 21 24]
def dL:=[xv 4 1]
def dK:=[xv 4 0]
def AMv:AC:=xS dQ [2,3] (.seq (.seq (.regD dP [5,6] (xK [[],[0],[],[2],[1,3],[],[5],[],[7],[6,8],[4],[9,10]])) (.block 0 (xS dN [5,6,17] (.cond (xt 17) (xE dM [4]) (xS QW [21] (.cond (xt 21) (xE dL [4]) .skip)))))) (xE dK [4]))
def TW:List AR:=[.t 4]
theorem ARz:AU 292 2 AMv TW:=by kernel_rfl
def dH:=[xw 4 false]
def dG:=[xn 5 0,xm 6 1,x2 7 323 5 6,xC 8 .geq 7 0,xm 4 8]
def AFI:AC:=xS dH [0,1] (xE dG [4])
def dJ:List AR:=[.t 4]
theorem AJZ:AU 293 2 AFI dJ:=by kernel_rfl
def dF:=[xx 2 0,xw 3 false]
def dE:=[xl 4 1 1,xL 5 2 4,xo (.call (some 6) (xt 4) [(xt 5)]),xT 7 6,xm 3 7]
def AMu:AC:=xS dF [1,2] (xE dE [3])
def AAT:List AR:=[.t 3]
theorem ARy:AU 294 2 AMu AAT:=by kernel_rfl
def dD:=[xv 2 0]
def c8:=[xm 3 0]
def c7:=[xv 2 1]
def cz:=[xv 2 0]
def AMt:AC:=xS dD [0] (xQ c8 [3] 3 (xE c7 [2]) (xE cz [2]))
def AAS:List AR:=[.t 2]
theorem ARx:AU 295 1 AMt AAS:=by kernel_rfl
def cv:=[xx 1 0,xo (.mv 2 (.c (.v .nilf)))]
def cu:=[xp 3 (.mkf 324 [(xt 1)]),xm 2 3]
def AFH:AC:=xS cv [1] (xE cu [2])
def cw:List AR:=[.t 2]
theorem AJY:AU 296 1 AFH cw:=by kernel_rfl
def AFG:=[xm 3 0,xA 4 3,xm 2 4]
def AFF:=[xn 5 0,xm 6 2,xm 7 2,xp 8 (.cint .u64 (xt 7)),x1 9 328 8,xc 10 327 [(xt 5),(xi 0),(xt 6),(xt 9)]]
def AMs:AC:=xS AFG [0,2] (.reg AFF [])
def AAR:List AR:=[]
theorem ARw:AU 299 1 AMs AAR:=by kernel_rfl
def cr:=[xx 3 0]
def cq:=[xo (.alloc 4 [.v .nilf])]
def co:=[xp 5 (.mkf 302 [(xt 1),(xt 2),(xt 3),(xt 4)]),xs 4 5 1]
def cn:=[xl 6 4 1,xp 7 (.load (.g 0 [.int .i64 12,.int .i64 0]) 2 true),xo (.call (some 8) (xt 6) [(xt 7)])]
def AFE:AC:=xS cr [1,2,3] (xS cq [1,2,3,4] (xS co [4] (.reg cn [])))
def ct:List AR:=[]
theorem AJX:AU 301 3 AFE ct:=by kernel_rfl
def cj:=[xx 5 0,xw 6 false]
def ci:=[xL 9 5 2,x1 10 240 9,xl 11 1 1,xB 12 .lss 10 11,xm 13 12,xG 13 false (xL 14 5 2),xG 13 false (x1 15 271 14),xG 13 false (xl 16 2 1),xG 13 false (xB 17 .gtr 15 16),xO 18 13 17]
def AFC:=[xl 19 3 1,xL 20 5 2,xo (.call (some 21) (xt 19) [(xt 20)]),xm 6 21]
def cg:=[xL 22 5 2,x1 23 271 22,xl 24 1 1,xB 25 .geq 23 24,xm 26 25,xG 26 true (xL 27 5 2),xG 26 true (x1 28 240 27),xG 26 true (xl 29 2 1),xG 26 true (xB 30 .leq 28 29),xN 31 26 30]
def cf:=[xw 6 true]
def AFB:=[xL 33 5 2,x1 34 181 33,xn 32 34,xe 35 32 0,xe 36 32 1,xo (.alloc 7 [xz,xz]),xo (.alloc 8 [xz,xz]),xs 7 35 2,xs 8 36 2]
def AFA:=[xl 37 4 1,xL 38 7 2,xo (.call (some 39) (xt 37) [(xt 38)]),xm 40 39,xG 40 true (xl 41 4 1),xG 40 true (xL 42 8 2),xg 40 true (.call (some 43) (xt 41) [(xt 42)]),xN 44 40 43,xm 6 44]
def AFD:AC:=xS cj [1,2,3,4,5] (.seq (.seq (.regD ci [1,2,3,4,5,18] (xK [[],[0],[],[1,2],[3],[4],[5],[4],[6,7],[8]])) (.cond (xt 18) (xE AFC [6]) .skip)) (.seq (.seq (.regD cg [4,5,31] (xK [[],[0],[],[1,2],[3],[4],[5],[4],[6,7],[8]])) (.cond (xt 31) (xE cf [6]) .skip)) (xS AFB [4,7,8] (xE AFA [6]))))
def cm:List AR:=[.t 6]
theorem AJW:AU 302 5 AFD cm:=by kernel_rfl
def cd:=[xx 1 0,xo (.alloc 2 [xz,xz,xz,.v (.bool false)]),xo (.alloc 3 [xz,xz,xz,.v (.bool false)])]
def cc:=[xa 6 1 0 2,xL 7 6 2,xa 8 1 4 1,xl 9 8 1,xp 10 (.build [xz,xz,xz,.v (.bool false)] [(0,1,(xi 0)),(1,2,(xt 7)),(3,1,(xt 9))]),xa 11 1 2 2,xL 12 11 2,xa 13 1 5 1,xl 14 13 1,xT 15 14,xp 16 (.build [xz,xz,xz,.v (.bool false)] [(0,1,(xi 0)),(1,2,(xt 12)),(3,1,(xt 15))]),xo (.alloc 4 [xz,xz,xz,.v (.bool false)]),xo (.alloc 5 [xz,xz,xz,.v (.bool false)]),xs 4 10 4,xs 5 16 4]
def QV:=[xa 17 1 6 1,xl 18 17 1]
def QU:=[xp 19 (.build [xz,xz,xz,.v (.bool false)] [(0,1,(.c (.v (.int .i64 (-1)))))]),xs 4 19 4]
def QT:=[xa 20 1 7 1,xl 21 20 1]
def QS:=[xp 22 (.build [xz,xz,xz,.v (.bool false)] [(0,1,(xi 1))]),xs 5 22 4]
def QR:=[xL 23 4 4,xL 24 5 4,xs 2 23 4,xs 3 24 4]
def AMr:AC:=xS cd [1,2,3] (.seq (.regA cc [1,2,3,4,5] (xK [[],[0],[],[2],[1,3],[],[5],[],[7],[8],[6,9],[],[],[4,11,12],[10,13]]) (.take 0 (.take 1 (.take 2 (.take 3 (.take 4 (.take 5 (.take 7 (.pick (.alt 6 (.pick (.alt 8 (.take 9 tq125) (.alt 11 tq131 (.alt 12 tq133 .none)))) (.alt 8 (.take 9 (.pick (.alt 6 tq125 (.alt 11 tq135 (.alt 12 tq136 .none))))) (.alt 11 (.pick (.alt 6 tq131 (.alt 8 (.take 9 tq135) (.alt 12 tq137 .none)))) (.alt 12 (.pick (.alt 6 tq133 (.alt 8 (.take 9 tq136) (.alt 11 tq137 .none)))) .none))))))))))))) (xQ QV [1,2,3,4,5,18] 18 (.reg QU [1,2,3,4,5]) (xQ QT [2,3,4,5,21] 21 (.reg QS [2,3,4,5]) (.seq (.regA QR [2,3] [[],[],[0],[0,1,2]] (.take 0 (.pick (.alt 1 (.take 2 tq138) (.alt 2 (.take 1 tq138) .none))))) .ret))))
def ce:List AR:=[.c 2 4 true,.c 3 4 true]
theorem ARv:AU 303 1 AMr ce:=by kernel_rfl
def cb:=[xx 2 0,xx 3 1,xw 4 false]
def ca:=[xa 7 2 0 1,xl 8 7 1,xa 9 3 0 1,xl 10 9 1,xB 11 .neq 8 10]
def cZ:=[xa 12 2 0 1,xl 13 12 1,xa 14 3 0 1,xl 15 14 1,xB 16 .lss 13 15,xm 4 16]
def cY:=[xa 17 2 0 1,xl 18 17 1,xC 19 .neq 18 0]
def cX:=[xw 4 false]
def cW:=[xa 20 2 1 2,xa 21 20 0 1,xl 22 21 1,xa 23 3 1 2,xa 24 23 1 1,xl 25 24 1,xB 26 .mul 22 25,xa 27 3 1 2,xa 28 27 0 1,xl 29 28 1,xa 30 2 1 2,xa 31 30 1 1,xl 32 31 1,xB 33 .mul 29 32,xm 5 26,xm 6 33]
def cV:=[xm 34 5,xm 35 6,xB 36 .neq 34 35]
def cU:=[xm 37 5,xm 38 6,xB 39 .lss 37 38,xm 4 39]
def cT:=[xa 40 2 3 1,xl 41 40 1,xT 42 41,xm 43 42,xG 43 true (xa 44 3 3 1),xG 43 true (xl 45 44 1),xN 46 43 45,xm 4 46]
def AMq:AC:=xS cb [2,3] (xQ ca [2,3,11] 11 (xE cZ [4]) (xQ cY [2,3,19] 19 (xE cX [4]) (.seq (.seq (.regD cW [2,3,5,6] (xK [[],[0],[1],[],[3],[4],[2,5],[],[7],[8],[],[10],[11],[9,12],[6],[13,14]])) (xS cV [2,3,5,6,36] (.cond (xt 36) (xE cU [4]) .skip))) (xE cT [4]))))
def Ob:List AR:=[.t 4]
theorem ARu:AU 304 2 AMq Ob:=by kernel_rfl
def cQ:=[xv 2 0]
def cP:=[xn 3 0,xA 4 3,xC 5 .gtr 4 32]
def cO:=[xv 2 4]
def cN:=[xv 2 0]
def AMp:AC:=xS cQ [0] (xQ cP [5] 5 (xE cO [2]) (xE cN [2]))
def cR:List AR:=[.t 2]
theorem ARt:AU 305 1 AMp cR:=by kernel_rfl
def cM:=[xo (.alloc 4 [xz,xz]),xv 5 0]
def cL:=[xm 6 1,xC 7 .eql 6 0]
def AE9:=[xp 8 (.build [xz,xz] []),xs 4 8 2,xv 5 1]
def cK:=[xm 9 0,xC 10 .lss 9 0,xm 11 1,xC 12 .lss 11 0,xp 13 (.eqB true (xt 10) (xt 12)),xm 14 0,x1 15 330 14,xm 16 1,x1 17 330 16,x3 18 329 13 15 17,xe 19 18 0,xe 20 18 1,xs 4 19 2,xm 5 20]
def AMo:AC:=xS cM [0,1,4] (xQ cL [0,1,4,7] 7 (xE AE9 [4,5]) (xE cK [4,5]))
def AAQ:List AR:=[.c 4 2 true,.t 5]
theorem ARs:AU 306 2 AMo AAQ:=by kernel_rfl
def cI:=[xv 4 0]
def cH:=[xm 6 0,xA 7 6,xv 8 0]
def QQ:=[xB 9 .lss 8 7]
def cG:=[xm 10 8,xm 5 10]
def cF:=[xm 11 1,xm 12 0,xm 13 5,xI 14 12 13 8,xL 15 14 8,xo (.call (some 16) (xt 11) [(xt 15)])]
def cE:=[xm 17 5,xm 4 17]
def cD:=[xC 18 .add 8 1,xm 8 18]
def KU:AC:=xS QQ [0,1,7,8,9] (.seq (xD 9 0) (.seq (.block 1 (xS cG [0,1,5,7,8] (xS cF [0,1,5,7,8,16] (.cond (xt 16) (xE cE [4]) .skip)))) (.reg cD [0,1,7,8])))
def cC:=[xo (.mv 4 (.c (.v (.int .i64 (-1)))))]
def AMn:AC:=xS cI [0,1] (.seq (xS cH [0,1,7,8] (.block 0 (.loop KU))) (xE cC [4]))
def cJ:List AR:=[.t 4]
theorem ARr:AU 307 2 AMn cJ:=by kernel_rfl
def cA:=[xx 3 0,xw 6 false]
def QP:=[xm 7 2]
def b9:=[xL 8 3 2,xp 9 (.build [xz,xz] []),xp 10 (.eqA false [0,0] (xt 8) (xt 9)),xm 11 10,xG 11 true (xm 12 1),xG 11 true (xT 13 12),xN 14 11 13,xm 6 14]
def b8:=[xL 15 3 2,x1 16 309 15,xm 6 16]
def AMm:AC:=xS cA [1,2,3] (xQ QP [1,3,7] 7 (xE b9 [6]) (xE b8 [6]))
def cB:List AR:=[.t 6]
theorem ARq:AU 308 3 AMm cB:=by kernel_rfl
def bz:=[xx 1 0,xw 2 false]
def bx:=[xL 3 1 2,x1 4 248 3,xC 5 .eql 4 0,xm 6 5,xG 6 true (xa 7 1 0 1),xG 6 true (xl 8 7 1),xG 6 true (xb 9 .geq (xt 8) (.c (.v (.int .i64 (-1073741824))))),xN 10 6 9,xm 11 10,xG 11 true (xa 12 1 0 1),xG 11 true (xl 13 12 1),xG 11 true (xC 14 .leq 13 1073741824),xN 15 11 14,xm 16 15,xG 16 true (xa 17 1 1 1),xG 16 true (xl 18 17 1),xG 16 true (xC 19 .leq 18 32768),xN 20 16 19,xm 2 20]
def AMl:AC:=xS bz [1] (xE bx [2])
def b7:List AR:=[.t 2]
theorem ARp:AU 309 1 AMl b7:=by kernel_rfl
def QO:=[xx 2 0,xx 3 1,xv 4 0]
def QN:=[xL 8 2 2,xL 9 3 2,x2 10 227 8 9,xn 7 10,xe 11 7 0,xe 12 7 1,xm 5 11,xm 6 12]
def QM:=[xm 13 5,xm 4 13]
def AE8:AC:=xS QO [2,3] (xS QN [5] (xE QM [4]))
def bw:List AR:=[.t 4]
theorem ARo:AU 310 2 AE8 bw:=by kernel_rfl
def bu:=[xw 4 false]
def bt:=[xn 5 0,xm 6 1,x2 7 337 5 6,xC 8 .geq 7 0,xm 4 8]
def AMk:AC:=xS bu [0,1] (xE bt [4])
def AAP:List AR:=[.t 4]
theorem ARn:AU 316 2 AMk AAP:=by kernel_rfl
def bp:=[xo (.mv 4 (.c (.v .nilm)))]
def bj:=[xo (.mkm 15),xm 5 15]
def bh:=[xn 16 0,xm 17 1,xC 18 .add 17 1,xp 19 (.slc (xt 16) none (some (xt 18)) 5),xA 20 19,xv 21 0]
def QK:=[xB 22 .lss 21 20]
def QJ:=[xm 23 21,xI 24 19 21 5,xL 25 24 5,xo (.alloc 7 [.own 3 1 [],xz,xz,.own 368 8 [],.own 84 4 []]),xm 6 23,xs 7 25 5]
def QI:=[xa 26 7 1 4,xL 27 26 4,xo (.alloc 8 [xz,xz,.own 368 8 [],.own 84 4 []]),xs 8 27 4,xw 9 true]
def QH:=[xa 28 7 0 1,xl 29 28 1,xA 30 29,xC 31 .gtr 30 0]
def QG:=[xp 32 (.build [xz,xz,.nil 368 8,.nil 84 4] [(0,1,(xi 5))]),xo (.alloc 10 [xz,xz,.own 368 8 [],.own 84 4 []]),xs 10 32 4]
def QF:=[xa 33 7 0 1,xl 34 33 1,xA 35 34,xv 36 0]
def bg:=[xB 37 .lss 36 35]
def TV:=[xI 38 34 36 1,xl 39 38 1,xm 12 39]
def TU:=[xm 41 5,xm 42 12,xp 43 (.look (xt 41) (xt 42) false [0] [xz,xz,.nil 368 8,.nil 84 4] true true),xn 40 43,xe 44 40 0,xe 45 40 1,xo (.alloc 13 [xz,xz,.own 368 8 [],.own 84 4 []]),xs 13 44 4,xm 14 45]
def TT:=[xa 46 10 3 1,xo (.take 47 (xt 46)),xL 48 13 4,xo (.bsl 49 84 4 [(xt 48)]),xo (.app 50 (xu 47) (xt 49) 84 4 64),xm 51 9,xm 52 51,xG 52 true (xm 53 14),xN 54 52 53,xa 55 10 3 1,xo (.store (xt 55) (xu 50) 1),xm 9 54]
def TS:=[xC 56 .add 36 1,xm 36 56]
def Md:AC:=xS bg [5,6,7,8,9,10,19,20,21,34,35,36,37] (.seq (xD 37 2) (.seq (.block 3 (xS TV [5,6,7,8,9,10,12,19,20,21,34,35,36] (xS TU [5,6,7,8,9,10,13,14,19,20,21,34,35,36] (.reg TT [5,6,7,8,9,10,19,20,21,34,35,36])))) (.reg TS [5,6,7,8,9,10,19,20,21,34,35,36])))
def Mc:=[xa 57 7 1 4,xL 58 57 4,xL 59 10 4,xo (.bsl 60 84 4 [(xt 58),(xt 59)]),xp 61 (.build [xz,xz,.nil 368 8,.nil 84 4] [(0,1,(xi 4)),(3,1,(xt 60))]),xs 8 61 4]
def Mb:=[xm 62 9,xm 63 62,xG 63 true (xL 64 8 4),xG 63 true (x1 65 66 64),xG 63 true (xC 66 .eql 65 0),xN 67 63 66]
def Ma:=[xm 68 5,xm 69 6,xL 70 8 4,xo (.mput (xt 68) (xt 69) (xt 70) false [0])]
def Jb:=[xC 71 .add 21 1,xm 21 71]
def QL:AC:=xS QK [5,19,20,21,22] (.seq (xD 22 0) (.seq (.block 1 (xS QJ [5,6,7,19,20,21] (xS QI [5,6,7,8,9,19,20,21] (xQ QH [5,6,7,8,9,19,20,21,31] 31 (xS QG [5,6,7,8,9,10,19,20,21] (.seq (xS QF [5,6,7,8,9,10,19,20,21,34,35,36] (.block 2 (.loop Md))) (.reg Mc [5,6,8,9,19,20,21]))) (xS Mb [5,6,8,19,20,21,67] (.cond (xt 67) (.reg Ma [5,19,20,21]) .skip)))))) (.reg Jb [5,19,20,21])))
def TR:=[xm 72 5,xm 4 72]
def AMj:AC:=xS bp [0,1] (xS bj [0,1,5] (.seq (xS bh [5,19,20,21] (.block 0 (.loop QL))) (xE TR [4])))
def AAN:List AR:=[.t 4]
theorem ARm:AU 317 2 AMj AAN:=by kernel_rfl
def bf:=[xv 4 0]
def be:=[xm 6 0,xA 7 6,xv 8 0]
def QE:=[xB 9 .lss 8 7]
def bd:=[xm 10 8,xm 5 10]
def bc:=[xm 11 1,xm 12 0,xm 13 5,xI 14 12 13 4,xL 15 14 4,xo (.call (some 16) (xt 11) [(xt 15)])]
def ba:=[xm 17 5,xm 4 17]
def bZ:=[xC 18 .add 8 1,xm 8 18]
def KT:AC:=xS QE [0,1,7,8,9] (.seq (xD 9 0) (.seq (.block 1 (xS bd [0,1,5,7,8] (xS bc [0,1,5,7,8,16] (.cond (xt 16) (xE ba [4]) .skip)))) (.reg bZ [0,1,7,8])))
def bY:=[xo (.mv 4 (.c (.v (.int .i64 (-1)))))]
def AE7:AC:=xS bf [0,1] (.seq (xS be [0,1,7,8] (.block 0 (.loop KT))) (xE bY [4]))
def TQ:List AR:=[.t 4]
theorem AJV:AU 318 2 AE7 TQ:=by kernel_rfl
def AE6:=[xw 2 false]
def AE5:=[xm 3 0,xm 4 0,xB 5 .neq 3 4,xm 2 5]
def AMi:AC:=xS AE6 [0] (xE AE5 [2])
def AAM:List AR:=[.t 2]
theorem ARl:AU 321 1 AMi AAM:=by kernel_rfl
def bX:=[xx 1 0,xw 2 false]
def QD:=[xa 3 1 0 1,xl 4 3 1,xC 5 .neq 4 2,xm 6 5,xG 6 true (xa 7 1 2 1),xG 6 true (xl 8 7 1),xG 6 true (xA 9 8),xG 6 true (xC 10 .gtr 9 0),xN 11 6 10,xm 12 11,xG 12 false (xa 13 1 0 1),xG 12 false (xl 14 13 1),xG 12 false (xC 15 .neq 14 2),xG 12 false (xm 16 15),xG 16 true (xa 17 1 0 1),xG 16 true (xl 18 17 1),xG 16 true (xC 19 .neq 18 1),xG 12 false (xN 20 16 19),xG 12 false (xm 21 20),xG 21 true (xa 22 1 1 1),xG 21 true (xl 23 22 1),xG 21 true (xC 24 .neq 23 0),xG 12 false (xN 25 21 24),xO 26 12 25]
def bW:=[xw 2 false]
def bV:=[xa 27 1 0 1,xl 28 27 1]
def bU:=[xC 30 .eql 28 0,xm 29 30]
def bT:=[xa 31 1 3 1,xl 32 31 1,xA 33 32,xC 34 .eql 33 0,xm 2 34]
def bS:=[xC 36 .eql 28 1,xm 35 36]
def bR:=[xa 37 1 3 1,xl 38 37 1,xA 39 38,xC 40 .eql 39 0,xm 41 40,xG 41 true (xa 42 1 1 1),xG 41 true (xl 43 42 1),xG 41 true (xC 44 .geq 43 0),xN 45 41 44,xm 46 45,xG 46 true (xa 47 1 1 1),xG 46 true (xl 48 47 1),xG 46 true (xC 49 .lss 48 64),xN 50 46 49,xm 2 50]
def bQ:=[xC 52 .eql 28 2,xm 51 52]
def bP:=[xa 53 1 3 1,xl 54 53 1,xA 55 54,xC 56 .eql 55 0,xm 57 56,xG 57 true (xa 58 1 1 1),xG 57 true (xl 59 58 1),xG 57 true (xC 60 .geq 59 0),xN 61 57 60,xm 62 61,xG 62 true (xa 63 1 1 1),xG 62 true (xl 64 63 1),xG 62 true (xC 65 .lss 64 32),xN 66 62 65,xm 67 66,xG 67 true (xa 68 1 2 1),xG 67 true (xl 69 68 1),xG 67 true (x1 70 338 69),xG 67 true (xC 71 .eql 70 0),xN 72 67 71,xm 2 72]
def TP:=[xC 74 .eql 28 3,xm 73 74]
def TO:=[xC 75 .eql 28 6,xm 73 75]
def MZ:=[xa 76 1 3 1,xl 77 76 1,xA 78 77,xC 79 .eql 78 1,xm 2 79]
def TN:=[xa 80 1 0 1,xl 81 80 1,xC 82 .eql 81 4,xm 83 82,xG 83 false (xa 84 1 0 1),xG 83 false (xl 85 84 1),xG 83 false (xC 86 .eql 85 5),xO 87 83 86,xm 2 87]
def AMh:AC:=xS bX [1] (xQ QD [1,26] 26 (xE bW [2]) (.seq (xS bV [1,28] (.block 0 (xS bU [1,28,29] (.cond (xt 29) (xE bT [2]) (xS bS [1,28,35] (.cond (xt 35) (xE bR [2]) (xS bQ [1,28,51] (.cond (xt 51) (xE bP [2]) (.seq (xS TP [1,28,73] (.cond (xt 73) .skip (.reg TO [1,73]))) (.cond (xt 73) (xE MZ [2]) .skip)))))))))) (xE TN [2])))
def Gm:List AR:=[.t 2]
theorem ARk:AU 322 1 AMh Gm:=by kernel_rfl
def bO:=[xv 4 0]
def bN:=[xm 6 0,xA 7 6,xv 8 0]
def QC:=[xB 9 .lss 8 7]
def bM:=[xm 10 8,xm 5 10]
def bL:=[xm 11 1,xm 12 0,xm 13 5,xI 14 12 13 4,xL 15 14 4,xo (.call (some 16) (xt 11) [(xt 15)])]
def bK:=[xm 17 5,xm 4 17]
def bJ:=[xC 18 .add 8 1,xm 8 18]
def KS:AC:=xS QC [0,1,7,8,9] (.seq (xD 9 0) (.seq (.block 1 (xS bM [0,1,5,7,8] (xS bL [0,1,5,7,8,16] (.cond (xt 16) (xE bK [4]) .skip)))) (.reg bJ [0,1,7,8])))
def bI:=[xo (.mv 4 (.c (.v (.int .i64 (-1)))))]
def AE4:AC:=xS bO [0,1] (.seq (xS bN [0,1,7,8] (.block 0 (.loop KS))) (xE bI [4]))
def TM:List AR:=[.t 4]
theorem AJU:AU 323 2 AE4 TM:=by kernel_rfl
def bF:=[xv 3 0]
def bE:=[xm 6 3,xl 7 1 1,xA 8 7,xB 9 .lss 6 8]
def bD:=[xo (.mv 4 (xj 0))]
def bC:=[xm 12 3,xm 5 12]
def bB:=[xm 13 5,xm 14 3,xC 15 .add 14 8,xl 16 1 1,xA 17 16,xp 18 (.minmax false (xt 15) (xt 17)),xB 19 .lss 13 18]
def az:=[xm 22 4,xl 23 1 1,xm 24 5,xI 25 23 24 1,xl 26 25 1,xp 27 (.cint .u64 (xt 26)),xm 28 5,xm 29 3,xB 30 .sub 28 29,xb 31 .mul (xi 8) (xt 30),xB 32 .shl 27 31,xB 33 .or 22 32,xm 4 33]
def bA:=[xm 20 5,xC 21 .add 20 1,xm 5 21]
def QB:AC:=.seq (xS bB [0,1,3,4,5,19] (xD 19 2)) (.seq (.block 3 (.reg az [0,1,3,4,5])) (.reg bA [0,1,3,4,5]))
def ay:=[xm 34 0,xm 35 4,xo (.call (some 36) (xt 34) [(xt 35)]),xT 37 36]
def QA:=[xm 10 3,xC 11 .add 10 8,xm 3 11]
def bG:AC:=.seq (xS bE [0,1,3,9] (xD 9 0)) (.seq (.block 1 (xS bD [0,1,3,4] (.seq (xS bC [0,1,3,4,5] (.block 2 (.loop QB))) (xS ay [0,1,3,37] (.cond (xt 37) .ret .skip))))) (.reg QA [0,1,3]))
def AE3:AC:=xS bF [0,1,3] (.block 0 (.loop bG))
def bH:List AR:=[]
theorem AJT:AU 324 2 AE3 bH:=by kernel_rfl
def AE1:=[xw 8 true]
def AE0:=[xw 9 true]
def AEz:=[xm 19 2,xm 20 1,xB 21 .sub 19 20,xm 10 21]
def AEy:=[xm 22 10,xC 23 .leq 22 12]
def AEx:=[xn 24 0,xm 25 1,xm 26 2,x3 27 340 24 25 26]
def AEw:=[xm 28 3,xC 29 .eql 28 0]
def AEv:=[xn 30 0,xm 31 1,xm 32 2,x3 33 341 30 31 32]
def AEu:=[xm 34 8,xT 35 34]
def AEt:=[xm 36 0,xm 37 1,xm 38 2,x3 39 342 36 37 38]
def AEs:=[xm 40 3,xC 41 .sub 40 1,xm 3 41]
def ul:=[xm 43 0,xm 44 1,xm 45 2,x3 46 343 43 44 45,xn 42 46,xe 47 42 0,xe 48 42 1,xm 11 47,xm 12 48]
def uk:=[xm 49 12,xC 50 .eql 49 2]
def uj:=[xm 51 0,xm 52 1,xm 53 2,x3 54 344 51 52 53]
def ui:=[xm 55 2,xC 56 .sub 55 1,xm 57 11,xm 58 1,xB 59 .sub 57 58,xB 60 .sub 56 59,xm 11 60]
def uh:=[xv 12 1]
def ug:=[xm 61 8,xm 62 61,xG 62 true (xm 63 9),xN 64 62 63,xm 65 64,xG 65 true (xm 66 12),xG 65 true (xC 67 .eql 66 1),xN 68 65 67]
def uf:=[xm 69 0,xm 70 1,xm 71 2,x3 72 345 69 70 71]
def ue:=[xm 73 1,xC 74 .gtr 73 0,xm 75 74,xG 75 true (xm 76 0),xG 75 true (xm 77 1),xG 75 true (xC 78 .sub 77 1),xG 75 true (xI 79 76 78 1),xG 75 true (xl 80 79 1),xG 75 true (xm 81 0),xG 75 true (xm 82 11),xG 75 true (xI 83 81 82 1),xG 75 true (xl 84 83 1),xG 75 true (x2 85 284 80 84),xG 75 true (xT 86 85),xN 87 75 86]
def ud:=[xm 88 0,xm 89 1,xm 90 2,xm 91 11,xc 92 346 [(xt 88),(xt 89),(xt 90),(xt 91)],xm 13 92]
def uc:=[xm 93 13,xm 1 93]
def ub:=[xm 95 0,xm 96 1,xm 97 2,xm 98 11,xc 99 347 [(xt 95),(xt 96),(xt 97),(xt 98)],xn 94 99,xe 100 94 0,xe 101 94 1,xm 14 100,xm 15 101]
def ua:=[xm 102 15,xm 9 102]
def uZ:=[xm 103 14,xm 104 1,xB 105 .sub 103 104,xm 106 2,xm 107 14,xB 108 .sub 106 107,xm 16 105,xm 17 108]
def uY:=[xm 109 10,xC 110 .quo 109 8,xm 18 110]
def uX:=[xm 111 16,xm 112 17,xB 113 .lss 111 112]
def uW:=[xm 114 16,xm 115 18,xB 116 .geq 114 115,xm 8 116]
def uV:=[xm 117 0,xm 118 1,xm 119 14,xm 120 3,xc 121 327 [(xt 117),(xt 118),(xt 119),(xt 120)]]
def uU:=[xm 122 14,xC 123 .add 122 1,xm 1 123]
def uT:=[xm 124 17,xm 125 18,xB 126 .geq 124 125,xm 8 126]
def uS:=[xm 127 0,xm 128 14,xC 129 .add 128 1,xm 130 2,xm 131 3,xc 132 327 [(xt 127),(xt 129),(xt 130),(xt 131)]]
def uR:=[xm 133 14,xm 2 133]
def AE2:AC:=.block 1 (xS AEz [0,1,2,3,8,9,10] (xQ AEy [0,1,2,3,8,9,10,23] 23 (xE AEx []) (xQ AEw [0,1,2,3,8,9,10,29] 29 (xE AEv []) (xQ AEu [0,1,2,3,8,9,10,35] 35 (xS AEt [0,1,2,3,8,9,10] (.reg AEs [0,1,2,3,8,9,10])) (xS ul [0,1,2,3,8,9,10,11,12] (xQ uk [0,1,2,3,8,9,10,11,12,50] 50 (xS uj [0,1,2,3,8,9,10,11] (xS ui [0,1,2,3,8,9,10,11] (.reg uh [0,1,2,3,8,9,10,11,12]))) (xQ ug [0,1,2,3,8,9,10,11,68] 68 (xS uf [0,1,2,3,8,9,10,11,72] (.cond (xt 72) .ret .skip)) (.seq (.seq (.regD ue [0,1,2,3,8,9,10,11,87] (xK [[],[0],[1],[2],[2],[4],[3,5],[6],[2],[2],[8,9],[10],[7,11],[12],[13]])) (.cond (xt 87) (xS ud [0,2,3,8,9,13] (xS uc [0,1,2,3,8,9] (.exit 1))) .skip)) (xS ub [0,1,2,3,10,14,15] (xS ua [0,1,2,3,9,10,14] (xS uZ [0,1,2,3,9,10,14,16,17] (xS uY [0,1,2,3,9,14,16,17,18] (xS uX [0,1,2,3,9,14,16,17,18,113] (.cond (xt 113) (xS uW [0,1,2,3,8,9,14] (xS uV [0,2,3,8,9,14] (.reg uU [0,1,2,3,8,9]))) (xS uT [0,1,2,3,8,9,14] (xS uS [0,1,3,8,9,14] (.reg uR [0,1,2,3,8,9])))))))))))))))))
def AMg:AC:=xS AE1 [0,1,2,3,8] (xS AE0 [0,1,2,3,8,9] (.block 0 (.loop AE2)))
def AAL:List AR:=[]
theorem ARj:AU 327 4 AMg AAL:=by kernel_rfl
def AEr:=[xv 2 0]
def AEq:=[xm 3 0,xp 4 (.cint .u32 (xt 3)),x1 5 348 4,xm 2 5]
def AEp:=[xm 6 0,x1 7 349 6,xm 2 7]
def AMf:AC:=xS AEr [0] (.seq (.cond (xy false) (xE AEq [2]) .skip) (xE AEp [2]))
def AAK:List AR:=[.t 2]
theorem ARi:AU 328 1 AMf AAK:=by kernel_rfl
def ax:=[xo (.alloc 6 [xz,xz]),xv 7 0]
def aw:=[xm 10 1,xm 11 2,x2 12 350 10 11,xm 8 12]
def av:=[xm 13 1,xm 14 8,xB 15 .quo 13 14,xm 16 2,xm 17 8,xB 18 .quo 16 17,xm 1 15,xm 2 18]
def au:=[xm 19 1,xb 20 .gtr (xt 19) (xj 1099511627776),xm 21 20,xG 21 false (xm 22 2),xG 21 false (xb 23 .gtr (xt 22) (xj 1048576)),xO 24 21 23]
def P9:=[xp 25 (.build [xz,xz] []),xs 6 25 2,xv 7 5]
def ar:=[xm 26 1,xp 27 (.cint .i64 (xt 26)),xm 28 2,xp 29 (.cint .i64 (xt 28)),xp 30 (.build [xz,xz] [(0,1,(xt 27)),(1,1,(xt 29))]),xo (.alloc 9 [xz,xz]),xs 9 30 2]
def aq:=[xm 31 0]
def ap:=[xa 32 9 0 1,xl 33 32 1,xp 34 (.neg (xt 33)),xa 35 9 0 1,xs 35 34 1]
def am:=[xL 36 9 2,xs 6 36 2,xv 7 0]
def AMe:AC:=xS ax [0,1,2,6] (xS aw [0,1,2,6,8] (.seq (.regD av [0,1,2,6] (xK [[],[],[0,1],[],[],[3,4],[2],[5,6]])) (xQ au [0,1,2,6,24] 24 (xE P9 [6,7]) (xS ar [0,6,9] (xQ aq [6,9,31] 31 (.reg ap [6,9]) (xE am [6,7]))))))
def TL:List AR:=[.c 6 2 true,.t 7]
theorem ARh:AU 329 3 AMe TL:=by kernel_rfl
def P8:=[xo (.mv 2 (xj 0))]
def P7:=[xm 3 0,xC 4 .lss 3 0]
def ah:=[xm 5 0,xp 6 (.cint .u64 (xt 5)),xp 7 (.neg (xt 6)),xm 2 7]
def af:=[xm 8 0,xp 9 (.cint .u64 (xt 8)),xm 2 9]
def AEo:AC:=xS P8 [0] (xQ P7 [0,4] 4 (xE ah [2]) (xE af [2]))
def aj:List AR:=[.t 2]
theorem ARg:AU 330 1 AEo aj:=by kernel_rfl
def ae:=[xx 1 0,xw 2 false]
def P6:=[xa 5 1 6 1,xl 6 5 1,xm 7 6,xG 7 true (xa 8 1 0 2),xG 7 true (xL 9 8 2),xG 7 true (xp 10 (.build [xz,xz] [])),xG 7 true (xp 11 (.eqA true [0,0] (xt 9) (xt 10))),xG 7 true (xm 12 11),xG 12 false (xa 13 1 4 1),xG 12 false (xl 14 13 1),xG 7 true (xO 15 12 14),xN 16 7 15,xm 17 16,xG 17 false (xa 18 1 7 1),xG 17 false (xl 19 18 1),xG 17 false (xm 20 19),xG 20 true (xa 21 1 2 2),xG 20 true (xL 22 21 2),xG 20 true (xp 23 (.build [xz,xz] [])),xG 20 true (xp 24 (.eqA true [0,0] (xt 22) (xt 23))),xG 20 true (xm 25 24),xG 25 false (xa 26 1 5 1),xG 25 false (xl 27 26 1),xG 20 true (xO 28 25 27),xG 17 false (xN 29 20 28),xO 30 17 29]
def aZ:=[xw 2 false]
def aY:=[xa 31 1 0 2,xL 32 31 2,x1 33 351 32,xm 3 33]
def aX:=[xa 34 1 2 2,xL 35 34 2,x1 36 351 35,xm 4 36]
def P5:=[xa 37 1 6 1,xl 38 37 1,xT 39 38,xm 40 39,xG 40 true (xm 41 3),xG 40 true (xT 42 41),xN 43 40 42,xm 44 43,xG 44 false (xa 45 1 7 1),xG 44 false (xl 46 45 1),xG 44 false (xT 47 46),xG 44 false (xm 48 47),xG 48 true (xm 49 4),xG 48 true (xT 50 49),xG 44 false (xN 51 48 50),xO 52 44 51]
def aW:=[xw 2 false]
def MY:=[xa 53 1 6 1,xl 54 53 1,xm 55 54,xG 55 false (xa 56 1 7 1),xG 55 false (xl 57 56 1),xO 58 55 57]
def P4:=[xw 2 true]
def aV:=[xa 59 1 0 2,xL 60 59 2,xa 61 1 2 2,xL 62 61 2,xp 63 (.eqA false [0,0] (xt 60) (xt 62))]
def TK:=[xa 64 1 4 1,xl 65 64 1,xT 66 65,xm 67 66,xG 67 true (xa 68 1 5 1),xG 67 true (xl 69 68 1),xG 67 true (xT 70 69),xN 71 67 70,xm 2 71]
def TJ:=[xa 72 1 0 2,xL 73 72 2,xa 74 1 2 2,xL 75 74 2,x2 76 352 73 75,xm 2 76]
def AMd:AC:=xS ae [1] (xQ P6 [1,30] 30 (xE aZ [2]) (xS aY [1,3] (xS aX [1,3,4] (xQ P5 [1,52] 52 (xE aW [2]) (xQ MY [1,58] 58 (xE P4 [2]) (xQ aV [1,63] 63 (xE TK [2]) (xE TJ [2])))))))
def KR:List AR:=[.t 2]
theorem ARf:AU 332 1 AMd KR:=by kernel_rfl
def aS:=[xv 4 0]
def aR:=[xm 6 0,xA 7 6,xv 8 0]
def aQ:=[xB 9 .lss 8 7]
def aP:=[xm 10 8,xm 5 10]
def aO:=[xm 11 1,xm 12 0,xm 13 5,xI 14 12 13 1,xl 15 14 1,xB 16 .eql 11 15]
def aN:=[xm 17 5,xm 4 17]
def aM:=[xC 18 .add 8 1,xm 8 18]
def aT:AC:=xS aQ [0,1,7,8,9] (.seq (xD 9 0) (.seq (.block 1 (xS aP [0,1,5,7,8] (xS aO [0,1,5,7,8,16] (.cond (xt 16) (xE aN [4]) .skip)))) (.reg aM [0,1,7,8])))
def aL:=[xo (.mv 4 (.c (.v (.int .i64 (-1)))))]
def AMc:AC:=xS aS [0,1] (.seq (xS aR [0,1,7,8] (.block 0 (.loop aT))) (xE aL [4]))
def aU:List AR:=[.t 4]
theorem ARe:AU 337 2 AMc aU:=by kernel_rfl
def aJ:=[xv 2 0]
def aI:=[xv 3 0]
def aH:=[xm 5 3,xm 6 0,xA 7 6,xB 8 .lss 5 7]
def aG:=[xm 11 0,xm 12 3,xI 13 11 12 8,xL 14 13 8,x1 15 332 14,xm 4 15]
def aF:=[xm 16 4,xT 17 16,xm 18 17,xG 18 false (xm 19 3),xG 18 false (xC 20 .gtr 19 0),xG 18 false (xm 21 20),xG 21 true (xm 22 0),xG 21 true (xm 23 3),xG 21 true (xC 24 .sub 23 1),xG 21 true (xI 25 22 24 8),xG 21 true (xL 26 25 8),xG 21 true (xm 27 0),xG 21 true (xm 28 3),xG 21 true (xI 29 27 28 8),xG 21 true (xL 30 29 8),xG 21 true (x2 31 353 26 30),xG 21 true (xT 32 31),xG 18 false (xN 33 21 32),xO 34 18 33]
def P1:=[xv 2 1]
def P2:=[xm 9 3,xC 10 .add 9 1,xm 3 10]
def aK:AC:=.seq (xS aH [0,3,8] (xD 8 0)) (.seq (.block 1 (xS aG [0,3,4] (.seq (.regD aF [0,3,34] (xK [[],[0],[1],[2],[3],[4],[5],[5],[7],[6,8],[9],[5],[5],[11,12],[13],[10,14],[15],[16],[17]])) (.cond (xt 34) (xE P1 [2]) .skip)))) (.reg P2 [0,3]))
def aE:=[xn 35 0,xA 36 35,xC 37 .gtr 36 32]
def aD:=[xv 2 4]
def aC:=[xv 2 0]
def AMb:AC:=xS aJ [0] (.seq (xS aI [0,3] (.block 0 (.loop aK))) (xQ aE [37] 37 (xE aD [2]) (xE aC [2])))
def Oa:List AR:=[.t 2]
theorem ARd:AU 338 1 AMb Oa:=by kernel_rfl
def AEl:=[xm 8 1,xC 9 .add 8 1,xm 6 9]
def AEk:=[xm 10 6,xm 11 2,xB 12 .lss 10 11]
def AEi:=[xm 15 6,xm 7 15]
def AEh:=[xm 16 7,xm 17 1,xB 18 .gtr 16 17,xm 19 18,xG 19 true (xm 20 0),xG 19 true (xm 21 7),xG 19 true (xI 22 20 21 1),xG 19 true (xl 23 22 1),xG 19 true (xm 24 0),xG 19 true (xm 25 7),xG 19 true (xC 26 .sub 25 1),xG 19 true (xI 27 24 26 1),xG 19 true (xl 28 27 1),xG 19 true (x2 29 284 23 28),xN 30 19 29]
def AEf:=[xm 33 0,xm 34 7,xm 35 0,xm 36 7,xC 37 .sub 36 1,xm 38 0,xm 39 7,xC 40 .sub 39 1,xI 41 38 40 1,xl 42 41 1,xm 43 0,xm 44 7,xI 45 43 44 1,xl 46 45 1,xI 47 33 34 1,xs 47 42 1,xI 48 35 37 1,xs 48 46 1]
def AEg:=[xm 31 7,xC 32 .sub 31 1,xm 7 32]
def AEm:AC:=.seq (.seq (.regD AEh [0,1,2,6,7,30] (xK [[],[],[0,1],[2],[3],[3],[4,5],[6],[3],[3],[9],[8,10],[11],[7,12],[13]])) (xD 30 2)) (.seq (.block 3 (.regD AEf [0,1,2,6,7] (xK [[],[],[],[],[3],[],[],[6],[5,7],[8],[],[],[10,11],[12],[0,1,9,13],[14],[2,4,15],[16]]))) (.reg AEg [0,1,2,6,7]))
def AEj:=[xm 13 6,xC 14 .add 13 1,xm 6 14]
def AEn:AC:=.seq (xS AEk [0,1,2,6,12] (xD 12 0)) (.seq (.block 1 (xS AEi [0,1,2,6,7] (.block 2 (.loop AEm)))) (.reg AEj [0,1,2,6]))
def AMa:AC:=xS AEl [0,1,2,6] (.block 0 (.loop AEn))
def AAJ:List AR:=[]
theorem ARc:AU 340 3 AMa AAJ:=by kernel_rfl
def AEe:=[xv 2 0]
def AEd:=[xm 3 0,xb 4 .geq (xt 3) (xj 4294967296)]
def AEc:=[xm 5 0,xb 6 .shr (xt 5) (xj 32),xm 0 6]
def AEb:=[xv 2 32]
def AEa:=[xm 7 0,xb 8 .geq (xt 7) (xj 65536)]
def AEZ:=[xm 9 0,xb 10 .shr (xt 9) (xj 16),xm 0 10]
def AEY:=[xm 11 2,xC 12 .add 11 16,xm 2 12]
def AEX:=[xm 13 0,xb 14 .geq (xt 13) (xj 256)]
def AEW:=[xm 15 0,xb 16 .shr (xt 15) (xj 8),xm 0 16]
def AEV:=[xm 17 2,xC 18 .add 17 8,xm 2 18]
def uQ:=[xm 19 2,xm 20 0,xp 21 (.cint .u8 (xt 20)),xp 22 (.idxS (.c (.v (.str ⟨#[0,1,2,2,3,3,3,3,4,4,4,4,4,4,4,4,5,5,5,5,5,5,5,5,5,5,5,5,5,5,5,5,6,6,6,6,6,6,6,6,6,6,6,6,6,6,6,6,6,6,6,6,6,6,6,6,6,6,6,6,6,6,6,6,7,7,7,7,7,7,7,7,7,7,7,7,7,7,7,7,7,7,7,7,7,7,7,7,7,7,7,7,7,7,7,7,7,7,7,7,7,7,7,7,7,7,7,7,7,7,7,7,7,7,7,7,7,7,7,7,7,7,7,7,7,7,7,7,8,8,8,8,8,8,8,8,8,8,8,8,8,8,8,8,8,8,8,8,8,8,8,8,8,8,8,8,8,8,8,8,8,8,8,8,8,8,8,8,8,8,8,8,8,8,8,8,8,8,8,8,8,8,8,8,8,8,8,8,8,8,8,8,8,8,8,8,8,8,8,8,8,8,8,8,8,8,8,8,8,8,8,8,8,8,8,8,8,8,8,8,8,8,8,8,8,8,8,8,8,8,8,8,8,8,8,8,8,8,8,8,8,8,8,8,8,8,8,8,8,8,8,8,8,8,8,8]⟩))) (xt 21)),xp 23 (.cint .i64 (xt 22)),xB 24 .add 19 23,xm 2 24]
def AMZ:AC:=xS AEe [0,2] (xQ AEd [0,2,4] 4 (xS AEc [0] (.reg AEb [0,2])) (xQ AEa [0,2,8] 8 (xS AEZ [0,2] (.reg AEY [0,2])) (xQ AEX [0,2,14] 14 (xS AEW [0,2] (.reg AEV [0,2])) (xE uQ [2]))))
def AAI:List AR:=[.t 2]
theorem ARb:AU 349 1 AMZ AAI:=by kernel_rfl
def aB:=[xo (.mv 4 (xj 0))]
def P0:=[xm 5 1,xb 6 .gtr (xt 5) (xj 0)]
def aA:=[xm 7 1,xm 8 0,xm 9 1,xB 10 .rem 8 9,xm 0 7,xm 1 10]
def MX:AC:=.seq (xS P0 [0,1,6] (xD 6 0)) (.block 1 (.regD aA [0,1] (xK [[],[],[],[1,2],[0,1],[3,4]])))
def Z9:=[xm 11 0,xm 4 11]
def AMM:AC:=xS aB [0,1] (.seq (.block 0 (.loop MX)) (xE Z9 [4]))
def AAH:List AR:=[.t 4]
theorem ARa:AU 350 2 AMM AAH:=by kernel_rfl
def Z7:=[xx 1 0,xw 2 false]
def Z6:=[xL 3 1 2,x1 4 127 3,xC 5 .eql 4 0,xm 6 5,xG 6 true (xa 7 1 0 1),xG 6 true (xl 8 7 1),xG 6 true (xC 9 .leq 8 1073741824),xN 10 6 9,xm 11 10,xG 11 true (xa 12 1 0 1),xG 11 true (xl 13 12 1),xG 11 true (xb 14 .geq (xt 13) (.c (.v (.int .i64 (-1073741824))))),xN 15 11 14,xm 16 15,xG 16 true (xa 17 1 1 1),xG 16 true (xl 18 17 1),xG 16 true (xC 19 .leq 18 32768),xN 20 16 19,xm 2 20]
def AML:AC:=xS Z7 [1] (xE Z6 [2])
def Z8:List AR:=[.t 2]
theorem ARZ:AU 351 1 AML Z8:=by kernel_rfl
def Z5:=[xx 2 0,xx 3 1,xw 4 false]
def Z4:=[xa 5 2 0 1,xl 6 5 1,xa 7 3 1 1,xl 8 7 1,xB 9 .mul 6 8,xa 10 3 0 1,xl 11 10 1,xa 12 2 1 1,xl 13 12 1,xB 14 .mul 11 13,xB 15 .lss 9 14,xm 4 15]
def AMK:AC:=xS Z5 [2,3] (xE Z4 [4])
def AAG:List AR:=[.t 4]
theorem ARY:AU 352 2 AMK AAG:=by kernel_rfl
def Z3:=[xx 2 0,xx 3 1,xw 4 false]
def MW:=[xa 5 2 7 1,xl 6 5 1,xm 7 6,xG 7 false (xa 8 3 6 1),xG 7 false (xl 9 8 1),xO 10 7 9]
def Pz:=[xw 4 false]
def Z1:=[xa 11 2 2 2,xL 12 11 2,xa 13 3 0 2,xL 14 13 2,xp 15 (.eqA false [0,0] (xt 12) (xt 14))]
def Z0:=[xa 16 2 5 1,xl 17 16 1,xm 18 17,xG 18 true (xa 19 3 4 1),xG 18 true (xl 20 19 1),xN 21 18 20,xm 4 21]
def Zz:=[xa 22 2 2 2,xL 23 22 2,xa 24 3 0 2,xL 25 24 2,x2 26 352 23 25,xm 4 26]
def AMJ:AC:=xS Z3 [2,3] (xQ MW [2,3,10] 10 (xE Pz [4]) (xQ Z1 [2,3,15] 15 (xE Z0 [4]) (xE Zz [4])))
def OZ:List AR:=[.t 4]
theorem ARX:AU 353 2 AMJ OZ:=by kernel_rfl
def tb0:List (Nat×Nat×AC×List AR):=[(13,2,c13,vH),(17,1,c17,AOC),(20,0,c20,ANy)]
theorem ACX:∀x∈tb0,DT Tryz.prog GLx x.1 x.2.1 x.2.2.1 x.2.2.2=true:=by
 simp only[tb0,AUX,AT2,false_implies,implies_true,and_true];exact⟨k13,k17,k20⟩
def tb1:List (Nat×Nat×AC×List AR):=[(34,4,c34,AMY),(39,2,c39,AMI),(40,1,c40,ALy),(50,0,c50,ADv),(51,1,c51,uL),(52,3,c52,Vd),(57,1,c57,ALm),(59,2,c59,ALj),(61,2,c61,uK)]
theorem ACV:∀x∈tb1,DT Tryz.prog GLx x.1 x.2.1 x.2.2.1 x.2.2.2=true:=by
 simp only[tb1,AUX,AT2,false_implies,implies_true,and_true];exact⟨k34,k39,k40,k50,k51,k52,k57,k59,k61⟩
def tb2:List (Nat×Nat×AC×List AR):=[(86,2,c86,ALX),(87,1,c87,ALQ),(88,1,c88,ADi),(89,5,c89,ALE),(90,2,c90,uI),(91,2,c91,AKu),(92,2,c92,AKi),(95,2,c95,AKW)]
theorem ACU:∀x∈tb2,DT Tryz.prog GLx x.1 x.2.1 x.2.2.1 x.2.2.2=true:=by
 simp only[tb2,AUX,AT2,false_implies,implies_true,and_true];exact⟨k86,k87,k88,k89,k90,k91,k92,k95⟩
def tb3:List (Nat×Nat×AC×List AR):=[(96,2,c96,ADc),(98,2,c98,ADb),(99,2,c99,ADa),(100,2,AHi,sm),(102,1,AHh,sb),(117,1,Vj,Lh),(120,2,AHc,r7),(121,1,AOx,ABz),(122,1,AOw,ABy)]
theorem ACT:∀x∈tb3,DT Tryz.prog GLx x.1 x.2.1 x.2.2.1 x.2.2.2=true:=by
 simp only[tb3,AUX,AT2,false_implies,implies_true,and_true];exact⟨k96,k98,k99,AKG,AKF,AC3,AKE,ATN,ATM⟩
def tb4:List (Nat×Nat×AC×List AR):=[(128,1,AHU,IB),(129,2,AHT,rK),(130,1,AHS,Up),(131,1,AHR,qq),(132,3,AHQ,qn),(133,2,AHP,qi),(137,3,AHO,qf),(138,1,AHK,Kc),(151,2,AHG,oz)]
theorem ACS:∀x∈tb4,DT Tryz.prog GLx x.1 x.2.1 x.2.2.1 x.2.2.2=true:=by
 simp only[tb4,AUX,AT2,false_implies,implies_true,and_true];exact⟨AKD,AKC,AKB,AKA,AJ9,AJ8,AJ7,AJ6,AJ4⟩
def tb5:List (Nat×Nat×AC×List AR):=[(176,1,AOF,ABR),(177,2,AGv,oN),(178,3,AOE,ABQ),(179,4,AOD,ABP),(180,3,AN9,ABO),(181,1,AGS,oK),(182,2,AGR,Oj),(183,2,AGQ,oE),(189,1,AGM,nk),(190,2,AGL,nh)]
theorem ACR:∀x∈tb5,DT Tryz.prog GLx x.1 x.2.1 x.2.2.1 x.2.2.2=true:=by
 simp only[tb5,AUX,AT2,false_implies,implies_true,and_true];exact⟨ASw,AJ3,ASv,ASu,ASt,AJ2,AJ1,AJ0,AJz,AJy⟩
def tb6:List (Nat×Nat×AC×List AR):=[(192,2,AGK,nX),(193,1,AGJ,nT),(194,2,AGI,nQ),(208,2,uv,UC),(209,1,ANz,ABF),(210,1,ANn,ABE),(216,3,AFr,lX),(217,2,AFq,lU),(219,2,AFp,T1),(221,2,AFo,lG),(223,2,AFn,Ty)]
theorem ACQ:∀x∈tb6,DT Tryz.prog GLx x.1 x.2.1 x.2.2.1 x.2.2.2=true:=by
 simp only[tb6,AUX,AT2,false_implies,implies_true,and_true];exact⟨AJx,AJw,AJv,AJu,ASl,ASk,AJs,AJr,AJq,AJp,AJo⟩
def tb7:List (Nat×Nat×AC×List AR):=[(225,2,AFm,kf),(228,2,AFl,Tx),(230,2,AFk,kJ),(233,2,AFj,Tp),(234,2,AFi,js),(237,1,ANY,AA4),(238,1,AFd,jl),(239,2,AFc,ji),(240,1,AFb,jf),(252,2,AFY,Tg)]
theorem ACP:∀x∈tb7,DT Tryz.prog GLx x.1 x.2.1 x.2.2.1 x.2.2.2=true:=by
 simp only[tb7,AUX,AT2,false_implies,implies_true,and_true];exact⟨AJn,AJm,AJl,AJk,AJj,ASW,AJi,AJh,AJg,AJe⟩
def tb8:List (Nat×Nat×AC×List AR):=[(270,2,ANA,AAe),(271,1,AFV,gE),(272,2,AFU,Tc),(277,2,AFR,fF),(279,2,AFP,fB),(284,2,AM3,AAZ)]
theorem ACO:∀x∈tb8,DT Tryz.prog GLx x.1 x.2.1 x.2.2.1 x.2.2.2=true:=by
 simp only[tb8,AUX,AT2,false_implies,implies_true,and_true];exact⟨ASF,AJd,AJc,AJb,AJa,AR7⟩
def tb9:List (Nat×Nat×AC×List AR):=[(293,2,AFI,dJ),(296,1,AFH,cw),(299,1,AMs,AAR),(301,3,AFE,ct),(302,5,AFD,cm),(318,2,AE7,TQ)]
theorem ACN:∀x∈tb9,DT Tryz.prog GLx x.1 x.2.1 x.2.2.1 x.2.2.2=true:=by
 simp only[tb9,AUX,AT2,false_implies,implies_true,and_true];exact⟨AJZ,AJY,ARw,AJX,AJW,AJV⟩
def ACW:List (Nat×Nat×AC×List AR):=[(321,1,AMi,AAM),(323,2,AE4,TM),(324,2,AE3,bH),(327,4,AMg,AAL),(328,1,AMf,AAK),(340,3,AMa,AAJ),(349,1,AMZ,AAI)]
theorem tI:∀x∈ACW,DT Tryz.prog GLx x.1 x.2.1 x.2.2.1 x.2.2.2=true:=by
 simp only[ACW,AUX,AT2,false_implies,implies_true,and_true];exact⟨ARl,AJU,AJT,ARj,ARi,ARc,ARb⟩
def EX (l:List (Nat×Nat×AC×List AR)) (f:Nat):Option (Nat×AC×List AR):=
 match l with
 |[]=>none
 |x::l=>if x.1=f then some x.2 else EX l f
theorem Cm {l:List (Nat×Nat×AC×List AR)} (h:∀x∈l,DT Tryz.prog GLx x.1 x.2.1 x.2.2.1 x.2.2.2=true):∀f n ac rs,EX l f=some (n,ac,rs)→DT Tryz.prog GLx f n ac rs=true:=by
 induction l with
 |nil=>intro f n ac rs hl;cases hl
 |cons x l ih=>
  intro f n ac rs hl;simp only[EX]at hl;split at hl
  ·rename_i hx;simp only[ATm]at hl;have:=h x (by simp);rw[hx,hl]at this;exact this
  ·exact ih (λy hy=>h y (by simp[hy])) f n ac rs hl
def Tb:Tbl:=λf=>match f/32 with
 |0=>EX tb0 f
 |1=>EX tb1 f
 |2=>EX tb2 f
 |3=>EX tb3 f
 |4=>EX tb4 f
 |5=>EX tb5 f
 |6=>EX tb6 f
 |7=>EX tb7 f
 |8=>EX tb8 f
 |9=>EX tb9 f
 |10=>EX ACW f
 |_=>none
theorem Ou:∀f n ac rs,Tb f=some (n,ac,rs)→DT Tryz.prog GLx f n ac rs=true:=by
 intro f n ac rs h;unfold Tb at h;split at h
 ·exact Cm ACX f n ac rs h
 ·exact Cm ACV f n ac rs h
 ·exact Cm ACU f n ac rs h
 ·exact Cm ACT f n ac rs h
 ·exact Cm ACS f n ac rs h
 ·exact Cm ACR f n ac rs h
 ·exact Cm ACQ f n ac rs h
 ·exact Cm ACP f n ac rs h
 ·exact Cm ACO f n ac rs h
 ·exact Cm ACN f n ac rs h
 ·exact Cm tI f n ac rs h
 ·cases h
section
variable {P:Program} {GL:AV}
theorem Aw {c:AC} {Q:AExit→St→Prop} {s s1:St} (h:awp P GL c (λe s'=>match e with| .normal=>s'=s1|e=>Q e s') s) (h1:awp P GL (.loop c) Q s1):awp P GL (.loop c) Q s:=by
 obtain⟨n,hn⟩:=Lk h1;refine LoopW.awp (n:=n+1) (AX c ?_ h);intro e s' h;cases e with
 |normal=>subst h;exact hn
 |exit i=>exact h
 |ret=>exact h
theorem Af {c:AC} {Q:AExit→St→Prop} {s:St} (h:awp P GL c (λe s'=>match e with| .normal=>False|e=>Q e s') s):awp P GL (.loop c) Q s:=by
 refine LoopW.awp (n:=1) (AX c ?_ h);intro e s' h;cases e with
 |normal=>exact h.elim
 |exit i=>exact h
 |ret=>exact h
theorem BU {h:List Row} {r:Nat} {x y:Row} (hr:h[r]?=some y):(h.set r x)[r]?=some x:=AUJ (ATp.1 hr).1
theorem GT (h:List Row) (x:Row):(h++[x])[h.length]?=some x:=by simp
theorem AS {h:List Row} {r:Nat} {y:Row} (l:List Row) (hr:h[r]?=some y):(h++l)[r]?=some y:=by
 rw[AUB (ATp.1 hr).1];exact hr
theorem CJ {h:List Row} {r:Nat} {y:Row} (hr:h[r]?=some y):r <h.length:=(ATp.1 hr).1
theorem tO (h:List Row) (x y:Row):(h++[x]).set h.length y=h++[y]:=by
 rw[AVb _ _ (ATs _)];simp
end
theorem AQT (n:Int) (hn:i64 n):PX 193 [.int .i64 n] [.int .u64 (II n)]:=by
 refine AK AJw rfl ?_;simp[AGJ,awp,nS,nR,nT,AY];have e1:((2:Int)^min 1 IntKind.u64.bits)=2:=by decide
 have e2:((2:Int)^min 63 IntKind.i64.bits)=9223372036854775808:=by decide
 have e3:((2:Int)^IntKind.u64.bits)=18446744073709551616:=by decide
 simp only[e1,e2,e3,Ez];unfold i64 at hn;unfold II;by_cases h0:n <0
 ·have q:n.fdiv 9223372036854775808= -1:=by rw[AVc _ (by decide)];omega
  have a1:(n%18446744073709551616*2%18446744073709551616%18446744073709551616).toNat=(18446744073709551616+2*n).toNat:=by congr 1;omega
  have a2:(n.fdiv 9223372036854775808%18446744073709551616%18446744073709551616).toNat=2^64-1:=by rw[q];rfl
  rw[a1,a2,Nb _ (by omega),if_pos h0];omega
 ·have q:n.fdiv 9223372036854775808=0:=by rw[AVc _ (by decide)];omega
  have a1:(n%18446744073709551616*2%18446744073709551616%18446744073709551616).toNat=(2*n).toNat:=by congr 1;omega
  have a2:(n.fdiv 9223372036854775808%18446744073709551616%18446744073709551616).toNat=0:=by rw[q];rfl
  rw[a1,a2,Nat.xor_zero,if_neg h0];omega
theorem tb {n:Int}:IntKind.u8.wrap (((IntKind.u8.wrap n%2^IntKind.u8.bits).toNat ||| 128%2^IntKind.u8.bits:Nat):Int)=128+n%128:=by
 have e3:((2:Int)^IntKind.u8.bits)=256:=by decide
 have e4:(128%2^IntKind.u8.bits)=128:=by decide
 rw[e3,e4];have hm:(IntKind.u8.wrap n%256).toNat <256:=by rw[Fk];omega
 rw[AIi _ hm,Fk,Fk];omega
theorem ARM (k:Nat):∀(n:Int) (h:List Row) (r:Nat) (xs:List Int),0≤n→n <128^(k+1)→n <18446744073709551616→h[r]?=some (wr xs)→xs.length+k≤2^46→
  ∃ys m,DH k n=ys++[m]∧0≤m∧m <128∧
  awp Tryz.prog GLx (.loop Kb) (λe s=>e= .exit 0∧s=⟨[(0,.ref r 0),(1,.v (.int .u64 m)),(5,.v (.bool false))],h.set r (wr (xs++ys))⟩) ⟨[(0,.ref r 0),(1,.v (.int .u64 n))],h⟩:=by
 induction k with
 |zero=>
  intro n h r xs h0 h1 h2 hr hl;refine⟨[],n,rfl,h0,by simpa using h1,?_⟩;have h3':(128:Int)^(0+1)=128:=by decide
  have h3:¬128≤n:=by omega
  refine Af ?_;simp only[Kb,AB,AA,AF,AE,Mr];simp[h3,AM,Fo hr]
 |succ k ih=>
  intro n h r xs h0 h1 h2 hr hl;by_cases h3:128≤n
  ·have hr2:∀x,(h.set r x)[r]?=some x:=λx=>BU hr;have hd0:0≤n/128:=by omega
   have hd1:n/128 <128^(k+1):=AWT (by decide) (by rw[←AVZ];exact h1);obtain⟨ys,m,e1,e2,e3,hw⟩:=ih (n/128) (h.set r (wr (xs++[128+n%128]))) r (xs++[128+n%128]) hd0 hd1 (by omega) (hr2 _) (by simp;omega);refine⟨(128+n%128)::ys,m,?_,e2,e3,?_⟩
   ·simp only[DH,if_neg (show ¬n <128 by omega),e1,AUl]
   ·refine Aw (s1:=⟨[(0,.ref r 0),(1,.v (.int .u64 (n/128)))],h.set r (wr (xs++[128+n%128]))⟩) ?_ ?_
    ·simp only[Kb,AB,AA,AF,AE,Mr];simp[h3,AD];have hroom:Ah (xs.length+1) 1=true:=by simp[Ah];omega
     have e5:((2:Int)^min 7 IntKind.u64.bits)=128:=by decide
     simp only[AA,nV,nW];simp[hr,wr,hr2,V.cells,EE,CT,hroom,tb,e5,AVc]
    ·rw[AU6]at hw;simpa using hw
  ·refine⟨[],n,by simp only[DH,if_pos (show n <128 by omega)];rfl,h0,by omega,?_⟩;refine Af ?_;simp only[Kb,AB,AA,AF,AE,Mr];simp[h3,AM,Fo hr]
theorem ACk (n:Int) (hn:u64 n) (h:List Row) (r:Nat) (xs:List Int) (hr:h[r]?=some (wr xs)) (hl:xs.length≤2^45):FX 192 [.ref r 0,.v (.int .u64 n)] h [] (h.set r (wr (xs++Gq n))):=by
 refine AN AJx rfl ?_;unfold u64 at hn;have h128:(128:Int)^(9+1)=1180591620717411303424:=by decide
 obtain⟨ys,m,e1,e2,e3,hw⟩:=ARM 9 n h r xs hn.1 (by omega) hn.2 hr (by omega);have hys:ys.length≤9:=by have:=IJ 9 n;rw[e1]at this;simp at this;omega
 simp only[AGK,AB,AF,AQ];simp;refine HC hw ?_;have hr2:∀x,(h.set r x)[r]?=some x:=λx=>BU hr;have hroom:Ah (xs.length+ys.length+1) 1=true:=by simp[Ah];omega
 simp only[AA,nU];simp[wr,hr2,V.cells,EE,CT,hroom,tF e2 (show m <256 by omega),nX,DW,Gq,e1]
theorem WN (a b:Int):PX 190 [.int .u64 a,.int .u64 b] [.int .u64 (Fg a b)]:=by
 refine AK AJy rfl ?_;simp[AGL,awp,nf,nZ,nY,nh,AY];have e:((2:Int)^min 32 IntKind.u64.bits)=4294967296:=by decide
 rw[e,AVc _ (by decide)];rfl
def U7 (label:List Int) (l:List Int):Int:=
 Fg (l.foldl (λs n=>Fg s (IntKind.u64.wrap n)) (Fg (Fg ((BD label).foldl Fg 0) label.length) l.length)) 0
def Ai (b:ByteArray):List Int:=b.data.toList.map λc=>(c.toNat:Int)
attribute [simp] DR D.norm Ar D.arg BQ BU GT V.cells DW AR.d D.keep
@[simp] theorem AC8 (s:Nat):CT s []=true:=rfl
@[simp] theorem wH (s:Nat) (x:V) (xs:List V):CT s (x::xs)=(x.cells.length==s):=rfl
@[simp] theorem AC9 (k:IntKind) (l:List Int):CT 1 (l.map (V.int k))=true:=by cases l<;>rfl
theorem Ac {P:Program} {GL:AV} {c:AC} {Q:AExit→St→Prop} (n:Nat) (S:Nat→St) {s:St} (hs:s=S 0)
  (h:∀k,k≤n→awp P GL c (λe s'=>match e with| .normal=>k <n∧s'=S (k+1)|e=>Q e s') (S k)):awp P GL (.loop c) Q s:=
 hs▸NY n S h 0 (AUR _)
theorem DC {α β:Type} {f:α→List β} {l:List α} {k:Nat} (h:k <l.length):(l.take (k+1)).flatMap f=(l.take k).flatMap f++f l[k]:=by
 rw[AUx h,AVd];simp
theorem p98 (n:Int) (hn:i64 n) (h:List Row) (r:Nat) (xs:List Int) (hr:h[r]?=some (wr xs)) (hl:xs.length≤2^45):FX 98 [.ref r 0,.v (.int .i64 n)] h [] (h.set r (wr (xs++Ag n))):=by
 refine AN k98 rfl ?_;simp[c98,awp,wc,ADb,AQ];refine⟨_,_,(AQT n hn).fsp h,?_⟩;simp;exact⟨_,(ACk (II n) (HF hn) h r xs hr hl)⟩
theorem AQS (b:ByteArray) (hb:b.size≤2^40) (h:List Row) (r:Nat) (xs:List Int) (hr:h[r]?=some (wr xs)) (hl:xs.length≤2^45):FX 194 [.ref r 0,.v (.str b)] h [] (h.set r (wr (xs++BI (Ai b)))):=by
 refine AN AJv rfl ?_;have hbl:(Ai b).length=b.size:=by simp[Ai]
 have w1:IntKind.u64.wrap (b.size:Int)=b.size:=Bg (by omega) (by omega);simp[AGI,awp,nP,nO,nQ,AQ,w1];refine⟨_,_,(ACk b.size ⟨by omega,by omega⟩ h r xs hr hl),?_⟩;have hu:=DG b.size;have hroom:Ah (xs.length+(Gq b.size).length+b.size) 1=true:=by simp[Ah];omega
 simp[BU hr,wr,hroom,BI,hbl];simp[Ai,AWF]
theorem AIf (xs:List Int) (hb:xs.length≤2^45):∀h,FX 117 [.v (AL .u8 xs)] h [.own 5 1 (xs.map (.int .u8))] h:=by
 intro h;refine AN AC3 rfl ?_;have hroom:Ah xs.length 1=true:=by simp[Ah];omega
 cases xs with
 |nil=>simp[Vj,awp,Ki,Kh,Kg,Kf,Lh,AQ,AL,Ah]
 |cons x xs=>simp[Vj,awp,Ki,Kh,Kg,Kf,Lh,AQ,AL]at hroom ⊢;simp[hroom]
theorem ACr (h:List Row) (r:Nat) (xs:List Int) (hr:h[r]?=some (wr xs)) (hl:xs.length≤2^45):FX 102 [.ref r 0] h [.own 5 1 (xs.map (.int .u8))] h:=by
 refine AN AKF rfl ?_;simp[AHh,awp,sa,sZ,sb,AQ,hr,wr];refine⟨_,(AIf xs hl h),?_⟩;simp
theorem ACs (l:List Int) (hi:∀n∈l,i64 n) (hb:l.length≤2^40) (h:List Row) (r:Nat) (xs:List Int) (hr:h[r]?=some (wr xs)) (hl:xs.length≤2^44):FX 100 [.ref r 0,.v (AL .i64 l)] h [] (h.set r (wr (xs++BF l))):=by
 refine AN AKG rfl ?_;have w1:IntKind.u64.wrap (l.length:Int)=l.length:=Bg (by omega) (by omega);simp only[AHi,AB,AF,AA,sj,si,AQ];simp[AL,w1];refine⟨_,_,(ACk l.length ⟨by omega,by omega⟩ h r xs hr (by omega)),?_⟩;have hu:=DG l.length
 try simp
 refine Ac l.length (λk=>⟨[(0,.ref r 0),(11,.v (AL .i64 l)),(12,.v (.int .i64 l.length)),(13,.v (.int .i64 k))],h.set r (wr (xs++(Gq l.length++(l.take k).flatMap Ag)))⟩) (by simp[AL]) ?_;intro k hk;simp only[sk,AB,AA,AF,AE,sg];simp[AL];by_cases h1:k <l.length
 ·have hx:l[k]?=some l[k]:=ATo h1;have hw:IntKind.i64.wrap ((k:Int)+1)=k+1:=AJ;rw[if_pos (by omega),AD];simp only[AA,sf,sd,sc];simp[hx];have hf:=CZ (l.take k);have ht:(l.take k).length=k:=by simp;omega
  refine⟨_,_,(p98 l[k] (hi _ (AUc h1)) _ r (xs++(Gq l.length++(l.take k).flatMap Ag)) (BU hr) (by simp only[ATr];omega)),?_⟩;simp[h1,hw,DC h1]
 ·have:k=l.length:=by omega
  subst this;rw[if_neg (by omega),AM];simp[sm,BF]
theorem Si (l:List Int) (b:Int):le8 (l++[b])=le8 l+b*256^l.length:=by
 induction l with
 |nil=>simp[le8]
 |cons x l ih=>
  have e:∀l,le8 (x::l)=256*le8 l+x:=λ_=>rfl;rw[AUl,e,e,ih,AUA,AVZ,Int.mul_add,AVt (256^l.length) 256,←AWU,←AWU,AVt b 256];omega
theorem Nw {a b:Int} {j:Nat} (hj:j <8) (ha:0≤a) (ha2:a <256^j) (hb:0≤b) (hb2:b <256):
  IntKind.u64.wrap (((a%2^IntKind.u64.bits).toNat ||| (IntKind.u64.wrap (b*2^min (8*j) IntKind.u64.bits)%2^IntKind.u64.bits).toNat:Nat):Int)=a+b*256^j:=by
 have e3:((2:Int)^IntKind.u64.bits)=18446744073709551616:=by decide
 have e4:min (8*j) IntKind.u64.bits=8*j:=by simp[IntKind.bits];omega
 have e5:(2:Int)^(8*j)=256^j:=by rw[Int.pow_mul];rfl
 have q3:(256:Int)^j≤256^7:=Sm (by omega);have q4:(256:Int)^7=72057594037927936:=by decide
 have q0:(0:Int) <256^j:=AWG (by decide);rw[e3,e4,e5];have hb3:0≤b*256^j:=AVu hb (by omega);have hb4:b*256^j≤255*256^j:=AUp (by omega) (by omega);rw[Bg hb3 (by omega)];have m1:a%18446744073709551616=a:=by omega
 have m2:(b*256^j)%18446744073709551616=b*256^j:=by omega
 rw[m1,m2];have f1:(b*256^j).toNat=b.toNat <<< (8*j):=by
  rw[Nat.shiftLeft_eq,Nat.pow_mul];obtain⟨n,rfl⟩:=Int.eq_ofNat_of_zero_le hb;have:((n:Int)*256^j)=((n*256^j:Nat):Int):=by rw[Int.natCast_mul,AWD];rfl
  rw[this,AVe,AVe]
 have f2:a.toNat <2^(8*j):=by
  rw[Nat.pow_mul];have e6:((256^j:Nat):Int)=256^j:=by rw[AWD];rfl
  have e7:(2^8)^j=256^j:=rfl;rw[e7];omega
 rw[f1,Nat.or_comm,←Nat.shiftLeft_add_eq_or_of_lt f2,←f1,Bg (by omega) (by omega)];rw[AUs];omega
theorem JH (b:ByteArray):(Ai b).length=b.size:=by simp[Ai]
theorem SG {b:ByteArray} {i:Nat} {x:Int} (h:(Ai b)[i]?=some x):∃c:UInt8,b[i]?=some c∧(c.toNat:Int)=x:=by
 unfold Ai at h;rw[AT0,ATv]at h;obtain⟨c,h1,h2⟩:=h;refine⟨c,?_,h2⟩;obtain⟨h3,h4⟩:=ATp.1 h1;have h5:i <b.size:=by simpa using h3
 rw[getElem?_pos b i h5]
 congr 1
theorem AI2 (xs:List Int) (hb:∀x∈xs,0≤x∧x <256) (hl:xs.length≤2^40) (y:D) (h:List Row) (c:Nat) (hc:h[c]?=some (.cells [.v (AL .u8 xs)])) (k:Nat) (hk:8*k <xs.length):
  awp Tryz.prog GLx (.loop QB) (λe s=>e= .exit 2∧AH s.e 0=y∧AH s.e 1= .ref c 0∧AH s.e 3= .v (.int .i64 (8*k:Nat))∧AH s.e 4= .v (.int .u64 (le8 ((xs.drop (8*k)).take 8)))∧s.h=h)
   ⟨[(0,y),(1,.ref c 0),(3,.v (.int .i64 (8*k:Nat))),(4,.v (.int .u64 0)),(5,.v (.int .i64 (8*k:Nat)))],h⟩:=by
 skip
 refine Ac (min (8*k+8) xs.length-8*k) (λj=>⟨[(0,y),(1,.ref c 0),(3,.v (.int .i64 (8*k:Nat))),(4,.v (.int .u64 (le8 ((xs.drop (8*k)).take j)))),(5,.v (.int .i64 (8*k+j:Nat)))],h⟩) (by simp[le8]) ?_;intro j hj;have hw:IntKind.i64.wrap (8*(k:Int)+8)=8*k+8:=AJ;simp only[QB,AB,AA,AF,AE,bB]
 try simp[AL]at hc
 simp[AL,hw,hc];by_cases h1:8*k+j <min (8*k+8) xs.length
 ·have hi:8*k+j <xs.length:=by omega
  obtain⟨b0,hb0⟩:∃b0,xs[8*k+j]?=some b0:=⟨_,ATo hi⟩;obtain⟨hb1,hb2⟩:=hb b0 (ATq hb0);have hd:(xs.drop (8*k)).take (j+1)=(xs.drop (8*k)).take j++[b0]:=by
   rw[AUE];simp[hb0]
  have ht:((xs.drop (8*k)).take j).length=j:=by simp only[AUI,List.length_drop];omega
  obtain⟨q1,q2⟩:=N7 xs hb (8*k) j (by omega);have w4:IntKind.u64.wrap b0=b0:=Bg (by omega) (by omega);have hor:=Nw (a:=le8 ((xs.drop (8*k)).take j)) (b:=b0) (j:=j) (by omega) q1 q2 hb1 hb2;rw[if_pos (by split<;>omega),AD]
  have w1:IntKind.i64.wrap (8*(k:Int)+j-8*k)=j:=by rw[AJ];omega
  have w2:IntKind.i64.wrap (8*(j:Int))=(8*j:Nat):=by rw[AJ];rfl
  have w3:IntKind.i64.wrap (8*(k:Int)+j+1)=8*k+j+1:=AJ;have x1:(8*(k:Int)+(j:Int)).toNat=8*k+j:=by omega
  have x2:0≤8*(k:Int)+(j:Int):=by omega
  skip
  simp only[AA,bA,az];have x3:(8*(j:Int)).toNat=8*j:=by omega
  simp[hc,hb0,x1,x2,w1,w2,w3,w4,hd,Si,ht,x3];refine⟨by omega,?_⟩;simp[hor,w3]
  try omega
 ·have hj2:j=min (8*k+8) xs.length-8*k:=by omega
  have e9:(xs.drop (8*k)).take j=(xs.drop (8*k)).take 8:=by
   rcases AUD (xs.length-8*k) 8 with h8|h8
   ·rw[AUG (by simp;omega),AUG (by simp;omega)]
   ·rw[show j=8 by omega]
  rw[if_neg (by split<;>omega),AM]
  simp[e9]
theorem APJ (xs:List Int) (hb:∀x∈xs,0≤x∧x <256) (hl:xs.length≤2^40) (r c:Nat) (hs:Nat→List Row) (hc:∀k,(hs k)[c]?=some (.cells [.v (AL .u8 xs)]))
  (hy:∀k w,(BD xs)[k]?=some w→YSp Tryz.prog GLx r [.v (.int .u64 w)] (hs k) true (hs (k+1))):
  FX 324 [.yld r,.ref c 0] (hs 0) [] (hs (BD xs).length):=by
 skip
 refine AN AJT rfl ?_;have hlen:(BD xs).length=(xs.length+7)/8:=by simp[BD]
 simp only[AE3,AB,AA,AF,bF,AQ];simp;refine Ac (BD xs).length (λk=>⟨[(0,.yld r),(1,.ref c 0),(3,.v (.int .i64 (8*k:Nat)))],hs k⟩) (by simp) ?_;intro k hk;simp only[bG,AB,AA,AF,AE,bE];have hc':=hc k
 try simp[AL]at hc'
 simp[AL,hc'];by_cases h1:8*k <xs.length
 ·rw[if_pos (by omega),AD];simp only[AA,bD,bC];simp;refine AX _ ?_ (AI2 xs hb hl (.yld r) (hs k) c (hc k) k h1);rintro e ⟨se,sh⟩ ⟨rfl,f0,f1,f3,f4,rfl⟩;have hk2:k <(BD xs).length:=by omega
  have hw:(BD xs)[k]?=some (le8 ((xs.drop (8*k)).take 8)):=by
   rw[ATo hk2];simp[BD]
  have hw3:IntKind.i64.wrap (8*(k:Int)+8)=8*k+8:=AJ;simp only[AA,ay,QA];simp[f0,f1,f3,f4,AE,-Bool.exists_bool];refine⟨_,_,hy k _ hw,?_⟩;simp[AE,AD,AA,QA,hw3,hk2,f0,f1,f3,f4];omega
 ·rw[if_neg (by omega),AM];have hk2:k=(BD xs).length:=by omega
  simp[bH,←hk2]
theorem AI9 (b:ByteArray) (hb:∀x∈(Ai b),0≤x∧x <256) (hl:(Ai b).length≤2^40) (y:D) (h:List Row) (c:Nat) (hc:h[c]?=some (.cells [.v (.str b)])) (k:Nat) (hk:8*k <(Ai b).length):
  awp Tryz.prog GLx (.loop Qa) (λe s=>e= .exit 2∧AH s.e 0=y∧AH s.e 1= .ref c 0∧AH s.e 3= .v (.int .i64 (8*k:Nat))∧AH s.e 4= .v (.int .u64 (le8 (((Ai b).drop (8*k)).take 8)))∧s.h=h)
   ⟨[(0,y),(1,.ref c 0),(3,.v (.int .i64 (8*k:Nat))),(4,.v (.int .u64 0)),(5,.v (.int .i64 (8*k:Nat)))],h⟩:=by
 have hbl:(Ai b).length=b.size:=by simp[Ai]
 refine Ac (min (8*k+8) (Ai b).length-8*k) (λj=>⟨[(0,y),(1,.ref c 0),(3,.v (.int .i64 (8*k:Nat))),(4,.v (.int .u64 (le8 (((Ai b).drop (8*k)).take j)))),(5,.v (.int .i64 (8*k+j:Nat)))],h⟩) (by simp[le8]) ?_;intro j hj;have hw:IntKind.i64.wrap (8*(k:Int)+8)=8*k+8:=AJ;simp only[Qa,AB,AA,AF,AE,et]
 try simp[AL]at hc
 simp[AL,hw,hc];by_cases h1:8*k+j <min (8*k+8) (Ai b).length
 ·have hi:8*k+j <(Ai b).length:=by omega
  obtain⟨b0,hb0⟩:∃b0,(Ai b)[8*k+j]?=some b0:=⟨_,ATo hi⟩;obtain⟨hb1,hb2⟩:=hb b0 (ATq hb0);have hd:((Ai b).drop (8*k)).take (j+1)=((Ai b).drop (8*k)).take j++[b0]:=by
   rw[AUE];simp[hb0]
  have ht:(((Ai b).drop (8*k)).take j).length=j:=by simp only[AUI,List.length_drop];omega
  obtain⟨q1,q2⟩:=N7 (Ai b) hb (8*k) j (by omega);have w4:IntKind.u64.wrap b0=b0:=Bg (by omega) (by omega);have hor:=Nw (a:=le8 (((Ai b).drop (8*k)).take j)) (b:=b0) (j:=j) (by omega) q1 q2 hb1 hb2;rw[if_pos (by split<;>omega),AD]
  have w1:IntKind.i64.wrap (8*(k:Int)+j-8*k)=j:=by rw[AJ];omega
  have w2:IntKind.i64.wrap (8*(j:Int))=(8*j:Nat):=by rw[AJ];rfl
  have w3:IntKind.i64.wrap (8*(k:Int)+j+1)=8*k+j+1:=AJ;have x1:(8*(k:Int)+(j:Int)).toNat=8*k+j:=by omega
  have x2:0≤8*(k:Int)+(j:Int):=by omega
  obtain⟨c1,hc1,hc2⟩:∃c:UInt8,b[8*k+j]?=some c∧(c.toNat:Int)=b0:=SG hb0;simp only[AA,ep,eo];have x3:(8*(j:Int)).toNat=8*j:=by omega
  simp[hc,hb0,x1,x2,w1,w2,w3,w4,hd,Si,ht,x3,hc1,hc2,JH];refine⟨by omega,?_⟩;simp[hor,w3]
  try omega
 ·have hj2:j=min (8*k+8) (Ai b).length-8*k:=by omega
  have e9:((Ai b).drop (8*k)).take j=((Ai b).drop (8*k)).take 8:=by
   rcases AUD ((Ai b).length-8*k) 8 with h8|h8
   ·rw[AUG (by simp;omega),AUG (by simp;omega)]
   ·rw[show j=8 by omega]
  rw[if_neg (by split<;>omega),AM]
  simp[e9]
theorem APf (b:ByteArray) (hb:∀x∈(Ai b),0≤x∧x <256) (hl:(Ai b).length≤2^40) (r c:Nat) (hs:Nat→List Row) (hc:∀k,(hs k)[c]?=some (.cells [.v (.str b)]))
  (hy:∀k w,(BD (Ai b))[k]?=some w→YSp Tryz.prog GLx r [.v (.int .u64 w)] (hs k) true (hs (k+1))):
  FX 279 [.yld r,.ref c 0] (hs 0) [] (hs (BD (Ai b)).length):=by
 have hbl:(Ai b).length=b.size:=by simp[Ai]
 refine AN AJa rfl ?_;have hlen:(BD (Ai b)).length=((Ai b).length+7)/8:=by simp[BD]
 simp only[AFP,AB,AA,AF,ez,AQ];simp;refine Ac (BD (Ai b)).length (λk=>⟨[(0,.yld r),(1,.ref c 0),(3,.v (.int .i64 (8*k:Nat)))],hs k⟩) (by simp) ?_;intro k hk;simp only[fA,AB,AA,AF,AE,ey];have hc':=hc k
 try simp[AL]at hc'
 simp[AL,hc'];by_cases h1:8*k <(Ai b).length
 ·rw[if_pos (by omega),AD];simp only[AA,ew,eu];simp;refine AX _ ?_ (AI9 b hb hl (.yld r) (hs k) c (hc k) k h1);rintro e ⟨se,sh⟩ ⟨rfl,f0,f1,f3,f4,rfl⟩;have hk2:k <(BD (Ai b)).length:=by omega
  have hw:(BD (Ai b))[k]?=some (le8 (((Ai b).drop (8*k)).take 8)):=by
   rw[ATo hk2];simp[BD]
  have hw3:IntKind.i64.wrap (8*(k:Int)+8)=8*k+8:=AJ;simp only[AA,em,QZ];simp[f0,f1,f3,f4,AE,-Bool.exists_bool];refine⟨_,_,hy k _ hw,?_⟩;simp[AE,AD,AA,QZ,hw3,hk2,f0,f1,f3,f4];omega
 ·rw[if_neg (by omega),AM];have hk2:k=(BD (Ai b)).length:=by omega
  simp[fB,←hk2]
theorem AQU (b:ByteArray) (h:List Row):FX 189 [.v (.str b)] h [.func 279 [.ref h.length 0]] (h++[.cells [.v (.str b)]]):=by
 refine AN AJz rfl ?_;simp[AGM,awp,nj,ni,nk,AQ]
theorem APT (xs:List Int) (h:List Row):FX 296 [.v (AL .u8 xs)] h [.func 324 [.ref h.length 0]] (h++[.cells [.v (AL .u8 xs)]]):=by
 refine AN AJY rfl ?_;simp[AFH,awp,cv,cu,cw,AQ,AL]
theorem NU (b:ByteArray):∀x∈Ai b,0≤x∧x <256:=by
 intro x hx;simp only[Ai,ATw]at hx;obtain⟨c,_,rfl⟩:=hx;have:=c.toNat_lt;omega
theorem AQ8 (e0:Env) (h0:List Row) (hf:AH e0 5= .ref h0.length 0) (x:Row) (w s:Int):
  YSp Tryz.prog GLx (h0.length+2) [.v (.int .u64 w)] (h0++[.cells [.v (.int .u64 s)],x,Ao Tryz.prog GLx .ready e0 [11] Le Ld]) true (h0++[.cells [.v (.int .u64 (Fg s w))],x,Ao Tryz.prog GLx .ready e0 [11] Le Ld]):=by
 refine Ci (e0:=e0) (ps:=[11]) (asg:=Le) (body:=Ld) (by simp) rfl ?_;simp only[FZ,Le,Ld,AA,AF,wk,wj];simp[hf];refine⟨_,_,(WN s w).fsp _,?_⟩;simp[CH,AO]
theorem CV {P:Program} {GL:AV} {q:Opd} {ps:List Nat} {asg body:AC} {Q:AExit→St→Prop} {s:St} (fid:Nat) (caps rets:List D) (h1 h':List Row) (tag:Tag)
  (hq:DR (q.ev s.e)=some (fid,caps)) (hh:s.h++[Ao P GL .ready (cpE s.e) ps asg body]=h1) (hf:FSp P GL fid (.yld s.h.length::caps) h1 rets h')
  (hr:h'[s.h.length]?=some (Ao P GL tag (cpE s.e) ps asg body)) (he:Bo Q ⟨s.e,h'.set s.h.length .dead⟩ tag):awp P GL (.rangeF q ps asg body) Q s:=by
 rw[Ko];exact⟨fid,caps,rets,h',tag,hq,hh▸hf,hr,he⟩
theorem LS {α β:Type} (f:β→α→β) (s0:β) {l:List α} {k:Nat} {x:α} (hx:l[k]?=some x):(l.take (k+1)).foldl f s0=f ((l.take k).foldl f s0) x:=by
 obtain⟨h1,h2⟩:=ATp.1 hx;rw[AUx h1,AVf,h2];rfl
theorem AQ7 (l:List Int) (hl:l.length≤2^40) (a:D) (s0:Int) (h:List Row) (xs:List Row):
  awp Tryz.prog GLx (.loop XM) (λe s=>e= .exit 2∧AH s.e 5= .ref h.length 0∧s.h=h++ .cells [.v (.int .u64 (l.foldl (λs n=>Fg s (IntKind.u64.wrap n)) s0))]::xs)
   ⟨[(5,.ref h.length 0),(24,.v (AL .i64 l)),(25,.v (.int .i64 l.length)),(26,.v (.int .i64 0))],h++ .cells [.v (.int .u64 s0)]::xs⟩:=by
 refine Ac l.length (λk=>⟨[(5,.ref h.length 0),(24,.v (AL .i64 l)),(25,.v (.int .i64 l.length)),(26,.v (.int .i64 k))],h++ .cells [.v (.int .u64 ((l.take k).foldl (λs n=>Fg s (IntKind.u64.wrap n)) s0))]::xs⟩) (by simp) ?_;intro k hk;simp only[XM,AB,AA,AF,AE,wg];simp[AL];by_cases h1:k <l.length
 ·have hx:l[k]?=some l[k]:=ATo h1;have hw:IntKind.i64.wrap ((k:Int)+1)=k+1:=AJ;rw[if_pos (by omega),AD];simp only[AA,we,wd,XL];simp[hx];refine⟨_,_,(WN ((l.take k).foldl (λs n=>Fg s (IntKind.u64.wrap n)) s0) (IntKind.u64.wrap l[k])).fsp _,?_⟩;simp[h1,hw,AO,LS _ _ hx]
 ·have:k=l.length:=by omega
  subst this;rw[if_neg (by omega),AM];simp
theorem p96 (b:ByteArray) (l:List Int) (hb:b.size≤2^39) (hl:l.length≤2^40):PX 96 [.str b,AL .i64 l] [.int .u64 (U7 (Ai b) l)]:=by
 refine AK k96 rfl ?_;have hbl:(Ai b).length=b.size:=by simp[Ai]
 simp only[c96,AB,AA,AF,wn,wm,wl,AY];simp[AO];refine⟨_,_,AQU b _,?_⟩;simp;refine CV 279 [.ref 1 0] [] _ _ .ready rfl rfl (APf b (NU b) (by omega) 2 1 (λk=>[.cells [.v (.int .u64 (((BD (Ai b)).take k).foldl Fg 0))],.cells [.v (.str b)],
  Ao Tryz.prog GLx .ready (cpE [(0,.v (.str b)),(1,.v (AL .i64 l)),(5,.ref 0 0),(10,.func 279 [.ref 1 0])]) [11] Le Ld]) (by simp) ?_) rfl ?_
 ·intro k w hw;have:=AQ8 (cpE [(0,.v (.str b)),(1,.v (AL .i64 l)),(5,.ref 0 0),(10,.func 279 [.ref 1 0])]) [] rfl (.cells [.v (.str b)]) w (((BD (Ai b)).take k).foldl Fg 0);rw[LS _ _ hw];exact this
 ·have w1:IntKind.u64.wrap (b.size:Int)=b.size:=Bg (by omega) (by omega);have w2:IntKind.u64.wrap (l.length:Int)=l.length:=Bg (by omega) (by omega);simp only[Bo,wi];simp[w1];refine⟨_,_,(WN ((BD (Ai b)).foldl Fg 0) b.size).fsp _,?_⟩;simp[AL,w2];refine⟨_,_,(WN (Fg ((BD (Ai b)).foldl Fg 0) b.size) l.length).fsp _,?_⟩;simp[wh,AO];refine AX _ ?_ (AQ7 l hl .any (Fg (Fg ((BD (Ai b)).foldl Fg 0) b.size) l.length) [] _);rintro e ⟨se,sh⟩ ⟨rfl,f5,rfl⟩;simp at f5;simp[XK,f5];refine⟨_,_,(WN _ 0).fsp _,?_⟩;simp[AG,ADc,U7,hbl]
def OE (label bs:List Int):Int:=U7 label ((BD bs).map IntKind.i64.wrap++[(bs.length:Int)])
theorem AJG (e0:Env) (hf:AH e0 5= .ref 0 0) (x:Row) (w:Int) (ws:List Int) (hl:ws.length≤2^40):
  YSp Tryz.prog GLx 2 [.v (.int .u64 w)] [.cells [.own 3 1 (ws.map (.int .i64))],x,Ao Tryz.prog GLx .ready e0 [9] Ij Ii] true [.cells [.own 3 1 ((ws++[IntKind.i64.wrap w]).map (.int .i64))],x,Ao Tryz.prog GLx .ready e0 [9] Ij Ii]:=by
 refine Ci (e0:=e0) (ps:=[9]) (asg:=Ij) (body:=Ii) (by simp) rfl ?_;have hroom:Ah (ws.length+1) 8=true:=by simp[Ah];omega
 simp only[FZ,Ij,Ii,AA,AF,jo,jn];simp[hf,hroom,AO,EE,CH]
theorem AP5 (b:ByteArray) (xs:List Int) (hx:∀x∈xs,0≤x∧x <256) (hb:b.size≤2^39) (hl:xs.length≤2^39):PX 234 [.str b,AL .u8 xs] [.int .u64 (OE (Ai b) xs)]:=by
 refine AK AJj rfl ?_;have hlw:(BD xs).length=(xs.length+7)/8:=by simp[BD]
 simp only[AFi,AB,AA,AF,jr,jq,jp,AY];simp[AO];refine⟨_,_,APT xs _,?_⟩;simp;refine CV 324 [.ref 1 0] [] _ _ .ready rfl rfl (APJ xs hx (by omega) 2 1 (λk=>[.cells [.own 3 1 ((((BD xs).take k).map IntKind.i64.wrap).map (.int .i64))],.cells [.v (AL .u8 xs)],
  Ao Tryz.prog GLx .ready (cpE [(0,.v (.str b)),(1,.v (AL .u8 xs)),(5,.ref 0 0),(8,.func 324 [.ref 1 0])]) [9] Ij Ii]) (by simp) ?_) rfl ?_
 ·intro k w hw;have hk:=(ATp.1 hw).1;have:=AJG (cpE [(0,.v (.str b)),(1,.v (AL .u8 xs)),(5,.ref 0 0),(8,.func 324 [.ref 1 0])]) rfl (.cells [.v (AL .u8 xs)]) w (((BD xs).take k).map IntKind.i64.wrap) (by simp;omega);have e:((BD xs).take (k+1)).map IntKind.i64.wrap=((BD xs).take k).map IntKind.i64.wrap++[IntKind.i64.wrap w]:=by
   rw[AUE,hw];simp
  rw[e];exact this
 ·simp only[Bo,jm];have hroom:Ah ((BD xs).length+1) 8=true:=by simp[Ah];omega
  simp[AL,hroom];have hp:=p96 b ((BD xs).map IntKind.i64.wrap++[(xs.length:Int)]) hb (by simp;omega);have hp2:=hp.fsp;simp[AL]at hp2;refine⟨_,_,hp2 _,?_⟩;simp[AG,js,OE]
end Go.Va
