/- Laws that ExtractBytes leans on, part 25. No condition of its own. -/
import Derived.Shelf.Spec.SlicesGrow
import Derived.Test.YtopldfpkgbkomaaGreatDoorL12
import Derived.Test.YtopldfpkgbkomaaGreatDoorL22
set_option linter.all false
set_option maxRecDepth 100000
set_option maxHeartbeats 4000000
noncomputable section
namespace Go.Va
open Go.Proofs
def Jx (nc:Int) (g:F):Bool:= !(decide (g.op=1)&&decide (nc≤g.n))
theorem aM {f:F} (h:Bt f=0):f.nodes.all BH=true:=by
 unfold Bt at h;split at h
 ·cases h
 ·split at h
  ·assumption
  ·cases h
section
variable {ps:List V} {bs:List Bool} (h:List Row) (x:Nat) (A B C:Row) (e0:CH)
end
def Lr (nc:Int) (f:F) (t:Th):Int:=if Bt f≠0 then Bt f else if F5 t≠0 then F5 t else if f.nodes.all (Jx nc)&&t.kinds nc then 0 else 7
def CJ (f:F):List F:=if f.op=4 then f.kids else [f]
mutual
def F.tops:F→List F| .mk op n ins kids=>if op=5 then F.topss kids else [.mk op n ins kids]
def F.topss:List F→List F|[]=>[]|k::ks=>k.tops++F.topss ks
end
theorem OY:∀l,F.topss l=l.flatMap F.tops
 |[]=>rfl
 |k::ks=>by simp[F.topss,OY ks]
theorem F.tops_eq (op n:Int) (ins:List Ivl) (kids:List F):(F.mk op n ins kids).tops=if op=5 then kids.flatMap F.tops else [.mk op n ins kids]:=by
 rw[F.tops,OY]
def D4 (r:Rgt):List Int:=if r.force=0 then ((List.range r.claims.length).map λ(i:Nat)=>(i:Int)).filter λi=> !(r.bad.any λx=>i==x) else []
section
def E6 (acc:List F) (c:Clm):F:=if c.refs=[] then c.body else .mk 4 0 [] [c.body,.mk 5 0 [] (c.refs.map λr=>(acc[r.toNat]?).getD c.body)]
def Bq (l:List Clm):List F:=l.foldl (λacc c=>acc++[E6 acc c]) []
theorem Ea (l:List Clm):(Bq l).length=l.length:=by
 have:∀(l:List Clm) (acc:List F),(l.foldl (λacc c=>acc++[E6 acc c]) acc).length=acc.length+l.length:=by
  intro l;induction l with
  |nil=>simp
  |cons c l ih=>intro acc;rw[sc,ih];simp;omega
 have h:=this l [];rw[ra,rt]at h;exact h
theorem Qn (l:List Clm) (c:Clm):Bq (l++[c])=Bq l++[E6 (Bq l) c]:=by
 unfold Bq;rw[sq];rfl
variable {k:Nat}
theorem Il (l:List Clm) {c:Clm} (h:l[k]?=some c):Bq (l.take (k+1))=Bq (l.take k)++[E6 (Bq (l.take k)) c]:=by
 rw[qc,h];exact Qn _ _
theorem GO (l:List Clm):∀k,k≤l.length→Bq (l.take k)=(Bq l).take k:=by
 have:∀(l m:List Clm),(Bq (l++m)).take l.length=Bq l:=by
  intro l m;unfold Bq;rw[sq];have:∀(m:List Clm) (acc:List F),∃t,m.foldl (λacc c=>acc++[E6 acc c]) acc=acc++t:=by
   intro m;induction m with
   |nil=>intro acc;exact⟨[],by simp⟩
   |cons c m ih=>
    intro acc;obtain⟨t,ht⟩:=ih (acc++[E6 acc c]);exact⟨[E6 acc c]++t,by rw[sc,ht];simp⟩
  obtain⟨t,ht⟩:=this m (l.foldl (λacc c=>acc++[E6 acc c]) []);rw[ht];have:=Ea l;unfold Bq at this;rw[sk (by omega),qw (by omega)]
 intro k hk;have h:=this (l.take k) (l.drop k);rw[rJ]at h;rw[←h,qv,tR hk]
def BY (l:List Clm) (i:Int):F:=((Bq l)[i.toNat]?).getD (.mk 0 0 [] [])
end
structure MeanOK (T:List Clm):Prop where
 len:T.length≤32
 ok:∀c∈T,Clm.ok c
 refs:∀c∈T,c.refs.length≤8
 low:∀(k:Nat) (c:Clm),T[k]?=some c→∀r∈c.refs,0≤r∧r <k
 mean:∀f∈Bq T,f.ok∧Bt f=0
section
def Bh (p:Int×Int):V:= .agg [.int .i64 p.1,.int .i64 p.2]
def DB (I:Int→Int→Bool) (t:Th) (r:Rgt):List (Int×Int):=((D4 r).filter λi=>(BY r.claims i).hold I t).map λi=>(r.file,i)
def CF (I:Int→Int→Bool) (t:Th) (rs:List Rgt):List (Int×Int):=rs.flatMap (DB I t)
theorem Lm {r:Rgt} {i:Int} (h:i∈D4 r):0≤i∧i <r.claims.length:=by
 unfold D4 at h;split at h
 ·obtain⟨k,hk,rfl⟩:=qX.1 (r9.1 h).1;have:=qj.1 hk;omega
 ·cases h
theorem IM (r:Rgt):(D4 r).length≤r.claims.length:=by
 unfold D4;split
 ·have:=rT (λi=> !(r.bad.any λx=>i==x)) ((List.range r.claims.length).map λ(i:Nat)=>(i:Int));simpa using this
 ·simp
structure Rgt.fine (nc:Int) (r:Rgt):Prop where
 bad:r.bad.length≤2^40
 mean:MeanOK r.claims
 z:CV r.claims=0
 cls:∀f∈Bq r.claims,f.nodes.all (Jx nc)=true
theorem Rgt.fine.meanAt {nc:Int} {r:Rgt} (h:r.fine nc) {i:Int} (hi:0≤i∧i <r.claims.length):BY r.claims i∈Bq r.claims:=by
 unfold Go.Va.BY;have hl:=Ea r.claims;have hx:(Bq r.claims)[i.toNat]?=some (Bq r.claims)[i.toNat]:=qH (by omega);rw[hx];exact rl _
variable {nc:Int}
theorem Rgt.fine.hld {r:Rgt} (h:r.fine nc) {i:Int} (hi:0≤i∧i <r.claims.length) {t:Th} (ht:F5 t=0) (hk:t.kinds nc=true):Lr nc (Go.Va.BY r.claims i) t=0:=by
 have hm:=h.meanAt hi;unfold Lr;rw[(h.mean.mean _ hm).2,ht,h.cls _ hm,hk];rfl
def Lows (J:List Row):Prop:=∀row∈J,∀n,Row.low n row=true
theorem Lows.nil:Lows []:=λrow h=>by cases h
variable {row:Row} {J:List Row}
theorem Lows.app (h:Lows J) (hr:∀n,row.low n=true):Lows (J++[row]):=by
 intro x hx n;rcases qW.1 hx with hx|hx
 ·exact h x hx n
 ·rw[qO.1 hx];exact hr n
variable {h:List Row}
theorem Low.lows (hl:Low h) (hJ:Lows J):Low (h++J):=hl.apps λrow hr=>hJ row hr _
end
open Go.Proofs Go.Shelf
open Go.Proofs
theorem ce (n p:Int):(n+1)*p=n*p+p:=by rw[sM,tM]
def FE (a b:Int):Nat→Int→List (Nat×Int)
 |0,n=>if (n+1)*2^0≤a∨b <n*2^0 then [(0,n)] else []
 |l+1,n=>if (n+1)*2^(l+1)≤a∨b <n*2^(l+1) then [(l+1,n)] else if a≤n*2^(l+1)∧(n+1)*2^(l+1)-1≤b then [] else FE a b l (2*n)++FE a b l (2*n+1)
theorem Ld {a b:Int}:∀ {l:Nat} {n:Int} {x:Nat×Int},0≤n→x∈FE a b l n→x.1≤l∧0≤x.2∧(x.2+1)*2^x.1≤(n+1)*2^l∧((x.2+1)*2^x.1≤a∨b <x.2*2^x.1)
 |0,n,x,h0,h=>by
  simp only[FE]at h;split at h
  ·rename_i hc;rw[qO.1 h];exact⟨qM _,h0,Int.le_refl _,hc⟩
  ·cases h
 |l+1,n,x,h0,h=>by
  have e0:(2:Int)^(l+1)=2*2^l:=by rw[rN,rX]
  have hp:(1:Int)≤2^l:=sF (by decide);simp only[FE]at h;split at h
  ·rename_i hc;rw[qO.1 h];exact⟨qM _,h0,Int.le_refl _,hc⟩
  ·split at h
   ·cases h
   ·have e1:(n+1)*2^(l+1)=(2*n+1)*2^l+2^l:=by rw[e0,←sN,←ce];congr 1;omega
    rcases qW.1 h with h|h
    ·obtain⟨g1,g2,g3,g4⟩:=Ld (by omega) h;exact⟨by omega,g2,by omega,g4⟩
    ·obtain⟨g1,g2,g3,g4⟩:=Ld (by omega) h;have e2:(2*n+1+1)*(2:Int)^l=(2*n+1)*2^l+2^l:=ce _ _;exact⟨by omega,g2,by omega,g4⟩
theorem Ud (l:Nat):FE 0 4095 12 0=[]:=by decide
section
variable {lv n f la a b:Int} {H:List Row} {x y z u:Nat} (q1:PX 240 [iI lv n] [.int .i64 la]) (q2:PX 271 [iI lv n] [.int .i64 f])
 (hx:H[x]?=some (.cells [.v (.int .i64 a)])) (hy:H[y]?=some (.cells [.v (.int .i64 b)]))
include q1 q2 hx hy
end
end Go.Va
