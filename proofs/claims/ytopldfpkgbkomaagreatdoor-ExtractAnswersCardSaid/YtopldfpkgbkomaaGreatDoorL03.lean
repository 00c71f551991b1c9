/- Laws that ExtractAnswers leans on, part 3. No condition of its own. -/
import Derived.Shelf.SlIterI.Collect
import Derived.Shelf.SlIterI.Sorted
import Derived.Shelf.SortM.Plain
import Derived.Shelf.SortM.SortNone
import Derived.Test.YtopldfpkgbkomaaGreatDoorL02
set_option linter.all false
set_option maxRecDepth 100000
set_option maxHeartbeats 4000000
noncomputable section
namespace Go.Va
section
def AH (k:IntKind) (xs:List Int):V:= .list (xs.map (.int k))
def IA (bs:List Int):Int:=bs.foldr (λb w=>256*w+b) 0
def Am (bs:List Int):List Int:=(List.range ((bs.length+7)/8)).map λk=>IA ((bs.drop (8*k)).take 8)
theorem AL {a:Int} (h1: -9223372036854775808≤a:=by omega) (h2:a <9223372036854775808:=by omega):IntKind.i64.wrap a=a:=by
 unfold IntKind.wrap;simp only[IntKind.bits,IntKind.signed];have e1:((2:Int)^64)=18446744073709551616:=by decide
 have e2:((2:Int)^(64-1))=9223372036854775808:=by decide
 simp only[e1,e2,pB,decide_eq_true_eq,ge_iff_le];split<;>omega
theorem A9 {a:Int} (h1:0≤a) (h2:a <18446744073709551616):IntKind.u64.wrap a=a:=by
 unfold IntKind.wrap;simp only[IntKind.bits,IntKind.signed];have e1:((2:Int)^64)=18446744073709551616:=by decide
 simp only[e1,rE,oa,if_false];omega
variable {b:Nat}
theorem NJ {a:Nat} (h:a≤b):(256:Int)^a≤256^b:=by
 have:=re (n:=256) (by decide) h;have h2:((256^a:Nat):Int)≤((256^b:Nat):Int):=Int.ofNat_le.2 this;rw[sH,sH]at h2;exact h2
theorem MT:∀(l:List Int),(∀b∈l,0≤b∧b <256)→0≤IA l∧IA l <256^l.length
 |[],_=>by simp[IA]
 |b::l,h=>by
  obtain⟨h1,h2⟩:=MT l λx hx=>h x (by simp[hx]);obtain⟨h3,h4⟩:=h b (by simp);have e:IA (b::l)=256*IA l+b:=rfl;rw[e,oj,pW];omega
theorem LJ (bs:List Int) (hb:∀b∈bs,0≤b∧b <256) (a j:Nat) (hj:j≤8):0≤IA ((bs.drop a).take j)∧IA ((bs.drop a).take j) <256^j:=by
 obtain⟨h1,h2⟩:=MT ((bs.drop a).take j) λb h=>hb b (qi (pH h));refine⟨h1,Int.lt_of_lt_of_le h2 ?_⟩;exact NJ (by simp;omega)
theorem Gt (a:Int):0≤IntKind.u64.wrap a∧IntKind.u64.wrap a <18446744073709551616:=by
 unfold IntKind.wrap;simp only[IntKind.bits,IntKind.signed];have e1:((2:Int)^64)=18446744073709551616:=by decide
 simp only[e1,rE,oa,if_false];omega
def W3 (a b:Int):Int:=IntKind.u64.wrap ((a%2^IntKind.u64.bits).toNat ^^^ (b%2^IntKind.u64.bits).toNat:Nat)
def De (a b:Int):Int:=W3 (IntKind.u64.wrap (W3 a b*11400714819323198485)) (IntKind.u64.wrap (W3 a b*11400714819323198485)/4294967296)
theorem Bb (k:Nat) (h:k <4611686018427387904:=by omega):IntKind.i64.wrap ((k:Int)+1)=k+1:=AL
end
def i64 (n:Int):Prop:= -9223372036854775808≤n∧n <9223372036854775808
def u64 (n:Int):Prop:=0≤n∧n <18446744073709551616
def DP:Nat→Int→List Int
 |0,n=>[n]
 |k+1,n=>if n <128 then [n] else (128+n%128)::DP k (n/128)
def E4 (n:Int):List Int:=DP 9 n
def Hs (n:Int):Int:=if n <0 then 2*(-(n+1))+1 else 2*n
def AZ (n:Int):List Int:=E4 (Hs n)
def BE (b:List Int):List Int:=E4 b.length++b
def A6 (l:List Int):List Int:=E4 l.length++l.flatMap AZ
theorem Gq {n:Int} (h:i64 n):u64 (Hs n):=by
 unfold Hs u64;unfold i64 at h;split<;>omega
theorem HY:∀(k:Nat) (n:Int),(DP k n).length≤k+1
 |0,n=>by simp[DP]
 |k+1,n=>by
  simp only[DP];split
  ·simp
  ·have:=HY k (n/128);simp;omega
theorem CV (n:Int):(E4 n).length≤10:=HY 9 n
theorem Ab (n:Int):(AZ n).length≤10:=CV _
theorem B8:∀l:List Int,(l.flatMap AZ).length≤10*l.length
 |[]=>by simp
 |x::l=>by
  have:=Ab x;have:=B8 l;simp only[oZ,oL,oj];omega
def wr (xs:List Int):Row:= .cells [.own 5 1 (xs.map (.int .u8))]
theorem Ms {a:Int} (h1:0≤a) (h2:a <256):IntKind.u8.wrap a=a:=by
 unfold IntKind.wrap;simp only[IntKind.bits,IntKind.signed];have e1:((2:Int)^8)=256:=by decide
 simp only[e1,rE,oa,if_false];omega
theorem Gr (a:Int):IntKind.u8.wrap a=a%256:=by
 unfold IntKind.wrap;simp only[IntKind.bits,IntKind.signed];have e1:((2:Int)^8)=256:=by decide
 simp only[e1,rE,oa,if_false]
theorem Do (a:Int):IntKind.u64.wrap a=a%18446744073709551616:=by
 unfold IntKind.wrap;simp only[IntKind.bits,IntKind.signed];have e1:((2:Int)^64)=18446744073709551616:=by decide
 simp only[e1,rE,oa,if_false]
theorem aT (m:Nat) (h:m <256):m ||| 128=128+m%128:=by
 have key:∀m:Fin 256,m.val ||| 128=128+m.val%128:=by decide+kernel
 exact key ⟨m,h⟩
theorem No (m:Nat) (h:m <2^64):m ^^^ (2^64-1)=2^64-1-m:=by
 rw[Nat.xor_comm];apply Nat.eq_of_testBit_eq;intro i;rw[Nat.testBit_xor,Nat.testBit_two_pow_sub_one];have:(2^64-1-m)=2^64-(m+1):=by omega
 rw[this,Nat.testBit_two_pow_sub_succ h];cases hb:m.testBit i<;>by_cases hi:i <64<;>simp[hi]
 rw[Nat.testBit_lt_two_pow (rW h (re (by decide) (by omega)))]at hb;cases hb
section
open Go.Proofs Go.Shelf Go.Maps
def lm:Ren:=⟨λ|8=>298|10=>300|11=>326|n=>n,λ|0=>0|4=>4|23=>138|24=>22|26=>3|28=>352|33=>248|3=>62|n=>n,λn=>n⟩
theorem jo:SlLaysZI.n8 Tryz.prog lm where
 mixed:=by kernel_rfl
 f8:=⟨Tryz.f298.name,by kernel_rfl,Tryz.func298.trans (congrArg some (by kernel_rfl))⟩
 f11:=⟨Tryz.f326.name,by kernel_rfl,Tryz.func326.trans (congrArg some (by kernel_rfl))⟩
 t0:=Tryz.underlying0
 a0:=Tryz.isAgg0
 z0:=Tryz.sizeOf0
 v0:=Tryz.zeroValue0
 t24:=Tryz.underlying22
 a24:=Tryz.isAgg22
 z24:=Tryz.sizeOf22
 v24:=Tryz.zeroValue22
 t26:=Tryz.underlying3
 a26:=Tryz.isAgg3
 z26:=Tryz.sizeOf3
 v26:=Tryz.zeroValue3
 t28:=Tryz.underlying352
 a28:=Tryz.isAgg352
 z28:=Tryz.sizeOf352
 v28:=Tryz.zeroValue352
 i26:=by kernel_rfl
theorem WQ:SlLaysZI.n10 Tryz.prog lm where
 mixed:=by kernel_rfl
 f10:=⟨Tryz.f300.name,by kernel_rfl,Tryz.func300.trans (congrArg some (by kernel_rfl))⟩
 t0:=Tryz.underlying0
 a0:=Tryz.isAgg0
 z0:=Tryz.sizeOf0
 v0:=Tryz.zeroValue0
 t4:=Tryz.underlying4
 a4:=Tryz.isAgg4
 z4:=Tryz.sizeOf4
 v4:=Tryz.zeroValue4
 t23:=Tryz.underlying138
 a23:=Tryz.isAgg138
 z23:=Tryz.sizeOf138
 v23:=Tryz.zeroValue138
 t26:=Tryz.underlying3
 a26:=Tryz.isAgg3
 z26:=Tryz.sizeOf3
 v26:=Tryz.zeroValue3
 t33:=Tryz.underlying248
 a33:=Tryz.isAgg248
 z33:=Tryz.sizeOf248
 v33:=Tryz.zeroValue248
def RK:Value→Option (DataW Unit×List MemPlace):=λ_=>some (.nil,[])
variable {m r:Nat} {h:List Row}
theorem Zi {es:List (V×V)} {st:List Nat} {ck:Nat} {ks:List Int}
  (hr:h[r]?=some (.cells [.mref m])) (hm:h[m]?=some (.map es st ck)) (he:es.map (·.1)=ks.map (.int .i64)) (h1:ks.length≤1) (hw:∀k∈ks,i64 k):
  FX 298 [.func 300 [.ref r 0]] h [.own 3 1 (ks.map (.int .i64))] h:=by
 refine⟨by kernel_rfl,λg w μ us O hinv hgl hall htame=>?_⟩;obtain⟨hlen,Br⟩:=hall;obtain⟨u,rfl⟩:∃u,us=[u]:=by
  match us,hlen with
  |[u],_=>exact⟨u,rfl⟩
 have hu:RepE g w μ (.func 300 [.ref r 0]) u:=Br 0 _ u rfl rfl;obtain⟨vs,rfl,hvs⟩:=hu;obtain⟨c,rfl⟩:∃c,vs=[c]:=by
  match vs,hvs.1 with
  |[c],_=>exact⟨c,rfl⟩
 have hc:RepC g μ (.ref r 0) c:=hvs.2 0 _ c rfl rfl;obtain⟨br,hbr,rfl⟩:=hc;obtain⟨rs,T,hb,ha,h1c,hno⟩:=hinv.rows r _ br hr hbr;obtain⟨x,rfl⟩:∃x,rs=[x]:=by
  match rs,ha.1 with
  |[x],_=>exact⟨x,rfl⟩
 have hx:RepE g w μ (.mref m) x:=ha.2 0 _ x rfl rfl;obtain⟨bm,hbm,rfl⟩:=hx;obtain⟨ents,hmb,hst,hborn,hal,hno2⟩:=hinv.rows m _ bm hm hbm;have hel:ents.toList.length=ks.length:=by
  have e1:=congrArg List.length he;simp only[oi]at e1;rw[hal.1,e1]
 have hkey:∀(i:Nat) (y:MapEntry),ents.toList[i]?=some y→∃k,ks[i]?=some k∧y.key= .int .i64 k:=by
  intro i y hy;have hi:i <ents.toList.length:=(oM.1 hy).1;obtain⟨kv,hkv⟩:∃kv,es[i]?=some kv:=⟨_,oI (by rw[←hal.1];exact hi)⟩;have h2:=(hal.2 i kv y hkv hy).1;have h3:(es.map (·.1))[i]?=some kv.1:=by simp[hkv]
  rw[he]at h3;simp only[oX,oU]at h3;obtain⟨k,hk,hk2⟩:=h3;refine⟨k,hk,?_⟩;rw[←hk2]at h2;generalize y.key=yk at h2 ⊢;cases h2;rfl
 have hkl:∀k∈ks,keyOf Tryz.prog 3 (.int .i64 k)=some (.int .i64 k):=by
  intro k hk;have h2:=hw k hk;simp only[i64]at h2;have h3:(Lit.int .i64 k).wf=true:=by
   simp only[Lit.wf,oJ,decide_eq_true_eq,IntKind.min,IntKind.max,IntKind.signed,IntKind.bits];simp;omega
  simp[keyOf,mapKey,Tryz.underlying3,h3]
 have hrd:∀(i:Nat) (y:MapEntry),ents.toList[i]?=some y→∃k,ks[i]?=some k∧Go.WideElems.rd Tryz.prog 3 RK y=some (.int .i64 k,.nil):=by
  intro i y hy;obtain⟨k,hk,hy2⟩:=hkey i y hy;refine⟨k,hk,?_⟩;simp[Go.WideElems.rd,hy2,hkl k (oK hk),RK]
 have hown:w.ownsMap Tryz.prog 3 RK bm 1 (.map ((ents.toList.map (Go.WideElems.rg Tryz.prog 3 RK)).foldr DataW.insert [])):=by
  refine⟨ents,ck,hmb,⟨?_,hst,?_⟩,?_,rfl⟩
  ·have:ents.size≤1:=by rw[←rZ,hel];exact h1
   exact pA this (by decide)
  ·intro y hy;obtain⟨i,hi⟩:=qW.1 hy;obtain⟨k,_,hk⟩:=hrd i y hi;exact⟨_,hk⟩
  ·rw[←rZ,hel];exact h1
 have hik:intKeys (.map ((ents.toList.map (Go.WideElems.rg Tryz.prog 3 RK)).foldr DataW.insert []):DataW Unit)=ks∧Maps.size (.map ((ents.toList.map (Go.WideElems.rg Tryz.prog 3 RK)).foldr DataW.insert []):DataW Unit)=ks.length:=by
  generalize ents.toList=el at hel hrd
  match ks,el,h1,hel with
  |[],[],_,_=>exact⟨rfl,rfl⟩
  |[k],[y],_,_=>
   obtain⟨k',hk',hk⟩:=hrd 0 y rfl;simp at hk';subst hk';simp[Go.WideElems.rg,hk,intKeys,Maps.size,DataW.insert,intOf]
 have hlt:br <w.heap.size:=BP hb;have hseq:=AnyZI.keys_gives WQ Fence.wide 2 trivial rfl (by omega) br bm 1 _ w hlt (by simp[World.cell?,hb]) hown;have cS:=AnyZI.collect_in jo Fence.wide 4 trivial trivial rfl (by omega) 300 #[.pointer (some ⟨br,0,none⟩)] trivial (enters_of Tryz.func300 (by kernel_rfl) rfl) _ _ (by rw[hik.2];exact pA h1 (by decide)) (by rw[hik.2];omega) w hseq;refine(callsIn_wide.1 cS).mono ?_;rintro e w' ⟨v,ss,rfl,hS,hrow,hnil,hbel⟩;rw[hik.1]at hS;have hss:ss=ks:=by
  match ks,h1 with
  |[],_=>exact List.perm_nil.1 hS
  |[k],_=>exact List.perm_singleton.1 hS
 subst hss;rcases hrow with ⟨hl2,⟨rfl,hz⟩|⟨gb,cap,cur,rfl,hbase,hgb,r1,r2,r3,r4⟩⟩
 ·obtain rfl:ss=[]:=pK hz;have hc:Chg (λ_=>False) g w g w':=⟨Gh.le.refl g,hbel.size,λb hb _=>hbel.block b hb,λb hb _ o=>rfl,hbel.os,hbel.output⟩;have hag:∀b o v,g.m b o=some v→w'.cell? ⟨b,o,none⟩=some v:=by
   intro b o v hv;have h2:=hinv.agree b o v hv;have h3:b <w.heap.size:=by
    rcases om b w.heap.size with h'|h'
    ·exact h'
    ·simp[World.cell?,qh h']at h2
   rw[World.cell?_of_block (a:=⟨b,o,none⟩) (hbel.block b h3)];exact h2
  exact⟨_,g,μ,rfl,hinv.newOwn (d:=0) hc hag (.inl ⟨none,rfl,rfl,by simp⟩) (λ_ _=>⟨none,rfl⟩) (by simp[Ac]),hc.mono λ_ h=>h.elim,oQ _⟩
 ·obtain⟨k,rfl⟩:∃k,ss=[k]:=by
   match ss,h1 with
   |[k],_=>exact⟨k,rfl⟩
   |[],_=>simp at hnil
  have hnone:∀b,w.heap.size≤b→∀o,g.m b o=none:=by
   intro b hb2 o;cases h4:g.m b o with
   |none=>rfl
   |some v=>
    have h2:=hinv.agree b o v h4;simp[World.cell?,qh hb2]at h2
  let g':Gh:=⟨λb o=>if b=gb then (if o=0 then some (.int .i64 k) else none) else g.m b o⟩
  have hc:Chg (λ_=>False) g w g' w':=by
   refine⟨λb o v hv=>?_,hbel.size,λb hb _=>hbel.block b hb,λb hb _ o=>?_,hbel.os,hbel.output⟩
   ·by_cases hbg:b=gb
    ·subst hbg;rw[hnone b hbase]at hv;cases hv
    ·simpa[g',hbg]using hv
   ·have hbg:b≠gb:=by omega
    simp[g',hbg]
  have hcur:cur[0]?=some (.int .i64 k):=by
   have h2:(cur.toList.take 1)[0]?=some (.int .i64 k):=by
    simp only[rz,Nat.mul_one]at r4;rw[r4];rfl
   rw[List.getElem?_take_of_lt (by omega)]at h2;rw[←pV];exact h2
  have hag:∀b o v,g'.m b o=some v→w'.cell? ⟨b,o,none⟩=some v:=by
   intro b o v hv;by_cases hbg:b=gb
   ·subst hbg;simp only[g',if_true]at hv;split at hv
    ·rename_i ho;subst ho;simp only[oH]at hv;subst hv;simp[World.cell?,hgb,hcur]
    ·cases hv
   ·simp only[g',hbg,if_false]at hv;have h2:=hinv.agree b o v hv;have h3:b <w.heap.size:=by
     rcases om b w.heap.size with h'|h'
     ·exact h'
     ·simp[World.cell?,qh h']at h2
    rw[World.cell?_of_block (a:=⟨b,o,none⟩) (hbel.block b h3)];exact h2
  have hcap:0 <cap:=by
   have:1≤cap:=by simpa using r1
   omega
  refine⟨_,g',μ,rfl,hinv.newOwn (d:=0) hc hag (.inr ⟨gb,cap,cur,λ_=> .int .i64 k,rfl,hcap,hgb,by simpa using r1,by simpa using r3,?_,?_,?_⟩) (λh=>by simp at h) ?_,hc.mono λ_ h=>h.elim,oQ _⟩
  ·intro i x hx
   match i with
   |0=>simp at hx;subst hx;exact .int _ _
   |i+1=>simp at hx
  ·intro i hi;obtain rfl:i=0:=by simpa using hi
   refine⟨rfl,λj v hv=>?_⟩
   match j with
   |0=>simp[Value.cells]at hv;subst hv;simp[g']
   |j+1=>simp[Value.cells]at hv
  ·intro o ho;have:o≠0:=by simp at ho;omega
   simp[g',this]
  ·intro b hb2;simp only[Ac]at hb2;split at hb2
   ·cases hb2
   ·simp only[oH]at hb2;rw[←hb2];exact hbase
end
open Go.Proofs
section
abbrev lit {α:Type} (l:α) {x:α} (_h:l=x:=by conv=>lhs;reduce):α:=x
set_option maxHeartbeats 2000000
noncomputable def mT:List TypeInfo:=Tryz.prog.types.toList
noncomputable def oA:List (Bx Func):=Wx Tryz.prog.funcs.toList
noncomputable def PT:Tr TI:=lit (Tr.mk 1000 (mT.map mU))
noncomputable def PF:Tr (Bx Func):=lit (Tr.mk 1000 oA)
noncomputable def PG:Pg:=⟨PT,PF⟩
noncomputable def HE:UN
 |22,61=>3
 |23,61=>3
 |72,61=>3
 |140,245=>3
 |_,135=>4
 |180,n=>bif Nat.blt n 1000001 then 6 else 0
 |132,n=>bif Nat.blt n 1000001 then 6 else 0
 |297,104=>5
 |59,61=>3
 |62,1000001=>1
 |3,2000029=>2
 |3,2000072=>18
 |7,2000141=>2
 |26,2000020=>1
 |26,2000032=>1
 |320,2000074=>2
 |331,2000042=>1
 |331,2000044=>2
 |64,3000004=>1
 |_,_=>0
def FY:List GI:=[⟨none,.take 22 (.t 6 false)⟩,
 ⟨none,.p 23 (.load (.t 8 false) 4 true)⟩,
 ⟨none,.p 24 (.alen (.t 22 false))⟩,
 ⟨none,.bsl 25 84 4 [(.c (.v (.agg [.int .i64 0,.int .i64 0,.list [],.list []])))]⟩,
 ⟨none,.appP 26 (.t 22 true) (.t 25 false) 84 4 64⟩,
 ⟨none,.p 27 (.iaddrP (.t 26 true) (.t 24 false) 4)⟩,
 ⟨none,.fin 26 (.t 6 false) (.t 27 false) (.t 23 false) 4⟩,
 ⟨none,.store (.t 6 false) (.t 26 true) 1⟩]
noncomputable def oG (f k:Nat):List GI:=bif Nat.beq f 64&&Nat.beq k 4 then FY else Oc PG Ah HE f iP iN k
theorem jj:oG 64 4=FY:=rfl
noncomputable def mH (f:Nat):Nat→Nat→AC
 |0,_=> .never
 |n+1,k=>Qm PG Ah HE f (oG f) (mH f n) k
noncomputable def lG (f k:Nat):AC:=mH f 9 k
noncomputable def gA (f:Nat):AC:=VN PG Ah HE f (oG f) (lG f)
noncomputable def gR (f:Nat):List AR:=cD PG f
noncomputable def gN (f:Nat):Nat:=cE PG f
theorem nV (f k:Nat) (hn:(Nat.beq f 64&&Nat.beq k 4)=false):oG f k=Oc PG Ah HE f iP iN k:=by rw[oG,hn,cond_false]
theorem AA (f k:Nat) {x:(Nat→Int)→(Nat→Int)→List GI} (h:(λI J=>Oc PG Ah HE f I J k)=x:=by conv=>lhs;reduce) (hn:(Nat.beq f 64&&Nat.beq k 4)=false:=by rfl):oG f k=x (λn=> @OfNat.ofNat Int n _) (λn=> -@OfNat.ofNat Int n _):=(nV f k hn).trans (congrFun (congrFun h iP) iN)
theorem Ai (f:Nat) {x:(Nat→List GI)→(Nat→AC)→AC} (h:(λr l=>VN PG Ah HE f r l)=x:=by conv=>lhs;reduce):gA f=x (oG f) (lG f):=by subst h;rfl
theorem A8 (f k:Nat) {x:(Nat→List GI)→(Nat→AC)→AC} (h:(λr l=>Qm PG Ah HE f r l k)=x:=by conv=>lhs;reduce) (h2:lG f k=x (oG f) (lG f):=by kernel_rfl):lG f k=x (oG f) (lG f):=h2
abbrev la (f:Nat) {x:(Nat→List GI)→(Nat→AC)→AC} (_h:(λr l=>VN PG Ah HE f r l)=x:=by conv=>lhs;reduce):AC:=x (oG f) (lG f)
abbrev ll (f k:Nat) {x:(Nat→List GI)→(Nat→AC)→AC} (_h:(λr l=>Qm PG Ah HE f r l k)=x:=by conv=>lhs;reduce):AC:=x (oG f) (lG f)
theorem AW (f:Nat) {x:List AR} (h:gR f=x:=by conv=>lhs;reduce):gR f=x:=h
theorem D4 (f:Nat) (h:CL Tryz.prog Ah f (gN f) (gA f) (gR f)=true:=by kernel_rfl):CL Tryz.prog Ah f (gN f) (gA f) (gR f)=true:=h
theorem BJ (f:Nat) {args rets:List V} (h:awp Tryz.prog Ah (gA f) (λe s=>(match e with| .exit _=>False|_=>True)∧CR s (gR f)=some rets) ⟨AX args,[]⟩) (hk:CL Tryz.prog Ah f (gN f) (gA f) (gR f)=true:=by kernel_rfl) (hn:args.length=gN f:=by rfl):PX f args rets:=F5 hk hn h
variable {h h':List Row} {args rets:List D}
theorem Dh (f:Nat) (hw:awp Tryz.prog Ah (gA f) (λe s=>(match e with| .exit _=>False|_=>True)∧DG s (gR f)=some rets∧s.h=h') ⟨AQ args,h⟩) (hk:CL Tryz.prog Ah f (gN f) (gA f) (gR f)=true:=by kernel_rfl) (hn:args.length=gN f:=by rfl):FX f args h rets h':=IN hk hn hw
def Zw {P:Program} {GL:Aa}:=And.intro (@AE P GL) (And.intro (@AF P GL) (And.intro (@AM P GL) (@AK P GL)))
end
theorem lF:CL Tryz.prog Ah 149 2 (cJ 251) L5=true:=by kernel_rfl
theorem lE:CL Tryz.prog Ah 151 2 (cJ 252) L5=true:=by kernel_rfl
theorem lD:CL Tryz.prog Ah 153 2 (cJ 253) L5=true:=by kernel_rfl
theorem kw:CL Tryz.prog Ah 183 2 (cJ 272) L5=true:=by kernel_rfl
theorem ku:CL Tryz.prog Ah 251 2 (cI 4 true) L5=true:=by kernel_rfl
theorem kr:CL Tryz.prog Ah 252 2 (cI 1 false) L5=true:=by kernel_rfl
theorem km:CL Tryz.prog Ah 253 2 (cI 3 true) L5=true:=by kernel_rfl
theorem kj:CL Tryz.prog Ah 254 2 (cI 3 true) L5=true:=by kernel_rfl
theorem kh:CL Tryz.prog Ah 256 2 (cJ 307) L5=true:=by kernel_rfl
theorem kg:CL Tryz.prog Ah 272 2 (cI 3 true) L5=true:=by kernel_rfl
theorem kf:CL Tryz.prog Ah 275 2 (cI 8 true) L5=true:=by kernel_rfl
theorem ke:CL Tryz.prog Ah 277 2 (cJ 318) L5=true:=by kernel_rfl
theorem kb:CL Tryz.prog Ah 293 2 (cJ 323) L5=true:=by kernel_rfl
theorem ka:CL Tryz.prog Ah 307 2 (cI 8 true) L5=true:=by kernel_rfl
theorem kZ:CL Tryz.prog Ah 318 2 (cI 4 true) L5=true:=by kernel_rfl
theorem kY:CL Tryz.prog Ah 323 2 (cI 4 true) L5=true:=by kernel_rfl
section
structure Ev where
 F:Nat→List D→List Row→Lp→Option (List D×List Row×Lp)
 Pf:Nat→List V→Option (List V)
 C:AC→ES→Option (List (AExit×ES))
abbrev dJ:=Nat→Option (Nat×AC×List AR)
def HS {α β:Type} (f:α→Option (List β)):List α→Option (List β)
 |[]=>some []
 |x::xs=>match f x,HS f xs with
  |some ys,some zs=>some (ys++zs)
  |_,_=>none
def ND {α β:Type} (f:α→Option β):List α→Option (List β)
 |[]=>some []
 |x::xs=>match f x,ND f xs with
  |some y,some zs=>some (y::zs)
  |_,_=>none
def MO {α:Type} (eq:α→α→Bool):List α→Option α
 |[]=>none
 |x::xs=>if xs.all (eq x) then some x else none
theorem Hq {α β:Type} {f:α→Option (List β)}:∀ {xs:List α} {ys:List β},HS f xs=some ys→∀x∈xs,∃zs,f x=some zs∧∀z∈zs,z∈ys
 |[],ys,_,x,hx=>by simp at hx
 |x::xs,ys,h,y,hy=>by
  simp only[HS]at h;split at h
  ·rename_i asx bs ha hb;simp only[oH]at h;subst h;rcases oO.1 hy with rfl|hy
   ·exact⟨asx,ha,λz hz=>rb _ hz⟩
   ·obtain⟨zs,h1,h2⟩:=Hq hb y hy;exact⟨zs,h1,λz hz=>rA _ (h2 z hz)⟩
  ·cases h
theorem It {α β:Type} {f:α→Option β}:∀ {xs:List α} {ys:List β},ND f xs=some ys→∀x∈xs,∃z,f x=some z∧z∈ys
 |[],ys,_,x,hx=>by simp at hx
 |x::xs,ys,h,y,hy=>by
  simp only[ND]at h;split at h
  ·rename_i a bs ha hb;simp only[oH]at h;subst h;rcases oO.1 hy with rfl|hy
   ·exact⟨a,ha,by simp⟩
   ·obtain⟨z,h1,h2⟩:=It hb y hy;exact⟨z,h1,by simp[h2]⟩
  ·cases h
theorem LH {α β:Type} {f:α→Option β}:∀ {xs:List α} {ys:List β},ND f xs=some ys→∀y∈ys,∃x∈xs,f x=some y
 |[],ys,h,y,hy=>by simp only[ND,oH]at h;subst h;simp at hy
 |x::xs,ys,h,y,hy=>by
  simp only[ND]at h;split at h
  ·rename_i a bs ha hb;simp only[oH]at h;subst h;rcases oO.1 hy with rfl|hy
   ·exact⟨x,by simp,ha⟩
   ·obtain⟨z,h1,h2⟩:=LH hb y hy;exact⟨z,by simp[h1],h2⟩
  ·cases h
theorem Ja {α:Type} {eq:α→α→Bool} {xs:List α} {x:α} (h:MO eq xs=some x):x∈xs∧∀y∈xs,y=x∨eq x y=true:=by
 cases xs with
 |nil=>simp[MO]at h
 |cons a xs=>
  simp only[MO]at h;split at h
  ·rename_i hall;simp only[oH]at h;subst h;refine⟨by simp,λy hy=>?_⟩;rcases oO.1 hy with rfl|hy
   ·exact .inl rfl
   ·exact .inr (oY.1 hall y hy)
  ·cases h
def SA (t:Lp) (r:Nat):AExit→Bool×Lp
 | .normal=>(true,t.tag r .ready)
 | .ret=>(false,t.tag r (.done none))
 | .exit i=>(false,t.tag r (.done (some i)))
def lh (x y:Bool×List Row×Lp):Bool:=x.1==y.1&&KV Row.beq x.2.1 y.2.1&&Lp.beq x.2.2 y.2.2
def mK (x y:List D×List Row×Lp):Bool:=D.beqs x.1 y.1&&KV Row.beq x.2.1 y.2.1&&Lp.beq x.2.2 y.2.2
def dW (E:Ev) (r:Nat) (args:List D) (h:List Row) (t:Lp):Option (Bool×List Row×Lp):=
 match t.get r with
 |some (.ready,l)=>if args.length=l.ps.length then
   match E.C l.asg ⟨Fh l.e l.ps args,h,t⟩with
   |some [(.normal,s1)]=>match s1.t.get r with
    |some (.ready,_)=>match E.C l.body ⟨s1.e,s1.h,s1.t.tag r .busy⟩with
     |some o2=>match ND (λo=>match o.2.t.get r with
       |some (.busy,_)=>some ((SA o.2.t r o.1).1,o.2.h,(SA o.2.t r o.1).2)
       |_=>none) o2 with
      |some rs=>MO lh rs
      |none=>none
     |none=>none
    |_=>none
   |_=>none
  else none
 |_=>none
def UI:List D→Option (List V)
 |[]=>some []
 | .v x::ds=>match UI ds with
  |some xs=>some (x::xs)
  |none=>none
 |_=>none
theorem O7:∀ {ds:List D} {vs:List V},UI ds=some vs→ds=vs.map .v
 |[],vs,h=>by simp only[UI,oH]at h;subst h;rfl
 |d::ds,vs,h=>by
  cases d<;>simp only[UI,reduceCtorEq]at h
  split at h
  ·rename_i xs hxs;simp only[oH]at h;subst h;simp only[oV,O7 hxs]
  ·cases h
def Jl (E:Ev) (f:Nat) (args:List D) (h:List Row) (t:Lp):Option (List D×List Row×Lp):=
 match UI args with
 |some vs=>match E.Pf f vs with
  |some rets=>some (rets.map .v,h,t)
  |none=>E.F f args h t
 |none=>E.F f args h t
def TZ (E:Ev) (d:Option Nat) (f:Opd) (args:List Opd) (s:ES):Option (List ES):=
 match f.ev s.e with
 | .yld r=>(dW E r (Av s.e args) s.h s.t).map λx=>[⟨Bu s.e d (.v (.bool x.1)),x.2.1,x.2.2⟩]
 | .meth fid fs=>(Jl E fid (fs++Av s.e args) s.h s.t).map λx=>[⟨Bu s.e d (BY x.1),x.2.1,x.2.2⟩]
 |fd=>match DS fd with
  |some (fid,caps)=>(Jl E fid (Av s.e args++caps) s.h s.t).map λx=>[⟨Bu s.e d (BY x.1),x.2.1,x.2.2⟩]
  |none=>none
def ZD (E:Ev) (i:AI) (s:ES):Option (List ES):=
 match i with
 | .call d f args=>TZ E d f args s
 | .callF d f args=>TZ E d f args s
 | .callC d f args=>TZ E d f args s
 | .nilS d ne x=>match (x.ev s.e).copy with
  | .v (.list [])| .nil _ _=>some [⟨(d,.v (.bool (true != ne)))::s.e,s.h,s.t⟩,⟨(d,.v (.bool (false != ne)))::s.e,s.h,s.t⟩]
  | .v (.list (_::_))=>some [⟨(d,.v (.bool (false != ne)))::s.e,s.h,s.t⟩]
  |_=>none
 |i=>(i.step ⟨s.e,s.h⟩).map λs'=>[⟨s'.e,s'.h,s.t⟩]
def lO (E:Ev) (x:GI) (s:ES):Option (List ES):=
 match x.g with
 |none=>ZD E x.i s
 |some (t,want)=>match AG s.e t with
  | .v (.bool b)=>if b=want then ZD E x.i s else some [⟨Bu s.e x.i.dst (.tup []),s.h,s.t⟩]
  | .tup []=>some [⟨Bu s.e x.i.dst (.tup []),s.h,s.t⟩]
  |_=>none
def Mb (E:Ev):List GI→ES→Option (List ES)
 |[],s=>some [s]
 |x::xs,s=>match lO E x s with
  |some ss=>HS (Mb E xs) ss
  |none=>none
def VT (E:Ev) (t:Lp) (fd:D) (args:List D) (h:List Row):Option (List D×List Row):=
 match (match fd with
  | .yld r=>(dW E r args h t).map λx=>([.v (.bool x.1)],x.2)
  | .meth fid fs=>Jl E fid (fs++args) h t
  |fd=>match DS fd with
   |some (fid,caps)=>Jl E fid (args++caps) h t
   |none=>none:Option (List D×List Row×Lp))with
 |some x=>if Lp.beq t x.2.2 then some (x.1,x.2.1) else none
 |none=>none
def VS (E:Ev) (t:Lp) (i:AI) (s:St):Option St:=
 match i with
 | .callF d f args=>(VT E t (f.ev s.e) (Av s.e args) s.h).map λx=>⟨Bu s.e d (BY x.1),x.2⟩
 | .callC d f args=>match VT E t (f.ev s.e) (Av s.e args) s.h with
  |some x=>if KV Row.beq (x.2.take s.h.length) s.h then some ⟨Bu s.e d (BY x.1),x.2⟩ else none
  |none=>none
 | .call d f args=>match (f.ev s.e).toV,IE s.e args with
  |some (.func fid caps),some vs=>(E.Pf fid (vs++caps)).map λrets=>⟨Bu s.e d (Ij rets),s.h⟩
  |_,_=>none
 |i=>i.step s
def TY (E:Ev) (t0:Lp) (x:GI) (s:St):Option St:=
 match x.g with
 |none=>VS E t0 x.i s
 |some (t,want)=>match AG s.e t with
  | .v (.bool b)=>if b=want then VS E t0 x.i s else some ⟨Bu s.e x.i.dst (.tup []),s.h⟩
  | .tup []=>some ⟨Bu s.e x.i.dst (.tup []),s.h⟩
  |_=>none
def cG (E:Ev) (t0:Lp):List GI→St→Option St
 |[],s=>some s
 |x::xs,s=>match TY E t0 x s with
  |some s1=>cG E t0 xs s1
  |none=>none
def TW (E:Ev) (t0:Lp) (is:List GI):AT→St→Option (List St)
 | .done,s=>some [s]
 | .take i t,s=>match TY E t0 (is.getD i default) s with
  |some s1=>TW E t0 is t s1
  |none=>none
 | .pick c,s=>TW E t0 is c s
 | .alt i t r,s=>match TY E t0 (is.getD i default) s with
  |some s1=>match TW E t0 is t s1,TW E t0 is r s with
   |some a,some b=>some (a++b)
   |_,_=>none
  |none=>none
 | .none,_=>some []
def Xo (o s1:St):List (Nat×Nat):=s1.e.filterMap λp=>match p.2,AG o.e p.1 with
 | .ref a _,.ref b _=>some (b,a)
 | .sref a _,.sref b _=>some (b,a)
 | .mref a,.mref b=>some (b,a)
 |_,_=>none
def QO (π:List (Nat×Nat)) (s:St):St:=⟨s.e.map λp=>(p.1,p.2.ren π),Ay π s.h⟩
def Ol (keep:List Nat) (a b:St):Bool:=D.beqs ((Bd a.e keep).map (·.2)) ((Bd b.e keep).map (·.2))&&KV Row.beq a.h b.h
def UJ (n0:Nat) (t:Lp) (keep:List Nat) (o s1:St):Bool:=
 Ol keep o s1||(t.isEmpty&&(let π:=Xo o s1;K6 n0 o.h.length π&&MQ o.h&&Ol keep (QO π o) s1))
def GB (n0:Nat) (t:Lp) (keep:List Nat):List St→List St
 |[]=>[]
 |s1::ss=>s1::ss.filter λo=> !UJ n0 t keep o s1
def Jm (E:Ev) (ac:AC) (s:ES):Option (List (AExit×ES)):=
 match ac with
 | .skip=>some [(.normal,s)]
 | .reg ops keep=>(Mb E ops s).map λss=>ss.map λs'=>(.normal,⟨Bd s'.e keep,s'.h,s'.t⟩)
 | .regD ops keep _=>(cG E s.t ops ⟨s.e,s.h⟩).map λs'=>[(.normal,⟨Bd s'.e keep,s'.h,s.t⟩)]
 | .regA ops keep _ t=>(TW E s.t ops t ⟨s.e,s.h⟩).map λss=>(GB s.h.length s.t keep ss).map λs'=>(.normal,⟨Bd s'.e keep,s'.h,s.t⟩)
 | .regV _ _ _=>none
 | .seq a b=>match E.C a s with
  |some os=>HS (λo=>match o.1 with| .normal=>E.C b o.2|e=>some [(e,o.2)]) os
  |none=>none
 | .cond x a b=>match x.ev s.e with
  | .v (.bool t)=>if t then E.C a s else E.C b s
  |_=>none
 | .block id c=>(E.C c s).map λos=>os.map λo=>match o.1 with| .exit id'=>if id'=id then (.normal,o.2) else o|_=>o
 | .loop c=>match E.C c s with
  |some os=>HS (λo=>match o.1 with| .normal=>E.C (.loop c) o.2|e=>some [(e,o.2)]) os
  |none=>none
 | .never=>none
 | .exit id=>some [(.exit id,s)]
 | .ret=>some [(.ret,s)]
 | .rangeF q ps asg body=>match DS (q.ev s.e)with
  |some (fid,caps)=>match E.F fid (.yld s.h.length::caps) (s.h++[.dead]) ((s.h.length,.ready,⟨Hn s.e,ps,asg,body⟩)::s.t)with
   |some (_,h',x::t')=>match x.2.1 with
    | .ready=>some [(.normal,⟨s.e,h',t'⟩)]
    | .busy=>none
    | .done none=>some [(.ret,⟨s.e,h',t'⟩)]
    | .done (some i)=>some [(.exit i,⟨s.e,h',t'⟩)]
   |_=>none
  |none=>none
abbrev PD:=Nat→List D→List Row→Option (List D×List Row)
def Lm (n:Nat) (x:List D×List Row×Lp):List D×List Row×Lp:=
 if D.lts n x.1&&(x.2.1.take n).all (Row.lt n) then (x.1,Ly n x.2.1,x.2.2) else x
def lP (T:dJ) (Pr:PD) (E:Ev) (f:Nat) (args:List D) (h:List Row) (t:Lp):Option (List D×List Row×Lp):=
 match T f with
 |some (n,ac,rs)=>if args.length=n then
   match E.C ac ⟨AQ args,h,t⟩with
   |some os=>match ND (λo=>match o.1 with
     | .exit _=>none
     |_=>(DG ⟨o.2.e,o.2.h⟩ rs).map λr=>Lm h.length (r,o.2.h,o.2.t)) os with
    |some xs=>MO mK xs
    |none=>none
   |none=>none
  else none
 |none=>(Pr f args h).map λx=>(x.1,h++x.2,t)
def lN (T:dJ) (E:Ev) (f:Nat) (vs:List V):Option (List V):=
 match T f with
 |some (n,ac,rs)=>if vs.length=n then
   match E.C ac ⟨AX vs,[],[]⟩with
   |some os=>match ND (λo=>match o.1 with
     | .exit _=>none
     |_=>CR ⟨o.2.e,o.2.h⟩ rs) os with
    |some xs=>MO V.beqs xs
    |none=>none
   |none=>none
  else none
 |none=>none
def ev (T:dJ) (Pr:PD):Nat→Ev
 |0=>⟨λ_ _ _ _=>none,λ_ _=>none,λ_ _=>none⟩
 |n+1=>⟨lP T Pr (ev T Pr n),lN T (ev T Pr n),Jm (ev T Pr n)⟩
section
variable (P:Program) (GL:Aa)
def ES.real (s:ES):St:=⟨s.e,s.t.ins P GL s.h⟩
structure Snd (E:Ev):Prop where
 F:∀ {f args h t r},E.F f args h t=some r→OKT t h→FSp P GL f args (t.ins P GL h) r.1 (r.2.2.ins P GL r.2.1)∧t.kin r.2.2∧OKT r.2.2 r.2.1
 Pf:∀ {f vs rets},E.Pf f vs=some rets→PSp P GL f vs rets
 K:∀ {ac s os},E.C ac s=some os→OKT s.t s.h→∀o∈os,s.t.kin o.2.t∧OKT o.2.t o.2.h
 C:∀ {ac s os},E.C ac s=some os→OKT s.t s.h→awp P GL ac (λe s'=>∃o∈os,e=o.1∧s'=o.2.real P GL) (s.real P GL)
end
variable {h h':List Row} {args:List D} {f m n r:Nat} {s s':St} {e:CB} {Q:AExit→St→Prop}
section
variable {P:Program} {GL:Aa} {E:Ev} {T:dJ} {Pr:PD}
theorem Mx (hb:KV Row.beq h h'=true):h=h':=Km (λ_ _ h=>Row.beq_eq h) hb
theorem Kp (t:Lp) (r:Nat) (e:AExit):t.kin (SA t r e).2:=by cases e<;>exact Lp.kin_tag _ _ _
theorem Ma (hE:Snd P GL E) {t:Lp} {x:Bool×List Row×Lp} (he:dW E r args h t=some x) (hk:OKT t h):
  Nk P GL r args (t.ins P GL h) x.1 (x.2.2.ins P GL x.2.1)∧t.kin x.2.2∧OKT x.2.2 x.2.1:=by
 unfold dW at he;split at he
 ·rename_i l Br;split at he
  ·rename_i hlen;split at he
   ·rename_i s1 h1;split at he
    ·rename_i l1 hget1;split at he
     ·rename_i o2 h2;split at he
      ·rename_i rs hrs;obtain⟨hmem,hall⟩:=Ja he;have hlt:r <h.length:=hk.lt (Ki t Br);have hasg:=hE.C h1 hk;obtain⟨hk1,hok1⟩:=hE.K h1 hk (.normal,s1) (by simp);simp only at hk1 hok1;have hl1:l1=l:=(NO hk1 Br hget1).symm;subst hl1;have hokb:OKT (s1.t.tag r .busy) s1.h:=hok1.kin (Lp.kin_tag _ _ _);have hbody:=hE.C h2 hokb;have hK:=hE.K h2 hokb;have hkin:∀o∈o2,t.kin o.2.t∧OKT o.2.t o.2.h:=λo ho=>⟨(hk1.trans (Lp.kin_tag _ _ _)).trans (hK o ho).1,(hK o ho).2⟩;have hkx:t.kin x.2.2∧OKT x.2.2 x.2.1:=by
        obtain⟨o,ho,hz⟩:=LH hrs x hmem;split at hz
        ·simp only[oH]at hz;subst hz;exact⟨(hkin o ho).1.trans (Kp _ _ _),(hkin o ho).2.kin (Kp _ _ _)⟩
        ·cases hz
       have hend:∀o∈o2,∃lb,o.2.t.get r=some (.busy,lb)∧lb=l1∧(SA o.2.t r o.1).1=x.1∧o.2.h=x.2.1∧(SA o.2.t r o.1).2=x.2.2:=by
        intro o ho;obtain⟨z,hz,hzm⟩:=It hrs o ho;split at hz
        ·rename_i lb hgb;simp only[oH]at hz;subst hz;refine⟨lb,hgb,(NO (hkin o ho).1 Br hgb).symm,?_⟩;rcases hall _ hzm with rfl|heq
         ·exact⟨rfl,rfl,rfl⟩
         ·simp only[lh,oJ,beq_iff_eq]at heq;exact⟨heq.1.1.symm,(Mx heq.1.2).symm,(Lp.beq_eq hkx.1 ((hkin o ho).1.trans (Kp _ _ _)) heq.2).symm⟩
        ·cases hz
       refine⟨?_,hkx⟩;refine Cm (I0 t hlt Br) hlen (Ad _ ?_ hasg);rintro e s' ⟨o,ho,rfl,rfl⟩;simp only[oS]at ho;subst ho;have hlt1:r <s1.h.length:=hok1.lt (Ki _ hget1);refine⟨rfl,I0 _ hlt1 hget1,?_⟩;have e1:(s1.t.tag r .busy).ins P GL s1.h=(s1.t.ins P GL s1.h).set r (Au P GL .busy l1.e l1.ps l1.asg l1.body):=NK _ hok1.nod hget1;simp only[ES.real,←e1];refine Ad _ ?_ hbody;rintro e s' ⟨o,ho,rfl,rfl⟩;obtain⟨lb,hgb,rfl,q1,q2,q3⟩:=hend o ho;have hok:=(hkin o ho).2;have hlt2:r <o.2.h.length:=hok.lt (Ki _ hgb);refine⟨I0 _ hlt2 hgb,?_⟩;rw[←q1,←q2,←q3];cases o.1<;>exact⟨rfl,NK _ hok.nod hgb⟩
      ·cases he
     ·cases he
    ·cases he
   ·cases he
  ·cases he
 ·cases he
theorem Ew (hE:Snd P GL E) {t:Lp} {r:List D×List Row×Lp} (he:Jl E f args h t=some r) (hk:OKT t h):
  FSp P GL f args (t.ins P GL h) r.1 (r.2.2.ins P GL r.2.1)∧t.kin r.2.2∧OKT r.2.2 r.2.1:=by
 unfold Jl at he;split at he
 ·rename_i vs hvs;split at he
  ·rename_i rets hr;simp only[oH]at he;subst he;rw[O7 hvs];exact⟨(hE.Pf hr).fsp _,Lp.kin.refl _,hk⟩
  ·exact hE.F he hk
 ·exact hE.F he hk
theorem IT (hE:Snd P GL E) {d:Option Nat} {f:Opd} {args:List Opd} {s:ES} {os:List ES} (he:TZ E d f args s=some os) (hk:OKT s.t s.h):
  (∀o∈os,s.t.kin o.t∧OKT o.t o.h)∧∀K:St→Prop,(∀o∈os,K (o.real P GL))→BX P GL d f args K (s.real P GL):=by
 unfold TZ at he;split at he
 ·rename_i r hf;simp only[oU]at he;obtain⟨x,hx,rfl⟩:=he;obtain⟨h1,h2,h3⟩:=Ma hE hx hk;refine⟨λo ho=>by simp only[oS]at ho;subst ho;exact⟨h2,h3⟩,λK hK=>?_⟩;have hf':f.ev (s.real P GL).e= .yld r:=hf;simp only[BX,hf'];have hK':=hK _ (oS.2 rfl);exact⟨x.1,_,h1,hK'⟩
 ·rename_i fid fs hf;simp only[oU]at he;obtain⟨x,hx,rfl⟩:=he;obtain⟨h1,h2,h3⟩:=Ew hE hx hk;refine⟨λo ho=>by simp only[oS]at ho;subst ho;exact⟨h2,h3⟩,λK hK=>?_⟩;have hf':f.ev (s.real P GL).e= .meth fid fs:=hf;simp only[BX,hf'];have hK':=hK _ (oS.2 rfl);exact⟨x.1,_,h1,hK'⟩
 ·rename_i hny hnm;split at he
  ·rename_i fid caps hfn;simp only[oU]at he;obtain⟨x,hx,rfl⟩:=he;obtain⟨h1,h2,h3⟩:=Ew hE hx hk;refine⟨λo ho=>by simp only[oS]at ho;subst ho;exact⟨h2,h3⟩,λK hK=>?_⟩;simp only[BX];split
   ·rename_i r hr;exact absurd hr (hny r)
   ·rename_i a b hr;exact absurd hr (hnm a b)
   ·have hfn':DS (f.ev (s.real P GL).e)=some (fid,caps):=hfn;simp only[hfn'];have hK':=hK _ (oS.2 rfl);exact⟨x.1,_,h1,hK'⟩
  ·cases he
theorem Mc (hE:Snd P GL E) {i:AI} {s:ES} {os:List ES} (he:ZD E i s=some os) (hk:OKT s.t s.h):
  (∀o∈os,s.t.kin o.t∧OKT o.t o.h)∧∀K:St→Prop,(∀o∈os,K (o.real P GL))→DO P GL i K (s.real P GL):=by
 by_cases hc:∃d f args,i= .call d f args∨i= .callF d f args∨i= .callC d f args
 ·obtain⟨d,f,args,rfl|rfl|rfl⟩:=hc
  ·exact IT hE he hk
  ·exact IT hE he hk
  ·exact IT hE he hk
 ·by_cases hn:∃d ne x,i= .nilS d ne x
  ·obtain⟨d,ne,x,rfl⟩:=hn;simp only[ZD]at he;have hx:∀(s':ES),(x.ev (ES.real P GL s').e)=x.ev s'.e:=λ_=>rfl;split at he<;>simp only[oH,reduceCtorEq]at he<;>subst he
   all_goals
    rename_i hcp;refine⟨λo ho=>?_,λK hK=>?_⟩
    ·simp only[oO,o7,or_false]at ho
     first
      |(rcases ho with rfl|rfl<;>exact⟨Lp.kin.refl _,hk⟩)
      |(subst ho;exact⟨Lp.kin.refl _,hk⟩)
    ·simp only[DO,hx,hcp]
     first
      |(have h1:=hK _ (rG ..)
        have h2:=hK _ (qZ _ (rG ..));exact⟨h1,h2⟩)
      |(have h1:=hK _ (rG ..)
        exact h1)
  ·have hs:ZD E i s=(i.step ⟨s.e,s.h⟩).map λs'=>[⟨s'.e,s'.h,s.t⟩]:=by
    unfold ZD;split
    ·exact absurd ⟨_,_,_,.inl rfl⟩ hc
    ·exact absurd ⟨_,_,_,.inr (.inl rfl)⟩ hc
    ·exact absurd ⟨_,_,_,.inr (.inr rfl)⟩ hc
    ·exact absurd ⟨_,_,_,rfl⟩ hn
    ·rfl
   rw[hs]at he;simp only[oU]at he;obtain⟨s',hs',rfl⟩:=he;obtain⟨h1,h2⟩:=MG (P:=P) (GL:=GL) hk hs';refine⟨λo ho=>by simp only[oS]at ho;subst ho;exact⟨Lp.kin.refl _,h2⟩,λK hK=>?_⟩;unfold DO;split
   ·exact absurd ⟨_,_,_,.inl rfl⟩ hc
   ·exact absurd ⟨_,_,_,.inr (.inl rfl)⟩ hc
   ·exact absurd ⟨_,_,_,.inr (.inr rfl)⟩ hc
   ·cases hs'
   ·cases hs'
   ·cases hs'
   ·cases hs'
   ·cases hs'
   ·exact absurd ⟨_,_,_,rfl⟩ hn
   ·have hK':=hK _ (oS.2 rfl);simp only[ES.real,h1];exact hK'
theorem RZ (hE:Snd P GL E) {x:GI} {s:ES} {os:List ES} (he:lO E x s=some os) (hk:OKT s.t s.h):
  (∀o∈os,s.t.kin o.t∧OKT o.t o.h)∧∀K:St→Prop,(∀o∈os,K (o.real P GL))→D5 P GL x K (s.real P GL):=by
 unfold lO at he;split at he
 ·rename_i hg;obtain⟨h1,h2⟩:=Mc hE he hk;refine⟨h1,λK hK=>?_⟩;simp only[D5,hg];exact h2 K hK
 ·rename_i t want hg;have skip:some [(⟨Bu s.e x.i.dst (.tup []),s.h,s.t⟩:ES)]=some os→(∀o∈os,s.t.kin o.t∧OKT o.t o.h)∧∀K:St→Prop,(∀o∈os,K (o.real P GL))→K ⟨Bu s.e x.i.dst (.tup []),s.t.ins P GL s.h⟩:=by
   intro h;simp only[oH]at h;subst h;exact⟨λo ho=>by simp only[oS]at ho;subst ho;exact⟨Lp.kin.refl _,hk⟩,λK hK=>by have hK':=hK _ (oS.2 rfl);exact hK'⟩
  have hfe:AG (s.real P GL).e t=AG s.e t:=rfl;split at he
  ·rename_i b hb;split at he
   ·rename_i hbw;obtain⟨h1,h2⟩:=Mc hE he hk;refine⟨h1,λK hK=>?_⟩;simp only[D5,hg,hfe,hb,hbw,if_true];exact h2 K hK
   ·rename_i hbw;obtain⟨h1,h2⟩:=skip he;refine⟨h1,λK hK=>?_⟩;simp only[D5,hg,hfe,hb,hbw,if_false];exact h2 K hK
  ·rename_i hb;obtain⟨h1,h2⟩:=skip he;refine⟨h1,λK hK=>?_⟩;simp only[D5,hg,hfe,hb];exact h2 K hK
  ·cases he
theorem FW (hE:Snd P GL E):∀ {ops:List GI} {s:ES} {os:List ES},Mb E ops s=some os→OKT s.t s.h→
  (∀o∈os,s.t.kin o.t∧OKT o.t o.h)∧∀K:St→Prop,(∀o∈os,K (o.real P GL))→Bz P GL ops K (s.real P GL)
 |[],s,os,he,hk=>by
  simp only[Mb,oH]at he;subst he;exact⟨λo ho=>by simp only[oS]at ho;subst ho;exact⟨Lp.kin.refl _,hk⟩,λK hK=>hK _ (by simp)⟩
 |x::xs,s,os,he,hk=>by
  simp only[Mb]at he;split at he
  ·rename_i ss hss;obtain⟨h1,h2⟩:=RZ hE hss hk;refine⟨λo ho=>?_,λK hK=>?_⟩
   ·have:∃y∈ss,∃zs,Mb E xs y=some zs∧o∈zs:=by
     clear h1 h2 hss;induction ss generalizing os with
     |nil=>simp only[HS,oH]at he;subst he;simp at ho
     |cons y ss ih=>
      simp only[HS]at he;split at he
      ·rename_i asx bs ha hb;simp only[oH]at he;subst he;rcases oc.1 ho with ho|ho
       ·exact⟨y,by simp,asx,ha,ho⟩
       ·obtain⟨y',hy',zs,q1,q2⟩:=ih _ hb ho;exact⟨y',by simp[hy'],zs,q1,q2⟩
      ·cases he
    obtain⟨y,hy,zs,q1,q2⟩:=this;obtain⟨r1,_⟩:=FW hE q1 (h1 y hy).2;exact⟨(h1 y hy).1.trans (r1 o q2).1,(r1 o q2).2⟩
   ·refine h2 _ λy hy=>?_;obtain⟨zs,q1,q2⟩:=Hq he y hy;exact(FW hE q1 (h1 y hy).2).2 K λo ho=>hK o (q2 o ho)
  ·cases he
theorem Jr {α β:Type} {f:α→Option (List β)}:∀ {xs:List α} {ys:List β},HS f xs=some ys→∀y∈ys,∃x∈xs,∃zs,f x=some zs∧y∈zs
 |[],ys,h,y,hy=>by simp only[HS,oH]at h;subst h;simp at hy
 |x::xs,ys,h,y,hy=>by
  simp only[HS]at h;split at h
  ·rename_i asx bs ha hb;simp only[oH]at h;subst h;rcases oc.1 hy with hy|hy
   ·exact⟨x,by simp,asx,ha,hy⟩
   ·obtain⟨x',hx',zs,q1,q2⟩:=Jr hb y hy;exact⟨x',by simp[hx'],zs,q1,q2⟩
  ·cases h
theorem LU (hE:Snd P GL E) {i:AI} {t:Lp} (he:VS E t i ⟨e,h⟩=some s') (hk:OKT t h):Jw P GL i ⟨e,t.ins P GL h⟩ ⟨s'.e,t.ins P GL s'.h⟩∧OKT t s'.h:=by
 unfold VS at he;have call:∀ {d:Option Nat} {f:Opd} {args:List Opd} {x:List D×List Row},VT E t (f.ev e) (Av e args) h=some x→Fv P GL (f.ev e) (Av e args) (t.ins P GL h) x.1 (t.ins P GL x.2)∧OKT t x.2:=by
  intro d f args x hx;unfold VT at hx;split at hx
  ·rename_i y hy;split at hx
   ·rename_i hb;simp only[oH]at hx;subst hx;have fin:∀ {rets:List D} {z:List Row×Lp},Fv P GL (f.ev e) (Av e args) (t.ins P GL h) rets (z.2.ins P GL z.1)→t.kin z.2→OKT z.2 z.1→Lp.beq t z.2=true→
      Fv P GL (f.ev e) (Av e args) (t.ins P GL h) rets (t.ins P GL z.1)∧OKT t z.1:=by
     intro rets z hc hkin hok hb;have:=Lp.beq_eq (Lp.kin.refl t) hkin hb;rw[←this]at hc hok;exact⟨hc,hok⟩
    split at hy
    ·rename_i r hf;simp only[oU]at hy;obtain⟨z,hz,rfl⟩:=hy;obtain⟨h1,h2,h3⟩:=Ma hE hz hk;have hf':f.ev e= .yld r:=hf;exact fin (z:=z.2) (by simp only[Fv,hf'];exact⟨z.1,h1,rfl⟩) h2 h3 hb
    ·rename_i fid fs hf;obtain⟨h1,h2,h3⟩:=Ew hE hy hk;have hf':f.ev e= .meth fid fs:=hf;exact fin (z:=y.2) (by simp only[Fv,hf'];exact h1) h2 h3 hb
    ·rename_i hny hnm;split at hy
     ·rename_i fid caps hfn;obtain⟨h1,h2,h3⟩:=Ew hE hy hk;refine fin (z:=y.2) ?_ h2 h3 hb;unfold Fv;split
      ·rename_i r hr;exact absurd hr (hny r)
      ·rename_i a b hr;exact absurd hr (hnm a b)
      ·exact⟨fid,caps,hfn,h1⟩
     ·cases hy
   ·cases hx
  ·cases hx
 split at he
 ·rename_i d f args;simp only[oU]at he;obtain⟨x,hx,rfl⟩:=he;obtain⟨h1,h2⟩:=call (d:=d) hx;exact⟨.inr (.inr (.inl ⟨d,f,args,x.1,_,.inl rfl,h1,rfl⟩)),h2⟩
 ·rename_i d f args;split at he
  ·rename_i x hx;split at he
   ·rename_i hb;simp only[oH]at he;subst he;obtain⟨h1,h2⟩:=call (d:=d) hx;refine⟨.inr (.inr (.inl ⟨d,f,args,x.1,_,.inr ⟨rfl,x.2.drop h.length,?_⟩,h1,rfl⟩)),h2⟩;have e1:x.2=h++x.2.drop h.length:=by
     have:=Mx hb;conv=>lhs;rw[←pQ h.length x.2,this]
    have e2:∀(l:List Row),Lp.ins P GL t (h++l)=Lp.ins P GL t h++l:=λl=>HC t l λr hr=>hk.lt hr;show Lp.ins P GL t x.2=Lp.ins P GL t h++x.2.drop h.length;rw[←e2,←e1]
   ·cases he
  ·cases he
 ·rename_i d f args;split at he
  ·rename_i fid caps vs hf hv;simp only[oU]at he;obtain⟨rets,hr,rfl⟩:=he;exact⟨.inr (.inl ⟨d,f,args,fid,caps,vs,rets,rfl,hf,hv,hE.Pf hr,rfl⟩),hk⟩
  ·cases he
 ·obtain⟨h1,h2⟩:=MG (P:=P) (GL:=GL) hk he;exact⟨.inl h1,h2⟩
theorem IS (hE:Snd P GL E) {x:GI} {t:Lp} (he:TY E t x ⟨e,h⟩=some s') (hk:OKT t h):BQ P GL x ⟨e,t.ins P GL h⟩ ⟨s'.e,t.ins P GL s'.h⟩∧OKT t s'.h:=by
 unfold TY at he;split at he
 ·rename_i hg;simp only[BQ,hg];exact LU hE he hk
 ·rename_i tt want hg;split at he
  ·rename_i b hb;have hb':AG e tt= .v (.bool b):=hb;split at he
   ·rename_i hbw;simp only[BQ,hg,hb',hbw,if_true];exact LU hE he hk
   ·rename_i hbw;simp only[oH]at he;subst he;simp only[BQ,hg,hb',hbw,if_false];exact⟨trivial,hk⟩
  ·rename_i hb;have hb':AG e tt= .tup []:=hb;simp only[oH]at he;subst he;simp only[BQ,hg,hb'];exact⟨trivial,hk⟩
  ·cases he
theorem Jk (hE:Snd P GL E) {t:Lp}:∀ {ops:List GI} {e:CB} {h:List Row} {s':St},cG E t ops ⟨e,h⟩=some s'→OKT t h→Lo P GL ops ⟨e,t.ins P GL h⟩ ⟨s'.e,t.ins P GL s'.h⟩∧OKT t s'.h
 |[],e,h,s',he,hk=>by
  simp only[cG,oH]at he;subst he;exact⟨rfl,hk⟩
 |x::xs,e,h,s',he,hk=>by
  simp only[cG]at he;split at he
  ·rename_i s1 h1;obtain⟨q1,q2⟩:=IS hE h1 hk;obtain⟨q3,q4⟩:=Jk hE he q2;exact⟨⟨_,q1,q3⟩,q4⟩
  ·cases he
theorem Jj (hE:Snd P GL E) {t:Lp} {is:List GI}:∀(tr:AT) {e:CB} {h:List Row} {os:List St},TW E t is tr ⟨e,h⟩=some os→OKT t h→
  (∀o∈os,OKT t o.h)∧∀K:St→Prop,(∀o∈os,K ⟨o.e,t.ins P GL o.h⟩)→tr.ok P GL is K ⟨e,t.ins P GL h⟩:=by
 intro tr;induction tr with
 |done=>
  intro e h os he hk;simp only[TW,oH]at he;subst he;exact⟨λo ho=>by simp only[oS]at ho;subst ho;exact hk,λK hK=>by have hK':=hK _ (oS.2 rfl);exact hK'⟩
 |take i tr ih=>
  intro e h os he hk;simp only[TW]at he;split at he
  ·rename_i s1 h1;obtain⟨q1,q2⟩:=IS hE h1 hk;obtain⟨q3,q4⟩:=ih he q2;exact⟨q3,λK hK=>⟨_,q1,q4 K hK⟩⟩
  ·cases he
 |pick c ih=>intro e h os he hk;exact ih he hk
 |alt i tr r iht ihr=>
  intro e h os he hk;simp only[TW]at he;split at he
  ·rename_i s1 h1;obtain⟨q1,q2⟩:=IS hE h1 hk;split at he
   ·rename_i a b ha hb;simp only[oH]at he;subst he;obtain⟨q3,q4⟩:=iht ha q2;obtain⟨q5,q6⟩:=ihr hb hk;refine⟨λo ho=>(oc.1 ho).elim (q3 o) (q5 o),λK hK=>⟨⟨_,q1,q4 K λo ho=>hK o (rb _ ho)⟩,q6 K λo ho=>hK o (rA _ ho)⟩⟩
   ·cases he
  ·cases he
 |none=>
  intro e h os he hk;simp only[TW,oH]at he;subst he;exact⟨by simp,λK _=>trivial⟩
theorem Pe {n0:Nat} {t:Lp} {keep:List Nat} {ss:List St} {o:St} (h:o∈GB n0 t keep ss):o∈ss:=by
 cases ss with
 |nil=>exact h
 |cons s1 ss=>
  simp only[GB,oO,qC]at h ⊢;rcases h with h|h
  ·exact .inl h
  ·exact .inr h.1
theorem MP:∀(e e':CB) (keep:List Nat),(Bd e keep).map (·.2)=(Bd e' keep).map (·.2)→Bd e keep=Bd e' keep
 |_,_,[],_=>rfl
 |e,e',n::ns,h=>by
  simp only[Bd,oV,List.cons.injEq]at h ⊢;exact⟨by rw[h.1],MP e e' ns h.2⟩
theorem LV {keep:List Nat} {a b:St} (h:Ol keep a b=true):Bd a.e keep=Bd b.e keep∧a.h=b.h:=by
 simp only[Ol,oJ]at h;exact⟨MP _ _ _ (D.beqs_eq h.1),Mx h.2⟩
theorem Ea (π:List (Nat×Nat)):∀(e:CB) (n:Nat),AG (e.map λp=>(p.1,p.2.ren π)) n=(AG e n).ren π
 |[],n=>by simp only[pf,AG,D.ren]
 |p::e,n=>by
  simp only[oV,AG];by_cases h:p.1=n
  ·simp[h]
  ·rw[if_neg h,if_neg h,Ea π e n]
theorem NA {n0:Nat} {t:Lp} {keep:List Nat} {ss:List St} {o:St} (h:o∈ss):
  ∃s1∈GB n0 t keep ss,∃s2,PC n0 ⟨o.e,t.ins P GL o.h⟩ s2∧(⟨Bd s2.e keep,s2.h⟩:St)=ES.real P GL ⟨Bd s1.e keep,s1.h,t⟩:=by
 cases ss with
 |nil=>simp at h
 |cons s1 ss=>
  have own:∀o,o∈GB n0 t keep (s1::ss)→∃s1'∈GB n0 t keep (s1::ss),∃s2,PC n0 ⟨o.e,t.ins P GL o.h⟩ s2∧(⟨Bd s2.e keep,s2.h⟩:St)=ES.real P GL ⟨Bd s1'.e keep,s1'.h,t⟩:=
   λo ho=>⟨o,ho,_,.inl rfl,rfl⟩
  rcases oO.1 h with rfl|h
  ·exact own _ (by simp[GB])
  ·cases ha:UJ n0 t keep o s1 with
   |false=>exact own o (by simp only[GB,oO,qC];exact .inr ⟨h,by simp[ha]⟩)
   |true=>
    refine⟨s1,by simp[GB],?_⟩;simp only[UJ,qY,oJ]at ha;rcases ha with ha|⟨hte,⟨hp,hno⟩,he⟩
    ·obtain⟨h1,h2⟩:=LV ha;exact⟨⟨o.e,t.ins P GL o.h⟩,.inl rfl,by simp only[ES.real,h1,h2]⟩
    ·have htn:t=[]:=by simpa using hte
     subst htn;obtain⟨h1,h2⟩:=LV he;refine⟨QO (Xo o s1) o,.inr ⟨Xo o s1,hp,hno,λn=>Ea _ _ _,rfl⟩,?_⟩;simp only[ES.real,Lp.ins,h1,h2]
theorem cH (hE:Snd P GL E) {ac:AC} {s:ES} {os:List (AExit×ES)} (he:Jm E ac s=some os) (hk:OKT s.t s.h):∀o∈os,s.t.kin o.2.t∧OKT o.2.t o.2.h:=by
 have here:∀(e:AExit),∀o∈[(e,s)],s.t.kin o.2.t∧OKT o.2.t o.2.h:=λe o ho=>by simp only[oS]at ho;subst ho;exact⟨Lp.kin.refl _,hk⟩
 cases ac with
 |skip=>simp only[Jm,oH]at he;subst he;exact here _
 |reg ops keep=>
  simp only[Jm,oU]at he;obtain⟨ss,hs,rfl⟩:=he;intro o ho;obtain⟨y,hy,rfl⟩:=oP.1 ho;exact(FW hE hs hk).1 y hy
 |regD ops keep cl=>
  simp only[Jm,oU]at he;obtain⟨s',hs,rfl⟩:=he;intro o ho;simp only[oS]at ho;subst ho;exact⟨Lp.kin.refl _,(Jk hE hs hk).2⟩
 |regV ops keep cl=>simp[Jm]at he
 |regA ops keep cl t=>
  simp only[Jm,oU]at he;obtain⟨ss,hs,rfl⟩:=he;intro o ho;obtain⟨y,hy,rfl⟩:=oP.1 ho;exact⟨Lp.kin.refl _,(Jj hE t hs hk).1 y (Pe hy)⟩
 |seq a b=>
  simp only[Jm]at he;split at he
  ·rename_i o1 h1;intro o ho;obtain⟨x,hx,zs,q1,q2⟩:=Jr he o ho;have k1:=hE.K h1 hk x hx;split at q1
   ·have k2:=hE.K q1 k1.2 o q2;exact⟨k1.1.trans k2.1,k2.2⟩
   ·simp only[oH]at q1;subst q1;simp only[oS]at q2;subst q2;exact k1
  ·cases he
 |cond x a b=>
  simp only[Jm]at he;split at he
  ·split at he
   ·exact hE.K he hk
   ·exact hE.K he hk
  ·cases he
 |block id c=>
  simp only[Jm,oU]at he;obtain⟨ss,hs,rfl⟩:=he;intro o ho;obtain⟨y,hy,rfl⟩:=oP.1 ho;have:=hE.K hs hk y hy;split
  ·split
   ·exact this
   ·exact this
  ·exact this
 |loop c=>
  simp only[Jm]at he;split at he
  ·rename_i o1 h1;intro o ho;obtain⟨x,hx,zs,q1,q2⟩:=Jr he o ho;have k1:=hE.K h1 hk x hx;split at q1
   ·have k2:=hE.K q1 k1.2 o q2;exact⟨k1.1.trans k2.1,k2.2⟩
   ·simp only[oH]at q1;subst q1;simp only[oS]at q2;subst q2;exact k1
  ·cases he
 |never=>cases he
 |exit id=>simp only[Jm,oH]at he;subst he;exact here _
 |ret=>simp only[Jm,oH]at he;subst he;exact here _
 |rangeF q ps asg body=>
  simp only[Jm]at he;split at he
  ·rename_i fid caps hf;split at he
   ·rename_i rets h' x t' hF;have hk0:OKT ((s.h.length,Tag.ready,(⟨Hn s.e,ps,asg,body⟩:LD))::s.t) (s.h++[.dead]):=by
     obtain⟨h1,_⟩:=hk.append (P:=P) (GL:=GL) .dead;refine⟨λr hr=>?_,?_⟩
     ·simp only[Lp.has,oV,oO]at hr;rcases hr with rfl|hr
      ·simp
      ·exact h1.dead r hr
     ·rw[oV,qr];exact⟨λhh=>by have:=hk.lt hh;simp at this,hk.nod⟩
    obtain⟨_,k2,k3⟩:=hE.F hF hk0;have k4:s.t.kin t':=k2.2.2;have k5:OKT t' h':=⟨λr hr=>k3.dead r (by simp only[Lp.has,oV,oO];exact .inr hr),by have:=k3.nod;rw[oV,qr]at this;exact this.2⟩;intro o ho;split at he<;>simp only[oH,reduceCtorEq]at he<;>subst he<;>simp only[oS]at ho<;>subst ho<;>exact⟨k4,k5⟩
   ·cases he
  ·cases he
def LoopW (P:Program) (GL:Aa) (c:AC) (Q:AExit→St→Prop):Nat→St→Prop
 |0,_=>False
 |n+1,s=>awp P GL c (λe s'=>match e with| .normal=>LoopW P GL c Q n s'|e=>Q e s') s
theorem LoopW.step {c:AC} {Q:AExit→St→Prop}:∀ {n:Nat} {s:St},LoopW P GL c Q n s→LoopW P GL c Q (n+1) s
 |0,s,h=>h.elim
 |n+1,s,h=>by
  refine Ad c ?_ h;intro e s' h;cases e with
  |normal=>exact LoopW.step h
  |exit i=>exact h
  |ret=>exact h
theorem LoopW.le {c:AC} (h:LoopW P GL c Q n s) (hm:n≤m):LoopW P GL c Q m s:=by
 induction hm with
 |refl=>exact h
 |step _ ih=>exact ih.step
theorem LoopW.awp {c:AC} {Q:AExit→St→Prop} {n:Nat} {s:St} (h:LoopW P GL c Q n s):Go.Va.awp P GL (.loop c) Q s:=by
 refine⟨λm s=>LoopW P GL c Q m s,⟨n,h⟩,λm s h=>?_⟩;cases m with
 |zero=>exact h.elim
 |succ m=>
  refine Ad c ?_ h;intro e s' h;cases e with
  |normal=>exact⟨m,by omega,h⟩
  |exit i=>exact h
  |ret=>exact h
theorem Mk {c:AC} (h:awp P GL (.loop c) Q s):∃n,LoopW P GL c Q n s:=by
 obtain⟨I,⟨m,hm⟩,h⟩:=h
 suffices ∀m s,I m s→LoopW P GL c Q (m+1) s from⟨_,this m s hm⟩
 intro m;induction m using Nat.strongRecOn with
 |_ m ih=>
  intro s hs;refine Ad c ?_ (h m s hs);intro e s' h;cases e with
  |normal=>obtain⟨m',hlt,hI⟩:=h;exact(ih m' hlt s' hI).le hlt
  |exit i=>exact h
  |ret=>exact h
theorem Qw {α:Type} {p:Nat→α→Prop} (hp:∀n m x,n≤m→p n x→p m x):∀ {xs:List α},(∀x∈xs,∃n,p n x)→∃n,∀x∈xs,p n x
 |[],_=>⟨0,by simp⟩
 |x::xs,h=>by
  obtain⟨n,hn⟩:=h x (by simp);obtain⟨m,hm⟩:=Qw hp (xs:=xs) λy hy=>h y (by simp[hy]);refine⟨max n m,λy hy=>?_⟩;rcases oO.1 hy with rfl|hy
  ·exact hp _ _ _ (Nat.le_max_left _ _) hn
  ·exact hp _ _ _ (Nat.le_max_right _ _) (hm y hy)
theorem Rb (hE:Snd P GL E) {ac:AC} {s:ES} {os:List (AExit×ES)} (he:Jm E ac s=some os) (hk:OKT s.t s.h):awp P GL ac (λe s'=>∃o∈os,e=o.1∧s'=o.2.real P GL) (s.real P GL):=by
 cases ac with
 |skip=>
  simp only[Jm,oH]at he;subst he;exact⟨_,oS.2 rfl,rfl,rfl⟩
 |reg ops keep=>
  simp only[Jm,oU]at he;obtain⟨ss,hs,rfl⟩:=he;rw[AF];exact(FW hE hs hk).2 _ λo ho=>⟨_,oP.2 ⟨o,ho,rfl⟩,rfl,rfl⟩
 |regD ops keep cl=>
  simp only[Jm,oU]at he;obtain⟨s',hs,rfl⟩:=he;exact⟨_,(Jk hE hs hk).1,_,oS.2 rfl,rfl,rfl⟩
 |regV ops keep cl=>simp[Jm]at he
 |regA ops keep cl t=>
  simp only[Jm,oU]at he;obtain⟨ss,hs,rfl⟩:=he;rw[Bf];obtain⟨hok,hall⟩:=Jj hE t hs hk;refine hall _ λo ho=>?_;obtain⟨s1,hs1,hr⟩:=NA (P:=P) (GL:=GL) (n0:=s.h.length) (t:=s.t) (keep:=keep) ho;obtain⟨s2,hren,heq⟩:=hr;have hl:(s.real P GL).h.length=s.h.length:=DC _ _;rw[hl];exact⟨s2,hren,_,oP.2 ⟨s1,hs1,rfl⟩,rfl,heq⟩
 |seq a b=>
  simp only[Jm]at he;split at he
  ·rename_i o1 h1;rw[AE];refine Ad _ ?_ (hE.C h1 hk);rintro e s' ⟨o,ho,rfl,rfl⟩;obtain⟨zs,q1,q2⟩:=Hq he o ho;have hko:=(hE.K h1 hk o ho).2;split at q1
   ·rename_i hn
    try rw[hn]
    refine Ad _ ?_ (hE.C q1 hko);rintro e s' ⟨o',ho',r⟩;exact⟨o',q2 o' ho',r⟩
   ·rename_i hn;simp only[oH]at q1;subst q1;have:=q2 _ (oS.2 rfl);cases he1:o.1 with
    |normal=>exact absurd he1 hn
    |exit i=>exact⟨_,this,he1.symm▸rfl,rfl⟩
    |ret=>exact⟨_,this,he1.symm▸rfl,rfl⟩
  ·cases he
 |cond x a b=>
  simp only[Jm]at he;rw[AK];have hx:x.ev (s.real P GL).e=x.ev s.e:=rfl;split at he
  ·rename_i t ht;rw[hx,ht];simp only[];split at he
   ·rename_i htt;rw[if_pos htt];exact hE.C he hk
   ·rename_i htt;rw[if_neg htt];exact hE.C he hk
  ·cases he
 |block id c=>
  simp only[Jm,oU]at he;obtain⟨ss,hs,rfl⟩:=he;rw[AM];refine Ad _ ?_ (hE.C hs hk);rintro e s' ⟨o,ho,rfl,rfl⟩;have hm:=List.mem_map_of_mem (f:=λo:AExit×ES=>match o.1 with| .exit id'=>if id'=id then ((.normal,o.2):AExit×ES) else o|_=>o) ho
  obtain⟨e,s'⟩:=o;cases e with
  |normal=>exact⟨_,hm,rfl,rfl⟩
  |ret=>exact⟨_,hm,rfl,rfl⟩
  |exit i=>
   simp only at hm ⊢;by_cases hi:i=id
   ·simp only[hi,if_true]at hm ⊢;exact⟨_,hm,rfl,rfl⟩
   ·simp only[hi,if_false]at hm ⊢;exact⟨_,hm,rfl,rfl⟩
 |loop c=>
  simp only[Jm]at he;split at he
  ·rename_i o1 h1;have hb:∀o∈o1,∃n,(match o.1 with| .normal=>LoopW P GL c (λe s'=>∃o∈os,e=o.1∧s'=o.2.real P GL) n (o.2.real P GL)|e=>∃o'∈os,e=o'.1∧o.2.real P GL=o'.2.real P GL):=by
    intro o ho;obtain⟨zs,q1,q2⟩:=Hq he o ho;have hko:=(hE.K h1 hk o ho).2;split at q1
    ·rename_i hn;refine Mk (Ad _ ?_ (hE.C q1 hko));rintro e s' ⟨o',ho',r⟩;exact⟨o',q2 o' ho',r⟩
    ·rename_i hn;simp only[oH]at q1;subst q1;have:=q2 _ (oS.2 rfl);cases he1:o.1 with
     |normal=>exact absurd he1 hn
     |exit i=>exact⟨0,_,this,he1.symm▸rfl,rfl⟩
     |ret=>exact⟨0,_,this,he1.symm▸rfl,rfl⟩
   obtain⟨n,hn⟩:=Qw (λn m x hnm h=>by
    cases hx:x.1 with
    |normal=>simp only[hx]at h ⊢;exact h.le hnm
    |exit i=>simp only[hx]at h ⊢;exact h
    |ret=>simp only[hx]at h ⊢;exact h) hb
   refine LoopW.awp (n:=n+1) (Ad _ ?_ (hE.C h1 hk));rintro e s' ⟨o,ho,rfl,rfl⟩;have:=hn o ho;cases he1:o.1 with
   |normal=>simp only[he1]at this ⊢;exact this
   |exit i=>simp only[he1]at this ⊢;exact this
   |ret=>simp only[he1]at this ⊢;exact this
  ·cases he
 |never=>cases he
 |exit id=>
  simp only[Jm,oH]at he;subst he;exact⟨_,oS.2 rfl,rfl,rfl⟩
 |ret=>
  simp only[Jm,oH]at he;subst he;exact⟨_,oS.2 rfl,rfl,rfl⟩
 |rangeF q ps asg body=>
  simp only[Jm]at he;split at he
  ·rename_i fid caps hf;split at he
   ·rename_i rets h' x t' hF;obtain⟨h1,h2⟩:=hk.append (P:=P) (GL:=GL) .dead;have hnl:¬s.t.has s.h.length:=λhh=>by have:=hk.lt hh;simp at this
    have hk0:OKT ((s.h.length,Tag.ready,(⟨Hn s.e,ps,asg,body⟩:LD))::s.t) (s.h++[.dead]):=by
     refine⟨λr hr=>?_,?_⟩
     ·simp only[Lp.has,oV,oO]at hr;rcases hr with rfl|hr
      ·simp
      ·exact h1.dead r hr
     ·rw[oV,qr];exact⟨hnl,hk.nod⟩
    obtain⟨k1,k2,k3⟩:=hE.F hF hk0;have hx1:s.h.length=x.1:=k2.1;have hx2:(⟨Hn s.e,ps,asg,body⟩:LD)=x.2.2:=k2.2.1;have hl:(s.real P GL).h.length=s.h.length:=DC _ _;have e0:Lp.ins P GL ((s.h.length,Tag.ready,(⟨Hn s.e,ps,asg,body⟩:LD))::s.t) (s.h++[.dead])=(s.real P GL).h++[Au P GL .ready (Hn s.e) ps asg body]:=by
     simp only[Lp.ins,h2,ES.real];rw[rH _ _ (by rw[DC];exact oN _),DC,rI];rfl
    have e1:Lp.ins P GL (x::t') h'=(Lp.ins P GL t' h').set s.h.length (Au P GL x.2.1 (Hn s.e) ps asg body):=by
     simp only[Lp.ins,←hx1,←hx2]
    have hd:=k3.dead x.1 (by simp[Lp.has]);have hlt:s.h.length <h'.length:=by rw[hx1];exact(oM.1 hd).1
    have hnt:¬Lp.has t' s.h.length:=by
     have:=k3.nod;rw[oV,qr]at this;rw[hx1];exact this.1
    simp only[e0,e1]at k1;rw[Lg];have hq:∀Q:AExit→St→Prop,CK Q ⟨s.e,Lp.ins P GL t' h'⟩ x.2.1→
      ∃fid caps rets h' tag,DS (q.ev (s.real P GL).e)=some (fid,caps)∧FSp P GL fid (.yld (s.real P GL).h.length::caps) ((s.real P GL).h++[Au P GL .ready (Hn (s.real P GL).e) ps asg body]) rets h'∧
       h'[(s.real P GL).h.length]?=some (Au P GL tag (Hn (s.real P GL).e) ps asg body)∧CK Q ⟨(s.real P GL).e,h'.set (s.real P GL).h.length .dead⟩ tag:=by
     intro Q hQ;refine⟨fid,caps,rets,(Lp.ins P GL t' h').set s.h.length (Au P GL x.2.1 (Hn s.e) ps asg body),x.2.1,hf,?_,?_,?_⟩
     ·rw[hl];exact k1
     ·rw[hl,pF (by rw[DC];exact hlt)];rfl
     ·rw[hl,qc];have:(Lp.ins P GL t' h').set s.h.length .dead=Lp.ins P GL t' h':=Gw (by rw[NL t' hnt,hx1];exact hd);rw[this];exact hQ
    refine hq _ ?_;split at he<;>simp only[oH,reduceCtorEq]at he<;>subst he<;>rename_i hxt<;>rw[hxt]<;>exact⟨_,oS.2 rfl,rfl,rfl⟩
   ·cases he
  ·cases he
theorem O4 {t:Lp} {e:CB} {h:List Row} (hk:OKT t h):∀ {rs:List AR} {xs:List D},DG ⟨e,h⟩ rs=some xs→DG ⟨e,t.ins P GL h⟩ rs=some xs
 |[],xs,hx=>hx
 |r::rs,xs,hx=>by
  simp only[DG]at hx ⊢;split at hx
  ·rename_i y ys hy hys;rw[O4 hk hys];have:r.d ⟨e,t.ins P GL h⟩=some y:=by
    cases r with
    |t n=>exact hy
    |c n sz ag=>
     simp only[AR.d,sS]at hy ⊢;obtain⟨d,hd,hd2⟩:=hy;exact⟨d,Np hk hd,hd2⟩
   rw[this];exact hx
  ·cases hx
theorem Kr {t:Lp} {x:List D×List Row×Lp} (hk:t.kin x.2.2) (hok:OKT x.2.2 x.2.1) (hn:∀r,t.has r→r <n):
  t.kin (Lm n x).2.2∧OKT (Lm n x).2.2 (Lm n x).2.1∧(FSp P GL f args h x.1 (x.2.2.ins P GL x.2.1)→FSp P GL f args h (Lm n x).1 ((Lm n x).2.2.ins P GL (Lm n x).2.1)):=by
 unfold Lm;split
 ·have hn':∀r,Lp.has x.2.2 r→r <n:=λr hr=>hn r (by simp only[Lp.has,hk.map];exact hr);obtain⟨h1,h2⟩:=hok.kill (P:=P) (GL:=GL) hn';exact⟨hk,h1,λhf=>by simp only[h2];exact hf.kill n⟩
 ·exact⟨hk,hok,id⟩
theorem Ra (hT:∀f n ac rs,T f=some (n,ac,rs)→CL P GL f n ac rs=true)
  (hP:∀f args h x,Pr f args h=some x→∀t,OKT t h→FSp P GL f args (t.ins P GL h) x.1 (t.ins P GL h++x.2)) (hE:Snd P GL E) {t:Lp} {r:List D×List Row×Lp} (he:lP T Pr E f args h t=some r) (hk:OKT t h):
  FSp P GL f args (t.ins P GL h) r.1 (r.2.2.ins P GL r.2.1)∧t.kin r.2.2∧OKT r.2.2 r.2.1:=by
 unfold lP at he;split at he
 ·rename_i n ac rs htb;split at he
  ·rename_i hlen;split at he
   ·rename_i os hos;split at he
    ·rename_i xs hxs;obtain⟨hmem,hall⟩:=Ja he;have hK:=hE.K hos hk;have hC:=hE.C hos hk;simp only at hK;have hn:∀r,t.has r→r <h.length:=λr hr=>hk.lt hr;have outs:∀o∈os,∃y,(∀i,o.1≠ .exit i)∧DG ⟨o.2.e,o.2.h⟩ rs=some y∧Lm h.length (y,o.2.h,o.2.t)∈xs:=by
      intro o ho;obtain⟨z,hz,hzm⟩:=It hxs o ho;split at hz
      ·cases hz
      ·rename_i hne;simp only[oU]at hz;obtain⟨y,hy,rfl⟩:=hz;exact⟨y,λi hi=>hne i hi,hy,hzm⟩
     have kinx:∀y∈xs,t.kin y.2.2∧OKT y.2.2 y.2.1:=by
      intro y hy;obtain⟨o,ho,hz⟩:=LH hxs y hy;have hko:=hK o ho;split at hz
      ·cases hz
      ·simp only[oU]at hz;obtain⟨z,_,rfl⟩:=hz;obtain⟨q1,q2,_⟩:=Kr (P:=P) (GL:=GL) (f:=f) (args:=args) (h:=h) (n:=h.length) (x:=(z,o.2.h,o.2.t)) hko.1 hko.2 hn;exact⟨q1,q2⟩
     have same:∀y∈xs,y=r:=by
      intro y hy;rcases hall y hy with h|h
      ·exact h
      ·simp only[mK,oJ]at h;exact(rh (D.beqs_eq h.1.1) (rh (Mx h.1.2) (Lp.beq_eq (kinx r hmem).1 (kinx y hy).1 h.2))).symm
     refine⟨?_,kinx r hmem⟩;refine Od (hT f n ac rs htb) hlen (Ad _ ?_ hC);rintro e s' ⟨o,ho,rfl,rfl⟩;obtain⟨y,hne,hy,hym⟩:=outs o ho;have hok:=hK o ho;obtain⟨_,_,q3⟩:=Kr (P:=P) (GL:=GL) (f:=f) (args:=args) (h:=t.ins P GL h) (n:=h.length) (x:=(y,o.2.h,o.2.t)) hok.1 hok.2 hn;refine⟨?_,y,O4 hok.2 hy,λg w μ t' u' O hi=>?_⟩
     ·cases hoe:o.1 with
      |normal=>trivial
      |ret=>trivial
      |exit i=>exact absurd hoe (hne i)
     ·rw[←same _ hym];unfold Lm;split
      ·have hn':∀r,Lp.has o.2.t r→r <h.length:=λr hr=>hn r (by simp only[Lp.has,hok.1.map];exact hr);obtain⟨_,h2⟩:=hok.2.kill (P:=P) (GL:=GL) hn';refine⟨rfl,?_⟩;simp only[h2];exact hi.kill _
      ·exact⟨rfl,hi⟩
    ·cases he
   ·cases he
  ·cases he
 ·simp only[oU]at he;obtain⟨x,hr,rfl⟩:=he;have hlt:∀r,t.has r→r <h.length:=λr hr=>hk.lt hr;refine⟨?_,Lp.kin.refl _,⟨λr hr=>?_,hk.nod⟩⟩
  ·have:=hP f args h x hr t hk;simp only[HC t x.2 hlt];exact this
  ·rw[ov (hlt r hr)];exact hk.dead r hr
theorem RY (hT:∀f n ac rs,T f=some (n,ac,rs)→CL P GL f n ac rs=true) (hE:Snd P GL E) {vs rets:List V} (he:lN T E f vs=some rets):PSp P GL f vs rets:=by
 unfold lN at he;split at he
 ·rename_i n ac rs htb;split at he
  ·rename_i hlen;split at he
   ·rename_i os hos;split at he
    ·rename_i xs hxs;obtain⟨hmem,hall⟩:=Ja he;have hk:OKT ([]:Lp) ([]:List Row):=⟨λr hr=>by simp[Lp.has]at hr,by simp⟩;have hK:=hE.K hos hk;have hC:=hE.C hos hk;refine F5 (hT f n ac rs htb) hlen (Ad _ ?_ hC);rintro e s' ⟨o,ho,rfl,rfl⟩;obtain⟨z,hz,hzm⟩:=It hxs o ho;have hzr:z=rets:=by
      rcases hall z hzm with h|h
      ·exact h
      ·exact(V.beqs_eq h).symm
     have ht:o.2.t=[]:=by
      have:=(hK o ho).1;simp only at this;cases h:o.2.t with
      |nil=>rfl
      |cons a b=>rw[h]at this;exact this.elim
     split at hz
     ·cases hz
     ·rename_i hne;refine⟨?_,?_⟩
      ·cases hoe:o.1 with
       |normal=>trivial
       |ret=>trivial
       |exit i=>exact absurd hoe (hne i)
      ·simp only[ES.real,ht,Lp.ins];rw[←hzr];exact hz
    ·cases he
   ·cases he
  ·cases he
 ·cases he
theorem Pu (hT:∀f n ac rs,T f=some (n,ac,rs)→CL P GL f n ac rs=true)
  (hP:∀f args h x,Pr f args h=some x→∀t,OKT t h→FSp P GL f args (t.ins P GL h) x.1 (t.ins P GL h++x.2)):∀n,Snd P GL (ev T Pr n)
 |0=>by
  constructor
  ·intro f args h t r h;cases h
  ·intro f vs rets h;cases h
  ·intro ac s os h;cases h
  ·intro ac s os h;cases h
 |n+1=>by
  have ih:=Pu hT hP n
  constructor
  ·intro f args h t r he hk;exact Ra hT hP ih he hk
  ·intro f vs rets he;exact RY hT ih he
  ·intro ac s os he hk;exact cH ih he hk
  ·intro ac s os he hk;exact Rb ih he hk
theorem Fm (hT:∀f n ac rs,T f=some (n,ac,rs)→CL P GL f n ac rs=true)
  (hP:∀f args h x,Pr f args h=some x→∀t,OKT t h→FSp P GL f args (t.ins P GL h) x.1 (t.ins P GL h++x.2)) {fuel:Nat} {vs rets:List V} (h:(ev T Pr fuel).Pf f vs=some rets):PSp P GL f vs rets:=(Pu hT hP fuel).Pf h
end
end
end Go.Va
set_option maxHeartbeats 4000000
namespace Go.Va
open Go.Proofs
abbrev TL:=List (Nat×Nat×AC×List AR)
noncomputable def TK:UN:=λf g=>bif Nat.beq f 59 then 0 else HE f g
noncomputable def oT (f k:Nat):List GI:=Oc PG Ah TK f iP iN k
noncomputable def lT (f:Nat):Nat→Nat→AC
 |0,_=> .never
 |n+1,k=>Qm PG Ah TK f (oT f) (lT f n) k
abbrev te (f:Nat) {n:Nat} {x:AC} {y:List AR} (_h1:gN f=n:=by conv=>lhs;reduce) (_h2:VN PG Ah TK f (oT f) (lT f 9)=x:=by conv=>lhs;reduce) (_h3:gR f=y:=by conv=>lhs;reduce):Nat×Nat×AC×List AR:=(f,n,x,y)
noncomputable def ck (x:Nat×Nat×AC×List AR):Bool:=CL Tryz.prog Ah x.1 x.2.1 x.2.2.1 x.2.2.2
noncomputable def dm:Nat→TL
 |0=>[te 13,te 17,te 20]
 |1=>[te 34,te 39,te 40,te 50,te 51,te 52,te 57,te 59,te 61]
 |2=>[te 86,te 87,te 88,te 89,te 90,te 91,te 92,te 95]
 |3=>[te 96,te 98,te 99,te 100,te 102,te 117,te 120,te 121,te 122]
 |4=>[te 128,te 129,te 130,te 131,te 132,te 133,te 137,te 138,te 151]
 |5=>[te 176,te 177,te 178,te 179,te 180,te 181,te 182,te 183,te 189,te 190]
 |6=>[te 192,te 193,te 194,te 208,te 209,te 210,te 216,te 217,te 219,te 221,te 223]
 |7=>[te 225,te 228,te 230,te 233,te 234,te 237,te 238,te 239,te 240,te 252]
 |8=>[te 270,te 271,te 272,te 277,te 279,te 284]
 |9=>[te 293,te 296,te 299,te 301,te 302,te 318]
 |10=>[te 321,te 323,te 324,te 327,te 328,te 340,te 349]
 |_=>[]
theorem W9 (k:Nat):(dm k).all ck=true:=by unfold dm;split<;>kernel_rfl
def OR (l:TL) (f:Nat):Option (Nat×AC×List AR):=
 match l with
 |[]=>none
 |x::l=>if x.1=f then some x.2 else OR l f
theorem OQ {l:TL} (h:l.all ck=true):∀f n ac rs,OR l f=some (n,ac,rs)→CL Tryz.prog Ah f n ac rs=true:=by
 induction l with
 |nil=>intro f n ac rs hl;cases hl
 |cons x l ih=>
  intro f n ac rs hl;rw[qU,oJ]at h;simp only[OR]at hl;split at hl
  ·rename_i hx;simp only[oH]at hl;have:=h.1;rw[ck,hx,hl]at this;exact this
  ·exact ih h.2 f n ac rs hl
noncomputable def Tb:dJ:=λf=>OR (dm (f/32)) f
theorem O9:∀f n ac rs,Tb f=some (n,ac,rs)→CL Tryz.prog Ah f n ac rs=true:=λf n ac rs h=>OQ (W9 (f/32)) f n ac rs h
end Go.Va
namespace Go.Va
section
variable {s:St} {Q:AExit→St→Prop} {r:Nat} {h:List Row}
section
variable {P:Program} {GL:Aa}
theorem Bl {c:AC} {s1:St} (h:awp P GL c (λe s'=>match e with| .normal=>s'=s1|e=>Q e s') s) (h1:awp P GL (.loop c) Q s1):awp P GL (.loop c) Q s:=by
 obtain⟨n,hn⟩:=Mk h1;refine LoopW.awp (n:=n+1) (Ad c ?_ h);intro e s' h;cases e with
 |normal=>subst h;exact hn
 |exit i=>exact h
 |ret=>exact h
theorem As {c:AC} (h:awp P GL c (λe s'=>match e with| .normal=>False|e=>Q e s') s):awp P GL (.loop c) Q s:=by
 refine LoopW.awp (n:=1) (Ad c ?_ h);intro e s' h;cases e with
 |normal=>exact h.elim
 |exit i=>exact h
 |ret=>exact h
theorem CQ {x y:Row} (hr:h[r]?=some y):(h.set r x)[r]?=some x:=pF (oM.1 hr).1
theorem Hj (h:List Row) (x:Row):(h++[x])[h.length]?=some x:=by simp
theorem AV {y:Row} (l:List Row) (hr:h[r]?=some y):(h++l)[r]?=some y:=by
 rw[ov (oM.1 hr).1];exact hr
theorem Cg {y:Row} (hr:h[r]?=some y):r <h.length:=(oM.1 hr).1
theorem Uc (h:List Row) (x y:Row):(h++[x]).set h.length y=h++[y]:=by
 rw[rH _ _ (oN _)];simp
end
end
open Go.Proofs
theorem ip (n:Int) (hn:i64 n):PX 193 [.int .i64 n] [.int .u64 (Hs n)]:=by
 refine BJ 193 ?_;simp[Ai 193,awp,AA 193 0,AA 193 1,AW 193,AX];have e1:((2:Int)^min 1 IntKind.u64.bits)=2:=by decide
 have e2:((2:Int)^min 63 IntKind.i64.bits)=9223372036854775808:=by decide
 have e3:((2:Int)^IntKind.u64.bits)=18446744073709551616:=by decide
 simp only[e1,e2,e3,Do];unfold i64 at hn;unfold Hs;by_cases h0:n <0
 ·have q:n.fdiv 9223372036854775808= -1:=by rw[rJ _ (by decide)];omega
  have a1:(n%18446744073709551616*2%18446744073709551616%18446744073709551616).toNat=(18446744073709551616+2*n).toNat:=by congr 1;omega
  have a2:(n.fdiv 9223372036854775808%18446744073709551616%18446744073709551616).toNat=2^64-1:=by rw[q];rfl
  rw[a1,a2,No _ (by omega),if_pos h0];omega
 ·have q:n.fdiv 9223372036854775808=0:=by rw[rJ _ (by decide)];omega
  have a1:(n%18446744073709551616*2%18446744073709551616%18446744073709551616).toNat=(2*n).toNat:=by congr 1;omega
  have a2:(n.fdiv 9223372036854775808%18446744073709551616%18446744073709551616).toNat=0:=by rw[q];rfl
  rw[a1,a2,Nat.xor_zero,if_neg h0];omega
theorem ii (n:Int) (hn:i64 n):PX 199 [.int .i64 n] [.int .u64 (Hs n)]:=by
 refine BJ 199 ?_;unfold i64 at hn;unfold Hs;by_cases h0:n <0
 ·simp[Ai 199,awp,AA 199 0,AA 199 1,AA 199 2,AW 199,AX,h0];have a1:IntKind.i64.wrap (n+1)=n+1:=AL;rw[a1,AL (a:= -(n+1)) (by omega) (by omega)];simp only[Do];omega
 ·simp[Ai 199,awp,AA 199 0,AA 199 1,AA 199 3,AW 199,AX,h0];simp only[Do];omega
theorem Uw {n:Int}:IntKind.u8.wrap (((IntKind.u8.wrap n%2^IntKind.u8.bits).toNat ||| 128%2^IntKind.u8.bits:Nat):Int)=128+n%128:=by
 have e3:((2:Int)^IntKind.u8.bits)=256:=by decide
 have e4:(128%2^IntKind.u8.bits)=128:=by decide
 rw[e3,e4];have hm:(IntKind.u8.wrap n%256).toNat <256:=by rw[Gr];omega
 rw[aT _ hm,Gr,Gr];omega
theorem kM (k:Nat):∀(n:Int) (h:List Row) (r:Nat) (xs:List Int),0≤n→n <128^(k+1)→n <18446744073709551616→h[r]?=some (wr xs)→xs.length+k≤2^46→
  ∃ys m,DP k n=ys++[m]∧0≤m∧m <128∧
  awp Tryz.prog Ah (.loop (lG 192 0)) (λe s=>e= .exit 0∧s=⟨[(0,.ref r 0),(1,.v (.int .u64 m)),(5,.v (.bool false))],h.set r (wr (xs++ys))⟩) ⟨[(0,.ref r 0),(1,.v (.int .u64 n))],h⟩:=by
 induction k with
 |zero=>
  intro n h r xs h0 h1 h2 hr hl;refine⟨[],n,rfl,h0,by simpa using h1,?_⟩;have h3':(128:Int)^(0+1)=128:=by decide
  have h3:¬128≤n:=by omega
  refine As ?_;simp only[Zw,A8 192 0,AA 192 0];simp[h3,AJ,Gw hr]
 |succ k ih=>
  intro n h r xs h0 h1 h2 hr hl;by_cases h3:128≤n
  ·have hr2:∀x,(h.set r x)[r]?=some x:=λx=>CQ hr;have hd0:0≤n/128:=by omega
   have hd1:n/128 <128^(k+1):=sI (by decide) (by rw[←pW];exact h1);obtain⟨ys,m,e1,e2,e3,hw⟩:=ih (n/128) (h.set r (wr (xs++[128+n%128]))) r (xs++[128+n%128]) hd0 hd1 (by omega) (hr2 _) (by simp;omega);refine⟨(128+n%128)::ys,m,?_,e2,e3,?_⟩
   ·simp only[DP,if_neg (show ¬n <128 by omega),e1,pl]
   ·refine Bl (s1:=⟨[(0,.ref r 0),(1,.v (.int .u64 (n/128)))],h.set r (wr (xs++[128+n%128]))⟩) ?_ ?_
    ·simp only[Zw,A8 192 0,AA 192 0];simp[h3,AD];have hroom:AU (xs.length+1) 1=true:=by simp[AU];omega
     have e5:((2:Int)^min 7 IntKind.u64.bits)=128:=by decide
     simp only[AA 192 2,AA 192 1];simp[hr,wr,hr2,V.cells,Dr,BM,hroom,Uw,e5,rJ]
    ·rw[qc]at hw;simpa using hw
  ·refine⟨[],n,by simp only[DP,if_pos (show n <128 by omega)];rfl,h0,by omega,?_⟩;refine As ?_;simp only[Zw,A8 192 0,AA 192 0];simp[h3,AJ,Gw hr]
theorem XR (n:Int) (hn:u64 n) (h:List Row) (r:Nat) (xs:List Int) (hr:h[r]?=some (wr xs)) (hl:xs.length≤2^45):FX 192 [.ref r 0,.v (.int .u64 n)] h [] (h.set r (wr (xs++E4 n))):=by
 refine Dh 192 ?_;unfold u64 at hn;have h128:(128:Int)^(9+1)=1180591620717411303424:=by decide
 obtain⟨ys,m,e1,e2,e3,hw⟩:=kM 9 n h r xs hn.1 (by omega) hn.2 hr (by omega);have hys:ys.length≤9:=by have:=HY 9 n;rw[e1]at this;simp at this;omega
 simp only[Ai 192,AE,AM,AQ];simp;refine EO hw ?_;have hr2:∀x,(h.set r x)[r]?=some x:=λx=>CQ hr;have hroom:AU (xs.length+ys.length+1) 1=true:=by simp[AU];omega
 simp only[AF,AA 192 3];simp[wr,hr2,V.cells,Dr,BM,hroom,Ms e2 (show m <256 by omega),AW 192,DG,E4,e1]
theorem Sp (a b:Int):PX 175 [.int .u64 a,.int .u64 b] [.int .u64 (De a b)]:=by
 refine BJ 175 ?_;simp[Ai 175,awp,AA 175 0,AA 175 1,AA 175 2,AW 175,AX];have h:=Gt (IntKind.u64.wrap ↑((a%2^IntKind.u64.bits).toNat ^^^ (b%2^IntKind.u64.bits).toNat)*11400714819323198485);have e:=Gt ((IntKind.u64.wrap (IntKind.u64.wrap ↑((a%2^IntKind.u64.bits).toNat ^^^ (b%2^IntKind.u64.bits).toNat)*11400714819323198485))/4294967296);rw[rK h.1,A9 (a:=_/4294967296) (by omega) (by omega)];rfl
theorem So (a b:Int):PX 190 [.int .u64 a,.int .u64 b] [.int .u64 (De a b)]:=by
 refine BJ 190 ?_;simp[Ai 190,awp,AA 190 0,AA 190 1,AA 190 2,AW 190,AX];have e:((2:Int)^min 32 IntKind.u64.bits)=4294967296:=by decide
 rw[e,rJ _ (by decide)];rfl
theorem Xt (bs:List Int) (hb:∀b∈bs,0≤b∧b <256) (hl:bs.length≤2^40) (x:D) (k:Nat) (hk:8*k <bs.length):
  awp Tryz.prog Ah (.loop (lG 174 1)) (λe s=>e= .exit 2∧s=⟨[(0,.v (AH .u8 bs)),(3,x),(4,.v (.int .i64 (8*k:Nat))),(5,.v (.int .u64 (IA ((bs.drop (8*k)).take 8)))),(6,.v (.int .i64 (8*k-1))),(21,.v (.bool false))],[]⟩)
   ⟨[(0,.v (AH .u8 bs)),(3,x),(4,.v (.int .i64 (8*k:Nat))),(5,.v (.int .u64 0)),(6,.v (.int .i64 ((min (8*k+8) bs.length:Nat)-1)))],[]⟩:=by
 have hm:8*k <min (8*k+8) bs.length:=by omega
 generalize hmm:min (8*k+8) bs.length=m at hm;have:=D2 (P:=Tryz.prog) (GL:=Ah) (c:=(lG 174 1)) (Q:=λe s=>e= .exit 2∧s=⟨[(0,.v (AH .u8 bs)),(3,x),(4,.v (.int .i64 (8*k:Nat))),(5,.v (.int .u64 (IA ((bs.drop (8*k)).take 8)))),(6,.v (.int .i64 (8*k-1))),(21,.v (.bool false))],[]⟩) (m-8*k)
  (λj=>⟨[(0,.v (AH .u8 bs)),(3,x),(4,.v (.int .i64 (8*k:Nat))),(5,.v (.int .u64 (IA ((bs.drop (m-j)).take j)))),(6,.v (.int .i64 ((m:Int)-j-1)))],[]⟩) ?_ 0 (pg _)
 ·simpa[IA]using this
 intro j hj;simp only[Zw,A8 174 1,AA 174 7];simp[AH];by_cases h1:(8*(k:Int))≤(m:Int)-j-1
 ·rw[if_pos h1,AD];have hi:m-j-1 <bs.length:=by omega
  obtain⟨b0,hb0⟩:∃b0,bs[m-j-1]?=some b0:=⟨_,oI hi⟩;obtain⟨hb1,hb2⟩:=hb b0 (oK hb0);have h2:1≤(m:Int)-j:=by omega
  have hd:bs.drop (m-(j+1))=b0::bs.drop (m-j):=by
   rw[show m-(j+1)=m-j-1 by omega,qR hi,show m-j-1+1=m-j by omega];rw[(oM.1 hb0).2]
  have hw:IA ((bs.drop (m-(j+1))).take (j+1))=IntKind.u64.wrap (IntKind.u64.wrap (256*IA ((bs.drop (m-j)).take j))+IntKind.u64.wrap b0):=by
   rw[hd,ri];have e:∀l,IA (b0::l)=256*IA l+b0:=λ_=>rfl;rw[e];obtain⟨q1,q2⟩:=LJ bs hb (m-j) j (by omega);have q3:(256:Int)^j≤256^7:=NJ (by omega);have q4:(256:Int)^7=72057594037927936:=by decide
   rw[A9 hb1 (by omega),A9 (a:=256*_) (by omega) (by omega),A9 (by omega) (by omega)]
  simp only[AA 174 8,AA 174 9];simp[hb0,h2,V.cells];refine⟨by omega,?_⟩;exact⟨hw.symm,by rw[AL];omega⟩
 ·rw[if_neg h1,AJ];have:m-8*k=j:=by omega
  subst this;simp;refine⟨?_,by omega,by omega⟩;rw[show m-(m-8*k)=8*k by omega];rcases om (m-8*k) 8 with h|h
  ·have hm2:m=bs.length:=by omega
   subst hm2;rw[o6 (by simp),o6 (by simp;omega)]
  ·rw[show m-8*k=8 by omega]
theorem aA (bs:List Int) (hb:∀b∈bs,0≤b∧b <256) (hl:bs.length≤2^40):PX 174 [AH .u8 bs] [AH .u64 (Am bs)]:=by
 refine BJ 174 ?_;simp only[Ai 174,AE,AF,AM,AA 174 0,AA 174 1,AA 174 2,AX];simp[AH];refine D2 ((bs.length+7)/8) (λk=>⟨[(0,.v (AH .u8 bs)),(3,.own 47 1 (((Am bs).take k).map (.int .u64))),(4,.v (.int .i64 (8*k:Nat)))],[]⟩) ?_ 0 (pg _);intro k hk;simp only[Zw,A8 174 0,AA 174 3];simp[AH];by_cases h1:8*(k:Int) <bs.length
 ·rw[if_pos h1,AD];simp only[AA 174 5,AA 174 6];simp;have hw:IntKind.i64.wrap (8*(k:Int)+8)=8*k+8:=AL;have hw2:IntKind.i64.wrap ((if (bs.length:Int) <8*k+8 then (bs.length:Int) else 8*k+8)-1)=((min (8*k+8) bs.length:Nat)-1:Int):=by
   rw[AL (by split<;>omega) (by split<;>omega)]
   split<;>omega
  rw[hw,hw2];have:=Xt bs hb hl (.own 47 1 (((Am bs).take k).map (.int .u64))) k (by omega);simp[AH]at this;refine EO this ?_;have hwk:(Am bs).take (k+1)=(Am bs).take k++[IA ((bs.drop (8*k)).take 8)]:=by
   have hlt:k <(Am bs).length:=by simp[Am];omega
   rw[pX hlt];simp[Am]
  have hr:AU (min k (Am bs).length+1) 8=true:=by
   simp only[AU,decide_eq_true_eq];have:min k (Am bs).length≤k:=Nat.min_le_left _ _;omega
  simp only[AA 174 10,AA 174 4];simp[BM,V.cells,hr,hw];refine⟨by omega,?_,by omega⟩;rw[←o8,←o8,hwk];simp
 ·rw[if_neg h1,AJ];have hk2:k=(bs.length+7)/8:=by omega
  simp[AA 174 11,AW 174,AB];rw[hk2];simp[Am];rw[o6 (by simp)]
def Ln (label:List Int) (l:List Int):Int:=
 De (l.foldl (λs n=>De s (IntKind.u64.wrap n)) (De (De ((Am label).foldl De 0) label.length) l.length)) 0
theorem ah (lab:D) (l:V) (ws:List Int) (hl:ws.length≤2^40):
  awp Tryz.prog Ah (.loop (lG 84 0)) (λe s=>e= .exit 0∧s=⟨[(0,lab),(1,.v l),(5,.v (.int .u64 (ws.foldl De 0))),(6,.v (AH .u64 ws)),(7,.v (.int .i64 ws.length)),(15,.v (.bool false))],[]⟩)
   ⟨[(0,lab),(1,.v l),(5,.v (.int .u64 0)),(6,.v (AH .u64 ws)),(7,.v (.int .i64 0))],[]⟩:=by
 refine D2 ws.length (λk=>⟨[(0,lab),(1,.v l),(5,.v (.int .u64 ((ws.take k).foldl De 0))),(6,.v (AH .u64 ws)),(7,.v (.int .i64 k))],[]⟩) ?_ 0 (pg _);intro k hk;simp only[Zw,A8 84 0,AA 84 4];simp[AH];by_cases h1:k <ws.length
 ·have hx:ws[k]?=some ws[k]:=oI h1;have hw:=Bb k;rw[if_pos (by omega),AD];simp only[AA 84 5,AA 84 6];simp[hx,V.cells,DS,D.norm,Av,D.arg];have hp:=(Sp ((ws.take k).foldl De 0) ws[k]).fsp [];refine⟨_,_,hp,?_⟩;refine⟨h1,⟨?_,hw⟩,rfl⟩;rw[pX h1,qd];rfl
 ·have:k=ws.length:=by omega
  subst this;rw[if_neg (by omega),AJ];simp
theorem af (l:List Int) (s0:Int) (hl:l.length≤2^40):
  awp Tryz.prog Ah (.loop (lG 84 1)) (λe s=>e= .exit 2∧s=⟨[(1,.v (AH .i64 l)),(5,.v (.int .u64 (l.foldl (λs n=>De s (IntKind.u64.wrap n)) s0))),(8,.v (.int .i64 l.length)),(37,.v (.bool false))],[]⟩)
   ⟨[(1,.v (AH .i64 l)),(5,.v (.int .u64 s0)),(8,.v (.int .i64 0))],[]⟩:=by
 refine D2 l.length (λk=>⟨[(1,.v (AH .i64 l)),(5,.v (.int .u64 ((l.take k).foldl (λs n=>De s (IntKind.u64.wrap n)) s0))),(8,.v (.int .i64 k))],[]⟩) ?_ 0 (pg _);intro k hk;simp only[Zw,A8 84 1,AA 84 10];simp[AH];by_cases h1:k <l.length
 ·have hx:l[k]?=some l[k]:=oI h1;have hw:=Bb k;rw[if_pos (by omega),AD];simp only[AA 84 11,AA 84 12];simp[hx,V.cells,DS,D.norm,Av,D.arg];have hp:=(Sp ((l.take k).foldl (λs n=>De s (IntKind.u64.wrap n)) s0) (IntKind.u64.wrap l[k])).fsp [];refine⟨_,_,hp,?_⟩;refine⟨h1,⟨?_,hw⟩,rfl⟩;rw[pX h1,qd];rfl
 ·have:k=l.length:=by omega
  subst this;rw[if_neg (by omega),AJ];simp
def Ag (b:ByteArray):List Int:=b.data.toList.map λc=>(c.toNat:Int)
theorem eQ (b:ByteArray) (l:List Int) (hb:b.size≤2^39) (hl:l.length≤2^40):PX 84 [.str b,AH .i64 l] [.int .u64 (Ln (Ag b) l)]:=by
 refine BJ 84 ?_;have hbl:(Ag b).length=b.size:=by simp[Ag]
 have hw:=aA (Ag b) (λx hx=>by
  simp only[Ag,oP]at hx;obtain⟨c,_,rfl⟩:=hx;have:=c.toNat_lt;omega) (by omega)
 have hwl:(Am (Ag b)).length≤2^40:=by simp[Am];omega
 simp only[Ai 84,AE,AF,AM,AA 84 0,AA 84 1,AA 84 2,AA 84 3,AX];simp[DS,D.norm,Av,D.arg];have e1:AH .u8 (Ag b)= .list (b.data.toList.map λc=>V.int .u8 c.toNat):=by simp[AH,Ag]
 rw[e1]at hw;have hp:=hw.fsp [];simp at hp;refine⟨_,_,hp,?_⟩;simp[BY];refine EO (ah (.v (.str b)) (AH .i64 l) (Am (Ag b)) hwl) ?_;simp only[AA 84 7,AA 84 8,AA 84 9];simp[DS,D.norm,Av,D.arg,AH];have w1:IntKind.u64.wrap (b.size:Int)=b.size:=A9 (by omega) (by omega);have w2:IntKind.u64.wrap (l.length:Int)=l.length:=A9 (by omega) (by omega);rw[w1];refine⟨_,_,(Sp ((Am (Ag b)).foldl De 0) b.size).fsp [],?_⟩;simp[BY,w2];refine⟨_,_,(Sp (De ((Am (Ag b)).foldl De 0) b.size) l.length).fsp [],?_⟩;simp;have hl1:=af l (De (De ((Am (Ag b)).foldl De 0) b.size) l.length) hl;simp only[AH]at hl1;refine EO hl1 ?_;simp only[AA 84 13];simp[DS,D.norm,Av,D.arg];refine⟨_,_,(Sp _ 0).fsp [],?_⟩;simp[BY,AB,AW 84,Ln,hbl]
section
attribute [simp] DS D.norm Av D.arg BY CQ Hj V.cells DG AR.d D.keep
@[simp] theorem X0 (s:Nat):BM s []=true:=rfl
@[simp] theorem WT (s:Nat) (x:V) (xs:List V):BM s (x::xs)=(x.cells.length==s):=rfl
@[simp] theorem YA (k:IntKind) (l:List Int):BM 1 (l.map (V.int k))=true:=by cases l<;>rfl
variable {s:St} {Q:AExit→St→Prop}
theorem AN {P:Program} {GL:Aa} {c:AC} (n:Nat) (S:Nat→St) (hs:s=S 0)
  (h:∀k,k≤n→awp P GL c (λe s'=>match e with| .normal=>k <n∧s'=S (k+1)|e=>Q e s') (S k)):awp P GL (.loop c) Q s:=
 hs▸D2 n S h 0 (pg _)
variable {k:Nat}
theorem BT {α β:Type} {f:α→List β} {l:List α} (h:k <l.length):(l.take (k+1)).flatMap f=(l.take k).flatMap f++f l[k]:=by
 rw[pX h,pm];simp
theorem XN (n:Int) (hn:i64 n) (h:List Row) (r:Nat) (xs:List Int) (hr:h[r]?=some (wr xs)) (hl:xs.length≤2^45):FX 98 [.ref r 0,.v (.int .i64 n)] h [] (h.set r (wr (xs++AZ n))):=by
 refine Dh 98 ?_;simp[Ai 98,awp,AA 98 0,AW 98,AQ];refine⟨_,_,(ip n hn).fsp h,?_⟩;simp;exact⟨_,(XR (Hs n) (Gq hn) h r xs hr hl)⟩
theorem io (b:ByteArray) (hb:b.size≤2^40) (h:List Row) (r:Nat) (xs:List Int) (hr:h[r]?=some (wr xs)) (hl:xs.length≤2^45):FX 194 [.ref r 0,.v (.str b)] h [] (h.set r (wr (xs++BE (Ag b)))):=by
 refine Dh 194 ?_;have hbl:(Ag b).length=b.size:=by simp[Ag]
 have w1:IntKind.u64.wrap (b.size:Int)=b.size:=A9 (by omega) (by omega);simp[Ai 194,awp,AA 194 0,AA 194 1,AW 194,AQ,w1];refine⟨_,_,(XR b.size ⟨by omega,by omega⟩ h r xs hr hl),?_⟩;have hu:=CV b.size;have hroom:AU (xs.length+(E4 b.size).length+b.size) 1=true:=by simp[AU];omega
 simp[CQ hr,wr,hroom,BE,hbl];simp[Ag,rj]
theorem Z5 (k:Nat):∀(n:Int) (h:List Row) (xs:List Int),0≤n→n <128^(k+1)→n <18446744073709551616→xs.length+k≤2^46→
  ∃ys m,DP k n=ys++[m]∧0≤m∧m <128∧
  awp Tryz.prog Ah (.loop (lG 198 0)) (λe s=>e= .exit 0∧s=⟨[(0,.v (.int .u64 m)),(3,.own 5 1 ((xs++ys).map (.int .u8))),(5,.v (.bool false))],h⟩) ⟨[(0,.v (.int .u64 n)),(3,.own 5 1 (xs.map (.int .u8)))],h⟩:=by
 induction k with
 |zero=>
  intro n h xs h0 h1 h2 hl;refine⟨[],n,rfl,h0,by simpa using h1,?_⟩;have h3':(128:Int)^(0+1)=128:=by decide
  have h3:¬127 <n:=by omega
  refine As ?_;simp only[Zw,A8 198 0,AA 198 2];simp[h3,AJ]
 |succ k ih=>
  intro n h xs h0 h1 h2 hl;by_cases h3:127 <n
  ·have hd0:0≤n/128:=by omega
   have hd1:n/128 <128^(k+1):=sI (by decide) (by rw[←pW];exact h1);obtain⟨ys,m,e1,e2,e3,hw⟩:=ih (n/128) h (xs++[128+n%128]) hd0 hd1 (by omega) (by simp;omega);refine⟨(128+n%128)::ys,m,?_,e2,e3,?_⟩
   ·simp only[DP,if_neg (show ¬n <128 by omega),e1,pl]
   ·refine Bl (s1:=⟨[(0,.v (.int .u64 (n/128))),(3,.own 5 1 ((xs++[128+n%128]).map (.int .u8)))],h⟩) ?_ ?_
    ·simp only[Zw,A8 198 0,AA 198 2];simp[h3,AD];have hroom:AU (xs.length+1) 1=true:=by simp[AU];omega
     have w1:IntKind.u64.wrap (n/128)=n/128:=A9 (by omega) (by omega);have w2:IntKind.u64.wrap (n%128)=n%128:=A9 (by omega) (by omega);have w3:IntKind.u64.wrap (128+n%128)=128+n%128:=A9 (by omega) (by omega);have w4:IntKind.u8.wrap (128+n%128)=128+n%128:=Ms (by omega) (by omega);simp only[AA 198 3,AA 198 4];simp[Dr,hroom,rK h0,sJ h0,w1,w3,w4]
    ·simpa using hw
  ·refine⟨[],n,by simp only[DP,if_pos (show n <128 by omega)];rfl,h0,by omega,?_⟩;refine As ?_;simp only[Zw,A8 198 0,AA 198 2];simp[h3,AJ]
theorem Us (n:Int) (hn:u64 n) (h:List Row):FX 198 [.v (.int .u64 n)] h [.own 5 1 ((E4 n).map (.int .u8))] h:=by
 refine Dh 198 ?_;unfold u64 at hn;have h128:(128:Int)^(9+1)=1180591620717411303424:=by decide
 obtain⟨ys,m,e1,e2,e3,hw⟩:=Z5 9 n h [] hn.1 (by omega) hn.2 (by decide);have hys:ys.length≤9:=by have:=HY 9 n;rw[e1]at this;simp at this;omega
 simp only[Ai 198,AE,AM,AF,AA 198 0,AA 198 1,AQ];simp;simp at hw;refine EO hw ?_;have hroom:AU (ys.length+1) 1=true:=by simp[AU];omega
 simp only[AA 198 5];simp[hroom,Ms e2 (show m <256 by omega),AW 198,E4,e1,AB]
theorem M5 (n:Int) (hn:i64 n) (h:List Row):FX 104 [.v (.int .i64 n)] h [.own 5 1 ((AZ n).map (.int .u8))] h:=by
 refine Dh 104 ?_;simp[Ai 104,awp,AA 104 0,AA 104 1,AW 104,AQ];refine⟨_,_,(ii n hn).fsp h,?_⟩;simp;refine⟨_,(Us (Hs n) (Gq hn) h),?_⟩;simp[AZ]
theorem aQ (xs:List Int) (hb:xs.length≤2^45) (h:List Row):FX 105 [.v (AH .u8 xs)] h [.own 5 1 ((BE xs).map (.int .u8))] h:=by
 refine Dh 105 ?_;have w1:IntKind.u64.wrap (xs.length:Int)=xs.length:=A9 (by omega) (by omega);simp[Ai 105,awp,AA 105 0,AA 105 1,AW 105,AQ,AH,w1];refine⟨_,_,(Us xs.length ⟨by omega,by omega⟩ h),?_⟩;have hu:=CV xs.length;have hroom:AU ((E4 xs.length).length+xs.length) 1=true:=by simp[AU];omega
 simp[hroom,BE]
theorem aP (l:List Int) (hi:∀n∈l,i64 n) (hb:l.length≤2^40) (h:List Row):FX 107 [.v (AH .i64 l)] h [.own 5 1 ((A6 l).map (.int .u8))] h:=by
 refine Dh 107 ?_;have w1:IntKind.u64.wrap (l.length:Int)=l.length:=A9 (by omega) (by omega);simp only[Ai 107,AE,AM,AF,AA 107 0,AA 107 1,AA 107 2,AQ];simp[AH,w1];refine⟨_,_,(Us l.length ⟨by omega,by omega⟩ h),?_⟩;have hu:=CV l.length;simp;refine AN l.length (λk=>⟨[(0,.v (AH .i64 l)),(3,.own 5 1 ((E4 l.length++(l.take k).flatMap AZ).map (.int .u8))),(4,.v (.int .i64 k))],h⟩) (by simp[AH]) ?_;intro k hk;simp only[Zw,A8 107 0,AA 107 3];simp[AH];by_cases h1:k <l.length
 ·have hx:l[k]?=some l[k]:=oI h1;have hw:=Bb k;rw[if_pos (by omega),AD];simp only[AA 107 4,AA 107 5];simp[hx];refine⟨_,_,(M5 l[k] (hi _ (pR h1)) h),?_⟩;have hf:=B8 (l.take k);have he:=Ab l[k];have ht:(l.take k).length=k:=by simp;omega
  have hroom:AU ((E4 l.length).length+((l.take k).flatMap AZ).length+(AZ l[k]).length) 1=true:=by simp[AU,-List.length_flatMap];omega
  simp[hroom,h1,hw,-List.length_flatMap];rw[BT h1];simp
 ·have:k=l.length:=by omega
  subst this;rw[if_neg (by omega),AJ];simp[AB,AA 107 6,AW 107,A6]
theorem aM (xs:List Int) (hb:xs.length≤2^45):∀h,FX 117 [.v (AH .u8 xs)] h [.own 5 1 (xs.map (.int .u8))] h:=by
 intro h;refine Dh 117 ?_;have hroom:AU xs.length 1=true:=by simp[AU];omega
 cases xs with
 |nil=>simp[Ai 117,awp,AA 117 0,AA 117 1,AA 117 2,AA 117 3,AW 117,AQ,AH,AU]
 |cons x xs=>simp[Ai 117,awp,AA 117 0,AA 117 1,AA 117 2,AA 117 3,AW 117,AQ,AH]at hroom ⊢;simp[hroom]
theorem Xb (h:List Row) (r:Nat) (xs:List Int) (hr:h[r]?=some (wr xs)) (hl:xs.length≤2^45):FX 102 [.ref r 0] h [.own 5 1 (xs.map (.int .u8))] h:=by
 refine Dh 102 ?_;simp[Ai 102,awp,AA 102 0,AA 102 1,AW 102,AQ,hr,wr];refine⟨_,(aM xs hl h),?_⟩;simp
theorem Xc (l:List Int) (hi:∀n∈l,i64 n) (hb:l.length≤2^40) (h:List Row) (r:Nat) (xs:List Int) (hr:h[r]?=some (wr xs)) (hl:xs.length≤2^44):FX 100 [.ref r 0,.v (AH .i64 l)] h [] (h.set r (wr (xs++A6 l))):=by
 refine Dh 100 ?_;have w1:IntKind.u64.wrap (l.length:Int)=l.length:=A9 (by omega) (by omega);simp only[Ai 100,AE,AM,AF,AA 100 0,AA 100 1,AQ];simp[AH,w1];refine⟨_,_,(XR l.length ⟨by omega,by omega⟩ h r xs hr (by omega)),?_⟩;have hu:=CV l.length
 try simp
 refine AN l.length (λk=>⟨[(0,.ref r 0),(11,.v (AH .i64 l)),(12,.v (.int .i64 l.length)),(13,.v (.int .i64 k))],h.set r (wr (xs++(E4 l.length++(l.take k).flatMap AZ)))⟩) (by simp[AH]) ?_;intro k hk;simp only[Zw,A8 100 0,AA 100 2];simp[AH];by_cases h1:k <l.length
 ·have hx:l[k]?=some l[k]:=oI h1;have hw:=Bb k;rw[if_pos (by omega),AD];simp only[AA 100 3,AA 100 4,AA 100 5];simp[hx];have hf:=B8 (l.take k);have ht:(l.take k).length=k:=by simp;omega
  refine⟨_,_,(XN l[k] (hi _ (pR h1)) _ r (xs++(E4 l.length++(l.take k).flatMap AZ)) (CQ hr) (by simp only[oL];omega)),?_⟩;simp[h1,hw,BT h1]
 ·have:k=l.length:=by omega
  subst this;rw[if_neg (by omega),AJ];simp[AW 100,A6]
end
section
theorem Qd (l:List Int) (b:Int):IA (l++[b])=IA l+b*256^l.length:=by
 induction l with
 |nil=>simp[IA]
 |cons x l ih=>
  have e:∀l,IA (x::l)=256*IA l+x:=λ_=>rfl;rw[pl,e,e,ih,oj,pW,Int.mul_add,ph (256^l.length) 256,←qD,←qD,ph b 256];omega
variable {j:Nat}
theorem OD {a b:Int} (hj:j <8) (ha:0≤a) (ha2:a <256^j) (hb:0≤b) (hb2:b <256):
  IntKind.u64.wrap (((a%2^IntKind.u64.bits).toNat ||| (IntKind.u64.wrap (b*2^min (8*j) IntKind.u64.bits)%2^IntKind.u64.bits).toNat:Nat):Int)=a+b*256^j:=by
 have e3:((2:Int)^IntKind.u64.bits)=18446744073709551616:=by decide
 have e4:min (8*j) IntKind.u64.bits=8*j:=by simp[IntKind.bits];omega
 have e5:(2:Int)^(8*j)=256^j:=by rw[Int.pow_mul];rfl
 have q3:(256:Int)^j≤256^7:=NJ (by omega);have q4:(256:Int)^7=72057594037927936:=by decide
 have q0:(0:Int) <256^j:=pq (by decide);rw[e3,e4,e5];have hb3:0≤b*256^j:=qe hb (by omega);have hb4:b*256^j≤255*256^j:=qJ (by omega) (by omega);rw[A9 hb3 (by omega)];have m1:a%18446744073709551616=a:=by omega
 have m2:(b*256^j)%18446744073709551616=b*256^j:=by omega
 rw[m1,m2];have f1:(b*256^j).toNat=b.toNat <<< (8*j):=by
  rw[Nat.shiftLeft_eq,Nat.pow_mul];obtain⟨n,rfl⟩:=Int.eq_ofNat_of_zero_le hb;have:((n:Int)*256^j)=((n*256^j:Nat):Int):=by rw[Int.natCast_mul,sH];rfl
  rw[this,qT,qT]
 have f2:a.toNat <2^(8*j):=by
  rw[Nat.pow_mul];have e6:((256^j:Nat):Int)=256^j:=by rw[sH];rfl
  have e7:(2^8)^j=256^j:=rfl;rw[e7];omega
 rw[f1,Nat.or_comm,←Nat.shiftLeft_add_eq_or_of_lt f2,←f1,A9 (by omega) (by omega)];rw[pr];omega
theorem KI (b:ByteArray):(Ag b).length=b.size:=by simp[Ag]
variable {i:Nat}
theorem P6 {b:ByteArray} {x:Int} (h:(Ag b)[i]?=some x):∃c:UInt8,b[i]?=some c∧(c.toNat:Int)=x:=by
 unfold Ag at h;rw[oX,oU]at h;obtain⟨c,h1,h2⟩:=h;refine⟨c,?_,h2⟩;obtain⟨h3,h4⟩:=oM.1 h1;have h5:i <b.size:=by simpa using h3
 rw[getElem?_pos b i h5]
 congr 1
theorem bG (xs:List Int) (hb:∀x∈xs,0≤x∧x <256) (hl:xs.length≤2^40) (y:D) (h:List Row) (c:Nat) (hc:h[c]?=some (.cells [.v (AH .u8 xs)])) (k:Nat) (hk:8*k <xs.length):
  awp Tryz.prog Ah (.loop (lG 324 1)) (λe s=>e= .exit 2∧AG s.e 0=y∧AG s.e 1= .ref c 0∧AG s.e 3= .v (.int .i64 (8*k:Nat))∧AG s.e 4= .v (.int .u64 (IA ((xs.drop (8*k)).take 8)))∧s.h=h)
   ⟨[(0,y),(1,.ref c 0),(3,.v (.int .i64 (8*k:Nat))),(4,.v (.int .u64 0)),(5,.v (.int .i64 (8*k:Nat)))],h⟩:=by
 skip
 refine AN (min (8*k+8) xs.length-8*k) (λj=>⟨[(0,y),(1,.ref c 0),(3,.v (.int .i64 (8*k:Nat))),(4,.v (.int .u64 (IA ((xs.drop (8*k)).take j)))),(5,.v (.int .i64 (8*k+j:Nat)))],h⟩) (by simp[IA]) ?_;intro j hj;have hw:IntKind.i64.wrap (8*(k:Int)+8)=8*k+8:=AL;simp only[Zw,A8 324 1,AA 324 5]
 try simp[AH]at hc
 simp[hw,hc];by_cases h1:8*k+j <min (8*k+8) xs.length
 ·have hi:8*k+j <xs.length:=by omega
  obtain⟨b0,hb0⟩:∃b0,xs[8*k+j]?=some b0:=⟨_,oI hi⟩;obtain⟨hb1,hb2⟩:=hb b0 (oK hb0);have hd:(xs.drop (8*k)).take (j+1)=(xs.drop (8*k)).take j++[b0]:=by
   rw[oW];simp[hb0]
  have ht:((xs.drop (8*k)).take j).length=j:=by simp only[ol,List.length_drop];omega
  obtain⟨q1,q2⟩:=LJ xs hb (8*k) j (by omega);have w4:IntKind.u64.wrap b0=b0:=A9 (by omega) (by omega);have hor:=OD (a:=IA ((xs.drop (8*k)).take j)) (b:=b0) (j:=j) (by omega) q1 q2 hb1 hb2;rw[if_pos (by split<;>omega),AD]
  have w1:IntKind.i64.wrap (8*(k:Int)+j-8*k)=j:=by rw[AL];omega
  have w2:IntKind.i64.wrap (8*(j:Int))=(8*j:Nat):=by rw[AL];rfl
  have w3:IntKind.i64.wrap (8*(k:Int)+j+1)=8*k+j+1:=AL;have x1:(8*(k:Int)+(j:Int)).toNat=8*k+j:=by omega
  have x2:0≤8*(k:Int)+(j:Int):=by omega
  skip
  simp only[AA 324 6,AA 324 7];have x3:(8*(j:Int)).toNat=8*j:=by omega
  simp[hc,hb0,x1,x2,w1,w2,w4,hd,Qd,ht,x3];refine⟨by omega,?_⟩;simp[hor,w3]
  try omega
 ·have hj2:j=min (8*k+8) xs.length-8*k:=by omega
  have e9:(xs.drop (8*k)).take j=(xs.drop (8*k)).take 8:=by
   rcases om (xs.length-8*k) 8 with h8|h8
   ·rw[o6 (by simp;omega),o6 (by simp;omega)]
   ·rw[show j=8 by omega]
  rw[if_neg (by split<;>omega),AJ]
  simp[e9]
theorem fD (xs:List Int) (hb:∀x∈xs,0≤x∧x <256) (hl:xs.length≤2^40) (r c:Nat) (hs:Nat→List Row) (hc:∀k,(hs k)[c]?=some (.cells [.v (AH .u8 xs)]))
  (hy:∀k w,(Am xs)[k]?=some w→Nk Tryz.prog Ah r [.v (.int .u64 w)] (hs k) true (hs (k+1))):
  FX 324 [.yld r,.ref c 0] (hs 0) [] (hs (Am xs).length):=by
 skip
 refine Dh 324 ?_;have hlen:(Am xs).length=(xs.length+7)/8:=by simp[Am]
 simp only[Ai 324,AE,AF,AM,AA 324 0,AQ];simp;refine AN (Am xs).length (λk=>⟨[(0,.yld r),(1,.ref c 0),(3,.v (.int .i64 (8*k:Nat)))],hs k⟩) (by simp) ?_;intro k hk;simp only[Zw,A8 324 0,AA 324 1];have hc':=hc k
 try simp[AH]at hc'
 simp[hc'];by_cases h1:8*k <xs.length
 ·rw[if_pos (by omega),AD];simp only[AA 324 3,AA 324 4];simp;refine Ad _ ?_ (bG xs hb hl (.yld r) (hs k) c (hc k) k h1);rintro e ⟨se,sh⟩ ⟨rfl,f0,f1,f3,f4,rfl⟩;have hk2:k <(Am xs).length:=by omega
  have hw:(Am xs)[k]?=some (IA ((xs.drop (8*k)).take 8)):=by
   rw[oI hk2];simp[Am]
  have hw3:IntKind.i64.wrap (8*(k:Int)+8)=8*k+8:=AL;simp only[AA 324 8,AA 324 2];simp[f0,f1,f3,f4,-Bool.exists_bool];refine⟨_,_,hy k _ hw,?_⟩;simp[AD,hw3,hk2];omega
 ·rw[if_neg (by omega),AJ];have hk2:k=(Am xs).length:=by omega
  simp[AW 324,←hk2]
theorem bS (b:ByteArray) (hb:∀x∈(Ag b),0≤x∧x <256) (hl:(Ag b).length≤2^40) (y:D) (h:List Row) (c:Nat) (hc:h[c]?=some (.cells [.v (.str b)])) (k:Nat) (hk:8*k <(Ag b).length):
  awp Tryz.prog Ah (.loop (lG 279 1)) (λe s=>e= .exit 2∧AG s.e 0=y∧AG s.e 1= .ref c 0∧AG s.e 3= .v (.int .i64 (8*k:Nat))∧AG s.e 4= .v (.int .u64 (IA (((Ag b).drop (8*k)).take 8)))∧s.h=h)
   ⟨[(0,y),(1,.ref c 0),(3,.v (.int .i64 (8*k:Nat))),(4,.v (.int .u64 0)),(5,.v (.int .i64 (8*k:Nat)))],h⟩:=by
 have hbl:(Ag b).length=b.size:=by simp[Ag]
 refine AN (min (8*k+8) (Ag b).length-8*k) (λj=>⟨[(0,y),(1,.ref c 0),(3,.v (.int .i64 (8*k:Nat))),(4,.v (.int .u64 (IA (((Ag b).drop (8*k)).take j)))),(5,.v (.int .i64 (8*k+j:Nat)))],h⟩) (by simp[IA]) ?_;intro j hj;have hw:IntKind.i64.wrap (8*(k:Int)+8)=8*k+8:=AL;simp only[Zw,A8 279 1,AA 279 5]
 try simp[AH]at hc
 simp[hw,hc];by_cases h1:8*k+j <min (8*k+8) (Ag b).length
 ·have hi:8*k+j <(Ag b).length:=by omega
  obtain⟨b0,hb0⟩:∃b0,(Ag b)[8*k+j]?=some b0:=⟨_,oI hi⟩;obtain⟨hb1,hb2⟩:=hb b0 (oK hb0);have hd:((Ag b).drop (8*k)).take (j+1)=((Ag b).drop (8*k)).take j++[b0]:=by
   rw[oW];simp[hb0]
  have ht:(((Ag b).drop (8*k)).take j).length=j:=by simp only[ol,List.length_drop];omega
  obtain⟨q1,q2⟩:=LJ (Ag b) hb (8*k) j (by omega);have w4:IntKind.u64.wrap b0=b0:=A9 (by omega) (by omega);have hor:=OD (a:=IA (((Ag b).drop (8*k)).take j)) (b:=b0) (j:=j) (by omega) q1 q2 hb1 hb2;rw[if_pos (by split<;>omega),AD]
  have w1:IntKind.i64.wrap (8*(k:Int)+j-8*k)=j:=by rw[AL];omega
  have w2:IntKind.i64.wrap (8*(j:Int))=(8*j:Nat):=by rw[AL];rfl
  have w3:IntKind.i64.wrap (8*(k:Int)+j+1)=8*k+j+1:=AL;have x1:(8*(k:Int)+(j:Int)).toNat=8*k+j:=by omega
  have x2:0≤8*(k:Int)+(j:Int):=by omega
  obtain⟨c1,hc1,hc2⟩:∃c:UInt8,b[8*k+j]?=some c∧(c.toNat:Int)=b0:=P6 hb0;simp only[AA 279 6,AA 279 7];have x3:(8*(j:Int)).toNat=8*j:=by omega
  simp[hc,x1,x2,w1,w2,w4,hd,Qd,ht,x3,hc1,hc2,KI];refine⟨by omega,?_⟩;simp[hor,w3]
  try omega
 ·have hj2:j=min (8*k+8) (Ag b).length-8*k:=by omega
  have e9:((Ag b).drop (8*k)).take j=((Ag b).drop (8*k)).take 8:=by
   rcases om ((Ag b).length-8*k) 8 with h8|h8
   ·rw[o6 (by simp;omega),o6 (by simp;omega)]
   ·rw[show j=8 by omega]
  rw[if_neg (by split<;>omega),AJ]
  simp[e9]
theorem gE (b:ByteArray) (hb:∀x∈(Ag b),0≤x∧x <256) (hl:(Ag b).length≤2^40) (r c:Nat) (hs:Nat→List Row) (hc:∀k,(hs k)[c]?=some (.cells [.v (.str b)]))
  (hy:∀k w,(Am (Ag b))[k]?=some w→Nk Tryz.prog Ah r [.v (.int .u64 w)] (hs k) true (hs (k+1))):
  FX 279 [.yld r,.ref c 0] (hs 0) [] (hs (Am (Ag b)).length):=by
 have hbl:(Ag b).length=b.size:=by simp[Ag]
 refine Dh 279 ?_;have hlen:(Am (Ag b)).length=((Ag b).length+7)/8:=by simp[Am]
 simp only[Ai 279,AE,AF,AM,AA 279 0,AQ];simp;refine AN (Am (Ag b)).length (λk=>⟨[(0,.yld r),(1,.ref c 0),(3,.v (.int .i64 (8*k:Nat)))],hs k⟩) (by simp) ?_;intro k hk;simp only[Zw,A8 279 0,AA 279 1];have hc':=hc k
 try simp[AH]at hc'
 simp[hc'];by_cases h1:8*k <(Ag b).length
 ·rw[if_pos (by omega),AD];simp only[AA 279 3,AA 279 4];simp;refine Ad _ ?_ (bS b hb hl (.yld r) (hs k) c (hc k) k h1);rintro e ⟨se,sh⟩ ⟨rfl,f0,f1,f3,f4,rfl⟩;have hk2:k <(Am (Ag b)).length:=by omega
  have hw:(Am (Ag b))[k]?=some (IA (((Ag b).drop (8*k)).take 8)):=by
   rw[oI hk2];simp[Am]
  have hw3:IntKind.i64.wrap (8*(k:Int)+8)=8*k+8:=AL;simp only[AA 279 8,AA 279 2];simp[f0,f1,f3,f4,-Bool.exists_bool];refine⟨_,_,hy k _ hw,?_⟩;simp[AD,hw3,hk2];omega
 ·rw[if_neg (by omega),AJ];have hk2:k=(Am (Ag b)).length:=by omega
  simp[AW 279,←hk2]
end
section
theorem iq (b:ByteArray) (h:List Row):FX 189 [.v (.str b)] h [.func 279 [.ref h.length 0]] (h++[.cells [.v (.str b)]]):=by
 refine Dh 189 ?_;simp[Ai 189,awp,AA 189 0,AA 189 1,AW 189,AQ]
theorem fY (xs:List Int) (h:List Row):FX 296 [.v (AH .u8 xs)] h [.func 324 [.ref h.length 0]] (h++[.cells [.v (AH .u8 xs)]]):=by
 refine Dh 296 ?_;simp[Ai 296,awp,AA 296 0,AA 296 1,AW 296,AQ,AH]
theorem Nc (b:ByteArray):∀x∈Ag b,0≤x∧x <256:=by
 intro x hx;simp only[Ag,oP]at hx;obtain⟨c,_,rfl⟩:=hx;have:=c.toNat_lt;omega
theorem jr (e0:CB) (h0:List Row) (hf:AG e0 5= .ref h0.length 0) (x:Row) (w s:Int):
  Nk Tryz.prog Ah (h0.length+2) [.v (.int .u64 w)] (h0++[.cells [.v (.int .u64 s)],x,Au Tryz.prog Ah .ready e0 [11] (lG 96 0) (lG 96 1000)]) true (h0++[.cells [.v (.int .u64 (De s w))],x,Au Tryz.prog Ah .ready e0 [11] (lG 96 0) (lG 96 1000)]):=by
 refine Cm (e0:=e0) (ps:=[11]) (asg:=(lG 96 0)) (body:=(lG 96 1000)) (by simp) rfl ?_;simp only[Fh,A8 96 0,A8 96 1000,AF,AM,AA 96 3,AA 96 4];simp[hf];refine⟨_,_,(So s w).fsp _,?_⟩;simp[CJ,AO]
variable {s:St} {Q:AExit→St→Prop} {q:Opd}
theorem Ct {P:Program} {GL:Aa} {ps:List Nat} {asg body:AC} (fid:Nat) (caps rets:List D) (h1 h':List Row) (tag:Tag)
  (hq:DS (q.ev s.e)=some (fid,caps)) (hh:s.h++[Au P GL .ready (Hn s.e) ps asg body]=h1) (hf:FSp P GL fid (.yld s.h.length::caps) h1 rets h')
  (hr:h'[s.h.length]?=some (Au P GL tag (Hn s.e) ps asg body)) (he:CK Q ⟨s.e,h'.set s.h.length .dead⟩ tag):awp P GL (.rangeF q ps asg body) Q s:=by
 rw[Lg];exact⟨fid,caps,rets,h',tag,hq,hh▸hf,hr,he⟩
variable {k:Nat}
theorem MU {α β:Type} (f:β→α→β) (s0:β) {l:List α} {x:α} (hx:l[k]?=some x):(l.take (k+1)).foldl f s0=f ((l.take k).foldl f s0) x:=by
 obtain⟨h1,h2⟩:=oM.1 hx;rw[pX h1,qd,h2];rfl
theorem jq (l:List Int) (hl:l.length≤2^40) (a:D) (s0:Int) (h:List Row) (xs:List Row):
  awp Tryz.prog Ah (.loop (lG 96 1)) (λe s=>e= .exit 2∧AG s.e 5= .ref h.length 0∧s.h=h++ .cells [.v (.int .u64 (l.foldl (λs n=>De s (IntKind.u64.wrap n)) s0))]::xs)
   ⟨[(5,.ref h.length 0),(24,.v (AH .i64 l)),(25,.v (.int .i64 l.length)),(26,.v (.int .i64 0))],h++ .cells [.v (.int .u64 s0)]::xs⟩:=by
 refine AN l.length (λk=>⟨[(5,.ref h.length 0),(24,.v (AH .i64 l)),(25,.v (.int .i64 l.length)),(26,.v (.int .i64 k))],h++ .cells [.v (.int .u64 ((l.take k).foldl (λs n=>De s (IntKind.u64.wrap n)) s0))]::xs⟩) (by simp) ?_;intro k hk;simp only[Zw,A8 96 1,AA 96 7];simp[AH];by_cases h1:k <l.length
 ·have hx:l[k]?=some l[k]:=oI h1;have hw:=Bb k;rw[if_pos (by omega),AD];simp only[AA 96 8,AA 96 9,AA 96 10];simp[hx];refine⟨_,_,(So ((l.take k).foldl (λs n=>De s (IntKind.u64.wrap n)) s0) (IntKind.u64.wrap l[k])).fsp _,?_⟩;simp[h1,hw,AO,MU _ _ hx]
 ·have:k=l.length:=by omega
  subst this;rw[if_neg (by omega),AJ];simp
theorem eJ (b:ByteArray) (l:List Int) (hb:b.size≤2^39) (hl:l.length≤2^40):PX 96 [.str b,AH .i64 l] [.int .u64 (Ln (Ag b) l)]:=by
 refine BJ 96 ?_;have hbl:(Ag b).length=b.size:=by simp[Ag]
 simp only[Ai 96,AE,AF,AM,AA 96 0,AA 96 1,AA 96 2,AX];simp[AO];refine⟨_,_,iq b _,?_⟩;simp;refine Ct 279 [.ref 1 0] [] _ _ .ready rfl rfl (gE b (Nc b) (by omega) 2 1 (λk=>[.cells [.v (.int .u64 (((Am (Ag b)).take k).foldl De 0))],.cells [.v (.str b)],
  Au Tryz.prog Ah .ready (Hn [(0,.v (.str b)),(1,.v (AH .i64 l)),(5,.ref 0 0),(10,.func 279 [.ref 1 0])]) [11] (lG 96 0) (lG 96 1000)]) (by simp) ?_) rfl ?_
 ·intro k w hw;have:=jr (Hn [(0,.v (.str b)),(1,.v (AH .i64 l)),(5,.ref 0 0),(10,.func 279 [.ref 1 0])]) [] rfl (.cells [.v (.str b)]) w (((Am (Ag b)).take k).foldl De 0);rw[MU _ _ hw];exact this
 ·have w1:IntKind.u64.wrap (b.size:Int)=b.size:=A9 (by omega) (by omega);have w2:IntKind.u64.wrap (l.length:Int)=l.length:=A9 (by omega) (by omega);simp only[CK,AA 96 5];simp[w1];refine⟨_,_,(So ((Am (Ag b)).foldl De 0) b.size).fsp _,?_⟩;simp[AH,w2];refine⟨_,_,(So (De ((Am (Ag b)).foldl De 0) b.size) l.length).fsp _,?_⟩;simp[AA 96 6,AO];refine Ad _ ?_ (jq l hl .any (De (De ((Am (Ag b)).foldl De 0) b.size) l.length) [] _);rintro e ⟨se,sh⟩ ⟨rfl,f5,rfl⟩;simp at f5;simp[AA 96 11,f5];refine⟨_,_,(So _ 0).fsp _,?_⟩;simp[AB,AW 96,Ln,hbl]
end
def I2 (label bs:List Int):Int:=Ln label ((Am bs).map IntKind.i64.wrap++[(bs.length:Int)])
theorem bT (e0:CB) (hf:AG e0 5= .ref 0 0) (x:Row) (w:Int) (ws:List Int) (hl:ws.length≤2^40):
  Nk Tryz.prog Ah 2 [.v (.int .u64 w)] [.cells [.own 3 1 (ws.map (.int .i64))],x,Au Tryz.prog Ah .ready e0 [9] (lG 234 0) (lG 234 1000)] true [.cells [.own 3 1 ((ws++[IntKind.i64.wrap w]).map (.int .i64))],x,Au Tryz.prog Ah .ready e0 [9] (lG 234 0) (lG 234 1000)]:=by
 refine Cm (e0:=e0) (ps:=[9]) (asg:=(lG 234 0)) (body:=(lG 234 1000)) (by simp) rfl ?_;have hroom:AU (ws.length+1) 8=true:=by simp[AU];omega
 simp only[Fh,A8 234 0,A8 234 1000,AF,AM,AA 234 3,AA 234 4];simp[hf,hroom,AO,Dr,CJ]
theorem iF (b:ByteArray) (xs:List Int) (hx:∀x∈xs,0≤x∧x <256) (hb:b.size≤2^39) (hl:xs.length≤2^39):PX 234 [.str b,AH .u8 xs] [.int .u64 (I2 (Ag b) xs)]:=by
 refine BJ 234 ?_;have hlw:(Am xs).length=(xs.length+7)/8:=by simp[Am]
 simp only[Ai 234,AE,AF,AM,AA 234 0,AA 234 1,AA 234 2,AX];simp;refine⟨_,_,fY xs _,?_⟩;simp;refine Ct 324 [.ref 1 0] [] _ _ .ready rfl rfl (fD xs hx (by omega) 2 1 (λk=>[.cells [.own 3 1 ((((Am xs).take k).map IntKind.i64.wrap).map (.int .i64))],.cells [.v (AH .u8 xs)],
  Au Tryz.prog Ah .ready (Hn [(0,.v (.str b)),(1,.v (AH .u8 xs)),(5,.ref 0 0),(8,.func 324 [.ref 1 0])]) [9] (lG 234 0) (lG 234 1000)]) (by simp) ?_) rfl ?_
 ·intro k w hw;have hk:=(oM.1 hw).1;have:=bT (Hn [(0,.v (.str b)),(1,.v (AH .u8 xs)),(5,.ref 0 0),(8,.func 324 [.ref 1 0])]) rfl (.cells [.v (AH .u8 xs)]) w (((Am xs).take k).map IntKind.i64.wrap) (by simp;omega);have e:((Am xs).take (k+1)).map IntKind.i64.wrap=((Am xs).take k).map IntKind.i64.wrap++[IntKind.i64.wrap w]:=by
   rw[oW,hw];simp
  rw[e];exact this
 ·simp only[CK,AA 234 5];have hroom:AU ((Am xs).length+1) 8=true:=by simp[AU];omega
  simp[AH,hroom];have hp:=eJ b ((Am xs).map IntKind.i64.wrap++[(xs.length:Int)]) hb (by simp;omega);have hp2:=hp.fsp;simp[AH]at hp2;refine⟨_,_,hp2 _,?_⟩;simp[AB,AW 234,I2]
theorem iD (b:ByteArray) (xs:List Int) (hx:∀x∈xs,0≤x∧x <256) (hb:b.size≤2^39) (hl:xs.length≤2^39):PX 236 [.str b,AH .u8 xs] [.int .u64 (I2 (Ag b) xs)]:=by
 refine BJ 236 ?_;have hlw:(Am xs).length=(xs.length+7)/8:=by simp[Am]
 simp only[Ai 236,AE,AF,AM,AA 236 0,AA 236 1,AA 236 2,AA 236 3,AX];simp;refine⟨_,_,(aA xs hx (by omega)).fsp _,?_⟩;simp;refine AN (Am xs).length (λk=>⟨[(0,.v (.str b)),(1,.v (AH .u8 xs)),(5,.v (AH .u64 (Am xs))),(6,.own 3 1 ((((Am xs).take k).map IntKind.i64.wrap).map (.int .i64))),(7,.v (.int .i64 k))],[]⟩) (by simp) ?_;intro k hk;simp only[Zw,A8 236 0,AA 236 4];simp[AH];by_cases h1:k <(Am xs).length
 ·obtain⟨w,hw⟩:∃w,(Am xs)[k]?=some w:=⟨_,oI h1⟩;have hw2:=Bb k;have e:((Am xs).take (k+1)).map IntKind.i64.wrap=((Am xs).take k).map IntKind.i64.wrap++[IntKind.i64.wrap w]:=by
   rw[oW,hw];simp
  have hroom:AU (min k (Am xs).length+1) 8=true:=by simp[AU];omega
  rw[if_pos (by omega),AD];simp only[AA 236 5,AA 236 6];have hw3:=(oM.1 hw).2;simp[hroom,Dr,h1,hw2,hw3];rw[oW,oX,hw];simp
 ·have:k=(Am xs).length:=by omega
  subst this;rw[if_neg (by omega),AJ];have hroom:AU ((Am xs).length+1) 8=true:=by simp[AU];omega
  have hp:=eQ b ((Am xs).map IntKind.i64.wrap++[(xs.length:Int)]) hb (by simp;omega);have hp2:=hp.fsp;simp[AH]at hp2;have e6:List.take (Am xs).length (List.map (V.int IntKind.i64 ∘ IntKind.i64.wrap) (Am xs))=List.map (V.int IntKind.i64 ∘ IntKind.i64.wrap) (Am xs):=o6 (by simp);simp[AA 236 7,hroom,e6];refine⟨_,_,hp2 _,?_⟩;simp[AB,AW 236,I2]
section
variable {s:St} {Q:AExit→St→Prop}
section
variable {P:Program} {GL:Aa}
theorem Al {c:AC} (n:Nat) (S:Nat→St) (I:Nat→Prop) (hs:s=S 0) (h0:I 0)
  (h:∀k,k≤n→I k→awp P GL c (λe s'=>match e with| .normal=>k <n∧I (k+1)∧s'=S (k+1)|e=>Q e s') (S k)):awp P GL (.loop c) Q s:=by
 subst hs;refine⟨λm s=>∃k,k≤n∧m=n-k∧I k∧s=S k,⟨n,0,pg _,rfl,h0,rfl⟩,?_⟩;rintro m s ⟨k,hk,rfl,hi,rfl⟩;refine Ad c ?_ (h k hk hi);intro e s' h;cases e with
 |normal=>obtain⟨hlt,hi',rfl⟩:=h;exact⟨n-(k+1),by omega,k+1,hlt,rfl,hi',rfl⟩
 |exit i=>exact h
 |ret=>exact h
end
def EA (n d:Int):Bool:=decide (1≤d∧d≤1048576∧n≤1099511627776∧ -1099511627776≤n∧Int.gcd n d=1)
def A0 (n d:Int):V:= .agg [.int .i64 n,.int .i64 d]
theorem kC (m:Nat):∀(a b:Nat),b≤m→a <2^64→b <2^64→
  awp Tryz.prog Ah (.loop (lG 350 0)) (λe s=>e= .exit 0∧AG s.e 0= .v (.int .u64 (Nat.gcd a b))) ⟨[(0,.v (.int .u64 a)),(1,.v (.int .u64 b))],[]⟩:=by
 induction m with
 |zero=>
  intro a b hb h1 h2;have:b=0:=by omega
  subst this;refine As ?_;simp only[Zw,A8 350 0,AA 350 1];simp[AJ]
 |succ m ih=>
  intro a b hb h1 h2;by_cases h0:b=0
  ·exact ih a b (by omega) h1 h2
  ·have hlt:=Nat.mod_lt a (show 0 <b by omega);have hih:=ih b (a%b) (by omega) h2 (by omega);have e:Nat.gcd b (a%b)=Nat.gcd a b:=by rw[Nat.gcd_comm,←Nat.gcd_rec,Nat.gcd_comm]
   rw[e]at hih;refine Bl ?_ hih;simp only[Zw,A8 350 0,AA 350 1];have w1:IntKind.u64.wrap ((a:Int)%b)=((a%b:Nat):Int):=by rw[A9 (by omega) (by omega)];rfl
   have h3:0 <b:=by omega
   simp[h3,AD,AS,AA 350 2,sJ,h0]
theorem et (a b:Nat) (h1:a <2^64) (h2:b <2^64):PX 350 [.int .u64 a,.int .u64 b] [.int .u64 (Nat.gcd a b)]:=by
 refine BJ 350 ?_;simp only[Ai 350,AE,AM,AF,AA 350 0,AX];simp;refine Ad _ ?_ (kC b a b (oN _) h1 h2);rintro e s ⟨rfl,h⟩;simp[AA 350 3,h,AB,AW 350]
theorem Zd (n:Int) (hn:i64 n):PX 330 [.int .i64 n] [.int .u64 n.natAbs]:=by
 refine BJ 330 ?_;unfold i64 at hn;by_cases h0:n <0
 ·simp[Ai 330,awp,AA 330 0,AA 330 1,AA 330 2,AW 330,AX,h0];simp only[Do];omega
 ·simp[Ai 330,awp,AA 330 0,AA 330 1,AA 330 3,AW 330,AX,h0];simp only[Do];omega
def HQ (neg:Bool) (n d:Nat):List V:=
 if n/Nat.gcd n d>1099511627776∨d/Nat.gcd n d>1048576 then [A0 0 0,.int .i64 5]
 else [A0 (if neg then -((n/Nat.gcd n d:Nat):Int) else ((n/Nat.gcd n d:Nat):Int)) ((d/Nat.gcd n d:Nat):Int),.int .i64 0]
theorem fB (neg:Bool) (n d:Nat) (h1:n <2^64) (h2:d <2^64) (hd:0 <d):PX 329 [.bool neg,.int .u64 n,.int .u64 d] (HQ neg n d):=by
 refine BJ 329 ?_;have hg:0 <Nat.gcd n d:=Nat.gcd_pos_of_pos_right _ hd;have hn1:=Nat.div_le_self n (Nat.gcd n d);have hd1:=Nat.div_le_self d (Nat.gcd n d);have hp:=et n d h1 h2;unfold HQ;generalize Nat.gcd n d=g at*;have qa:(n:Int)/g=((n/g:Nat):Int):=rfl;have qb:(d:Int)/g=((d/g:Nat):Int):=rfl;generalize n/g=a at*;generalize d/g=b at*;have w1:IntKind.u64.wrap (a:Int)=a:=A9 (by omega) (by omega);have w2:IntKind.u64.wrap (b:Int)=b:=A9 (by omega) (by omega);have hg0:g≠0:=by omega
 simp only[Ai 329,AE,AF,AS,AK,AA 329 0,AA 329 1,AA 329 2,AA 329 3,AX];simp;refine⟨_,_,hp.fsp _,?_⟩;simp[rK,qa,qb,w1,w2,hg0];have w3:IntKind.i64.wrap (a:Int)=a∨1099511627776 <a:=by
  by_cases h:a≤1099511627776
  ·exact .inl (AL)
  ·exact .inr (by omega)
 by_cases h3:1099511627776 <(a:Int)
 ·have h3':1099511627776 <a:=by omega
  simp[h3,h3',AB,AA 329 4,AW 329,AO,A0]
 ·have h3':¬1099511627776 <a:=by omega
  by_cases h4:1048576 <(b:Int)
  ·have h4':1048576 <b:=by omega
   simp[h3,h3',h4,h4',AB,AA 329 4,AW 329,AO,A0]
  ·have h4':¬1048576 <b:=by omega
   have w5:IntKind.i64.wrap (a:Int)=a:=AL;have w6:IntKind.i64.wrap (b:Int)=b:=AL;have w7:IntKind.i64.wrap (-(a:Int))= -a:=AL;cases neg<;>simp[h3,h3',h4,h4',AD,AB,AA 329 5,AA 329 6,AA 329 7,AA 329 8,AW 329,AO,A0,w5,w6,w7]
theorem Rp (n d:Int) (hd:1≤d) (h1:i64 n) (h2:i64 d):(HQ (decide (n <0) != decide (d <0)) n.natAbs d.natAbs=[A0 n d,.int .i64 0])↔EA n d=true:=by
 unfold HQ EA;unfold i64 at h1 h2;have e:Int.gcd n d=Nat.gcd n.natAbs d.natAbs:=rfl;have hg:0 <Nat.gcd n.natAbs d.natAbs:=Nat.gcd_pos_of_pos_right _ (by omega);have hdn:decide (d <0)=false:=by simp;omega
 simp only[hdn];rw[e]
 constructor
 ·intro h;split at h
  ·simp[A0]at h
  ·rename_i hc;simp[A0]at h;have hb:d.natAbs/Nat.gcd n.natAbs d.natAbs=d.natAbs:=by omega
   have hg1:Nat.gcd n.natAbs d.natAbs=1:=by
    rcases om 1 (Nat.gcd n.natAbs d.natAbs)with h3|h3
    ·have:=Nat.div_lt_self (show 0 <d.natAbs by omega) h3;omega
    ·omega
   rw[hg1]at hc;simp[hg1]at hc ⊢;omega
 ·intro h;simp at h;obtain⟨h3,h4,h5,h6,h7⟩:=h;rw[h7];rw[if_neg (by simp;omega)];simp[A0]
  constructor
  ·split<;>omega
  ·omega
theorem Le (neg:Bool) (n d:Nat):HQ neg n d=[A0 0 0,.int .i64 5]∨∃a b,HQ neg n d=[A0 a b,.int .i64 0]:=by
 unfold HQ;split
 ·exact .inl rfl
 ·exact .inr ⟨_,_,rfl⟩
theorem fS (n d:Int) (hd:d≠0) (h1:i64 n) (h2:i64 d):PX 306 [.int .i64 n,.int .i64 d] (HQ (decide (n <0) != decide (d <0)) n.natAbs d.natAbs):=by
 refine BJ 306 ?_;simp only[Ai 306,AE,AF,AK,AA 306 0,AA 306 1,AX];simp[hd,AD,AA 306 3];refine⟨_,_,(Zd n h1).fsp _,?_⟩;simp;refine⟨_,_,(Zd d h2).fsp _,?_⟩;simp;have hx:(decide (n <0) != decide (d <0))= !(decide (n <0)==decide (d <0)):=rfl
 try rw[←hx]
 unfold i64 at h1 h2;refine⟨_,_,(fB _ n.natAbs d.natAbs (by omega) (by omega) (by omega)).fsp _,?_⟩;generalize (decide (n <0) != decide (d <0))=ng;obtain h|⟨a,b,h⟩:=Le ng n.natAbs d.natAbs<;>rw[h]<;>simp[A0,AB,AW 306,AO]
theorem Uq (n d:Int) (h1:i64 n) (h2:i64 d):PX 248 [A0 n d] [.int .i64 (if EA n d then 0 else 1)]:=by
 refine BJ 248 ?_;simp only[Ai 248,AE,AF,AK,AA 248 0,AA 248 1,AX];simp[A0];by_cases hd:d <1
 ·have:EA n d=false:=by unfold EA;simp;omega
  simp[hd,this,AB,AA 248 2,AW 248]
 ·have hp:=(fS n d (by omega) h1 h2);have hb:=Rp n d (by omega) h1 h2;simp[hd,AD,AA 248 3];refine⟨_,_,hp.fsp _,?_⟩;obtain h|⟨a,b,h⟩:=Le (decide (n <0) != decide (d <0)) n.natAbs d.natAbs
  ·have h3:EA n d=false:=by
    cases h4:EA n d with
    |false=>rfl
    |true=>rw[hb.2 h4]at h;simp at h
   rw[h,h3];simp[A0,AB,AA 248 4,AA 248 5,AW 248,AO]
  ·have h3:EA n d=decide (a=n∧b=d):=by
    rw[h]at hb;simp[A0]at hb;rw[pt,←hb];simp
   rw[h,h3];by_cases h4:a=n<;>by_cases h5:b=d<;>simp[h4,h5,A0,AB,AA 248 4,AA 248 5,AA 248 6,AW 248,AO,V.eqL,V.eq1]
theorem OE {n d:Int} (h:EA n d=true):1≤d∧d≤1048576∧n≤1099511627776∧ -1099511627776≤n:=by
 unfold EA at h;simp at h;omega
theorem QZ {a b:Int} (h1:a≤1099511627776) (h2: -1099511627776≤a) (h3:1≤b) (h4:b≤1048576):a*b≤1152921504606846976∧ -1152921504606846976≤a*b:=by
 have:=qJ h1 (show 0≤b by omega);have:=qJ h2 (show 0≤b by omega);omega
theorem VF (L:List V) (k:Nat) (hk:k <2^40) (n d:Int) (h1:i64 n) (h2:i64 d) (hx:L[k]?=some (A0 n d)) (m:Int) (hm:(k:Int) <m) (h:List Row) (Q:AExit→St→Prop)
  (hok:EA n d=true→Q .normal ⟨[(6,.v (.list L)),(7,.v (.int .i64 m)),(8,.v (.int .i64 (k+1:Nat)))],h++[.cells [.v (.int .i64 n),.v (.int .i64 d)]]⟩)
  (hno:EA n d=false→∀s,AG s.e 2= .v (.int .i64 1)→Q .ret s):
  awp Tryz.prog Ah (lG 291 0) Q ⟨[(6,.v (.list L)),(7,.v (.int .i64 m)),(8,.v (.int .i64 k))],h⟩:=by
 have hw:=Bb k;simp only[Zw,A8 291 0,AA 291 2];simp[hm,AD,AA 291 3,hx,A0,AO,AA 291 4];refine⟨_,_,(Uq n d h1 h2).fsp _,?_⟩;cases ho:EA n d with
 |true=>
  have:=hok ho;simp[AA 291 5,AA 291 7,hw];simpa using this
 |false=>
  simp[AA 291 5,AB,AA 291 6];exact hno ho _ rfl
theorem fg (a b c d:Int) (h1:i64 a) (h2:i64 b) (h3:i64 c) (h4:i64 d):PX 291 [.list [A0 a b,A0 c d]] [.int .i64 (if EA a b&&EA c d then 0 else 1)]:=by
 refine BJ 291 ?_;simp only[Ai 291,AE,AF,AM,AA 291 0,AA 291 1,AX];simp;cases ho:EA a b with
 |false=>
  refine As ?_;refine VF [A0 a b,A0 c d] 0 (by omega) a b h1 h2 rfl 2 (by omega) [] _ (λh=>by rw[h]at ho;cases ho) ?_;intro _ s hs;simp[AW 291,hs]
 |true=>
  refine Bl (s1:=⟨[(6,.v (.list [A0 a b,A0 c d])),(7,.v (.int .i64 2)),(8,.v (.int .i64 1))],[.cells [.v (.int .i64 a),.v (.int .i64 b)]]⟩) ?_ ?_
  ·exact VF [A0 a b,A0 c d] 0 (by omega) a b h1 h2 rfl 2 (by omega) [] _ (λ_=>rfl) (λh=>by rw[h]at ho;cases ho)
  cases ho2:EA c d with
  |false=>
   refine As ?_;refine VF [A0 a b,A0 c d] 1 (by omega) c d h3 h4 rfl 2 (by omega) [.cells [.v (.int .i64 a),.v (.int .i64 b)]] _ (λh=>by rw[h]at ho2;cases ho2) ?_;intro _ s hs;simp[AW 291,hs]
  |true=>
   refine Bl (s1:=⟨[(6,.v (.list [A0 a b,A0 c d])),(7,.v (.int .i64 2)),(8,.v (.int .i64 2))],[.cells [.v (.int .i64 a),.v (.int .i64 b)],.cells [.v (.int .i64 c),.v (.int .i64 d)]]⟩) ?_ ?_
   ·exact VF [A0 a b,A0 c d] 1 (by omega) c d h3 h4 rfl 2 (by omega) [.cells [.v (.int .i64 a),.v (.int .i64 b)]] _ (λ_=>rfl) (λh=>by rw[h]at ho2;cases ho2)
   refine As ?_;simp only[Zw,A8 291 0,AA 291 2];simp[AJ,AB,AA 291 8,AW 291]
def G9 (a b c d:Int):Bool:=decide (a*d <c*b)
def Ot (a b c d:Int):Int:=if a*d <c*b then -1 else if c*b <a*d then 1 else 0
theorem ff (a b c d:Int) (h1:EA a b=true) (h2:EA c d=true):PX 292 [A0 a b,A0 c d] [.int .i64 (Ot a b c d)]:=by
 refine BJ 292 ?_;have q1:=OE h1;have q2:=OE h2;have m1:=QZ (a:=a) (b:=d) (by omega) (by omega) (by omega) (by omega);have m2:=QZ (a:=c) (b:=b) (by omega) (by omega) (by omega) (by omega);unfold Ot;have w1:IntKind.i64.wrap (a*d)=a*d:=AL;have w2:IntKind.i64.wrap (c*b)=c*b:=AL;simp only[Zw,Ai 292,AS,AA 292 0,AA 292 1,AA 292 2,AX];simp[A0,w1,w2];by_cases l1:a*d <c*b
 ·simp[l1,AB,AA 292 3,AW 292]
 ·by_cases l2:c*b <a*d
  ·simp[l1,l2,AB,AA 292 4,AA 292 5,AW 292]
  ·simp[l1,l2,AD,AB,AA 292 4,AA 292 6,AW 292]
theorem Zz (a b c d:Int) (h1:i64 a) (h2:i64 b) (h3:i64 c) (h4:i64 d):PX 227 [A0 a b,A0 c d] (if EA a b&&EA c d then [.int .i64 (Ot a b c d),.int .i64 0] else [.int .i64 0,.int .i64 1]):=by
 refine BJ 227 ?_;have hp:=(fg a b c d h1 h2 h3 h4).fsp;simp only[Ai 227,AE,AF,AK,AA 227 0,AA 227 1,AA 227 2,AX];simp[A0]at hp ⊢;refine⟨_,_,hp _,?_⟩;cases ho1:EA a b<;>cases ho2:EA c d<;>simp[AD,AB,AA 227 3,AA 227 4,AW 227]
 have hq:=(ff a b c d ho1 ho2).fsp;simp[A0]at hq;refine⟨_,⟨_,hq _⟩,?_⟩;simp
theorem Un (a b c d:Int) (h1:EA a b=true) (h2:EA c d=true):PX 352 [A0 a b,A0 c d] [.bool (G9 a b c d)]:=by
 refine BJ 352 ?_;have q1:=OE h1;have q2:=OE h2;have m1:=QZ (a:=a) (b:=d) (by omega) (by omega) (by omega) (by omega);have m2:=QZ (a:=c) (b:=b) (by omega) (by omega) (by omega) (by omega);have w1:IntKind.i64.wrap (a*d)=a*d:=AL;have w2:IntKind.i64.wrap (c*b)=c*b:=AL;simp[Ai 352,awp,AA 352 0,AA 352 1,AW 352,AX,A0,w1,w2,G9]
theorem kJ (m:Nat):∀(a b:Int),b.natAbs≤m→a.natAbs≤1099511627776→b.natAbs≤1099511627776→
  awp Tryz.prog Ah (.loop (lG 215 0)) (λe s=>e= .exit 0∧∃g:Int,g.natAbs=Int.gcd a b∧AG s.e 0= .v (.int .i64 g)) ⟨[(0,.v (.int .i64 a)),(1,.v (.int .i64 b))],[]⟩:=by
 induction m with
 |zero=>
  intro a b hb h1 h2;have:b=0:=by omega
  subst this;refine As ?_;simp only[Zw,A8 215 0,AA 215 1];simp[AJ]
 |succ m ih=>
  intro a b hb h1 h2;by_cases h0:b=0
  ·exact ih a b (by omega) h1 h2
  ·have e:(a.tmod b).natAbs=a.natAbs%b.natAbs:=Int.natAbs_tmod a b;have hlt:=Nat.mod_lt a.natAbs (show 0 <b.natAbs by omega);have hih:=ih b (a.tmod b) (by omega) h2 (by omega);have e2:Int.gcd b (a.tmod b)=Int.gcd a b:=by
    unfold Int.gcd;rw[e,Nat.gcd_comm,←Nat.gcd_rec,Nat.gcd_comm]
   rw[e2]at hih;refine Bl ?_ hih;simp only[Zw,A8 215 0,AA 215 1];have w1:IntKind.i64.wrap (a.tmod b)=a.tmod b:=AL;simp[AD,AS,AA 215 2,h0]
theorem iW (a b:Int) (h1:a.natAbs≤1099511627776) (h2:b.natAbs≤1099511627776):PX 215 [.int .i64 a,.int .i64 b] [.int .i64 (Int.gcd a b)]:=by
 refine BJ 215 ?_;simp only[Ai 215,AE,AM,AF,AA 215 0,AX];simp;refine Ad _ ?_ (kJ b.natAbs a b (oN _) h1 h2);rintro e s ⟨rfl,g,hg,h⟩;have hgb:Int.gcd a b≤2199023255552:=by
  unfold Int.gcd;rcases ra a.natAbs with h3|h3
  ·rw[h3,Nat.gcd_zero_left];omega
  ·have:=Nat.gcd_le_left b.natAbs h3;omega
 by_cases h0:g <0
 ·have w:IntKind.i64.wrap (-g)= -g:=AL;simp[AA 215 3,h,h0,AE,AF,AK,AB,AA 215 4,AW 215,w];omega
 ·simp[AA 215 3,h,h0,AE,AF,AK,AD,AB,AA 215 5,AW 215];omega
theorem XW (n d:Int) (h1:i64 n) (h2:i64 d):PX 127 [A0 n d] [.int .i64 (if EA n d then 0 else 1)]:=by
 refine BJ 127 ?_;simp only[Ai 127,AE,AF,AK,AA 127 0,AA 127 1,AX];unfold EA;by_cases b1:d <1
 ·simp[A0,b1,AB,AA 127 2,AW 127];omega
 by_cases b2:1048576 <d
 ·simp[A0,b1,b2,AB,AA 127 2,AW 127];omega
 by_cases b3:1099511627776 <n
 ·simp[A0,b1,b2,b3,AB,AA 127 2,AW 127];omega
 by_cases b4:n < -1099511627776
 ·simp[A0,b1,b2,b3,b4,AB,AA 127 2,AW 127];omega
 simp[A0,b1,b2,b3,b4];refine⟨_,_,(iW n d (by omega) (by omega)).fsp _,?_⟩;by_cases b5:Int.gcd n d=1
 ·simp[b5,AD,AB,AA 127 3,AW 127];omega
 ·simp[b5,AB,AA 127 2,AW 127];omega
end
section
variable {b f m n r:Nat} {μ:List Nat} {u:Value} {d:D} {g:Gh} {args ds rets:List D} {h h':List Row}
section
variable {P:Program} {GL:Aa}
def Row.low (n:Nat):Row→Bool
 | .cells ds=>D.lts n ds
 | .map _ _ _=>true
 | .dead=>true
 | .obj _ _ _=>false
theorem Eb (h:n≤m):∀d:D,D.lt n d=true→D.lt m d=true:=by
 intro d;refine D.rec (motive_1:=λd=>D.lt n d=true→D.lt m d=true) (motive_2:=λl=>D.lts n l=true→D.lts m l=true) ?_ ?_ ?_ ?_ ?_ ?_ ?_ ?_ ?_ ?_ ?_ ?_ ?_ ?_ ?_ ?_ d
 all_goals simp only[D.lt,D.lts,decide_eq_true_eq,oJ,implies_true,true_implies,imp_self]
 all_goals first
  |(intros;omega)
  |(intro a b iha ihb hab;exact⟨iha hab.1,ihb hab.2⟩)
  |(intros;assumption)
  |skip
theorem Gu (h:μ[r]?=some b) (hr:r <n):(μ.take n)[r]?=some b:=by
 rw[oz,if_pos hr];exact h
theorem FT {n:Nat}:∀ {ds:List D} {i:Nat} {d:D},D.lts n ds=true→ds[i]?=some d→D.lt n d=true
 |d::ds,i,x,h,hi=>by
  simp only[D.lts,oJ]at h;cases i with
  |zero=>simp at hi;subst hi;exact h.1
  |succ i=>exact FT h.2 (by simpa using hi)
theorem RepC.low (h:RepC g μ d u) (hl:D.lt n d=true):RepC g (μ.take n) d u:=by
 cases d<;>simp only[RepC]at h ⊢
 ·exact h
 ·obtain⟨b,hb,rfl⟩:=h;exact⟨b,Gu hb (by simpa[D.lt]using hl),rfl⟩
theorem RepE.low {g:Gh} {w:World} {μ:List Nat} {n:Nat} {d:D} {u:Value} (h:RepE g w μ d u) (hl:D.lt n d=true):RepE g w (μ.take n) d u:=by
 cases d<;>simp only[RepE]at h ⊢ <;>try exact h
 ·obtain⟨b,hb,rfl⟩:=h;exact⟨b,Gu hb (by simpa[D.lt]using hl),rfl⟩
 ·obtain⟨b,cap,hb,rfl,hn⟩:=h;exact⟨b,cap,Gu hb (by simpa[D.lt]using hl),rfl,hn⟩
 ·obtain⟨b,hb,rfl⟩:=h;exact⟨b,Gu hb (by simpa[D.lt]using hl),rfl⟩
 ·obtain⟨vs,rfl,h⟩:=h;exact⟨vs,rfl,h.1,λi x v hx hv=>(h.2 i x v hx hv).low (FT (by simpa[D.lt]using hl) hx)⟩
 ·obtain⟨vs,rfl,h⟩:=h;exact⟨vs,rfl,h.1,λi x v hx hv=>(h.2 i x v hx hv).low (FT (by simpa[D.lt]using hl) hx)⟩
 ·obtain⟨b,hb,rfl⟩:=h;exact⟨b,Gu hb (by simpa[D.lt]using hl),rfl⟩
theorem RepG.low {g:Gh} {w:World} {μ:List Nat} {n:Nat} {d:D} {u:Value} (h:RepG g w μ d u) (hl:D.lt n d=true):RepG g w (μ.take n) d u:=by
 cases d<;>simp only[RepG]at h ⊢ <;>first
  |exact h.low hl
  |(obtain⟨vs,rfl,h,h1,h2⟩:=h
    exact⟨vs,rfl,⟨h.1,λi x v hx hv=>(h.2 i x v hx hv).low (FT (by simpa[D.lt]using hl) hx)⟩,h1,h2⟩)
theorem RepD.low {g:Gh} {w:World} {μ:List Nat} {n:Nat} {d:D} {u:Value} (h:RepD g w μ d u) (hl:D.lt n d=true):RepD g w (μ.take n) d u:=by
 cases d<;>simp only[RepD]at h ⊢ <;>first
  |exact h.low hl
  |(obtain⟨vs,rfl,h⟩:=h
    exact⟨vs,rfl,h.1,λi x v hx hv=>(h.2 i x v hx hv).low (FT (by simpa[D.lt]using hl) hx)⟩)
theorem Inv.low {g:Gh} {w:World} {μ:List Nat} {t:Nat→D} {u:Nat→Value} {h J:List Row} {O:Nat→Prop} (hi:Inv g w μ t u (h++J) O) (ht:∀n,D.lt h.length (t n)=true) (hh:∀row∈h,Row.low h.length row=true):
  Inv g w (μ.take h.length) t u h O:=by
 have hμl:(μ.take h.length).length=h.length:=by have:=hi.len;simp at this ⊢;omega
 have Br:∀ {r b:Nat},(μ.take h.length)[r]?=some b→r <h.length∧μ[r]?=some b:=by
  intro r b hb;rw[oz]at hb;split at hb
  ·exact⟨‹_›,hb⟩
  ·cases hb
 have hblk:∀p b,CS t u h w (μ.take h.length) p=some b→CS t u (h++J) w μ p=some b:=by
  intro p b hp;cases p with
  |tmp n k=>exact hp
  |cell r k=>
   simp only[CS]at hp ⊢;by_cases hr:r <h.length
   ·have e1:A7 (h++J) r k=A7 h r k:=by simp only[A7,ov hr]
    have e2:BF w (μ.take h.length) r k=BF w μ r k:=by simp only[BF,oz,if_pos hr]
    rw[e1,←e2];exact hp
   ·simp only[A7,pN (show h.length≤r by omega)]at hp;simp[Ac]at hp
 refine⟨hi.agree,hi.olt,λn=>(hi.rep n).low (ht n),hμl,?_,?_,?_,λp q b hp hq=>hi.uniq p q b (hblk p b hp) (hblk q b hq),?_⟩
 ·intro r row b hr hb;obtain⟨hlt,hb⟩:=Br hb;have hrow:=hi.rows r row b (by rw[ov hlt];exact hr) hb;have hlow:=hh row (oK hr);cases row with
  |cells ds=>
   obtain⟨vs,T,h1,h2,h3,h4⟩:=hrow;exact⟨vs,T,h1,⟨h2.1,λi x v hx hv=>(h2.2 i x v hx hv).low (FT hlow hx)⟩,h3,h4⟩
  |map es st ck=>exact hrow
  |obj tag p m=>simp[Row.low]at hlow
  |dead=>exact hrow
 ·intro r r' b hr hr';exact hi.nod r r' b (Br hr).2 (Br hr').2
 ·intro b hb;exact hi.mo b (pH hb)
 ·intro p b hp;obtain⟨h1,h2⟩:=hi.sep p b (hblk p b hp);exact⟨λhm=>h1 (pH hm),h2⟩
theorem Sz (h:D.lt n d=true) (k:Nat):D.lt n (Ge .any d k)=true:=by
 simp only[Ge];split
 ·exact h
 ·rfl
theorem Et {n:Nat}:∀ {ds:List D},(∀d∈ds,D.lt n d=true)→D.lts n ds=true
 |[],_=>rfl
 |d::ds,h=>by simp only[D.lts,oJ];exact⟨h d (by simp),Et λx hx=>h x (by simp[hx])⟩
theorem ON (h:∀d∈ds,D.lt n d=true):D.lt n (BY ds)=true:=by
 match ds with
 |[]=>rfl
 |[x]=>exact h x (by simp)
 |x::y::r=>simp only[BY,D.lt];exact Et h
theorem Ak {ac:AC} {rs:List AR} (hk:CL P GL f n ac rs=true) (hn:args.length=n) (hl:h.length≤h'.length)
  (hh:∀row∈h',Row.low h'.length row=true) (hr:∀d∈rets,D.lt h'.length d=true)
  (hw:awp P GL ac (λe s=>(match e with| .exit _=>False|_=>True)∧DG s rs=some rets∧∃J,s.h=h'++J) ⟨AQ args,h⟩):FSp P GL f args h rets h':=by
 refine Jg (GQ (rets:=rets) (h':=h') hk hn (Ad ac (λe s=>by
  rintro⟨h1,h2,J,h3⟩;refine⟨h1,rets,h2,λg w μ v O hi=>⟨g,μ.take h'.length,λμ0 hμ0 ⟨tl,hp⟩=>?_,?_,Chg.refl _ _ _⟩⟩
  ·subst hp;rw[List.take_append,o6 (by omega)];exact py _ _
  ·rw[h3]at hi;exact hi.low (Sz (ON hr)) hh) hw))
end
end
def An (a n:Int):Int:=if a <0 then (IntKind.i64.wrap (0-IntKind.i64.wrap (a+1))).tmod n else a.tmod n
theorem Pb (a n:Int) (hn:n≠0):PX 11 [.int .i64 a,.int .i64 n] [.int .i64 (An a n)]:=by
 refine BJ 11 ?_;unfold An;by_cases h1:a <0<;>simp[Ai 11,awp,AA 11 0,AA 11 1,AA 11 2,AA 11 3,AW 11,AX,h1,hn]
def Ae (l:List Int) (i n:Int):Int:=if i <0 then 0 else match l[i.toNat]? with|some x=>An x n|none=>0
theorem QT (l:List Int) (i n:Int) (hn:n≠0):PX 47 [AH .i64 l,.int .i64 i,.int .i64 n] [.int .i64 (Ae l i n)]:=by
 refine BJ 47 ?_;unfold Ae;by_cases h1:i <0
 ·simp[Ai 47,awp,AA 47 0,AA 47 1,AA 47 2,AW 47,AX,h1,AH]
 ·by_cases h2:(l.length:Int)≤i
  ·have:l[i.toNat]?=none:=by rw[List.getElem?_eq_none_iff];omega
   simp[Ai 47,awp,AA 47 0,AA 47 1,AA 47 2,AW 47,AX,h1,h2,AH,this]
  ·have hlt:i.toNat <l.length:=by omega
   have hx:l[i.toNat]?=some l[i.toNat]:=oI hlt;have h0:0≤i:=by omega
   simp[Ai 47,awp,AA 47 0,AA 47 1,AA 47 3,AW 47,AX,h1,h2,AH,hx,h0,V.cells,DS,D.norm,Av,D.arg];refine⟨_,⟨_,(Pb l[i.toNat] n hn).fsp []⟩,?_⟩;simp[BY]
section
def Cu (xs:List Int):Row:= .cells [.v (AH .u8 xs),.v (.int .i64 0)]
theorem eo (xs:List Int) (hb:xs.length≤2^45) (h:List Row):FX 44 [.v (AH .u8 xs)] h [.ref h.length 0] (h++[Cu xs]):=by
 refine Dh 44 ?_;simp[Ai 44,awp,AA 44 0,AA 44 1,AW 44,AQ];refine⟨_,_,(aM xs hb h),?_⟩;simp[Cu,AH,AO,D.toRow]
theorem jg (n:Int) (hn:i64 n):PX 118 [.int .u64 (Hs n)] [.int .i64 n]:=by
 refine BJ 118 ?_;unfold i64 at hn;unfold Hs;have e1:((2:Int)^IntKind.u64.bits)=18446744073709551616:=by decide
 have e2:((2:Int)^IntKind.i64.bits)=18446744073709551616:=by decide
 have e3:((1:Int)%18446744073709551616).toNat=1:=by decide
 have e4:(2:Int)^min 1 IntKind.u64.bits=2:=by decide
 by_cases h0:n <0
 ·simp[Ai 118,awp,AA 118 0,AA 118 1,AW 118,AX,h0];have d1:(2* -(n+1)+1).fdiv (2^min 1 IntKind.u64.bits)= -(n+1):=by
   rw[e4,rJ _ (by decide)];omega
  have d2:((2* -(n+1)+1)%18446744073709551616).toNat%2=1:=by omega
  rw[d1,e1,e2,e3,Nat.and_one_is_mod,d2,AL (a:= -(n+1)) (by omega) (by omega)];have d3:IntKind.i64.wrap (-IntKind.i64.wrap (IntKind.u64.wrap ((1:Nat):Int)))= -1:=by decide
  rw[d3];have d4:((-1:Int)%18446744073709551616).toNat=2^64-1:=by decide
  rw[d4,No _ (by omega)];have d5:((2^64-1-(-(n+1)%18446744073709551616).toNat:Nat):Int)=n+18446744073709551616:=by omega
  rw[d5];have:IntKind.i64.wrap (n+18446744073709551616)=n:=by
   unfold IntKind.wrap;simp only[IntKind.bits,IntKind.signed];have e5:((2:Int)^64)=18446744073709551616:=by decide
   simp only[e5];simp;omega
  exact this
 ·simp[Ai 118,awp,AA 118 0,AA 118 1,AW 118,AX,h0];have d1:(2*n).fdiv (2^min 1 IntKind.u64.bits)=n:=by
   rw[e4,rJ _ (by decide)];omega
  have d2:((2*n)%18446744073709551616).toNat%2=0:=by omega
  rw[d1,e1,e2,e3,Nat.and_one_is_mod,d2,AL (a:=n) (by omega) (by omega)];have d3:IntKind.i64.wrap (-IntKind.i64.wrap (IntKind.u64.wrap ((0:Nat):Int)))=0:=by decide
  rw[d3];have d4:((0:Int)%18446744073709551616).toNat=0:=by decide
  rw[d4,Nat.xor_zero,AL];omega
theorem Z4 (c:Int) (xs:List Int) (h:List Row) (r:Nat) (hr:h[r]?=some (Cu (c::xs))):FX 203 [.ref r 0] h [.v (.int .u8 c)] (h.set r (Cu xs)):=by
 refine Dh 203 ?_;have h1:¬((xs.length:Int)+1=0):=by omega
 simp[Ai 203,awp,AA 203 0,AA 203 1,AA 203 3,AA 203 5,AA 203 6,AA 203 7,AW 203,AQ,hr,Cu,AH,h1];simp[AO]
theorem UF {c:Int} (h0:0≤c) (h1:c <256):IntKind.u8.wrap (((c%2^IntKind.u8.bits).toNat &&& 2^IntKind.u8.bits-1-128%2^IntKind.u8.bits:Nat):Int)=c%128:=by
 have key:∀m:Fin 256,IntKind.u8.wrap ((((m.val:Int)%2^IntKind.u8.bits).toNat &&& 2^IntKind.u8.bits-1-128%2^IntKind.u8.bits:Nat):Int)=(m.val:Int)%128:=by decide+kernel
 have:=key ⟨c.toNat,by omega⟩;simpa only[sN h0]using this
variable {i:Nat}
theorem Xd {a b:Int} (h0:0≤a) (h1:a <2^i) (h2:0≤b) (h3:a+b*2^i <18446744073709551616):
  (a.toNat ||| (b*2^i).toNat:Nat)=(a+b*2^i).toNat:=by
 have e1:(b*2^i).toNat=2^i*b.toNat:=by
  obtain⟨m,rfl⟩:=Int.eq_ofNat_of_zero_le h2;have:((m:Int)*2^i)=((2^i*m:Nat):Int):=by push_cast;rw[ph]
  rw[this,qT,qT]
 have e2:a.toNat <2^i:=by
  have:((2^i:Nat):Int)=2^i:=by push_cast;rfl
  omega
 rw[e1,Nat.or_comm,←Nat.two_pow_add_eq_or_of_lt e2];have e3:((2^i*b.toNat:Nat):Int)=b*2^i:=by
  rw[←e1];exact sN (qe h2 (rT (pq (by decide))))
 omega
variable {r:Nat} {h:List Row} {Q:AExit→St→Prop}
theorem Yw {c acc:Int} {xs:List Int} (hr:h[r]?=some (Cu (c::xs))) (hc:0≤c∧c <256) (hi:i≤9) (h9:¬(i=9∧1 <c)) (h0:¬(0 <i∧c=0))
  (ha:0≤acc∧acc <128^i) (hs:acc+(c%128)*128^i <18446744073709551616)
  (hret:c <128→Q .ret ⟨[(2,.v (.int .u64 (acc+c*128^i)))],h.set r (Cu xs)⟩)
  (hgo:128≤c→Q .normal ⟨[(0,.ref r 0),(3,.v (.int .u64 (acc+(c%128)*128^i))),(4,.v (.int .i64 (i+1)))],h.set r (Cu xs)⟩):
  awp Tryz.prog Ah (lG 119 0) Q ⟨[(0,.ref r 0),(3,.v (.int .u64 acc)),(4,.v (.int .i64 i))],h⟩:=by
 simp only[Zw,A8 119 0,AA 119 3];simp[hr,Cu,AH,AD];simp only[AA 119 5];simp;refine⟨_,_,(Z4 c xs h r hr),?_⟩;have hj:i=9∧¬1 <c∧¬c=0∨i=0∨(0 <i∧¬i=9∧¬c=0):=by omega
 have a1:=UF hc.1 hc.2;have a2:IntKind.u64.wrap (c%128)=c%128:=A9 (by omega) (by omega);have a3:IntKind.i64.wrap (7*(i:Int))=7*i:=AL;have a6:=Bb i;have e64:((2:Int)^IntKind.u64.bits)=18446744073709551616:=by decide
 have k3:0≤7*(i:Int):=by omega
 have Pa:(128:Int)^i=2^(7*i):=by rw[Int.pow_mul];rfl
 have hx0:0≤c%128*128^i:=qe (by omega) (rT (pq (by decide)));have a4:IntKind.u64.wrap (c%128*2^min (7*(i:Int)).toNat IntKind.u64.bits)=c%128*128^i:=by
  have:min (7*(i:Int)).toNat IntKind.u64.bits=7*i:=by
   have:(7*(i:Int)).toNat=7*i:=by omega
   rw[this];exact qH (by show 7*i≤64;omega)
  rw[this,←Pa,A9 hx0 (by omega)]
 have a5:IntKind.u64.wrap (((acc%2^IntKind.u64.bits).toNat ||| (c%128*128^i%2^IntKind.u64.bits).toNat:Nat):Int)=acc+c%128*128^i:=by
  rw[e64,Int.emod_eq_of_lt ha.1 (by omega),Int.emod_eq_of_lt hx0 (by omega)];rw[Pa]at hs ⊢;rw[Xd ha.1 (by rw[←Pa];exact ha.2) (by omega) hs,sN (by rw[←Pa];omega),A9 (by rw[←Pa];omega) hs]
 have tail:∀x:D,Bz Tryz.prog Ah (oG 119 8) (λs'=>Bz Tryz.prog Ah (oG 119 9) (λs'=>match (AG s'.e 47).copy with
   | .v (.bool t)=>if t=true then Bz Tryz.prog Ah (oG 119 10) (λs'=>Q .ret ⟨[(2,AG s'.e 2)],s'.h⟩) ⟨[(0,AG s'.e 0),(3,AG s'.e 3),(4,AG s'.e 4),(47,AG s'.e 47)],s'.h⟩
    else Bz Tryz.prog Ah (oG 119 4) (λs'=>Q .normal ⟨[(0,AG s'.e 0),(3,AG s'.e 3),(4,AG s'.e 4)],s'.h⟩) ⟨[(0,AG s'.e 0),(3,AG s'.e 3),(4,AG s'.e 4),(47,AG s'.e 47)],s'.h⟩
   |_=>False) ⟨[(0,AG s'.e 0),(3,AG s'.e 3),(4,AG s'.e 4),(5,AG s'.e 5)],s'.h⟩) ⟨[(0,.ref r 0),(3,.v (.int .u64 acc)),(4,.v (.int .i64 i)),(5,.v (.int .u8 c)),(28,x)],h.set r (Cu xs)⟩:=by
  intro x;simp only[AA 119 8];simp[a1,a2,a3,k3,a4,a5];simp only[AA 119 9];by_cases hl:c <128
  ·have hm:c%128=c:=by omega
   simp[hl,CQ hr,Cu,AH];simp only[AA 119 10];simp;rw[hm];exact hret hl
  ·simp[hl,Cu,AH];simp only[AA 119 4];simp[a6];exact hgo (by omega)
 rcases hj with ⟨j0,j1,j2⟩|j0|⟨j0,j1,j2⟩
 ·have k1:((i:Int)=9)=True:=eq_true (by omega);have k2:0 <i:=by omega
  simp only[AA 119 6];simp[k1,k2,j1,j2];exact tail _
 ·have k1:((i:Int)=9)=False:=eq_false (by omega);have k2:¬0 <i:=by omega
  simp only[AA 119 6];simp[k1,k2];exact tail _
 ·have k1:((i:Int)=9)=False:=eq_false (by omega);simp only[AA 119 6];simp[k1,j0,j2];exact tail _
theorem kW (k:Nat):∀(m acc:Int) (i:Nat) (h:List Row) (r:Nat) (rest:List Int),i+k=9→0≤acc→acc <128^i→0≤m→m <128^(k+1)→acc+m*128^i <18446744073709551616→(0 <i→0 <m)→
  h[r]?=some (Cu (DP k m++rest))→
  awp Tryz.prog Ah (.loop (lG 119 0)) (λe s=>e= .ret∧s=⟨[(2,.v (.int .u64 (acc+m*128^i)))],h.set r (Cu rest)⟩) ⟨[(0,.ref r 0),(3,.v (.int .u64 acc)),(4,.v (.int .i64 i))],h⟩:=by
 induction k with
 |zero=>
  intro m acc i h r rest hik ha0 ha1 hm0 hm1 hs h0 hr;obtain rfl:i=9:=by omega
  have e9:(128:Int)^9=9223372036854775808:=by decide
  have e1:(128:Int)^(0+1)=128:=by decide
  rw[e9]at hs ha1;have hm2:m%128=m:=by omega
  refine As (Yw (c:=m) (xs:=rest) hr ⟨hm0,by omega⟩ (by omega) (by omega) (by have:=h0 (by omega);omega) ⟨ha0,by rw[e9];exact ha1⟩ (by rw[hm2,e9];exact hs) (λ_=>⟨rfl,rfl⟩) (λh=>by omega))
 |succ k ih=>
  intro m acc i h r rest hik ha0 ha1 hm0 hm1 hs h0 hr;have hp:(0:Int) <128^i:=pq (by decide);by_cases hl:m <128
  ·have hm2:m%128=m:=by omega
   rw[show DP (k+1) m=[m] by simp[DP,hl]]at hr;refine As (Yw (c:=m) (xs:=rest) hr ⟨hm0,by omega⟩ (by omega) (by omega) (λhh=>by have:=h0 hh.1;omega) ⟨ha0,ha1⟩ (by rw[hm2];exact hs) (λ_=>⟨rfl,rfl⟩) (λh=>by omega))
  ·rw[show DP (k+1) m=(128+m%128)::DP k (m/128) by simp[DP,hl]]at hr;have hc:(128+m%128)%128=m%128:=by omega
   have hp1:(128:Int)^(i+1)=128^i*128:=pW ..;have hle:(m%128)*128^i≤m*128^i:=qJ (by omega) (rT hp);have hsum:acc+(m%128)*128^i+(m/128)*128^(i+1)=acc+m*128^i:=by
    have:m*128^i=(m%128+128*(m/128))*128^i:=by rw[Int.emod_add_mul_ediv]
    rw[this,hp1,qg];have:m/128*(128^i*128)=128*(m/128)*128^i:=by
     rw[ph (128^i) 128,←qD,ph (m/128) 128]
    omega
   have hlt:acc+(m%128)*128^i <128^(i+1):=by
    have:(m%128)*128^i≤127*128^i:=qJ (by omega) (rT hp);omega
   have hm1':m/128 <128^(k+1):=sI (by decide) (by rw[←pW];exact hm1);have h2:=ih (m/128) (acc+(m%128)*128^i) (i+1) (h.set r (Cu (DP k (m/128)++rest))) r rest (by omega) (Int.add_nonneg ha0 (qe (by omega) (rT hp))) hlt (by omega) hm1' (by rw[hsum];exact hs) (by omega) (CQ hr);rw[hsum,qc]at h2;refine Bl (s1:=⟨[(0,.ref r 0),(3,.v (.int .u64 (acc+(m%128)*128^i))),(4,.v (.int .i64 ((i+1:Nat):Int)))],h.set r (Cu (DP k (m/128)++rest))⟩) ?_ h2;refine Yw (c:=128+m%128) hr ⟨by omega,by omega⟩ (by omega) (by omega) (by omega) ⟨ha0,ha1⟩ (by rw[hc];omega) (λh=>by omega) (λ_=>?_);rw[hc,pr];rfl
theorem XY (n:Int) (hn:u64 n) (h:List Row) (r:Nat) (rest:List Int) (hr:h[r]?=some (Cu (E4 n++rest))):FX 119 [.ref r 0] h [.v (.int .u64 n)] (h.set r (Cu rest)):=by
 refine Dh 119 ?_;unfold u64 at hn;have e10:(128:Int)^(9+1)=1180591620717411303424:=by decide
 have hw:=kW 9 n 0 0 h r rest (by omega) (by omega) (by decide) hn.1 (by omega) (by simpa using hn.2) (by omega) hr;simp only[Ai 119,AE,AM,AF,AA 119 0,AA 119 1,AA 119 2,AQ];simp;simp at hw;refine EO hw ?_;simp[AW 119]
end
theorem Ls (n:Int) (hn:i64 n) (h:List Row) (r:Nat) (rest:List Int) (hr:h[r]?=some (Cu (AZ n++rest))):FX 45 [.ref r 0] h [.v (.int .i64 n)] (h.set r (Cu rest)):=by
 refine Dh 45 ?_;simp[Ai 45,awp,AA 45 0,AA 45 1,AW 45,AQ];refine⟨_,_,(XY (Hs n) (Gq hn) h r rest hr),?_⟩;simp;refine⟨_,(jg n hn).fsp _,?_⟩;simp
theorem HX:∀(k:Nat) (n:Int),1≤(DP k n).length
 |0,n=>by simp[DP]
 |k+1,n=>by
  simp only[DP];split<;>simp
theorem Eu:∀l:List Int,l.length≤(l.flatMap AZ).length
 |[]=>by simp
 |x::l=>by
  have:=HX 9 (Hs x);have:=Eu l;simp only[oZ,oL,oj,AZ,E4]at *;omega
theorem ic (xs:List Int) (h:List Row) (r:Nat) (rest:List Int) (hb:xs.length+rest.length≤2^44) (hr:h[r]?=some (Cu (BE xs++rest))):
  FX 202 [.ref r 0,.meth 203 [.ref r 0]] h [.own 5 1 (xs.map (.int .u8))] (h.set r (Cu rest)):=by
 refine Dh 202 ?_;have w1:∀n:Int,0≤n→n≤2^50→IntKind.u64.wrap n=n:=λn h0 hn=>A9 (by omega) (by omega);simp only[Ai 202,AE,AM,AF,AA 202 0,AA 202 1,AQ];simp;refine⟨_,_,(XY xs.length ⟨by omega,by omega⟩ h r (xs++rest) (by simpa[BE,A6]using hr)),?_⟩;simp only[AF,AK,AA 202 2];have hlen:xs.length≤(xs).length:=by exact oN _
 have hlen2:(xs).length≤10*xs.length:=by omega
 have w2:IntKind.u64.wrap ((xs).length+rest.length:Int)=(xs).length+rest.length:=w1 _ (by omega) (by omega);have hlt:¬(((xs).length+rest.length:Int) <xs.length):=by omega
 generalize hX:xs=X at w2 hlt;simp[CQ hr,Cu,AH,w2,hlt,AD];subst hX;simp only[AA 202 4,AA 202 5];simp;refine AN xs.length (λk=>⟨[(0,.ref r 0),(1,.meth 203 [.ref r 0]),(5,.v (.int .u64 xs.length)),(6,.own 5 1 ((xs.take k).map (.int .u8))),(7,.v (.int .u64 k))],h.set r (Cu ((xs.drop k)++rest))⟩) (by simp[Cu,AH]) ?_;intro k hk;simp only[Zw,A8 202 0,AA 202 6];by_cases h1:k <xs.length
 ·have hd:xs.drop k=xs[k]::xs.drop (k+1):=qR h1;simp[CQ hr,Cu,h1,AD];simp only[AA 202 8];simp;refine⟨_,_,(Z4 xs[k] (xs.drop (k+1)++rest) _ r (by rw[CQ hr,hd];rfl)),?_⟩;have hroom:AU (k+1) 1=true:=by simp[AU];omega
  have ht:min k xs.length=k:=by omega
  simp[ht,hroom];simp only[AA 202 7];have w3:IntKind.u64.wrap ((k:Int)+1)=k+1:=w1 _ (by omega) (by omega);have htk:(xs.map (V.int .u8)).take (k+1)=(xs.map (V.int .u8)).take k++[V.int .u8 xs[k]]:=by
   rw[←o8,←o8,pX h1,oh];rfl
  simp[w3,Cu,htk]
 ·have:k=xs.length:=by omega
  subst this;simp[Cu,AJ];simp only[AA 202 9];simp[CQ hr];simp only[AA 202 11];simp[AW 202,AB,AH]
theorem ia (xs:List Int) (hi:∀n∈xs,i64 n) (h:List Row) (r:Nat) (rest:List Int) (hb:xs.length+rest.length≤2^44) (hr:h[r]?=some (Cu (A6 xs++rest))):
  FX 206 [.ref r 0,.meth 45 [.ref r 0]] h [.own 3 1 (xs.map (.int .i64))] (h.set r (Cu rest)):=by
 refine Dh 206 ?_;have w1:∀n:Int,0≤n→n≤2^50→IntKind.u64.wrap n=n:=λn h0 hn=>A9 (by omega) (by omega);simp only[Ai 206,AE,AM,AF,AA 206 0,AA 206 1,AQ];simp;refine⟨_,_,(XY xs.length ⟨by omega,by omega⟩ h r ((xs).flatMap AZ++rest) (by simpa[BE,A6]using hr)),?_⟩;simp only[AF,AK,AA 206 2];have hlen:xs.length≤((xs).flatMap AZ).length:=by exact Eu xs
 have hlen2:((xs).flatMap AZ).length≤10*xs.length:=by exact B8 xs
 have w2:IntKind.u64.wrap (((xs).flatMap AZ).length+rest.length:Int)=((xs).flatMap AZ).length+rest.length:=w1 _ (by omega) (by omega);have hlt:¬((((xs).flatMap AZ).length+rest.length:Int) <xs.length):=by omega
 generalize hX:(xs).flatMap AZ=X at w2 hlt;simp[CQ hr,Cu,AH,w2,hlt,AD];subst hX;simp only[AA 206 4,AA 206 5];simp;refine AN xs.length (λk=>⟨[(0,.ref r 0),(1,.meth 45 [.ref r 0]),(5,.v (.int .u64 xs.length)),(6,.own 3 1 ((xs.take k).map (.int .i64))),(7,.v (.int .u64 k))],h.set r (Cu (((xs.drop k)).flatMap AZ++rest))⟩) (by simp[Cu,AH]) ?_;intro k hk;simp only[Zw,A8 206 0,AA 206 6];by_cases h1:k <xs.length
 ·have hd:xs.drop k=xs[k]::xs.drop (k+1):=qR h1;simp[CQ hr,Cu,h1,AD];simp only[AA 206 8];simp;refine⟨_,_,(Ls xs[k] (hi _ (pR h1)) _ r ((xs.drop (k+1)).flatMap AZ++rest) (by rw[CQ hr,hd,oZ,oR];rfl)),?_⟩;have hroom:AU (k+1) 8=true:=by simp[AU];omega
  have ht:min k xs.length=k:=by omega
  simp[ht,hroom];simp only[AA 206 7];have w3:IntKind.u64.wrap ((k:Int)+1)=k+1:=w1 _ (by omega) (by omega);have htk:(xs.map (V.int .i64)).take (k+1)=(xs.map (V.int .i64)).take k++[V.int .i64 xs[k]]:=by
   rw[←o8,←o8,pX h1,oh];rfl
  simp[w3,Cu,htk]
 ·have:k=xs.length:=by omega
  subst this;simp[Cu,AJ];simp only[AA 206 9];simp[CQ hr];simp only[AA 206 11];simp[AW 206,AB,AH]
theorem aN (xs:List Int) (h:List Row) (r:Nat) (rest:List Int) (hb:xs.length+rest.length≤2^44) (hr:h[r]?=some (Cu (BE xs++rest))):FX 112 [.ref r 0] h [.own 5 1 (xs.map (.int .u8))] (h.set r (Cu rest)):=by
 refine Dh 112 ?_;simp[Ai 112,awp,AA 112 0,AA 112 1,AW 112,AQ];refine⟨_,(ic xs h r rest hb hr),?_⟩;simp
theorem Xa (xs:List Int) (hi:∀n∈xs,i64 n) (h:List Row) (r:Nat) (rest:List Int) (hb:xs.length+rest.length≤2^44) (hr:h[r]?=some (Cu (A6 xs++rest))):FX 114 [.ref r 0] h [.own 3 1 (xs.map (.int .i64))] (h.set r (Cu rest)):=by
 refine Dh 114 ?_;simp[Ai 114,awp,AA 114 0,AA 114 1,AW 114,AQ];refine⟨_,(ia xs hi h r rest hb hr),?_⟩;simp
theorem XZ (h:List Row) (r:Nat) (hr:h[r]?=some (Cu [])):FX 116 [.ref r 0] h [.v (.int .i64 0)] h:=by
 refine Dh 116 ?_;simp[Ai 116,awp,AA 116 0,AA 116 1,AA 116 3,AW 116,AQ,hr,Cu,AH]
section
variable {xs:List V} {args ds rets:List D} {b f i n r sz:Nat} {O:Nat→Prop} {J h h':List Row} {μ:List Nat} {w:World} {g:Gh}
section
variable {P:Program} {GL:Aa}
theorem Inv.frzRow {t:Nat→D} {u:Nat→Value} (hi:Inv g w μ t u h O)
  (hr:h[r]?=some (.cells ds)) (hb:μ[r]?=some b) (hxl:xs.length=n) (hxc:∀x∈xs,x.cells.length=sz) (hvs:D.vs? (ds.take (n*sz))=some (xs.flatMap V.cells)):
  ∃g',Inv g' w μ t u (h.set r .dead) O∧Chg (λz=>z=b) g w g' w∧∀cap,n≤cap→RepV g' (.list xs) (.slice (some ⟨b,0,none⟩) n cap):=by
 obtain⟨vs,T,hheap,hall,hone,hgn⟩:=hi.rows r _ b hr hb;have hcl:=PK hvs (hall.take (n*sz));obtain⟨ws,w1,w2,w3⟩:=PL hxc hcl (λu hu=>hone u (pH hu));have hwl:ws.length=n:=by rw[w1.1,hxl]
 let g':=g.put b 0 (vs.take (n*sz))
 have hgle:g.le g':=Gh.le_put _ λo _ _=>hgn o;have hchg:Chg (λz=>z=b) g w g' w:=⟨hgle,oN _,λ_ _ _=>rfl,λb' _ hb' o=>Gh.put_other hb' o,rfl,rfl⟩;have hag:∀b' o v,g'.m b' o=some v→w.cell? ⟨b',o,none⟩=some v:=by
  intro b' o v hv;by_cases hb':b'=b
  ·subst hb';rw[cell_of_row w b' o _ _ _ hheap];simp only[g',Gh.put]at hv;split at hv
   ·rename_i hc;simp only[qy]at hv;have h2:=hc.2.2;rw[oz]at hv;split at hv
    ·simpa using hv
    ·cases hv
   ·rw[hgn]at hv;cases hv
  ·simp only[g',Gh.put_other hb']at hv;exact hi.agree b' o v hv
 have hinv:=hi.setAny hr hb .dead hchg hag (BP hheap) (λk ds d h=>by cases h);have hsz:∀i,i <n→((λi=>ws.getD i (.bool false)) i).cells.size=sz:=λi hi=>by
  have:i <ws.length:=by omega
  simp only[List.getD,oI this,og];exact w3 _ (pR this)
 refine⟨g',hinv,hchg,λcap hcap=>?_⟩;rw[←hxl];refine RepV.list xs ⟨b,0,none⟩ cap sz (λi=>ws.getD i (.bool false)) rfl (by omega) (λi x hi=>?_) (λi hi=>⟨hsz i (by omega),λj v hj=>?_⟩)
 ·obtain⟨u,hu,hru⟩:=w1.get hi;simp only[List.getD,hu,og];exact hru.mono hgle
 ·have hjs:j <sz:=by have:=(oM.1 hj).1;have:=hsz i (by omega);simp at *;omega
  have:=Gh.put_at g b 0 (vs.take (n*sz)) (i*sz+j) v (by
   rw[w2,NR,hwl,Dw hsz (by omega) hjs];exact hj)
  simpa using this
theorem FSp.frz {cs:List D} (hf:FSp P GL f args h [.agg ds] h') (hi:ds[i]?=some (.sref r n)) (hr:h'[r]?=some (.cells cs))
  (hx:xs.length=n) (hxc:∀x∈xs,x.cells.length=sz) (hvs:D.vs? (cs.take (n*sz))=some (xs.flatMap V.cells)):FSp P GL f args h [.agg (ds.set i (.v (.list xs)))] (h'.set r .dead):=by
 obtain⟨h1,h2⟩:=hf;refine⟨h1,λg w μ us O hinv hgl hall htame=>(h2 g w μ us O hinv hgl hall htame).mono ?_⟩;rintro e w' ⟨v,g',μ',rfl,hi',hch,hμ⟩;have hrep:RepD g' w' μ' (.agg ds) v:=hi'.rep 0;obtain⟨vs,rfl,ha,ho,hn⟩:=hrep;obtain⟨u,hu,hru⟩:=ha.get hi;obtain⟨b,cap,hb,rfl,hnc⟩:=hru;obtain⟨g'',hinv'',hchg,hrv⟩:=hi'.frzRow hr hb hx hxc hvs;refine⟨_,g'',μ',rfl,?_,hch.trans (hchg.mono λz (hz:z=b) ho=>hi'.mo b (oK hb) (hz▸ho)),hμ⟩;have hset:=hinv''.set (d:=0) (x:= .agg (ds.set i (.v (.list xs)))) (v:= .agg vs.toArray) ⟨vs,rfl,⟨by rw[qB];exact ha.1,λj x v hj hv=>?_⟩,ho,λd hd v=>?_⟩ (λk=>by cases k<;>simp[Af,Ac])
 ·refine Eq.mp ?_ hset
  congr 1
  ·funext k
   cases k<;>simp[Ge,BY]
  ·funext k
   cases k<;>simp[Ge]
 ·rw[pU]at hj;by_cases hji:i=j
  ·subst hji;rw[if_pos rfl]at hj;split at hj
   ·simp only[oH]at hj;subst hj;rw[hu]at hv;simp only[oH]at hv;subst hv;exact hrv cap hnc
   ·cases hj
  ·rw[if_neg hji]at hj;refine(ha.2 j x v hj hv).chg hchg (oQ _) λb' hb'=>?_;rw[hn x (oK hj) v]at hb';cases hb'
 ·rcases pk hd with h3|rfl
  ·exact hn d h3 v
  ·rfl
theorem FSp.aggV (hf:FSp P GL f args h [.agg (xs.map .v)] h'):FSp P GL f args h [.v (.agg xs)] h':=by
 obtain⟨h1,h2⟩:=hf;refine⟨h1,λg w μ us O hinv hgl hall htame=>(h2 g w μ us O hinv hgl hall htame).mono ?_⟩;rintro e w' ⟨v,g',μ',rfl,hi',hch,hμ⟩;have hrep:RepD g' w' μ' (.agg (xs.map .v)) v:=hi'.rep 0;obtain⟨vs,rfl,ha,ho,hn⟩:=hrep;refine⟨_,g',μ',rfl,?_,hch,hμ⟩;have hset:=hi'.set (d:=0) (x:= .v (.agg xs)) (v:= .agg vs.toArray) (.agg' ⟨by simpa using ha.1,λi x v hx hv=>ha.2 i (.v x) v (by simp[hx]) hv⟩ ho) (λk=>Bo _ _ _);refine Eq.mp ?_ hset
 congr 1
 ·funext k
  cases k<;>simp[Ge,BY]
 ·funext k
  cases k<;>simp[Ge]
theorem FSp.trim (hf:FSp P GL f args h rets (h'++J)) (hl:h.length≤h'.length) (hh:∀row∈h',Row.low h'.length row=true) (hr:∀d∈rets,D.lt h'.length d=true):FSp P GL f args h rets h':=by
 obtain⟨h1,h2⟩:=hf;refine⟨h1,λg w μ us O hinv hgl hall htame=>(h2 g w μ us O hinv hgl hall htame).mono ?_⟩;rintro e w' ⟨v,g',μ',rfl,hi',hch,hμ⟩;refine⟨v,g',μ'.take h'.length,rfl,hi'.low (Sz (ON hr)) hh,hch,?_⟩;obtain⟨tl,rfl⟩:=hμ;rw[List.take_append,o6 (by rw[hinv.len];exact hl)];exact py _ _
theorem Qn {ac:AC} {rs:List AR} {ys:List V} (hk:CL P GL f n ac rs=true) (hn:args.length=n)
  (hw:awp P GL ac (λe s=>(match e with| .exit _=>False|_=>True)∧∃(ds cs:List D) (i r m sz:Nat) (xs:List V),DG s rs=some [.agg ds]∧ds[i]?=some (.sref r m)∧s.h[r]?=some (.cells cs)∧xs.length=m∧(∀x∈xs,x.cells.length=sz)∧
   D.vs? (cs.take (m*sz))=some (xs.flatMap V.cells)∧ds.set i (.v (.list xs))=ys.map .v) ⟨AQ args,[]⟩):FSp P GL f args [] [.v (.agg ys)] []:=by
 refine Jg (GQ (rets:=[.v (.agg ys)]) (h':=[]) hk hn (Ad ac (λe s=>by
  rintro⟨h1,ds,cs,i,r,m,sz,xs,hres,hi,hr,hx,hxc,hvs,hys⟩;refine⟨h1,_,hres,λg w μ v O hinv=>?_⟩;have hrep:RepD g w μ (.agg ds) v:=hinv.rep 0;obtain⟨vs,rfl,ha,ho,hnn⟩:=hrep;obtain⟨u,hu,hru⟩:=ha.get hi;obtain⟨b,cap,hb,rfl,hnc⟩:=hru;obtain⟨g',hinv',hchg,hrv⟩:=hinv.frzRow hr hb hx hxc hvs;have hlen:ys.length=ds.length:=by have:=congrArg List.length hys;simpa using this.symm
  have hset:=hinv'.set (d:=0) (x:= .v (.agg ys)) (v:= .agg vs.toArray) (.agg' ⟨by rw[hlen];exact ha.1,λj y v hj hv=>?_⟩ ho) (λk=>Bo _ _ _)
  ·have e1:(λn=>if 0=n then D.v (.agg ys) else Ge .any (BY [.agg ds]) n)=Ge .any (BY [.v (.agg ys)]):=by
    funext k;cases k<;>simp[Ge,BY]
   have e2:(λn=>if 0=n then Value.agg vs.toArray else Ge (.bool false) (.agg vs.toArray) n)=Ge (.bool false) (.agg vs.toArray):=by
    funext k;cases k<;>simp[Ge]
   rw[e1,e2]at hset;refine⟨g',[],λμ0 hμ0 _=>by rw[pK hμ0];exact oQ _,?_,hchg.mono λz (hz:z=b) ho=>hinv.mo b (oK hb) (hz▸ho)⟩;exact Inv.low (h:=[]) hset (λk=>by cases k<;>rfl) (by simp)
  ·have hm:(ys.map D.v)[j]?=some (.v y):=by rw[oX,hj];rfl
   rw[←hys,pU]at hm;by_cases hij:i=j
   ·subst hij;rw[if_pos rfl]at hm;split at hm
    ·simp only[oH,D.v.injEq]at hm;subst hm;rw[hu]at hv;simp only[oH]at hv;subst hv;exact hrv cap hnc
    ·cases hm
   ·rw[if_neg hij]at hm;exact RepV.mono hchg.le (ha.2 j _ v hm hv)) hw))
theorem E6 {args rets:List V} (hf:FSp P GL f (args.map .v) [] (rets.map .v) []):PSp P GL f args rets:=by
 refine⟨hf.1,λg w us hag hgl hall=>?_⟩;have hinv:Inv g w [] Jt L9 [] (λb=>b <w.heap.size):=by
  refine⟨hag,λb hb=>hb,λn=>by simp[Jt,RepD,RepG,RepE],rfl,λr row b hr=>by simp at hr,λr r' b hr=>by simp at hr,λb hb=>by simp at hb,λp q b hp=>?_,λp b hp=>?_⟩
  ·exfalso;cases p with
   |tmp n k=>cases k<;>simp[CS,Jt,Af,Ac]at hp
   |cell r k=>simp[CS,A7,Ac]at hp
  ·exfalso;cases p with
   |tmp n k=>cases k<;>simp[CS,Jt,Af,Ac]at hp
   |cell r k=>simp[CS,A7,Ac]at hp
 refine(hf.2 g w [] us _ hinv hgl ⟨by simpa using hall.1,λi x v hx hv=>?_⟩ (λi d v hd hv=>?_)).mono ?_
 ·simp only[oX,oU]at hx;obtain⟨y,hy,rfl⟩:=hx;exact hall.2 i y v hy hv
 ·simp only[oX,oU]at hd;obtain⟨y,_,rfl⟩:=hd;simp[Ac]
 ·rintro e w' ⟨v,g',μ',rfl,hi,hc,hμ⟩;obtain rfl:μ'=[]:=pK hi.len;have hr:=hi.rep 0;simp only[Ge,if_true,JV]at hr;exact⟨v,g',rfl,hr,⟨hc.le,hc.size,λb hb _=>hc.heap b hb (λh=>h hb),λb hb _=>hc.gh b hb (λh=>h hb),hc.os,hc.out⟩,hi.agree⟩
end
end
structure HM where
 E:List ((Int×Int)×Int)
 st:List Nat
 ck:Nat
def Br:List ((Int×Int)×Int)→Int×Int→Option Int
 |[],_=>none
 |x::E,k=>if x.1=k then some x.2 else Br E k
def OY:List ((Int×Int)×Int)→Int×Int→Int→List ((Int×Int)×Int)
 |[],k,v=>[(k,v)]
 |x::E,k,v=>if x.1=k then (k,v)::E else x::OY E k v
def HM.get (m:HM) (k:Int×Int):Option Int:=Br m.E k
def HM.set (m:HM) (k:Int×Int) (v:Int):HM:=
 if (m.get k).isSome then ⟨OY m.E k v,m.st,m.ck⟩ else ⟨OY m.E k v,m.st++[m.ck],m.ck+1⟩
def IU (x:(Int×Int)×Int):V×V:=(.agg [.int .i64 x.1.1,.int .i64 x.1.2],.int .u64 x.2)
def HM.row (m:HM):Row:= .map (m.E.map IU) m.st m.ck
theorem Oa:∀(E:List ((Int×Int)×Int)) (k:Int×Int) (v:Int) (k':Int×Int),Br (OY E k v) k'=if k'=k then some v else Br E k'
 |[],k,v,k'=>by simp only[OY,Br];by_cases h:k=k'<;>simp[h,eq_comm]
 |x::E,k,v,k'=>by
  simp only[OY];by_cases h:x.1=k
  ·subst h;simp only[if_true,Br];by_cases h2:x.1=k'<;>simp[h2,eq_comm]
   intro h3;exact absurd h3.symm h2
  ·rw[if_neg h];simp only[Br,Oa E k v k'];by_cases h2:x.1=k'
   ·subst h2;simp[h]
   ·simp[h2]
theorem HM.get_set (m:HM) (k:Int×Int) (v:Int) (k':Int×Int):(m.set k v).get k'=if k'=k then some v else m.get k':=by
 unfold HM.set;split<;>exact Oa _ _ _ _
theorem Is (a b:Int):∀E:List ((Int×Int)×Int),Cv true [0,0] (.agg [.int .i64 a,.int .i64 b]) (E.map IU)=some (E.findIdx? λx=>x.1==(a,b))
 |[]=>rfl
 |x::E=>by
  obtain⟨⟨c,d⟩,v⟩:=x;have hk:Bj true [0,0] (.agg [.int .i64 c,.int .i64 d])=true:=by simp[Bj,V.eqL,V.eq1,V.cells]
  simp only[oV,IU,Cv,hk,if_true,V.cells,V.eqL,V.eq1,rP,Is a b E,qE];have e:((c,d)==(a,b))=((a==c)&&(b==d)):=by
   rw[pt];simp
   constructor<;>(rintro⟨h1,h2⟩;exact⟨h1.symm,h2.symm⟩)
  rw[e];cases (a==c)&&(b==d)<;>simp
theorem Fo (k:Int×Int):∀E:List ((Int×Int)×Int),Br E k=(E.findIdx? λx=>x.1==k).bind λi=>(E[i]?).map (·.2)
 |[]=>rfl
 |x::E=>by
  simp only[Br,qE];by_cases h:x.1=k
  ·simp[h]
  ·simp[h,Fo k E];cases E.findIdx? λx=>x.1==k<;>simp
theorem LO (k:Int×Int) (v:Int):∀E:List ((Int×Int)×Int),OY E k v=match E.findIdx? λx=>x.1==k with|none=>E++[(k,v)]|some i=>E.set i (k,v)
 |[]=>rfl
 |x::E=>by
  simp only[OY,qE];by_cases h:x.1=k
  ·simp[h]
  ·simp only[h,if_false,LO k v E];have:(x.1==k)=false:=by simp[h]
   rw[this];cases E.findIdx? λx=>x.1==k<;>simp
def EX (a b:Option Int):Option Int:=
 match a,b with
 |none,none=>none
 |a,b=>some (Ln [98,108,111,99,107] [IntKind.i64.wrap (a.getD 0),IntKind.i64.wrap (b.getD 0)])
def bH (lf:Int→Option Int):Nat→Int→Option Int
 |0,n=>lf n
 |l+1,n=>EX (bH lf l (2*n)) (bH lf l (2*n+1))
def HW (lf:Int→Option Int) (m:HM):Prop:=∀l:Nat,l≤12→∀n:Int,m.get ((l:Int),n)=bH lf l n
def upd (lf:Int→Option Int) (k v:Int):Int→Option Int:=λx=>if x=k then some v else lf x
theorem JF (lf:Int→Option Int) (k v:Int):∀(l:Nat) (n:Int),n≠k/2^l→bH (upd lf k v) l n=bH lf l n
 |0,n,h=>by simp[bH,upd]at h ⊢;intro h2;exact absurd h2 h
 |l+1,n,h=>by
  have e:k/2^(l+1)=k/2^l/2:=by rw[pW,Int.ediv_ediv_of_nonneg (Int.pow_nonneg (by decide))]
  rw[e]at h;simp only[bH];rw[JF lf k v l (2*n) (by omega),JF lf k v l (2*n+1) (by omega)]
theorem LM {a b:Option Int} (h:a.isSome=true∨b.isSome=true):EX a b=some ((EX a b).getD 0):=by
 cases a<;>cases b<;>simp_all [EX]
def IG:Nat→Int→Int→Int→HM→HM
 |0,j,n,h,m=>m.set (j,n) h
 |f+1,j,n,h,m=>IG f (j+1) (n/2) ((EX ((m.set (j,n) h).get (j,2*(n/2))) ((m.set (j,n) h).get (j,2*(n/2)+1))).getD 0) (m.set (j,n) h)
theorem Sh (lf:Int→Option Int) (k v:Int):∀(f j:Nat) (n h:Int) (m:HM),f+j=12→n=k/2^j→bH (upd lf k v) j n=some h→
  (∀l:Nat,l <j→∀x:Int,m.get ((l:Int),x)=bH (upd lf k v) l x)→(∀l:Nat,j≤l→l≤12→∀x:Int,m.get ((l:Int),x)=bH lf l x)→HW (upd lf k v) (IG f j n h m):=by
 intro f;induction f with
 |zero=>
  intro j n h m hj hn hh hlo hhi l hl x;have hj:j=12:=by omega
  subst hj;simp only[IG,HM.get_set];by_cases hx:l=12∧x=n
  ·obtain⟨rfl,rfl⟩:=hx;simp[hh]
  ·rw[if_neg (by simp;intro h1 h2;exact hx ⟨by omega,h2⟩)];by_cases hl2:l=12
   ·subst hl2;rw[hhi 12 (oN _) (oN _),JF lf k v 12 x (λh=>hx ⟨rfl,h.trans hn.symm⟩)]
   ·exact hlo l (by omega) x
 |succ f ih=>
  intro j n h m hj hn hh hlo hhi;have hm1:∀(l:Nat),l <j+1→∀x:Int,(m.set ((j:Int),n) h).get ((l:Int),x)=bH (upd lf k v) l x:=by
   intro l hl x;rw[HM.get_set];by_cases hx:l=j∧x=n
   ·obtain⟨rfl,rfl⟩:=hx;simp[hh]
   ·rw[if_neg (by simp;intro h1 h2;exact hx ⟨by omega,h2⟩)];by_cases hl2:l=j
    ·subst hl2;rw[hhi l (oN _) (by omega),JF lf k v l x (λh=>hx ⟨rfl,h.trans hn.symm⟩)]
    ·exact hlo l (by omega) x
  have e:n/2=k/2^(j+1):=by rw[pW,←Int.ediv_ediv_of_nonneg (Int.pow_nonneg (by decide)),hn]
  have hcast:((j:Int)+1)=((j+1:Nat):Int):=rfl;simp only[IG];rw[hm1 j (by omega),hm1 j (by omega),hcast];refine ih (j+1) (n/2) _ _ (by omega) e ?_ (by exact hm1) ?_
  ·simp only[bH];refine LM ?_;have h0:n%2=0∨n%2=1:=by omega
   rcases h0 with h0|h0
   ·exact .inl (by rw[show 2*(n/2)=n by omega,hh];rfl)
   ·exact .inr (by rw[show 2*(n/2)+1=n by omega,hh];rfl)
  ·intro l hl hl2 x;rw[HM.get_set,if_neg (by simp;intro h1;omega)];exact hhi l (by omega) hl2 x
theorem Uk {lf:Int→Option Int} {m:HM} (hm:HW lf m) (k v:Int):HW (upd lf k v) (IG 12 0 k v m):=
 Sh lf k v 12 0 k v m rfl (by simp) (by simp[bH,upd]) (λl hl=>absurd hl (Nat.not_lt_zero l)) (λl _ hl x=>hm l hl x)
theorem Ng (lf:Int→Option Int):∀(l:Nat) (n:Int),(bH lf l n).isSome=true↔∃k,n*2^l≤k∧k <(n+1)*2^l∧(lf k).isSome=true
 |0,n=>by
  simp only[bH,Int.pow_zero,Int.mul_one]
  constructor
  ·exact λh=>⟨n,by omega,by omega,h⟩
  ·rintro⟨k,h1,h2,h3⟩;have:k=n:=by omega
   subst this;exact h3
 |l+1,n=>by
  have hj:∀a b:Option Int,(EX a b).isSome=true↔a.isSome=true∨b.isSome=true:=by intro a b;cases a<;>cases b<;>simp[EX]
  simp only[bH,hj,Ng lf l];have e1:n*2^(l+1)=2*n*2^l:=by rw[pW,ph (2^l) 2,←qD,ph n 2]
  have e2:(n+1)*2^(l+1)=(2*n+1+1)*2^l:=by rw[pW,ph (2^l) 2,←qD];congr 1;omega
  rw[e1,e2];have hpos:(0:Int) <2^l:=pq (by decide);have e3:(2*n+1)*2^l=2*n*2^l+2^l:=by rw[qg,rV]
  have e4:(2*n+1+1)*2^l=2*n*2^l+2^l+2^l:=by rw[qg,e3,rV]
  rw[e3,e4];generalize (2:Int)*n*2^l=A at*;generalize (2:Int)^l=p at*
  constructor
  ·rintro(⟨k,h1,h2,h3⟩|⟨k,h1,h2,h3⟩)<;>exact⟨k,by omega,by omega,h3⟩
  ·rintro⟨k,h1,h2,h3⟩;by_cases h4:k <A+p
   ·exact .inl ⟨k,h1,h4,h3⟩
   ·exact .inr ⟨k,by omega,h2,h3⟩
section
open Go.Proofs Go.Shelf Go.Maps Go.Sort
def OV:Ren:=⟨λ|6=>237|8=>298|9=>299|11=>326|13=>328|12=>327|23=>348|24=>349|14=>340|15=>341|16=>342|17=>343|18=>344|19=>345|20=>284|21=>346|22=>347|25=>354|26=>355|27=>356|28=>357|29=>358|30=>321|31=>359|n=>n,λ|26=>3|28=>352|24=>22|0=>0|3=>3|37=>257|48=>428|50=>47|4=>4|40=>421|39=>420|45=>425|5=>5|9=>9|51=>431|55=>409|57=>435|58=>175|33=>248|n=>n,λn=>n⟩
theorem jn:SlLaysZI.n6 Tryz.prog OV where
 mixed:=by kernel_rfl
 f6:=⟨Tryz.f237.name,by kernel_rfl,Tryz.func237.trans (congrArg some (by kernel_rfl))⟩
 f8:=⟨Tryz.f298.name,by kernel_rfl,Tryz.func298.trans (congrArg some (by kernel_rfl))⟩
 f11:=⟨Tryz.f326.name,by kernel_rfl,Tryz.func326.trans (congrArg some (by kernel_rfl))⟩
 t0:=Tryz.underlying0
 a0:=Tryz.isAgg0
 z0:=Tryz.sizeOf0
 v0:=Tryz.zeroValue0
 t24:=Tryz.underlying22
 a24:=Tryz.isAgg22
 z24:=Tryz.sizeOf22
 v24:=Tryz.zeroValue22
 t26:=Tryz.underlying3
 a26:=Tryz.isAgg3
 z26:=Tryz.sizeOf3
 v26:=Tryz.zeroValue3
 t28:=Tryz.underlying352
 a28:=Tryz.isAgg352
 z28:=Tryz.sizeOf352
 v28:=Tryz.zeroValue352
 i26:=by kernel_rfl
def S3:Ren:=⟨λ|5=>299|8=>328|7=>327|19=>348|20=>349|10=>340|11=>341|12=>342|13=>343|14=>344|15=>345|16=>284|17=>346|18=>347|30=>354|31=>355|32=>356|33=>357|34=>358|35=>321|40=>359|n=>n,λ|23=>22|25=>3|3=>3|32=>257|22=>22|0=>0|44=>428|46=>47|4=>4|36=>421|35=>420|41=>425|5=>5|9=>9|53=>431|57=>409|63=>435|64=>175|n=>n,λn=>n⟩
theorem aZ:SlLaysM.n5 Tryz.prog S3 where
 mixed:=by kernel_rfl
 f5:=⟨Tryz.f299.name,by kernel_rfl,Tryz.func299.trans (congrArg some (by kernel_rfl))⟩
 f7:=⟨Tryz.f327.name,by kernel_rfl,Tryz.func327.trans (congrArg some (by kernel_rfl))⟩
 f8:=Tryz.func328.trans (congrArg some (by kernel_rfl))
 f10:=⟨Tryz.f340.name,by kernel_rfl,Tryz.func340.trans (congrArg some (by kernel_rfl))⟩
 f11:=⟨Tryz.f341.name,by kernel_rfl,Tryz.func341.trans (congrArg some (by kernel_rfl))⟩
 f12:=⟨Tryz.f342.name,by kernel_rfl,Tryz.func342.trans (congrArg some (by kernel_rfl))⟩
 f13:=⟨Tryz.f343.name,by kernel_rfl,Tryz.func343.trans (congrArg some (by kernel_rfl))⟩
 f14:=⟨Tryz.f344.name,by kernel_rfl,Tryz.func344.trans (congrArg some (by kernel_rfl))⟩
 f15:=⟨Tryz.f345.name,by kernel_rfl,Tryz.func345.trans (congrArg some (by kernel_rfl))⟩
 f16:=⟨Tryz.f284.name,by kernel_rfl,Tryz.func284.trans (congrArg some (by kernel_rfl))⟩
 f17:=⟨Tryz.f346.name,by kernel_rfl,Tryz.func346.trans (congrArg some (by kernel_rfl))⟩
 f18:=⟨Tryz.f347.name,by kernel_rfl,Tryz.func347.trans (congrArg some (by kernel_rfl))⟩
 f19:=Tryz.func348.trans (congrArg some (by kernel_rfl))
 f20:=Tryz.func349.trans (congrArg some (by kernel_rfl))
 f30:=⟨Tryz.f354.name,by kernel_rfl,Tryz.func354.trans (congrArg some (by kernel_rfl))⟩
 f31:=Tryz.func355.trans (congrArg some (by kernel_rfl))
 f32:=Tryz.func356.trans (congrArg some (by kernel_rfl))
 f33:=⟨Tryz.f357.name,by kernel_rfl,Tryz.func357.trans (congrArg some (by kernel_rfl))⟩
 f34:=⟨Tryz.f358.name,by kernel_rfl,Tryz.func358.trans (congrArg some (by kernel_rfl))⟩
 f35:=⟨Tryz.f321.name,by kernel_rfl,Tryz.func321.trans (congrArg some (by kernel_rfl))⟩
 f40:=⟨Tryz.f359.name,by kernel_rfl,Tryz.func359.trans (congrArg some (by kernel_rfl))⟩
 t0:=Tryz.underlying0
 a0:=Tryz.isAgg0
 z0:=Tryz.sizeOf0
 v0:=Tryz.zeroValue0
 t3:=Tryz.underlying3
 a3:=Tryz.isAgg3
 z3:=Tryz.sizeOf3
 v3:=Tryz.zeroValue3
 t4:=Tryz.underlying4
 a4:=Tryz.isAgg4
 z4:=Tryz.sizeOf4
 v4:=Tryz.zeroValue4
 t5:=Tryz.underlying5
 a5:=Tryz.isAgg5
 z5:=Tryz.sizeOf5
 v5:=Tryz.zeroValue5
 t9:=Tryz.underlying9
 a9:=Tryz.isAgg9
 z9:=Tryz.sizeOf9
 v9:=Tryz.zeroValue9
 t22:=Tryz.underlying22
 a22:=Tryz.isAgg22
 z22:=Tryz.sizeOf22
 v22:=Tryz.zeroValue22
 t23:=Tryz.underlying22
 a23:=Tryz.isAgg22
 z23:=Tryz.sizeOf22
 v23:=Tryz.zeroValue22
 t25:=Tryz.underlying3
 a25:=Tryz.isAgg3
 z25:=Tryz.sizeOf3
 v25:=Tryz.zeroValue3
 t32:=Tryz.underlying257
 a32:=Tryz.isAgg257
 z32:=Tryz.sizeOf257
 v32:=Tryz.zeroValue257
 t35:=Tryz.underlying420
 a35:=Tryz.isAgg420
 z35:=Tryz.sizeOf420
 v35:=Tryz.zeroValue420
 t36:=Tryz.underlying421
 a36:=Tryz.isAgg421
 z36:=Tryz.sizeOf421
 v36:=Tryz.zeroValue421
 t41:=Tryz.underlying425
 a41:=Tryz.isAgg425
 z41:=Tryz.sizeOf425
 v41:=Tryz.zeroValue425
 t44:=Tryz.underlying428
 a44:=Tryz.isAgg428
 z44:=Tryz.sizeOf428
 v44:=Tryz.zeroValue428
 t46:=Tryz.underlying47
 a46:=Tryz.isAgg47
 z46:=Tryz.sizeOf47
 v46:=Tryz.zeroValue47
 t53:=Tryz.underlying431
 a53:=Tryz.isAgg431
 z53:=Tryz.sizeOf431
 v53:=Tryz.zeroValue431
 t57:=Tryz.underlying409
 a57:=Tryz.isAgg409
 z57:=Tryz.sizeOf409
 v57:=Tryz.zeroValue409
 t63:=Tryz.underlying435
 a63:=Tryz.isAgg435
 z63:=Tryz.sizeOf435
 v63:=Tryz.zeroValue435
 t64:=Tryz.underlying175
 a64:=Tryz.isAgg175
 z64:=Tryz.sizeOf175
 v64:=Tryz.zeroValue175
theorem XB (m:Nat):AnyZI.SortsIn Tryz.prog OV Fence.wide m:=
 ⟨λCS off cap ss W hH hblk hsz=>callsIn_wide.2 (AnyM.slices_Sort_int aZ CS off cap ss W hH hblk hsz),
  λp cap W=>callsIn_wide.2 (AnyM.slices_Sort_int_none aZ p cap W)⟩
def D6 (l:List Int):List Int:=l.mergeSort (λx y=>decide (x≤y))
variable {m r:Nat} {h:List Row}
theorem iC {es:List (V×V)} {st:List Nat} {ck:Nat} {ks:List Int}
  (hr:h[r]?=some (.cells [.mref m])) (hm:h[m]?=some (.map es st ck)) (he:es.map (·.1)=ks.map (.int .i64)) (h1:ks.length≤2^30) (hw:∀k∈ks,i64 k):
  FX 237 [.func 300 [.ref r 0]] h [.own 3 1 ((D6 ks).map (.int .i64))] h:=by
 refine⟨by kernel_rfl,λg w μ us O hinv hgl hall htame=>?_⟩;obtain⟨hlen,Br⟩:=hall;obtain⟨u,rfl⟩:∃u,us=[u]:=by
  match us,hlen with
  |[u],_=>exact⟨u,rfl⟩
 have hu:RepE g w μ (.func 300 [.ref r 0]) u:=Br 0 _ u rfl rfl;obtain⟨vs,rfl,hvs⟩:=hu;obtain⟨c,rfl⟩:∃c,vs=[c]:=by
  match vs,hvs.1 with
  |[c],_=>exact⟨c,rfl⟩
 have hc:RepC g μ (.ref r 0) c:=hvs.2 0 _ c rfl rfl;obtain⟨br,hbr,rfl⟩:=hc;obtain⟨rs,T,hb,ha,h1c,hno⟩:=hinv.rows r _ br hr hbr;obtain⟨x,rfl⟩:∃x,rs=[x]:=by
  match rs,ha.1 with
  |[x],_=>exact⟨x,rfl⟩
 have hx:RepE g w μ (.mref m) x:=ha.2 0 _ x rfl rfl;obtain⟨bm,hbm,rfl⟩:=hx;obtain⟨ents,hmb,hst,hborn,hal,hno2⟩:=hinv.rows m _ bm hm hbm;have hel:ents.toList.length=ks.length:=by
  have e1:=congrArg List.length he;simp only[oi]at e1;rw[hal.1,e1]
 have hkey:∀(i:Nat) (y:MapEntry),ents.toList[i]?=some y→∃k,ks[i]?=some k∧y.key= .int .i64 k:=by
  intro i y hy;have hi:i <ents.toList.length:=(oM.1 hy).1;obtain⟨kv,hkv⟩:∃kv,es[i]?=some kv:=⟨_,oI (by rw[←hal.1];exact hi)⟩;have h2:=(hal.2 i kv y hkv hy).1;have h3:(es.map (·.1))[i]?=some kv.1:=by simp[hkv]
  rw[he]at h3;simp only[oX,oU]at h3;obtain⟨k,hk,hk2⟩:=h3;refine⟨k,hk,?_⟩;rw[←hk2]at h2;generalize y.key=yk at h2 ⊢;cases h2;rfl
 have hkl:∀k∈ks,keyOf Tryz.prog 3 (.int .i64 k)=some (.int .i64 k):=by
  intro k hk;have h2:=hw k hk;simp only[i64]at h2;have h3:(Lit.int .i64 k).wf=true:=by
   simp only[Lit.wf,oJ,decide_eq_true_eq,IntKind.min,IntKind.max,IntKind.signed,IntKind.bits];simp;omega
  simp[keyOf,mapKey,Tryz.underlying3,h3]
 have hrd:∀(i:Nat) (y:MapEntry),ents.toList[i]?=some y→∃k,ks[i]?=some k∧Go.WideElems.rd Tryz.prog 3 RK y=some (.int .i64 k,.nil):=by
  intro i y hy;obtain⟨k,hk,hy2⟩:=hkey i y hy;refine⟨k,hk,?_⟩;simp[Go.WideElems.rd,hy2,hkl k (oK hk),RK]
 have hown:w.ownsMap Tryz.prog 3 RK bm ks.length (.map ((ents.toList.map (Go.WideElems.rg Tryz.prog 3 RK)).foldr DataW.insert [])):=by
  refine⟨ents,ck,hmb,⟨?_,hst,?_⟩,?_,rfl⟩
  ·have:ents.size≤2^30:=by rw[←rZ,hel];exact h1
   exact pA this (by decide)
  ·intro y hy;obtain⟨i,hi⟩:=qW.1 hy;obtain⟨k,_,hk⟩:=hrd i y hi;exact⟨_,hk⟩
  ·rw[←rZ,hel];exact oN _
 have hsz:Maps.size (.map ((ents.toList.map (Go.WideElems.rg Tryz.prog 3 RK)).foldr DataW.insert []):DataW Unit)=ks.length:=by
  show ((ents.toList.map (Go.WideElems.rg Tryz.prog 3 RK)).foldr DataW.insert []).length=ks.length;rw[(Go.WideShapes.sorted_perm _).length_eq,oi,hel]
 have hik:(intKeys (.map ((ents.toList.map (Go.WideElems.rg Tryz.prog 3 RK)).foldr DataW.insert []):DataW Unit)).Perm ks:=by
  have e1:((ents.toList.map (Go.WideElems.rg Tryz.prog 3 RK)).map λp=>intOf p.1)=ks:=by
   apply pe;intro i;simp only[oX];cases hy:ents.toList[i]? with
   |none=>
    have:=List.getElem?_eq_none_iff.1 hy;rw[pN (by omega)];rfl
   |some y=>
    obtain⟨k,hk,hk2⟩:=hrd i y hy;simp[Go.WideElems.rg,hk2,hk,intOf]
  have e2:=(Go.WideShapes.sorted_perm (ents.toList.map (Go.WideElems.rg Tryz.prog 3 RK))).map (λp=>intOf p.1);rw[e1]at e2;exact e2
 have hlt:br <w.heap.size:=BP hb;have hseq:=AnyZI.keys_gives WQ Fence.wide 2 trivial rfl (by omega) br bm ks.length _ w hlt (by simp[World.cell?,hb]) hown;have cS:=AnyZI.sorted_in jn Fence.wide 5 trivial trivial trivial trivial rfl (by omega) (XB _) (enters_of Tryz.func299 (by kernel_rfl) rfl) 300 #[.pointer (some ⟨br,0,none⟩)] trivial (enters_of Tryz.func300 (by kernel_rfl) rfl) _ _ (by rw[hsz];exact pA h1 (by decide)) (by rw[hsz];omega) w hseq;refine(callsIn_wide.1 cS).mono ?_;rintro e w' ⟨v,ss,rfl,hS,hrow,hnil,hbel⟩;have hperm:ss.Perm ks:=hS.trans hik;have hsort:ss.mergeSort (λx y=>decide (x≤y))=D6 ks:=mergeSort_of_perm_i hperm;rw[hsort]at hrow;have hsl:(D6 ks).length=ss.length:=by rw[←hsort];exact List.length_mergeSort _
 obtain⟨S,hSS⟩:∃S,S=D6 ks:=⟨_,rfl⟩;rw[←hSS]at hrow hsl ⊢;have hagree:∀b o v,g.m b o=some v→b <w.heap.size∧w'.cell? ⟨b,o,none⟩=some v:=by
  intro b o v hv;have h2:=hinv.agree b o v hv;have h3:b <w.heap.size:=by
   rcases om b w.heap.size with h'|h'
   ·exact h'
   ·simp[World.cell?,qh h']at h2
  exact⟨h3,by rw[World.cell?_of_block (a:=⟨b,o,none⟩) (hbel.block b h3)];exact h2⟩
 rcases hrow with ⟨hl2,⟨rfl,hz⟩|⟨gb,cap,cur,rfl,hbase,hgb,r1,r2,r3,r4⟩⟩
 ·obtain rfl:S=[]:=pK (by rw[hsl,hz]);have hc:Chg (λ_=>False) g w g w':=⟨Gh.le.refl g,hbel.size,λb hb _=>hbel.block b hb,λb hb _ o=>rfl,hbel.os,hbel.output⟩;exact⟨_,g,μ,rfl,hinv.newOwn (d:=0) hc (λb o v hv=>(hagree b o v hv).2) (.inl ⟨none,rfl,rfl,by simp⟩) (λ_ _=>⟨none,rfl⟩) (by simp[Ac]),hc.mono λ_ h=>h.elim,oQ _⟩
 ·have hpos:0 <ss.length:=by
   rcases ra ss.length with h0|h0
   ·have:=hnil.2 (pK h0);cases this
   ·exact h0
  have hnone:∀b,w.heap.size≤b→∀o,g.m b o=none:=by
   intro b hb2 o;cases h4:g.m b o with
   |none=>rfl
   |some v=>have:=(hagree b o v h4).1;omega
  let g':Gh:=⟨λb o=>if b=gb then (S[o]?).map (Value.int .i64) else g.m b o⟩
  have hc:Chg (λ_=>False) g w g' w':=by
   refine⟨λb o v hv=>?_,hbel.size,λb hb _=>hbel.block b hb,λb hb _ o=>?_,hbel.os,hbel.output⟩
   ·by_cases hbg:b=gb
    ·subst hbg;rw[hnone b hbase]at hv;cases hv
    ·simpa[g',hbg]using hv
   ·have hbg:b≠gb:=by omega
    simp[g',hbg]
  have hcur:∀(o:Nat) (x:Int),S[o]?=some x→cur[o]?=some (.int .i64 x):=by
   intro o x hx;have ho:o <S.length:=(oM.1 hx).1;have h2:(cur.toList.take (ss.length*1))[o]?=some (.int .i64 x):=by
    rw[r4,oX,hx];rfl
   rw[List.getElem?_take_of_lt (by omega)]at h2;rw[←pV];exact h2
  have hag:∀b o v,g'.m b o=some v→w'.cell? ⟨b,o,none⟩=some v:=by
   intro b o v hv;by_cases hbg:b=gb
   ·subst hbg;simp only[g',if_true,oU]at hv;obtain⟨x,hx,rfl⟩:=hv;simp[World.cell?,hgb,hcur o x hx]
   ·simp only[g',hbg,if_false]at hv;exact(hagree b o v hv).2
  have hSl:(S.map (V.int .i64)).length=ss.length:=by rw[oi,hsl]
  refine⟨_,g',μ,rfl,hinv.newOwn (d:=0) (e:=3) (s:=1) (xs:=S.map (.int .i64)) hc hag (.inr ⟨gb,cap,cur,λi=> .int .i64 (S.getD i 0),by rw[hSl],by omega,hgb,by rw[hSl];exact r1,by simpa using r3,?_,?_,?_⟩) (λh=>by rw[h]at hSl;simp at hSl;simp_all) ?_,hc.mono λ_ h=>h.elim,oQ _⟩
  ·intro i x hx;simp only[oX,oU]at hx;obtain⟨n,hn,rfl⟩:=hx;have:S.getD i 0=n:=by simp[List.getD,hn]
   show RepV g' (V.int .i64 n) (Value.int .i64 (S.getD i 0));rw[this];exact .int _ _
  ·intro i hi;have hi':i <S.length:=by simpa using hi
   refine⟨rfl,λj v hv=>?_⟩
   match j with
   |0=>
    simp[Value.cells]at hv;subst hv;simp[g',hi']
   |j+1=>simp[Value.cells]at hv
  ·intro o ho;have:S.length≤o:=by simpa using ho
   simp[g',pN this]
  ·intro b hb2;simp only[Ac]at hb2;split at hb2
   ·cases hb2
   ·simp only[oH]at hb2;rw[←hb2];exact hbase
end
end Go.Va
