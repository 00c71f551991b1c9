/- Part 9 of the proof that ExtractOther returns true for every input and leaves its arguments alone. Condition: the variable that the row lists holds what the text of the program lays. Texts joined here: VxL VyM VyK VyT VyU VzG VxG VxH VxI VxJ VxK VrB VrC VrE VcN VrF VrG VrH VrI VyX VzH VzI VyY VyW VyL VzJ VzK VrJ VrK VrL. -/
import Derived.Shelf.SlIterI.Sorted
import Derived.Shelf.SortM.Plain
import Derived.Shelf.SortM.SortNone
import Derived.KernelRfl
import Derived.Test.YtopldfpkgbkomaaGreatDoorL02
import Derived.Test.YtopldfpkgbkomaaGreatDoorL03
import Derived.Test.YtopldfpkgbkomaaGreatDoorL06
import Derived.Test.YtopldfpkgbkomaaGreatDoorL07
import Derived.Test.YtopldfpkgbkomaaGreatDoorL08
set_option linter.all false
set_option maxRecDepth 100000
namespace Go.Va
open Go.Proofs Go.Shelf Go.Maps Go.Sort
def OS:Ren:=⟨λ|6=>237|8=>298|9=>299|11=>326|13=>328|12=>327|23=>348|24=>349|14=>340|15=>341|16=>342|17=>343|18=>344|19=>345|20=>284|21=>346|22=>347|25=>354|26=>355|27=>356|28=>357|29=>358|30=>321|31=>359|n=>n,λ|26=>3|28=>352|24=>22|0=>0|3=>3|37=>257|48=>428|50=>47|4=>4|40=>421|39=>420|45=>425|5=>5|9=>9|51=>431|55=>409|57=>435|58=>175|33=>248|n=>n,λn=>n⟩
theorem ARG:SlLaysZI.n6 Tryz.prog OS where
 mixed:=by kernel_rfl
 f6:=⟨Tryz.f237.name,by kernel_rfl,Tryz.func237.trans (congrArg some (by kernel_rfl))⟩
 f8:=⟨Tryz.f298.name,by kernel_rfl,Tryz.func298.trans (congrArg some (by kernel_rfl))⟩
 f11:=⟨Tryz.f326.name,by kernel_rfl,Tryz.func326.trans (congrArg some (by kernel_rfl))⟩
 t0:=Tryz.underlying0
 a0:=Tryz.isAgg0
 z0:=Tryz.sizeOf0
 v0:=Tryz.zeroValue0
 t24:=Tryz.underlying22
 a24:=Tryz.isAgg22
 z24:=Tryz.sizeOf22
 v24:=Tryz.zeroValue22
 t26:=Tryz.underlying3
 a26:=Tryz.isAgg3
 z26:=Tryz.sizeOf3
 v26:=Tryz.zeroValue3
 t28:=Tryz.underlying352
 a28:=Tryz.isAgg352
 z28:=Tryz.sizeOf352
 v28:=Tryz.zeroValue352
 i26:=by kernel_rfl
def Xa:Ren:=⟨λ|5=>299|8=>328|7=>327|19=>348|20=>349|10=>340|11=>341|12=>342|13=>343|14=>344|15=>345|16=>284|17=>346|18=>347|30=>354|31=>355|32=>356|33=>357|34=>358|35=>321|40=>359|n=>n,λ|23=>22|25=>3|3=>3|32=>257|22=>22|0=>0|44=>428|46=>47|4=>4|36=>421|35=>420|41=>425|5=>5|9=>9|53=>431|57=>409|63=>435|64=>175|n=>n,λn=>n⟩
theorem AJ5:SlLaysM.n5 Tryz.prog Xa where
 mixed:=by kernel_rfl
 f5:=⟨Tryz.f299.name,by kernel_rfl,Tryz.func299.trans (congrArg some (by kernel_rfl))⟩
 f7:=⟨Tryz.f327.name,by kernel_rfl,Tryz.func327.trans (congrArg some (by kernel_rfl))⟩
 f8:=Tryz.func328.trans (congrArg some (by kernel_rfl))
 f10:=⟨Tryz.f340.name,by kernel_rfl,Tryz.func340.trans (congrArg some (by kernel_rfl))⟩
 f11:=⟨Tryz.f341.name,by kernel_rfl,Tryz.func341.trans (congrArg some (by kernel_rfl))⟩
 f12:=⟨Tryz.f342.name,by kernel_rfl,Tryz.func342.trans (congrArg some (by kernel_rfl))⟩
 f13:=⟨Tryz.f343.name,by kernel_rfl,Tryz.func343.trans (congrArg some (by kernel_rfl))⟩
 f14:=⟨Tryz.f344.name,by kernel_rfl,Tryz.func344.trans (congrArg some (by kernel_rfl))⟩
 f15:=⟨Tryz.f345.name,by kernel_rfl,Tryz.func345.trans (congrArg some (by kernel_rfl))⟩
 f16:=⟨Tryz.f284.name,by kernel_rfl,Tryz.func284.trans (congrArg some (by kernel_rfl))⟩
 f17:=⟨Tryz.f346.name,by kernel_rfl,Tryz.func346.trans (congrArg some (by kernel_rfl))⟩
 f18:=⟨Tryz.f347.name,by kernel_rfl,Tryz.func347.trans (congrArg some (by kernel_rfl))⟩
 f19:=Tryz.func348.trans (congrArg some (by kernel_rfl))
 f20:=Tryz.func349.trans (congrArg some (by kernel_rfl))
 f30:=⟨Tryz.f354.name,by kernel_rfl,Tryz.func354.trans (congrArg some (by kernel_rfl))⟩
 f31:=Tryz.func355.trans (congrArg some (by kernel_rfl))
 f32:=Tryz.func356.trans (congrArg some (by kernel_rfl))
 f33:=⟨Tryz.f357.name,by kernel_rfl,Tryz.func357.trans (congrArg some (by kernel_rfl))⟩
 f34:=⟨Tryz.f358.name,by kernel_rfl,Tryz.func358.trans (congrArg some (by kernel_rfl))⟩
 f35:=⟨Tryz.f321.name,by kernel_rfl,Tryz.func321.trans (congrArg some (by kernel_rfl))⟩
 f40:=⟨Tryz.f359.name,by kernel_rfl,Tryz.func359.trans (congrArg some (by kernel_rfl))⟩
 t0:=Tryz.underlying0
 a0:=Tryz.isAgg0
 z0:=Tryz.sizeOf0
 v0:=Tryz.zeroValue0
 t3:=Tryz.underlying3
 a3:=Tryz.isAgg3
 z3:=Tryz.sizeOf3
 v3:=Tryz.zeroValue3
 t4:=Tryz.underlying4
 a4:=Tryz.isAgg4
 z4:=Tryz.sizeOf4
 v4:=Tryz.zeroValue4
 t5:=Tryz.underlying5
 a5:=Tryz.isAgg5
 z5:=Tryz.sizeOf5
 v5:=Tryz.zeroValue5
 t9:=Tryz.underlying9
 a9:=Tryz.isAgg9
 z9:=Tryz.sizeOf9
 v9:=Tryz.zeroValue9
 t22:=Tryz.underlying22
 a22:=Tryz.isAgg22
 z22:=Tryz.sizeOf22
 v22:=Tryz.zeroValue22
 t23:=Tryz.underlying22
 a23:=Tryz.isAgg22
 z23:=Tryz.sizeOf22
 v23:=Tryz.zeroValue22
 t25:=Tryz.underlying3
 a25:=Tryz.isAgg3
 z25:=Tryz.sizeOf3
 v25:=Tryz.zeroValue3
 t32:=Tryz.underlying257
 a32:=Tryz.isAgg257
 z32:=Tryz.sizeOf257
 v32:=Tryz.zeroValue257
 t35:=Tryz.underlying420
 a35:=Tryz.isAgg420
 z35:=Tryz.sizeOf420
 v35:=Tryz.zeroValue420
 t36:=Tryz.underlying421
 a36:=Tryz.isAgg421
 z36:=Tryz.sizeOf421
 v36:=Tryz.zeroValue421
 t41:=Tryz.underlying425
 a41:=Tryz.isAgg425
 z41:=Tryz.sizeOf425
 v41:=Tryz.zeroValue425
 t44:=Tryz.underlying428
 a44:=Tryz.isAgg428
 z44:=Tryz.sizeOf428
 v44:=Tryz.zeroValue428
 t46:=Tryz.underlying47
 a46:=Tryz.isAgg47
 z46:=Tryz.sizeOf47
 v46:=Tryz.zeroValue47
 t53:=Tryz.underlying431
 a53:=Tryz.isAgg431
 z53:=Tryz.sizeOf431
 v53:=Tryz.zeroValue431
 t57:=Tryz.underlying409
 a57:=Tryz.isAgg409
 z57:=Tryz.sizeOf409
 v57:=Tryz.zeroValue409
 t63:=Tryz.underlying435
 a63:=Tryz.isAgg435
 z63:=Tryz.sizeOf435
 v63:=Tryz.zeroValue435
 t64:=Tryz.underlying175
 a64:=Tryz.isAgg175
 z64:=Tryz.sizeOf175
 v64:=Tryz.zeroValue175
theorem AEU (m:Nat):AnyZI.SortsIn Tryz.prog OS Fence.wide m:=
 ⟨λblk off cap ss W hH hblk hsz=>callsIn_wide.2 (AnyM.slices_Sort_int AJ5 blk off cap ss W hH hblk hsz),
  λp cap W=>callsIn_wide.2 (AnyM.slices_Sort_int_none AJ5 p cap W)⟩
def Du (l:List Int):List Int:=l.mergeSort (λx y=>decide (x≤y))
theorem AQE {h:List Row} {r m:Nat} {es:List (V×V)} {st:List Nat} {ck:Nat} {ks:List Int}
  (hr:h[r]?=some (.cells [.mref m])) (hm:h[m]?=some (.map es st ck)) (he:es.map (·.1)=ks.map (.int .i64)) (h1:ks.length≤2^30) (hw:∀k∈ks,i64 k):
  FX 237 [.func 300 [.ref r 0]] h [.own 3 1 ((Du ks).map (.int .i64))] h:=by
 refine⟨by kernel_rfl,λg w μ us O hinv hgl hall htame=>?_⟩;obtain⟨hlen,Bc⟩:=hall;obtain⟨u,rfl⟩:∃u,us=[u]:=by
  match us,hlen with
  |[u],_=>exact⟨u,rfl⟩
 have hu:RepE g w μ (.func 300 [.ref r 0]) u:=Bc 0 _ u rfl rfl;obtain⟨vs,rfl,hvs⟩:=hu;obtain⟨c,rfl⟩:∃c,vs=[c]:=by
  match vs,hvs.1 with
  |[c],_=>exact⟨c,rfl⟩
 have hc:RepC g μ (.ref r 0) c:=hvs.2 0 _ c rfl rfl;obtain⟨br,hbr,rfl⟩:=hc;obtain⟨rs,T,hb,ha,h1c,hno⟩:=hinv.rows r _ br hr hbr;obtain⟨x,rfl⟩:∃x,rs=[x]:=by
  match rs,ha.1 with
  |[x],_=>exact⟨x,rfl⟩
 have hx:RepE g w μ (.mref m) x:=ha.2 0 _ x rfl rfl;obtain⟨bm,hbm,rfl⟩:=hx;obtain⟨ents,hmb,hst,hborn,hal,hno2⟩:=hinv.rows m _ bm hm hbm;have hel:ents.toList.length=ks.length:=by
  have e1:=congrArg List.length he;simp only[AUM]at e1;rw[hal.1,e1]
 have hkey:∀(i:Nat) (y:MapEntry),ents.toList[i]?=some y→∃k,ks[i]?=some k∧y.key= .int .i64 k:=by
  intro i y hy;have hi:i <ents.toList.length:=(AT4.1 hy).1;obtain⟨kv,hkv⟩:∃kv,es[i]?=some kv:=⟨_,AT2 (by rw[←hal.1];exact hi)⟩;have h2:=(hal.2 i kv y hkv hy).1;have h3:(es.map (·.1))[i]?=some kv.1:=by simp[hkv]
  rw[he]at h3;simp only[AUG,AUA]at h3;obtain⟨k,hk,hk2⟩:=h3;refine⟨k,hk,?_⟩;rw[←hk2]at h2;generalize y.key=yk at h2 ⊢;cases h2;rfl
 have hkl:∀k∈ks,keyOf Tryz.prog 3 (.int .i64 k)=some (.int .i64 k):=by
  intro k hk;have h2:=hw k hk;simp only[i64]at h2;have h3:(Lit.int .i64 k).wf=true:=by
   simp only[Lit.wf,AT1,decide_eq_true_eq,IntKind.min,IntKind.max,IntKind.signed,IntKind.bits];simp;omega
  simp[keyOf,mapKey,Tryz.underlying3,h3]
 have hrd:∀(i:Nat) (y:MapEntry),ents.toList[i]?=some y→∃k,ks[i]?=some k∧Go.WideElems.rd Tryz.prog 3 RK y=some (.int .i64 k,.nil):=by
  intro i y hy;obtain⟨k,hk,hy2⟩:=hkey i y hy;refine⟨k,hk,?_⟩;simp[Go.WideElems.rd,hy2,hkl k (AT3 hk),RK]
 have hown:w.ownsMap Tryz.prog 3 RK bm ks.length (.map ((ents.toList.map (Go.WideElems.rg Tryz.prog 3 RK)).foldr DataW.insert [])):=by
  refine⟨ents,ck,hmb,⟨?_,hst,?_⟩,?_,rfl⟩
  ·have:ents.size≤2^30:=by rw[←AV1,hel];exact h1
   exact AUk this (by decide)
  ·intro y hy;obtain⟨i,hi⟩:=AVW.1 hy;obtain⟨k,_,hk⟩:=hrd i y hi;exact⟨_,hk⟩
  ·rw[←AV1,hel];exact AT6 _
 have hsz:Maps.size (.map ((ents.toList.map (Go.WideElems.rg Tryz.prog 3 RK)).foldr DataW.insert []):DataW Unit)=ks.length:=by
  show ((ents.toList.map (Go.WideElems.rg Tryz.prog 3 RK)).foldr DataW.insert []).length=ks.length;rw[(Go.WideShapes.sorted_perm _).length_eq,AUM,hel]
 have hik:(intKeys (.map ((ents.toList.map (Go.WideElems.rg Tryz.prog 3 RK)).foldr DataW.insert []):DataW Unit)).Perm ks:=by
  have e1:((ents.toList.map (Go.WideElems.rg Tryz.prog 3 RK)).map λp=>intOf p.1)=ks:=by
   apply AUj;intro i;simp only[AUG];cases hy:ents.toList[i]? with
   |none=>
    have:=List.getElem?_eq_none_iff.1 hy;rw[AUW (by omega)];rfl
   |some y=>
    obtain⟨k,hk,hk2⟩:=hrd i y hy;simp[Go.WideElems.rg,hk2,hk,intOf]
  have e2:=(Go.WideShapes.sorted_perm (ents.toList.map (Go.WideElems.rg Tryz.prog 3 RK))).map (λp=>intOf p.1);rw[e1]at e2;exact e2
 have hlt:br <w.heap.size:=BC hb;have hseq:=AnyZI.keys_gives yK Fence.wide 2 trivial rfl (by omega) br bm ks.length _ w hlt (by simp[World.cell?,hb]) hown;have cS:=AnyZI.sorted_in ARG Fence.wide 5 trivial trivial trivial trivial rfl (by omega) (AEU _) (enters_of Tryz.func299 (by kernel_rfl) rfl) 300 #[.pointer (some ⟨br,0,none⟩)] trivial (enters_of Tryz.func300 (by kernel_rfl) rfl) _ _ (by rw[hsz];exact AUk h1 (by decide)) (by rw[hsz];omega) w hseq;refine(callsIn_wide.1 cS).mono ?_;rintro e w' ⟨v,ss,rfl,hS,hrow,hnil,hbel⟩;have hperm:ss.Perm ks:=hS.trans hik;have hsort:ss.mergeSort (λx y=>decide (x≤y))=Du ks:=mergeSort_of_perm_i hperm;rw[hsort]at hrow;have hsl:(Du ks).length=ss.length:=by rw[←hsort];exact List.length_mergeSort _
 obtain⟨S,hSS⟩:∃S,S=Du ks:=⟨_,rfl⟩;rw[←hSS]at hrow hsl ⊢;have hagree:∀b o v,g.m b o=some v→b <w.heap.size∧w'.cell? ⟨b,o,none⟩=some v:=by
  intro b o v hv;have h2:=hinv.agree b o v hv;have h3:b <w.heap.size:=by
   rcases AUS b w.heap.size with h'|h'
   ·exact h'
   ·simp[World.cell?,AVP h']at h2
  exact⟨h3,by rw[World.cell?_of_block (a:=⟨b,o,none⟩) (hbel.block b h3)];exact h2⟩
 rcases hrow with ⟨hl2,⟨rfl,hz⟩|⟨gb,cap,cur,rfl,hbase,hgb,r1,r2,r3,r4⟩⟩
 ·obtain rfl:S=[]:=AUg (by rw[hsl,hz]);have hc:Chg (λ_=>False) g w g w':=⟨Gh.le.refl g,hbel.size,λb hb _=>hbel.block b hb,λb hb _ o=>rfl,hbel.os,hbel.output⟩;exact⟨_,g,μ,rfl,hinv.newOwn (d:=0) hc (λb o v hv=>(hagree b o v hv).2) (.inl ⟨none,rfl,rfl,by simp⟩) (by simp[AZ]),hc.mono λ_ h=>h.elim,AT8 _⟩
 ·have hpos:0 <ss.length:=by
   rcases AV2 ss.length with h0|h0
   ·have:=hnil.2 (AUg h0);cases this
   ·exact h0
  have hnone:∀b,w.heap.size≤b→∀o,g.m b o=none:=by
   intro b hb2 o;cases h4:g.m b o with
   |none=>rfl
   |some v=>have:=(hagree b o v h4).1;omega
  let g':Gh:=⟨λb o=>if b=gb then (S[o]?).map (Value.int .i64) else g.m b o⟩
  have hc:Chg (λ_=>False) g w g' w':=by
   refine⟨λb o v hv=>?_,hbel.size,λb hb _=>hbel.block b hb,λb hb _ o=>?_,hbel.os,hbel.output⟩
   ·by_cases hbg:b=gb
    ·subst hbg;rw[hnone b hbase]at hv;cases hv
    ·simpa[g',hbg]using hv
   ·have hbg:b≠gb:=by omega
    simp[g',hbg]
  have hcur:∀(o:Nat) (x:Int),S[o]?=some x→cur[o]?=some (.int .i64 x):=by
   intro o x hx;have ho:o <S.length:=(AT4.1 hx).1;have h2:(cur.toList.take (ss.length*1))[o]?=some (.int .i64 x):=by
    rw[r4,AUG,hx];rfl
   rw[List.getElem?_take_of_lt (by omega)]at h2;rw[←AUl];exact h2
  have hag:∀b o v,g'.m b o=some v→w'.cell? ⟨b,o,none⟩=some v:=by
   intro b o v hv;by_cases hbg:b=gb
   ·subst hbg;simp only[g',if_true,AUA]at hv;obtain⟨x,hx,rfl⟩:=hv;simp[World.cell?,hgb,hcur o x hx]
   ·simp only[g',hbg,if_false]at hv;exact(hagree b o v hv).2
  have hSl:(S.map (V.int .i64)).length=ss.length:=by rw[AUM,hsl]
  refine⟨_,g',μ,rfl,hinv.newOwn (d:=0) (e:=3) (s:=1) (xs:=S.map (.int .i64)) hc hag (.inr ⟨gb,cap,cur,λi=> .int .i64 (S.getD i 0),by rw[hSl],by omega,hgb,by rw[hSl];exact r1,by simpa using r3,?_,?_,?_⟩) ?_,hc.mono λ_ h=>h.elim,AT8 _⟩
  ·intro i x hx;simp only[AUG,AUA]at hx;obtain⟨n,hn,rfl⟩:=hx;have:S.getD i 0=n:=by simp[List.getD,hn]
   show RepV g' (V.int .i64 n) (Value.int .i64 (S.getD i 0));rw[this];exact .int _ _
  ·intro i hi;have hi':i <S.length:=by simpa using hi
   refine⟨rfl,λj v hv=>?_⟩
   match j with
   |0=>
    simp[Value.cells]at hv;subst hv;simp[g',hi']
   |j+1=>simp[Value.cells]at hv
  ·intro o ho;have:S.length≤o:=by simpa using ho
   simp[g',AUW this]
  ·intro b hb2;simp only[AZ]at hb2;split at hb2
   ·cases hb2
   ·simp only[AT0]at hb2;rw[←hb2];exact hbase
open Go.Proofs
theorem yG:PX 177 [.int .i64 0,.int .i64 4095] [.bool true]:=by
 refine AK ALG rfl ?_;have q1:=(AEi 0).fsp;have q2:=(AEi 4095).fsp;simp at q1 q2;simp only[AIE,AB,AA,pZ,pY,AY];simp;refine⟨_,_,q1 _,?_⟩;simp;refine⟨_,_,q2 _,?_⟩;simp[AF,pd]
theorem AQD (h:List Row) (m:Nat):FX 238 [.mref m] h [.func 300 [.ref h.length 0]] (h++[.cells [.mref m]]):=by
 refine AV AKt rfl ?_;simp[AHG,awp,kW,kV,kX,AS,D.vs?,D.v?]
theorem AJh (a b:Int) (h:List Row):FX 239 [.v (.int .i64 a),.v (.int .i64 b)] h [.func 301 [.ref h.length 0,.ref (h.length+1) 0]] (h++[.cells [.v (.int .i64 a)],.cells [.v (.int .i64 b)]]):=by
 refine AV AKs rfl ?_;simp[AHF,awp,kT,kS,kU,AS,D.vs?,D.v?]
theorem AJg:PX 240 [Ew 12 0] [.int .i64 4095]:=by
 refine AK AKr rfl ?_;have w1:IntKind.i64.wrap ((0:Int)+1)=1:=by decide
 have w2:IntKind.i64.wrap (1*2^(min (Int.toNat 12) IntKind.i64.bits))=4096:=by decide
 have w3:IntKind.i64.wrap (4096-1)=4095:=by decide
 simp only[AHE,AB,AA,kQ,kP,AY,Ew];simp;simp[AF,kR]
 try decide
theorem AJc:PX 271 [Ew 12 0] [.int .i64 0]:=by
 refine AK AKn rfl ?_;simp only[AHA,AB,AA,im,ik,AY,Ew];simp;simp[AF,io]
 try decide
theorem AJX (H:List Row) (x y z u:Nat) (hx:H[x]?=some (.cells [.v (.int .i64 0)])) (hy:H[y]?=some (.cells [.v (.int .i64 4095)])):
  FX 302 [.v (Ew 12 0),.ref x 0,.ref y 0,.ref z 0,.ref u 0] H [.v (.bool true)] (H++[.cells [.v (.int .i64 12),.v (.int .i64 0)]]):=by
 refine AV AKg rfl ?_;have q1:=AJg;have q2:=AJc;have hx':=AO [.cells [.v (.int .i64 12),.v (.int .i64 0)]] hx;have hy':=AO [.cells [.v (.int .i64 12),.v (.int .i64 0)]] hy;simp[Ew]at q1 q2;simp only[AGv,AB,AA,AW,AE,ey,ew,AS,Ew];simp;refine⟨_,_,⟨rfl,rfl⟩,_,q1,?_⟩
 try simp[hx']
 refine⟨_,_,⟨rfl,rfl⟩,_,q2,?_⟩;simp[hy',AD,eu]
 try simp only[AW]
 try simp
 refine⟨_,_,⟨rfl,rfl⟩,_,q2,?_⟩
 try simp[hx']
 refine⟨_,_,⟨rfl,rfl⟩,_,q1,?_⟩;simp[hy',AB,AA,et,AF,ez]
theorem yF (r:Nat) (X:List Row) (x y:Nat) (hx:X[x]?=some (.cells [.v (.int .i64 0)])) (hy:X[y]?=some (.cells [.v (.int .i64 4095)])):
  FX 301 [.yld r,.ref x 0,.ref y 0] X [] (X++[.cells [.yld r],.cells [.func 302 [.ref x 0,.ref y 0,.ref X.length 0,.ref (X.length+1) 0]],.cells [.v (.int .i64 12),.v (.int .i64 0)]]):=by
 refine AV AKh rfl ?_;have q:=AJX (X++[.cells [.yld r],.cells [.func 302 [.ref x 0,.ref y 0,.ref X.length 0,.ref (X.length+1) 0]]]) x y X.length (X.length+1) (AO _ hx) (AO _ hy);simp[Ew]at q;simp only[AGw,AB,AA,fD,fC,fB,fA,AS];simp[AN,D.vs?,D.v?];refine⟨⟨_,q⟩,?_⟩
 try simp[fE]
def K4 (K:KM) (k:Int):List Int:=((K.E.find? λx=>x.1==k).map (·.2)).getD []
def G0 (K:KM) (k:Int):V:= .agg [.int .i64 k,AL .u8 (K4 K k)]
theorem AJ4 (K:KM) (k:Int) (hk:k∈K.E.map (·.1)):∃i,CQ false [0] (.int .i64 k) (K.E.map GK)=some (some i)∧(K.E.map GK)[i]?=some (.int .i64 k,AL .u8 (K4 K k)):=by
 have hf:=KV (λx:Int×List Int=>x.1==k) K.E;obtain⟨x,hx,rfl⟩:=AT9.1 hk;rcases hf with ⟨h1,h2⟩|⟨i,y,h1,h2,h3⟩
 ·rw[AWD]at h2;exact absurd (h2 x hx) (by simp)
 ·refine⟨i,by rw[Jn,h1],?_⟩;have hy:y.1=x.1:=by have:=List.find?_some h3;simpa using this
  rw[AUG,h2];simp[GK,K4,h3,hy]
theorem ARh (H:List Row) (t a:Nat) (d2:D) (K:KM) (ht:∀Z,(H++Z)[t]?=some (.cells [.mref a,d2])) (ha:∀Z,(H++Z)[a]?=some K.row) (S:List Int) (hS:∀k∈S,k∈K.E.map (·.1)) (hr:∀k∈S,0≤k∧k≤4095) (hn:S.length≤2^30) (hv:∀x∈K.E,x.2.length≤2^39)
  (R7:Row) (X:List Row) (Q:AExit→St→Prop)
  (hQ:Q (.exit 0) ⟨[(2,.v (.int .i64 4095)),(3,.ref H.length 0),(4,.ref (H.length+1) 0),(7,.ref (H.length+2) 0),(9,.own 193 2 (S.map (G0 K))),(26,.own 3 1 (S.map (.int .i64))),(27,.v (.int .i64 S.length)),(28,.v (.int .i64 S.length)),(29,.v (.bool false))],H++(.cells [.ref t 0]:: .cells [.v (.int .i64 0)]::R7::X)⟩):
  awp Tryz.prog GLx (.loop SG) Q ⟨[(2,.v (.int .i64 4095)),(3,.ref H.length 0),(4,.ref (H.length+1) 0),(7,.ref (H.length+2) 0),(9,.own 193 2 []),(26,.own 3 1 (S.map (.int .i64))),(27,.v (.int .i64 S.length)),(28,.v (.int .i64 (0:Nat)))],H++(.cells [.ref t 0]:: .cells [.v (.int .i64 0)]::R7::X)⟩:=by
 refine Ad S.length (λk=>⟨[(2,.v (.int .i64 4095)),(3,.ref H.length 0),(4,.ref (H.length+1) 0),(7,.ref (H.length+2) 0),(9,.own 193 2 ((S.take k).map (G0 K))),(26,.own 3 1 (S.map (.int .i64))),(27,.v (.int .i64 S.length)),(28,.v (.int .i64 k))],H++(.cells [.ref t 0]:: .cells [.v (.int .i64 0)]::R7::X)⟩) (by simp) ?_;intro k hk;simp only[SG,AB,AA,AG,AE,rm];simp;by_cases h1:k <S.length
 ·obtain⟨s,hs⟩:∃s,S[k]?=some s:=⟨_,AT2 h1⟩;have hsm:=AT3 hs;obtain⟨i,hi1,hi2⟩:=AJ4 K s (hS s hsm);have hb:=hr s hsm;have w1:IntKind.i64.wrap ((k:Int)+1)=k+1:=AJ;have htk:(S.map (G0 K)).take (k+1)=(S.map (G0 K)).take k++[G0 K s]:=by rw[AUP,AUG,hs];rfl
  have hvl:(K4 K s).length≤2^45:=by
   unfold K4;cases hf:K.E.find? λx=>x.1==s with
   |none=>simp
   |some y=>
    have:=hv y (List.mem_of_find?_eq_some hf);simp;omega
  have q:=(yH (K4 K s) hvl).fsp;have ha':∀Z,(H++Z)[a]?=some (.map (K.E.map GK) K.st K.ck):=ha;have hpv:G0 K s= .agg [.int .i64 s,AL .u8 (K4 K s)]:=rfl;have hm:min k S.length=k:=by omega
  have hroom:Ae (k+1) 32=true:=by simp[Ae];omega
  rw[htk,hpv];generalize K4 K s=bs at*;simp[AL]at q;simp only[AL]at hi2;rw[if_pos (by omega),AD];simp only[AA,rl];simp[hs];simp only[AA,rk];simp[hb];simp only[AA,rj];simp[ht,ha',BL,V.eqL,V.eq1,hi1,hi2,C5,-List.getElem?_map];refine⟨_,_,q _,?_⟩;simp[hm,hroom,ri,w1,h1,AL,AN]
 ·have hk2:k=S.length:=by omega
  subst hk2;rw[if_neg (by omega),AM];change Q (.exit 0) _;rw[AUc (by simp)];simpa using hQ
theorem AQ4 (h:List Row) (hl:Low h) (t a:Nat) (d2:D) (K:KM) (ht:h[t]?=some (.cells [.mref a,d2])) (ha:h[a]?=some K.row) (hn:K.E.length≤2^30) (hk:∀x∈K.E,(0≤x.1∧x.1≤4095)∧x.2.length≤2^39):
  FX 137 [.ref t 0,.v (.int .i64 0),.v (.int .i64 4095)] h [.own 193 2 ((Du (K.E.map (·.1))).map (G0 K)),.v (.agg [.list [],.list [],.list []]),.v (.int .i64 0)] h:=by
 refine Ai ALL rfl (AT6 _) hl (by simp[D.lt]) ?_;have hperm:(Du (K.E.map (·.1))).Perm (K.E.map (·.1)):=AWe _ _;have hlen:(Du (K.E.map (·.1))).length=K.E.length:=by rw[hperm.length_eq,AUM]
 have hSm:∀k∈Du (K.E.map (·.1)),k∈K.E.map (·.1):=λk hk=>hperm.mem_iff.1 hk;have hSr:∀k∈Du (K.E.map (·.1)),0≤k∧k≤4095:=by
  intro k hkk;obtain⟨x,hx,rfl⟩:=AT9.1 (hSm k hkk);exact(hk x hx).1
 have q1:=yG.fsp;have q2:=λZ=>AQD (h++Z) a;have ha':∀Z,(h++Z)[a]?=some (.map (K.E.map GK) K.st K.ck):=λZ=>AO Z ha;have ht':∀Z,(h++Z)[t]?=some (.cells [.mref a,d2]):=λZ=>AO Z ht;have q3:=λZ (r:Nat) (hr:(h++Z)[r]?=some (.cells [.mref a]))=>AQE (h:=h++Z) (m:=a) (es:=K.E.map GK) (ks:=K.E.map (·.1)) hr (ha' Z) (by rw[AVM,AVM];rfl) (by rw[AUM];exact hn) (by
  intro k hkk;obtain⟨x,hx,rfl⟩:=AT9.1 hkk;have:=(hk x hx).1;unfold i64;omega)
 have q4:=λZ=>AJh 0 4095 (h++Z);have hloop:=λR7 X Q=>ARh h t a d2 K ht' (λZ=>AO Z ha) (Du (K.E.map (·.1))) hSm hSr (by omega) (λx hx=>(hk x hx).2) R7 X Q;generalize Du (K.E.map (·.1))=S at*;simp at q1;simp only[AIY,AB,AA,AG,AE,rq,rp,AS];simp;refine⟨_,_,q1 _,?_⟩;simp[AD,ro,rn];simp[ht'];refine⟨_,_,(q2 _),?_⟩;simp;refine⟨_,_,(q3 _ _ ?_),?_⟩
 ·simp
 simp;simp at hloop;refine hloop _ _ _ ?_;simp[Vl,Vk];refine⟨_,_,(q4 _),?_⟩;simp;obtain⟨H7,hH7⟩:∃H7,H7=h++[Row.cells [.ref t 0],.cells [.v (.int .i64 0)],.cells [.own 47 1 [],.own 47 1 [],.own 5 1 []],.cells [.mref a],.cells [.own 47 1 [],.own 47 1 [],.own 5 1 []],.cells [.v (.int .i64 0)],.cells [.v (.int .i64 4095)]]:=⟨_,rfl⟩;have g5:∀Z,(H7++Z)[h.length+5]?=some (.cells [.v (.int .i64 0)]):=λZ=>by rw[hH7];simp
 have g6:∀Z,(H7++Z)[h.length+5+1]?=some (.cells [.v (.int .i64 4095)]):=λZ=>by rw[hH7];simp
 rw[←hH7];refine DZ H7.length rfl 301 [.ref (h.length+5) 0,.ref (h.length+5+1) 0] [] _ _ .ready rfl rfl (yF H7.length _ (h.length+5) (h.length+5+1) (g5 _) (g6 _)) ?_ ?_
 ·simp
 ·simp[Bo];rw[hH7];simp only[AW,Vj];simp[AF,rt,D.one?,AN]
theorem Ea (a n:Int) (ha:i64 a):0≤Aq a n:=by
 unfold Aq;unfold i64 at ha;split
 ·have e1:IntKind.i64.wrap (a+1)=a+1:=AJ;have e2:IntKind.i64.wrap (0-(a+1))=0-(a+1):=AJ;rw[e1,e2];exact AWa _ (by omega)
 ·exact AWa _ (by omega)
theorem OF (l:List Int) (hl:∀n∈l,i64 n) (i n:Int):0≤Ac l i n:=by
 unfold Ac;split
 ·omega
 ·split
  ·rename_i x hx;exact Ea x n (hl x (AT3 hx))
  ·omega
def Is (k:Int):List Int:=((List.range 6).filter λc=>(k.fdiv (2^(min c IntKind.i64.bits))).tmod 3==1).map λ(c:Nat)=>(c:Int)
def Nz:List (Int×Int):=[(0,1),(1,1),(1,2),(3,2),(2,1),(-1,1),(5,1),(7,3)]
def L3 (l:List Int) (at_ i:Nat):Option Val:=
 let k:=Ac l ((at_+i:Nat):Int) 1048576
 if k.tmod 3=0 then (let r:=(Nz[(((IntKind.i64.wrap (k.tdiv 3)).tmod 8).toNat)]?).getD (0,1);some ⟨i,r.1,r.2⟩) else none
def Cy (l:List Int) (at_ n:Nat):List Val:=(List.range n).filterMap (L3 l at_)
def Ch (f:Nat→Th×Nat) (len:Nat):Nat→Nat→List Th×Nat
 |0,at_=>([],at_)
 |n+1,at_=>if at_ <len then ((f at_).1::(Ch f len n (f at_).2).1,(Ch f len n (f at_).2).2) else ([],at_)
def thG (l:List Int):Nat→Nat→Th×Nat
 |0,at_=>(.mk (Is (Ac l at_ 1048576)) (Cy l (at_+1) 3) [],at_+5)
 |d+1,at_=>(.mk (Is (Ac l at_ 1048576)) (Cy l (at_+1) 3) (Ch (thG l d) l.length (Ac l ((at_+4:Nat):Int) 4).toNat (at_+5)).1,(Ch (thG l d) l.length (Ac l ((at_+4:Nat):Int) 4).toNat (at_+5)).2)
theorem FH (f:Nat→Th×Nat) (len:Nat):∀n at_,(Ch f len n at_).1.length≤n
 |0,at_=>by simp[Ch]
 |n+1,at_=>by
  rw[Ch];split
  ·have:=FH f len n (f at_).2;simp;omega
  ·simp
theorem LQ (f:Nat→Th×Nat) (len B:Nat) (hf:∀a,(f a).2≤a+B):∀n at_,(Ch f len n at_).2≤at_+n*B
 |0,at_=>by simp[Ch]
 |n+1,at_=>by
  rw[Ch];split
  ·have h1:=LQ f len B hf n (f at_).2;have h2:=hf at_;rw[AVV];simp only;omega
  ·simp
theorem FI (f:Nat→Th×Nat) (len:Nat) (p:Th→Prop) (hf:∀a,p (f a).1):∀n at_,∀x∈(Ch f len n at_).1,p x
 |0,at_,x,hx=>by simp[Ch]at hx
 |n+1,at_,x,hx=>by
  rw[Ch]at hx;split at hx
  ·rcases AT7.1 hx with rfl|hx
   ·exact hf at_
   ·exact FI f len p hf n _ x hx
  ·cases hx
theorem OL (l:List Int) (i:Int):(Ac l i 4).toNat≤3:=by
 have:=Dq l i 4 (by decide);omega
theorem W4 (l:List Int):∀d at_,(thG l d at_).2≤at_+5*4^d
 |0,at_=>by simp[thG]
 |d+1,at_=>by
  have h:=LQ (thG l d) l.length _ (W4 l d) (Ac l ((at_+4:Nat):Int) 4).toNat (at_+5);have h2:=OL l ((at_+4:Nat):Int);have h3:(Ac l ((at_+4:Nat):Int) 4).toNat*(5*4^d)≤3*(5*4^d):=AVS _ h2;have h4:1≤4^d:=Nat.one_le_pow _ _ (by decide);rw[thG,Nat.pow_succ];simp only;omega
theorem uY:∀r∈Nz,(okR r.1 r.2&&decide (r.2≤65536))=true∧(-9223372036854775808≤r.1∧r.1 <9223372036854775808)∧ -9223372036854775808≤r.2∧r.2 <9223372036854775808:=by decide
theorem W6 (j:Nat):(Nz[j]?).getD (0,1)∈Nz:=by
 cases h:Nz[j]? with
 |none=>simp[Nz]
 |some r=>exact AT3 h
theorem HZ (l:List Int) (a i:Nat) (hi:i≤3) (x:Val) (hx:L3 l a i=some x):x.a=i∧Ec x=true∧x.ok:=by
 unfold L3 at hx;simp only at hx;split at hx
 ·simp only[AT0]at hx;have hm:=W6 ((IntKind.i64.wrap ((Ac l ((a+i:Nat):Int) 1048576).tdiv 3)).tmod 8).toNat;generalize (Nz[((IntKind.i64.wrap ((Ac l ((a+i:Nat):Int) 1048576).tdiv 3)).tmod 8).toNat]?).getD (0,1)=r at hx hm;subst hx;obtain⟨h1,h2,h3⟩:=uY r hm;exact⟨rfl,h1,by simp only[i64];omega,h2,h3⟩
 ·cases hx
theorem TS (l:List Int) (m:Int) (h1:∀x∈l,0≤x∧x <m) (h2:l.Pairwise (· <·)):Jd l m=true:=by
 unfold Jd;have:((List.range l.length).any (Gy l m))=false:=by
  rw[AVg];intro k hk;have hk:=AUR.1 hk;have hx:l[k]?=some l[k]:=AT2 hk;have hm:=h1 _ (AUs hk);unfold Gy;simp only[List.getD,hx,AUH,decide_eq_true_eq];intro hb;rcases hb with hb|hb|⟨hb,hc⟩
  ·omega
  ·omega
  ·have hk1:k-1 <l.length:=by omega
   have:=List.pairwise_iff_getElem.1 h2 (k-1) k hk1 hk (by omega);simp only[AT2 hk1,AUH]at hc;omega
 rw[this];rfl
theorem H9 (k:Int):Jd (Is k) 64=true∧(Is k).length≤6∧∀c∈Is k,0≤c∧c <6:=by
 have hb:∀c∈Is k,0≤c∧c <6:=by
  intro c hc;unfold Is at hc;obtain⟨n,hn,rfl⟩:=AT9.1 hc;have:=AUR.1 (AVd.1 hn).1;omega
 refine⟨TS _ _ (λx hx=>by have:=hb x hx;omega) ?_,?_,hb⟩
 ·unfold Is;rw[List.pairwise_map];refine List.Pairwise.imp (λh=>by omega) ((AVa (n:=6)).filter _)
 ·unfold Is;rw[AUM];have:=AUn (λ(c:Nat)=>(k.fdiv (2^(min c IntKind.i64.bits))).tmod 3==1) (List.range 6);simpa using this
theorem HY (l:List Int) (a:Nat):(Cy l a 3).all Ec=true∧Jd ((Cy l a 3).map Val.a) 32=true∧(Cy l a 3).length≤3∧∀x∈Cy l a 3,x.ok:=by
 have hm:∀x∈Cy l a 3,∃i,i <3∧L3 l a i=some x:=by
  intro x hx;obtain⟨i,hi,hx⟩:=List.mem_filterMap.1 hx;exact⟨i,AUR.1 hi,hx⟩
 refine⟨AUI.2 λx hx=>?_,TS _ _ (λy hy=>?_) ?_,?_,λx hx=>?_⟩
 ·obtain⟨i,hi,hx⟩:=hm x hx;exact(HZ l a i (by omega) x hx).2.1
 ·obtain⟨x,hx,rfl⟩:=AT9.1 hy;obtain⟨i,hi,hx⟩:=hm x hx;rw[(HZ l a i (by omega) x hx).1];omega
 ·rw[List.pairwise_map];unfold Cy;rw[List.pairwise_filterMap];refine List.Pairwise.imp_of_mem ?_ (AVa (n:=3));intro i j hi hj hij x hx y hy;have hi:=AUR.1 hi;have hj:=AUR.1 hj;rw[(HZ l a i (by omega) x hx).1,(HZ l a j (by omega) y hy).1];omega
 ·have:=AVu (L3 l a) (List.range 3);simpa[Cy]using this
 ·obtain⟨i,hi,hx⟩:=hm x hx;exact(HZ l a i (by omega) x hx).2.2
structure Th.good (t:Th):Prop where
 ok:t.ok
 fm:t.formed=true
 kd:t.kinds 6=true
theorem J6 (l:List Int):∀d at_,(thG l d at_).1.good
 |0,at_=>by
  obtain⟨c1,c2,c3⟩:=H9 (Ac l at_ 1048576);obtain⟨v1,v2,v3,v4⟩:=HY l (at_+1);rw[thG];refine⟨.mk (by omega) (by omega) (by simp) v4 (by simp),?_,?_⟩
  ·rw[Th.formed,v1,c1,v2];rfl
  ·rw[Th.kinds,Th.kindss,AVh,AUI];intro c hc;have:=c3 c hc;simp;omega
 |d+1,at_=>by
  obtain⟨c1,c2,c3⟩:=H9 (Ac l at_ 1048576);obtain⟨v1,v2,v3,v4⟩:=HY l (at_+1);have hp:=FI (thG l d) l.length Th.good (J6 l d) (Ac l ((at_+4:Nat):Int) 4).toNat (at_+5);have hn:=FH (thG l d) l.length (Ac l ((at_+4:Nat):Int) 4).toNat (at_+5);have h3:=OL l ((at_+4:Nat):Int);rw[thG];refine⟨.mk (by omega) (by omega) (by omega) v4 (λp h=>(hp p h).ok),?_,?_⟩
  ·rw[Th.formed,v1,c1,v2,GE];simp only[AUh];exact AUI.2 λp h=>(hp p h).fm
  ·rw[Th.kinds,HI,AT1];refine⟨AUI.2 λc hc=>?_,AUI.2 λp h=>(hp p h).kd⟩;have:=c3 c hc;simp;omega
def Ed:Nat→Int
 |0=>1
 |d+1=>1+3*Ed d
theorem LN:∀d,0 <Ed d
 |0=>by simp[Ed]
 |d+1=>by have:=LN d;rw[Ed];omega
theorem XT (S lv:Int) (hS:0 <S):∀(ps:List Th),(∀p∈ps,∀lf,S≤lf→lf-S≤p.nd lv lf)→∀lf,ps.length*S≤lf→lf-ps.length*S≤Th.nds ps lv lf
 |[],_,lf,h=>by simp[Th.nds]
 |p::ps,hp,lf,h=>by
  have e:((p::ps).length:Int)*S=ps.length*S+S:=by rw[AUO,AU7,AWb];simp
  have hn:0≤(ps.length:Int)*S:=AWA (by omega) (by omega);rw[e]at h ⊢;have h1:=hp p (by simp) lf (by omega);have h2:=XT S lv hS ps (λq hq=>hp q (by simp[hq])) (p.nd lv lf) (by omega);rw[Th.nds,if_neg (by omega)];omega
theorem W3 (l:List Int):∀(d at_:Nat) (lv lf:Int),lv+d≤8→Ed d≤lf→lf-Ed d≤(thG l d at_).1.nd lv lf
 |0,at_,lv,lf,h1,h2=>by
  simp only[Ed]at h2 ⊢;rw[thG,Th.nd,if_neg (by omega),Th.nds];omega
 |d+1,at_,lv,lf,h1,h2=>by
  have hpos:=LN d;simp only[Ed]at h2 ⊢;rw[thG,Th.nd,if_neg (by omega)];have hp:=FI (thG l d) l.length (λp=>∀lf,Ed d≤lf→lf-Ed d≤p.nd (lv+1) lf) (λa lf h=>W3 l d a (lv+1) lf (by omega) h) (Ac l ((at_+4:Nat):Int) 4).toNat (at_+5);have hn:=FH (thG l d) l.length (Ac l ((at_+4:Nat):Int) 4).toNat (at_+5);have h3:=OL l ((at_+4:Nat):Int);generalize (Ch (thG l d) l.length (Ac l ((at_+4:Nat):Int) 4).toNat (at_+5)).1=ps at*;have h4:(ps.length:Int)*Ed d≤3*Ed d:=AU5 (by omega) (by omega);have:=XT (Ed d) (lv+1) hpos ps hp (lf-1) (by omega);omega
theorem S1 (l:List Int) (at_:Nat):thE (thG l 2 at_).1=0:=by
 unfold thE XY;have h:=W3 l 2 at_ 1 96 (by decide) (by decide);have e:Ed 2=13:=by decide
 rw[e]at h;rw[decide_eq_true (by omega),(J6 l 2 at_).fm];rfl
inductive Th.small:Th→Prop
 |mk {cs vs ps} (h1:cs.length≤2^20) (h2:vs.length≤2^20) (h3:ps.length≤2^20) (h5:∀p∈ps,Th.small p):Th.small (.mk cs vs ps)
theorem LJ (l:List Int):∀d at_,(thG l d at_).1.small
 |0,at_=>by
  obtain⟨c1,c2,c3⟩:=H9 (Ac l at_ 1048576);obtain⟨v1,v2,v3,v4⟩:=HY l (at_+1);rw[thG];exact .mk (by omega) (by omega) (by simp) (by simp)
 |d+1,at_=>by
  obtain⟨c1,c2,c3⟩:=H9 (Ac l at_ 1048576);obtain⟨v1,v2,v3,v4⟩:=HY l (at_+1);have hp:=FI (thG l d) l.length Th.small (LJ l d) (Ac l ((at_+4:Nat):Int) 4).toNat (at_+5);have hn:=FH (thG l d) l.length (Ac l ((at_+4:Nat):Int) 4).toNat (at_+5);have h3:=OL l ((at_+4:Nat):Int);rw[thG];exact .mk (by omega) (by omega) (by omega) hp
def AME:AC:=(.seq (.reg Zb [1,2,3]) (.seq (.reg Za [1,2,3]) (.seq (.seq (.reg ZZ [2,3,30,31,32]) (.block 0 (.loop T9))) (.seq (.reg ZY [2]) .ret))))
def zP:List D:=[.own 3 1 [],.own 171 3 [],.own 58 3 []]
theorem l62 (cs:List Int) (vs:List Val) (ps:List Th) (hn:ps.length≤2^20) (ih:∀p∈ps,PX 62 [p.V] [p.V]) (R0 R1 RA RB:Row) (Q:AExit→St→Prop)
  (hQ:∀e J,AH e 2= .ref 1 0→AH e 3= .ref 5 0→Q (.exit 0) ⟨e,R0::R1::RA::RB:: .cells ((ps.flatMap λp=>p.cells)):: .cells [.sref 2 cs.length,.sref 3 vs.length,.sref 4 ps.length]::J⟩):
  awp Tryz.prog GLx (.loop T9) Q ⟨[(2,.ref 1 0),(3,.ref 5 0),(30,.v (.list (ps.map Th.V))),(31,.v (.int .i64 ps.length)),(32,.v (.int .i64 (0:Nat)))],
   R0::R1::RA::RB:: .cells (List.replicate ps.length zP).flatten:: .cells [.sref 2 cs.length,.sref 3 vs.length,.sref 4 ps.length]::[]⟩:=by
 refine Aa ps.length (λk s=>∃J,s=⟨[(2,.ref 1 0),(3,.ref 5 0),(30,.v (.list (ps.map Th.V))),(31,.v (.int .i64 ps.length)),(32,.v (.int .i64 k))],
   R0::R1::RA::RB:: .cells (((ps.take k).flatMap λp=>p.cells)++(List.replicate (ps.length-k) zP).flatten):: .cells [.sref 2 cs.length,.sref 3 vs.length,.sref 4 ps.length]::J⟩) ⟨[],by simp⟩ ?_
 rintro k s hk ⟨J,rfl⟩;simp only[T9,AB,AA,AG,AE,AAu];simp;by_cases hkl:k <ps.length
 ·obtain⟨p,hp⟩:∃p,ps[k]?=some p:=⟨_,AT2 hkl⟩;have q:=ih p (AT3 hp);have w1:IntKind.i64.wrap ((k:Int)+1)=k+1:=AJ;have htk:ps.take (k+1)=ps.take k++[p]:=by rw[AUP,hp];rfl
  have e1:ps.length-k=(ps.length-(k+1))+1:=by omega
  have hl3:∀(l:List Th),(l.flatMap λp=>p.cells).length=3*l.length:=by
   intro l;induction l with
   |nil=>rfl
   |cons x l ih=>rw[AUN,AT5,ih,AUO];simp[Th.cells];omega
  have hA:=hl3 (ps.take k);rw[AUT,AVG (by omega)]at hA;rw[htk,AVr,e1,AWg,List.flatten_cons];generalize ((ps.take k).flatMap λp=>p.cells)=A at*;generalize (List.replicate (ps.length-(k+1)) zP).flatten=Zs at*;obtain⟨c1,v1,p1⟩:=p;simp only[Th.V_eq,AL]at q;rw[if_pos (by omega),AD];simp only[AA,AAt];simp[hp,Th.V_eq,AL,AN];simp only[AW,AAs];simp;refine⟨_,_,⟨rfl,rfl⟩,_,q,?_⟩;have hpl:∀(a b c x y z:D),AN (A++a::b::c::Zs) (k*3) [x,y,z]=A++x::y::z::Zs:=by
   intro a b c x y z;have hk3:k*3=A.length:=by omega
   unfold AN;rw[hk3];simp[List.drop_append]
  simp[hkl,zP];rw[hpl,if_pos (by omega)];simp[AAr,w1,Th.cells,Th.cs,Th.vs,Th.ps,AL]
 ·have hk2:k=ps.length:=by omega
  subst hk2;rw[if_neg (by omega),AM,AUb,AV7];simp only[List.replicate_zero,List.flatten_nil,AUq];exact hQ _ J rfl rfl
theorem MG {n:Nat}:∀xs:List V,D.lts n (xs.map .v)=true
 |[]=>rfl
 |x::xs=>by simp only[AUD,D.lts,D.lt,MG xs,Bool.and_self]
theorem S0:∀l:List V,D.vs? (l.map D.v)=some l
 |[]=>rfl
 |x::l=>by
  have:=S0 l;simp only[AUD,D.vs?,D.v?,this]
theorem AFq:c62=(.seq (.reg Zd [1,2]) (.seq (.regA Zc [1,2,3] [[],[0],[0,1],[0,1,2],[],[4],[4,5],[4,5,6],[],[8],[8,9],[8,9,10],[0,1,2,3,4,5,6,7,8,9,10,11],[],[0,1,2,3,4,5,6,7,8,9,10,11,12,13]] (.take 0 (.take 1 (.take 2 (.take 4 (.take 5 (.take 6 (.take 8 (.take 9 (.take 10 (.pick (.alt 3 (.pick (.alt 7 (.pick (.alt 11 (.take 12 (.take 13 (.take 14 .done))) (.alt 13 (.take 11 (.take 12 (.take 14 .done))) .none))) (.alt 11 (.pick (.alt 7 (.take 12 (.take 13 (.take 14 .done))) (.alt 13 (.take 7 (.take 12 (.take 14 .done))) .none))) (.alt 13 (.pick (.alt 7 (.take 11 (.take 12 (.take 14 .done))) (.alt 11 (.take 7 (.take 12 (.take 14 .done))) .none))) .none)))) (.alt 7 (.pick (.alt 3 (.pick (.alt 11 (.take 12 (.take 13 (.take 14 .done))) (.alt 13 (.take 11 (.take 12 (.take 14 .done))) .none))) (.alt 11 (.pick (.alt 3 (.take 12 (.take 13 (.take 14 .done))) (.alt 13 (.take 3 (.take 12 (.take 14 .done))) .none))) (.alt 13 (.pick (.alt 3 (.take 11 (.take 12 (.take 14 .done))) (.alt 11 (.take 3 (.take 12 (.take 14 .done))) .none))) .none)))) (.alt 11 (.pick (.alt 3 (.pick (.alt 7 (.take 12 (.take 13 (.take 14 .done))) (.alt 13 (.take 7 (.take 12 (.take 14 .done))) .none))) (.alt 7 (.pick (.alt 3 (.take 12 (.take 13 (.take 14 .done))) (.alt 13 (.take 3 (.take 12 (.take 14 .done))) .none))) (.alt 13 (.pick (.alt 3 (.take 7 (.take 12 (.take 14 .done))) (.alt 7 (.take 3 (.take 12 (.take 14 .done))) .none))) .none)))) (.alt 13 (.pick (.alt 3 (.pick (.alt 7 (.take 11 (.take 12 (.take 14 .done))) (.alt 11 (.take 7 (.take 12 (.take 14 .done))) .none))) (.alt 7 (.pick (.alt 3 (.take 11 (.take 12 (.take 14 .done))) (.alt 11 (.take 3 (.take 12 (.take 14 .done))) .none))) (.alt 11 (.pick (.alt 3 (.take 7 (.take 12 (.take 14 .done))) (.alt 7 (.take 3 (.take 12 (.take 14 .done))) .none))) .none)))) .none))))))))))))))) AME)):=rfl
set_option maxHeartbeats 4000000 in
theorem p62 {t:Th} (ht:t.small):PX 62 [t.V] [t.V]:=by
 induction ht with
 | @mk cs vs ps n1 n2 n3 _ ih=>
 have hx:∀l:List Th,(l.flatMap λp=>p.cells)=((l.map Th.V).flatMap V.cells).map .v:=by
  intro l;induction l with
  |nil=>rfl
  |cons x l ih=>obtain⟨a,b,c⟩:=x;rw[AUN,ih,AUD,AUN,AUZ,Th.V_eq];rfl
 have f0:FX 62 [.v (Th.mk cs vs ps).V] [] [.agg [.sref 2 cs.length,.sref 3 vs.length,.sref 4 ps.length]]
   [.cells [.v (AL .i64 cs),.v (.list (vs.map Val.V)),.v (.list (ps.map Th.V))],.cells [.sref 2 cs.length,.sref 3 vs.length,.sref 4 ps.length],.cells (((cs.map (V.int .i64)).flatMap V.cells).map .v),.cells (((vs.map Val.V).flatMap V.cells).map .v),.cells (ps.flatMap λp=>p.cells),.cells [.sref 2 cs.length,.sref 3 vs.length,.sref 4 ps.length]]:=by
  have hlow:∀row∈[Row.cells [.v (AL .i64 cs),.v (.list (vs.map Val.V)),.v (.list (ps.map Th.V))],.cells [.sref 2 cs.length,.sref 3 vs.length,.sref 4 ps.length],.cells (((cs.map (V.int .i64)).flatMap V.cells).map .v),.cells (((vs.map Val.V).flatMap V.cells).map .v),.cells (ps.flatMap λp=>p.cells),.cells [.sref 2 cs.length,.sref 3 vs.length,.sref 4 ps.length]],Row.low 6 row=true:=by
   rw[hx];intro row hrow;simp only[AT7,AUE,or_false]at hrow;rcases hrow with rfl|rfl|rfl|rfl|rfl|rfl
   ·rfl
   ·rfl
   ·exact MG _
   ·exact MG _
   ·exact MG _
   ·rfl
  refine Ai k62 rfl (by simp) hlow (by simp[D.lt,D.lts]) ?_;rw[AFq,AB,AA];simp[Zd,AS,Th.V_eq,AL];rw[AB,BO];obtain⟨dA,eA⟩:∃dA,dA=List.replicate cs.length (D.v (.int .i64 0)):=⟨_,rfl⟩;obtain⟨dB,eB⟩:∃dB,dB=(List.replicate vs.length [D.v (.int .i64 0),.v (.int .i64 0),.v (.int .i64 0)]).flatten:=⟨_,rfl⟩;obtain⟨dC,eC⟩:∃dC,dC=(List.replicate ps.length [D.own 3 1 [],.own 171 3 [],.own 58 3 []]).flatten:=⟨_,rfl⟩;have hA:∀π,D.rens π dA=dA:=λπ=>by rw[eA,CO];simp[D.ren]
  have hB:∀π,D.rens π dB=dB:=λπ=>by rw[eB,CO];simp[D.ren]
  have hC:∀π,D.rens π dC=dC:=λπ=>by rw[eC,CO];simp[D.ren]
  obtain⟨K,hK⟩:∃K:St→Prop,K=λs=>∃s2,PR 2 s s2∧(AH s2.e 1= .ref 0 0∧AH s2.e 2= .ref 1 0∧AH s2.e 3= .ref 5 0∧s2.h=[.cells [.v (AL .i64 cs),.v (.list (vs.map Val.V)),.v (.list (ps.map Th.V))],.cells zP,.cells dA,.cells dB,.cells dC,.cells [.sref 2 cs.length,.sref 3 vs.length,.sref 4 ps.length]]):=⟨_,rfl⟩;refine BG _ (K:=K) ?_ ?_
  ·rintro s hs;rw[hK]at hs;obtain⟨s2,hr,f1,f2,f3,fh⟩:=hs;refine⟨s2,hr,?_⟩;have hlA:dA.length=cs.length:=by rw[eA];simp
   have hlB:dB.length=vs.length*3:=by rw[eB];simp
   have hh1:CK 1 (cs.map (V.int .i64))=true:=by cases cs<;>rfl
   have hh2:CK 3 (vs.map Val.V)=true:=by cases vs<;>rfl
   have hloop:=λR0 R1 RA RB Q=>l62 cs vs ps n3 ih R0 R1 RA RB Q;have eC':(List.replicate ps.length zP).flatten=dC:=eC.symm;rw[eC']at hloop;simp only[AME,AB,AA,AG,Zb];simp[f1,f2,f3,fh,AL,hlA,hh1];simp only[AA,Za];simp[hlB,hh2];simp only[AA,ZZ];simp;simp at hloop;refine hloop _ _ _ _ _ ?_;intro e J g2 g3;simp[ZY,g2,g3,AN,AF,AMF,zP,D.one?]
  ·have b1:(cs.length:Int)≤16777216:=by omega
   have b2:(vs.length:Int)≤16777216:=by omega
   have b3:(ps.length:Int)≤16777216:=by omega
   simp only[Zc];simp[AN,b1,b2,b3];simp only[←eA,←eB,←eC];subst hK
   and_intros
   ·refine A6 [(2,2),(3,3),(4,4),(5,5)] rfl rfl ⟨rfl,rfl,rfl,?_⟩;simp[Ap,List.range,List.range.loop,rnm,Bp,Row.ren,D.rens,D.ren,hA,hB,hC,zP,AL]
   ·refine A6 [(2,2),(3,3),(4,5),(5,4)] rfl rfl ⟨rfl,rfl,rfl,?_⟩;simp[Ap,List.range,List.range.loop,rnm,Bp,Row.ren,D.rens,D.ren,hA,hB,hC,zP,AL]
   ·refine A6 [(2,2),(3,4),(4,3),(5,5)] rfl rfl ⟨rfl,rfl,rfl,?_⟩;simp[Ap,List.range,List.range.loop,rnm,Bp,Row.ren,D.rens,D.ren,hA,hB,hC,zP,AL]
   ·refine A6 [(2,2),(3,4),(4,5),(5,3)] rfl rfl ⟨rfl,rfl,rfl,?_⟩;simp[Ap,List.range,List.range.loop,rnm,Bp,Row.ren,D.rens,D.ren,hA,hB,hC,zP,AL]
   ·refine A6 [(2,2),(3,5),(4,3),(5,4)] rfl rfl ⟨rfl,rfl,rfl,?_⟩;simp[Ap,List.range,List.range.loop,rnm,Bp,Row.ren,D.rens,D.ren,hA,hB,hC,zP,AL]
   ·refine A6 [(2,2),(3,5),(4,4),(5,3)] rfl rfl ⟨rfl,rfl,rfl,?_⟩;simp[Ap,List.range,List.range.loop,rnm,Bp,Row.ren,D.rens,D.ren,hA,hB,hC,zP,AL]
   ·refine A6 [(2,3),(3,2),(4,4),(5,5)] rfl rfl ⟨rfl,rfl,rfl,?_⟩;simp[Ap,List.range,List.range.loop,rnm,Bp,Row.ren,D.rens,D.ren,hA,hB,hC,zP,AL]
   ·refine A6 [(2,3),(3,2),(4,5),(5,4)] rfl rfl ⟨rfl,rfl,rfl,?_⟩;simp[Ap,List.range,List.range.loop,rnm,Bp,Row.ren,D.rens,D.ren,hA,hB,hC,zP,AL]
   ·refine A6 [(2,3),(3,4),(4,2),(5,5)] rfl rfl ⟨rfl,rfl,rfl,?_⟩;simp[Ap,List.range,List.range.loop,rnm,Bp,Row.ren,D.rens,D.ren,hA,hB,hC,zP,AL]
   ·refine A6 [(2,3),(3,4),(4,5),(5,2)] rfl rfl ⟨rfl,rfl,rfl,?_⟩;simp[Ap,List.range,List.range.loop,rnm,Bp,Row.ren,D.rens,D.ren,hA,hB,hC,zP,AL]
   ·refine A6 [(2,3),(3,5),(4,2),(5,4)] rfl rfl ⟨rfl,rfl,rfl,?_⟩;simp[Ap,List.range,List.range.loop,rnm,Bp,Row.ren,D.rens,D.ren,hA,hB,hC,zP,AL]
   ·refine A6 [(2,3),(3,5),(4,4),(5,2)] rfl rfl ⟨rfl,rfl,rfl,?_⟩;simp[Ap,List.range,List.range.loop,rnm,Bp,Row.ren,D.rens,D.ren,hA,hB,hC,zP,AL]
   ·refine A6 [(2,4),(3,2),(4,3),(5,5)] rfl rfl ⟨rfl,rfl,rfl,?_⟩;simp[Ap,List.range,List.range.loop,rnm,Bp,Row.ren,D.rens,D.ren,hA,hB,hC,zP,AL]
   ·refine A6 [(2,4),(3,2),(4,5),(5,3)] rfl rfl ⟨rfl,rfl,rfl,?_⟩;simp[Ap,List.range,List.range.loop,rnm,Bp,Row.ren,D.rens,D.ren,hA,hB,hC,zP,AL]
   ·refine A6 [(2,4),(3,3),(4,2),(5,5)] rfl rfl ⟨rfl,rfl,rfl,?_⟩;simp[Ap,List.range,List.range.loop,rnm,Bp,Row.ren,D.rens,D.ren,hA,hB,hC,zP,AL]
   ·refine A6 [(2,4),(3,3),(4,5),(5,2)] rfl rfl ⟨rfl,rfl,rfl,?_⟩;simp[Ap,List.range,List.range.loop,rnm,Bp,Row.ren,D.rens,D.ren,hA,hB,hC,zP,AL]
   ·refine A6 [(2,4),(3,5),(4,2),(5,3)] rfl rfl ⟨rfl,rfl,rfl,?_⟩;simp[Ap,List.range,List.range.loop,rnm,Bp,Row.ren,D.rens,D.ren,hA,hB,hC,zP,AL]
   ·refine A6 [(2,4),(3,5),(4,3),(5,2)] rfl rfl ⟨rfl,rfl,rfl,?_⟩;simp[Ap,List.range,List.range.loop,rnm,Bp,Row.ren,D.rens,D.ren,hA,hB,hC,zP,AL]
   ·refine A6 [(2,5),(3,2),(4,3),(5,4)] rfl rfl ⟨rfl,rfl,rfl,?_⟩;simp[Ap,List.range,List.range.loop,rnm,Bp,Row.ren,D.rens,D.ren,hA,hB,hC,zP,AL]
   ·refine A6 [(2,5),(3,2),(4,4),(5,3)] rfl rfl ⟨rfl,rfl,rfl,?_⟩;simp[Ap,List.range,List.range.loop,rnm,Bp,Row.ren,D.rens,D.ren,hA,hB,hC,zP,AL]
   ·refine A6 [(2,5),(3,3),(4,2),(5,4)] rfl rfl ⟨rfl,rfl,rfl,?_⟩;simp[Ap,List.range,List.range.loop,rnm,Bp,Row.ren,D.rens,D.ren,hA,hB,hC,zP,AL]
   ·refine A6 [(2,5),(3,3),(4,4),(5,2)] rfl rfl ⟨rfl,rfl,rfl,?_⟩;simp[Ap,List.range,List.range.loop,rnm,Bp,Row.ren,D.rens,D.ren,hA,hB,hC,zP,AL]
   ·refine A6 [(2,5),(3,4),(4,2),(5,3)] rfl rfl ⟨rfl,rfl,rfl,?_⟩;simp[Ap,List.range,List.range.loop,rnm,Bp,Row.ren,D.rens,D.ren,hA,hB,hC,zP,AL]
   ·refine A6 [(2,5),(3,4),(4,3),(5,2)] rfl rfl ⟨rfl,rfl,rfl,?_⟩;simp[Ap,List.range,List.range.loop,rnm,Bp,Row.ren,D.rens,D.ren,hA,hB,hC,zP,AL]
 have tk:∀(xs:List V) (sz:Nat),(∀x∈xs,x.cells.length=sz)→D.vs? (((xs.flatMap V.cells).map D.v).take (xs.length*sz))=some (xs.flatMap V.cells):=by
  intro xs sz hx;have hl:(xs.flatMap V.cells).length=xs.length*sz:=by
   induction xs with
   |nil=>simp
   |cons x xs ih=>rw[AUN,AT5,ih (λy hy=>hx y (by simp[hy])),hx x (by simp),AUO,AVV,Nat.add_comm]
  rw[AUc (by rw[AUM,hl];exact AT6 _)];exact S0 _
 rw[hx]at f0;have s1:∀x∈cs.map (V.int .i64),x.cells.length=1:=by
  intro x hx;obtain⟨c,_,rfl⟩:=AT9.1 hx;rfl
 have s2:∀x∈vs.map Val.V,x.cells.length=3:=by
  intro x hx;obtain⟨c,_,rfl⟩:=AT9.1 hx;rfl
 have s3:∀x∈ps.map Th.V,x.cells.length=3:=by
  intro x hx;obtain⟨⟨c1,c2,c3⟩,_,rfl⟩:=AT9.1 hx;rfl
 have t1:=tk _ 1 s1;have t2:=tk _ 3 s2;have t3:=tk _ 3 s3;rw[AUM]at t1 t2 t3;have g1:=f0.frz (i:=0) (xs:=cs.map (V.int .i64)) rfl rfl (by simp) s1 t1;have g2:=g1.frz (i:=1) (xs:=vs.map Val.V) rfl rfl (by simp) s2 t2;have g3:=g2.frz (i:=2) (xs:=ps.map Th.V) rfl rfl (by simp) s3 t3;have g4:=FSp.aggV (xs:=[AL .i64 cs,.list (vs.map Val.V),.list (ps.map Th.V)]) g3;have g5:=FSp.trim (h':=[]) g4 (AT6 _) (by simp) (by simp[D.lt]);rw[Th.V_eq]at g5 ⊢;exact HE (args:=[_]) (rets:=[_]) g5
theorem p88 (kind day:Int) (hk:kind≠0) (t:Th) (rs:List Rgt) (cl:List (Int×Int)):PX 88 [DN kind day t rs cl] [.int .i64 0,.int .i64 4095]:=by
 refine AK k88 rfl ?_;simp only[c88,AB,AA,AE,Yq,Yp,AY,DN,BZ];simp[AL,hk,AD,AA,Yo,AF,vP]
def Xp (kind day:Int) (t:Th) (rs:List Rgt):Row:=
 .cells [.v (.int .i64 kind),.v (.int .i64 0),.v (.int .i64 0),.v (.int .i64 day),.v (AL .i64 t.cs),.v (.list (t.vs.map Val.V)),.v (.list (t.ps.map Th.V)),.own 74 8 (rs.map Rgt.V),.own 76 2 [],.own 3 1 [],.own 47 1 [],.own 47 1 [],.own 5 1 []]
theorem l61 (h:List Row) (kind day:Int) (t:Th) (g:Nat) (ps:List V) (rs:List Rgt) (hn:rs.length≤2^20) (hps:ps=rs.map λr=>V.agg [.int .i64 r.file,AL .u8 (Az r)])
  (KE:∀r∈rs,PX 113 [AL .u8 (Az r)] [r.V,.int .i64 0]) (R4 R9:Row) (Q:AExit→St→Prop)
  (hQ:∀e J,Lows J→AH e 0= .ref g 0→AH e 3= .ref h.length 0→AH e 4= .ref (h.length+1) 0→AH e 9= .ref (h.length+2) 0→Q (.exit 0) ⟨e,h++(Xp kind day t rs::R4::R9::J)⟩):
  awp Tryz.prog GLx (.loop O0) Q ⟨[(0,.ref g 0),(3,.ref h.length 0),(4,.ref (h.length+1) 0),(9,.ref (h.length+2) 0),(35,.v (.list ps)),(36,.v (.int .i64 rs.length)),(37,.v (.int .i64 (0:Nat)))],h++(Xp kind day t []::R4::R9::[])⟩:=by
 subst hps;refine Aa rs.length (λk s=>∃J,Lows J∧s=⟨[(0,.ref g 0),(3,.ref h.length 0),(4,.ref (h.length+1) 0),(9,.ref (h.length+2) 0),(35,.v (.list (rs.map λr=>V.agg [.int .i64 r.file,AL .u8 (Az r)]))),(36,.v (.int .i64 rs.length)),(37,.v (.int .i64 k))],
   h++(Xp kind day t (rs.take k)::R4::R9::J)⟩) ⟨[],Lows.nil,by simp⟩ ?_
 rintro k s hk ⟨J,hJ,rfl⟩;simp only[O0,AB,AA,AG,AE,Zh];simp;by_cases hkl:k <rs.length
 ·obtain⟨r,hr⟩:∃r,rs[k]?=some r:=⟨_,AT2 hkl⟩;have w1:IntKind.i64.wrap ((k:Int)+1)=k+1:=AJ;have htk2:rs.take (k+1)=rs.take k++[r]:=by rw[AUP,hr];rfl
  have q1:=(KE r (AT3 hr)).fsp;have hl1:∀n,Row.low n (.cells [.v (.int .i64 r.file),.v (AL .u8 (Az r))])=true:=λn=>by simp[Row.low,D.lts,D.lt]
  have hl2:∀n,Row.low n (.cells (r.cs.map .v))=true:=λn=>by simp only[Row.low];exact G3 _
  have hJ2:=(hJ.app hl1).app hl2;rw[htk2];have hm:min k rs.length=k:=by omega
  have hroom:Ae (k+1) 144=true:=by simp[Ae];omega
  obtain⟨file,state,force,claims,dates,bad,owners,lics⟩:=r;generalize hE:Az ⟨file,state,force,claims,dates,bad,owners,lics⟩=E at*;obtain⟨cs,vs,pa⟩:=t;simp only[Rgt.V,Rgt.cs,Xp,Th.cs,Th.vs,Th.ps,AL]at*;simp at q1;rw[if_pos (by omega),AD];simp only[AA,Zg];simp[hr,AN,hE,AL];simp only[AA,Zf];simp;refine⟨_,_,q1 _,?_⟩;simp[AN];simp only[AA,Ze];simp[hm,hroom,QG,w1,hkl];simp at hJ2;exact⟨hJ2,by simp[Rgt.V,Rgt.cs,AL]⟩
 ·have hk2:k=rs.length:=by omega
  subst hk2;rw[if_neg (by omega),AM,AUb];exact hQ _ _ hJ rfl rfl rfl rfl
theorem p61 (h:List Row) (hl:Low h) (kind day:Int) (hk:kind≠0) (t:Th) (g tr qm x:Nat) (hg:h[g]?=some (.cells [.ref x 0,.mref qm,.ref tr 0])) (rs:List Rgt) (hn:rs.length≤2^20) (cl:List (Int×Int)) (d4:D) (hd4:d4= .v (.list (cl.map BA))∨d4= .own 76 2 (cl.map BA))
  (Pe:∀Z,Lows Z→FX 137 [.ref tr 0,.v (.int .i64 0),.v (.int .i64 4095)] (h++Z) [.own 193 2 (rs.map λr=>V.agg [.int .i64 r.file,AL .u8 (Az r)]),.v (.agg [.list [],.list [],.list []]),.v (.int .i64 0)] (h++Z))
  (KE:∀r∈rs,PX 113 [AL .u8 (Az r)] [r.V,.int .i64 0])
  (q90:∀Z,Lows Z→FX 90 [.ref x 0,.v (DN kind day t rs [])] (h++Z) [d4,.own 3 1 [],.v (.int .i64 0)] (h++Z)):
  FX 61 [.ref g 0,.agg [.v (.int .i64 kind),.v (.int .i64 0),.v (.int .i64 0),.v (.int .i64 day),.v (AL .i64 t.cs),.v (.list (t.vs.map Val.V)),.v (.list (t.ps.map Th.V)),.nil 74 8,.nil 76 2,.nil 3 1,.nil 47 1,.nil 47 1,.nil 5 1]] h
   [.v (DN kind day t rs cl),.v (.int .i64 0)] h:=by
 refine Ai k61 rfl (AT6 _) hl (by simp[D.lt]) ?_;have q88:=(p88 kind day hk t [] []).fsp;have hg':=λZ=>AO Z hg;have hloop:=λR4 R9 Q=>l61 h kind day t g _ rs hn rfl KE R4 R9 Q;obtain⟨cs,vs,pa⟩:=t;simp only[DN,BZ,Xp,Th.cs,Th.vs,Th.ps,AL]at*;simp at q88;simp only[c61,AB,AA,AG,AE,Zm,AS];simp;simp only[AA,Zl];simp;refine⟨_,_,q88 _,?_⟩;simp;simp only[AA,Zk];simp[hg'];have hq:=Pe [.cells [.v (.int .i64 kind),.v (.int .i64 0),.v (.int .i64 0),.v (.int .i64 day),.v (.list (cs.map (.int .i64))),.v (.list (vs.map Val.V)),.v (.list (pa.map Th.V)),.own 74 8 [],.own 76 2 [],.own 3 1 [],.own 47 1 [],.own 47 1 [],.own 5 1 []],
   .cells [.v (.int .i64 0),.v (.int .i64 0),.v (.int .i64 0),.v (.int .i64 0),.own 3 1 [],.own 171 3 [],.own 58 3 [],.own 74 8 [],.own 76 2 [],.own 3 1 [],.own 47 1 [],.own 47 1 [],.own 5 1 []]] (by
  intro row hrow n;simp only[AT7,AUE,or_false]at hrow;rcases hrow with rfl|rfl<;>rfl)
 refine⟨_,_,hq,?_⟩;simp[AN];simp[Zj,AD,Zi];simp at hloop;refine hloop _ _ _ ?_;intro e J hJ g0 g3 g4 g9;simp only[AA,QF];simp[g0,g3,g4,g9,AN];simp only[AW,QE];simp[hg'];have hq9:=q90 (.cells [.v (.int .i64 kind),.v (.int .i64 0),.v (.int .i64 0),.v (.int .i64 day),.v (.list (cs.map (.int .i64))),.v (.list (vs.map Val.V)),.v (.list (pa.map Th.V)),.own 74 8 (rs.map Rgt.V),.own 76 2 [],.own 3 1 [],.v (.list []),.v (.list []),.v (.list [])]::
   .cells [.v (.int .i64 0),.v (.int .i64 0),.v (.int .i64 0),.v (.int .i64 0),.own 3 1 [],.own 171 3 [],.own 58 3 [],.own 74 8 [],.own 76 2 [],.own 3 1 [],.own 47 1 [],.own 47 1 [],.own 5 1 []]:: .cells [.v (.list []),.v (.list []),.v (.list [])]::J) (by
  intro row hrow n;simp only[AT7]at hrow;rcases hrow with rfl|rfl|rfl|hrow
  ·rfl
  ·rfl
  ·rfl
  ·exact hJ row hrow n)
 simp at hq9;rcases hd4 with rfl|rfl
 ·refine⟨_,_,hq9,?_⟩;simp[AN,Mf,AD,AA,Me,AF,Zn,D.one?]
 ·refine⟨_,_,hq9,?_⟩;simp[AN,Mf,AD,AA,Me,AF,Zn,D.one?]
def MS (kind day:Int) (t:Th):D:= .agg [.v (.int .i64 kind),.v (.int .i64 0),.v (.int .i64 0),.v (.int .i64 day),.v (AL .i64 t.cs),.v (.list (t.vs.map Val.V)),.v (.list (t.ps.map Th.V)),.nil 74 8,.nil 76 2,.nil 3 1,.nil 47 1,.nil 47 1,.nil 5 1]
theorem p22 (h:List Row) (hl:Low h) (g:Nat) (t:Th) (hs:t.small) (rs:List Rgt) (cl:List (Int×Int))
  (q61:∀Z,Lows Z→FX 61 [.ref g 0,MS 1 0 t] (h++Z) [.v (DN 1 0 t rs cl),.v (.int .i64 0)] (h++Z)):
  FX 22 [.ref g 0,.v t.V] h [.v (DN 1 0 t rs cl),.v (.int .i64 0)] h:=by
 refine Ai k22 rfl (AT6 _) hl (by simp[D.lt]) ?_;have q62:=(p62 hs).fsp;have hth:t.V= .agg [AL .i64 t.cs,.list (t.vs.map Val.V),.list (t.ps.map Th.V)]:=by obtain⟨a,b,c⟩:=t;exact Th.V_eq ..
 rw[hth]at q62 ⊢;have hq:=q61 [.cells [.v (AL .i64 t.cs),.v (.list (t.vs.map Val.V)),.v (.list (t.ps.map Th.V))],.cells [.v (.int .i64 0),.v (.int .i64 0),.v (.int .i64 0),.v (.int .i64 0),.own 3 1 [],.own 171 3 [],.own 58 3 [],.own 74 8 [],.own 76 2 [],.own 3 1 [],.own 47 1 [],.own 47 1 [],.own 5 1 []]] (by
  intro row hrow n;simp only[AT7,AUE,or_false]at hrow;rcases hrow with rfl|rfl<;>rfl)
 simp only[MS,DN,BZ,AL]at*;simp at q62 hq;simp only[c22,AB,AA,AC4,AS];simp;simp only[AA,AC3];simp;refine⟨_,_,q62 _,?_⟩;simp[AN];refine⟨_,_,hq,?_⟩;simp[AN,AF,ANn,D.one?]
theorem p23 (h:List Row) (hl:Low h) (g:Nat) (t:Th) (hs:t.small) (day:Int) (hd:0≤day∧day≤131072) (rs:List Rgt) (cl cl2:List (Int×Int))
  (q61:∀Z,Lows Z→FX 61 [.ref g 0,MS 1 0 t] (h++Z) [.v (DN 1 0 t rs cl),.v (.int .i64 0)] (h++Z))
  (q61':∀Z,Lows Z→FX 61 [.ref g 0,MS 3 day t] (h++Z) [.v (DN 3 day t rs cl2),.v (.int .i64 0)] (h++Z)):
  FX 23 [.ref g 0,.v t.V,.v (.int .i64 day)] h [.v (DN 3 day t rs cl2),.v (.int .i64 0)] h:=by
 refine Ai k23 rfl (AT6 _) hl (by simp[D.lt]) ?_;have q62:=(p62 hs).fsp;have hlow1:Lows [.cells [.v (AL .i64 t.cs),.v (.list (t.vs.map Val.V)),.v (.list (t.ps.map Th.V))],.cells [.v (.int .i64 0),.v (.int .i64 0),.v (.int .i64 0),.v (.int .i64 0),.own 3 1 [],.own 171 3 [],.own 58 3 [],.own 74 8 [],.own 76 2 [],.own 3 1 [],.own 47 1 [],.own 47 1 [],.own 5 1 []]]:=by
  intro row hrow n;simp only[AT7,AUE,or_false]at hrow;rcases hrow with rfl|rfl<;>rfl
 have hl2:Low (h++[.cells [.v (AL .i64 t.cs),.v (.list (t.vs.map Val.V)),.v (.list (t.ps.map Th.V))],.cells [.v (.int .i64 0),.v (.int .i64 0),.v (.int .i64 0),.v (.int .i64 0),.own 3 1 [],.own 171 3 [],.own 58 3 [],.own 74 8 [],.own 76 2 [],.own 3 1 [],.own 47 1 [],.own 47 1 [],.own 5 1 []]]):=hl.lows hlow1;have q22:=p22 _ hl2 g t hs rs cl (λZ hZ=>by
  have:=q61 ([.cells [.v (AL .i64 t.cs),.v (.list (t.vs.map Val.V)),.v (.list (t.ps.map Th.V))],.cells [.v (.int .i64 0),.v (.int .i64 0),.v (.int .i64 0),.v (.int .i64 0),.own 3 1 [],.own 171 3 [],.own 58 3 [],.own 74 8 [],.own 76 2 [],.own 3 1 [],.own 47 1 [],.own 47 1 [],.own 5 1 []]]++Z) (λrow hrow n=>by
   rcases AUK.1 hrow with hrow|hrow
   ·exact hlow1 row hrow n
   ·exact hZ row hrow n)
  rw[←AUB]at this;exact this)
 have hle:Lows [.cells ((BZ 1 0 t rs cl).map .v)]:=λrow hrow n=>by
  rw[AUC.1 hrow];exact Ds n _ _ _ _ _
 have hq:=q61' ([.cells [.v (AL .i64 t.cs),.v (.list (t.vs.map Val.V)),.v (.list (t.ps.map Th.V))],.cells [.v (.int .i64 0),.v (.int .i64 0),.v (.int .i64 0),.v (.int .i64 0),.own 3 1 [],.own 171 3 [],.own 58 3 [],.own 74 8 [],.own 76 2 [],.own 3 1 [],.own 47 1 [],.own 47 1 [],.own 5 1 []]]++[.cells ((BZ 1 0 t rs cl).map .v)]) (λrow hrow n=>by
   rcases AUK.1 hrow with hrow|hrow
   ·exact hlow1 row hrow n
   ·exact hle row hrow n)
 have hth:t.V= .agg [AL .i64 t.cs,.list (t.vs.map Val.V),.list (t.ps.map Th.V)]:=by obtain⟨a,b,c⟩:=t;exact Th.V_eq ..
 rw[hth]at q62 q22 ⊢;have hd0:¬day <0:=by omega
 have hd1:¬131072 <day:=by omega
 simp only[MS,DN,BZ,AL]at*;simp at q62 q22 hq;simp only[c23,AB,AA,AE,AC1,AS];simp;simp only[AA,AC0];simp;refine⟨_,_,q22,?_⟩;simp[AN,ACz,AD];simp only[AA,ACy];simp[hd0,hd1,AD];simp only[AA,ACx];simp;refine⟨_,_,q62 _,?_⟩;simp[AN];refine⟨_,_,hq,?_⟩;simp[AN,AF,ANj,D.one?]
theorem TO (l:List Rgt):l.Pairwise (λa b=>a.file≠b.file)→(kmL l).E=l.map E1:=by
 have key:∀n,∀l:List Rgt,l.length=n→l.Pairwise (λa b=>a.file≠b.file)→(kmL l).E=l.map E1:=by
  intro n;induction n with
  |zero=>intro l h _;rw[AUg h];rfl
  |succ n ih=>
   intro l h hp;have hne:l≠[]:=λe=>by rw[e]at h;cases h
   obtain⟨r,hr⟩:∃r,l=l.dropLast++[r]:=⟨l.getLast hne,(List.dropLast_concat_getLast hne).symm⟩;rw[hr]at hp ⊢;have hl:l.dropLast.length=n:=by rw[List.length_dropLast];omega
   rw[AU1]at hp;have hE:=ih l.dropLast hl hp.1;rw[KR];have hnone:(l.dropLast.map E1).findIdx? (λx=>x.1==r.file)=none:=by
    rw[GT,AVg];intro q hq;have:=hp.2.2 q hq r (by simp);simpa using this
   unfold KM.set;rw[hE,hnone];simp[E1]
 exact key l.length l rfl
theorem Gl {l:List Rgt} (hp:l.Pairwise (λa b=>a.file≠b.file)) {r:Rgt} (hr:r∈l):l.find? (λq=>q.file==r.file)=some r:=by
 induction l with
 |nil=>cases hr
 |cons x l ih=>
  rw[List.pairwise_cons]at hp;rw[List.find?_cons];rcases AT7.1 hr with rfl|hr
  ·simp
  ·have:=hp.1 r hr;rw[show (x.file==r.file)=false by simpa using this];exact ih hp.2 hr
theorem FT {l:List Rgt} (hp:l.Pairwise (λa b=>a.file≠b.file)) {r:Rgt} (hr:r∈l):JL l r.file=r:=by
 unfold JL;rw[Gl hp hr];rfl
def BY (l:List Rgt):List Rgt:=(Du (l.map Rgt.file)).map (JL l)
theorem Gb {l:List Rgt} (hp:l.Pairwise (λa b=>a.file≠b.file)):(BY l).Perm l:=by
 unfold BY;have h1:(Du (l.map Rgt.file)).Perm (l.map Rgt.file):=AWe _ _;have h2:=h1.map (JL l);rw[AVM]at h2;have e:l.map (JL l ∘ Rgt.file)=l:=by
  conv=>rhs;rw[←List.map_id l]
  exact AWY λr hr=>FT hp hr
 rw[e]at h2;exact h2
theorem Ga {l:List Rgt} (hp:l.Pairwise (λa b=>a.file≠b.file)):(BY l).Pairwise (λa b=>a.file≠b.file):=
 (Gb hp).symm.pairwise hp (λh=>Ne.symm h)
def XA:AT:=match I3 with| .seq _ (.seq _ (.seq (.block _ (.regA _ _ _ t)) _))=>t|_=> .done
def YS:List (List Nat):=match I3 with| .seq _ (.seq _ (.seq (.block _ (.regA _ _ c _)) _))=>c|_=>[]
theorem Ws:I3= .seq (.reg Si [1,2,4,5,6,33,34,35]) (.seq (.cond (.t 35 false) .skip (.exit 0)) (.seq (.block 1 (.regA Gq [1,2,4,5,6,33,34] YS XA)) (.reg Ni [1,2,4,5,6,33,34]))):=rfl
theorem WB:XA.chk Gq YS (List.range 16)=true:=by kernel_rfl
def KO:List (Option Nat):=[some 36,some 37,some 38,some 39,some 40,some 41,some 42,some 43,some 44,some 45,some 46,some 47,some 48,some 49,some 50,none]
def Cr:List (Option Nat):=[none,some 13,none,none,none,none,none,none,none,none,none,none,none,some 15,none,none]
def Eu:List Nat:=[1,2,4,5,6,33,34]
theorem Di:okN KO Eu=true:=by kernel_rfl
def Wz (x:Dat) (ds:List V) (j:Nat):D:=
 match j with
 |0|14=> .ref 4 4
 |1=> .own 88 4 ds
 |2|4|7|9=> .ref 2 0
 |3=> .v (.int .i64 x.cl)
 |5=> .v (.int .i64 x.ix)
 |6=> .agg [.v (.int .i64 x.cl),.v (.int .i64 x.ix)]
 |8=> .v (.int .i64 x.day)
 |10=> .v (.int .i64 x.file)
 |11=> .agg [.v (.int .i64 x.cl),.v (.int .i64 x.ix),.v (.int .i64 x.day),.v (.int .i64 x.file)]
 |12=> .own 88 4 [x.V]
 |13=> .own 88 4 (ds++[x.V])
 |_=> .any
def Bs (d:Nat→Bool):Nat:=if d 10 then 4 else if d 8 then 3 else if d 5 then 2 else if d 3 then 1 else 0
def Cc (x:Dat) (rest:List Int):Nat→List Int
 |0=>Af x.cl++(Af x.ix++(Af x.day++(Af x.file++rest)))
 |1=>Af x.ix++(Af x.day++(Af x.file++rest))
 |2=>Af x.day++(Af x.file++rest)
 |3=>Af x.file++rest
 |_=>rest
def Bu (x:Dat) (ds:List V) (d:Nat→Bool):D:=if d 15 then .own 88 4 (ds++[x.V]) else if d 1 then .v (.list ds) else .own 88 4 ds
def Al (C0 C1:Row) (f st fo cl bad ow li:D) (x:Dat) (rest:List Int) (ds:List V) (d:Nat→Bool):List Row:=
 [C0,C1,rdr (Cc x rest (Bs d)),.cells [.ref 2 0],.cells [f,st,fo,cl,Bu x ds d,bad,ow,li]]
def Lu (n k:Int) (j:Nat):D:=
 match j with
 |1=> .ref 0 0
 |2=> .ref 1 0
 |4=> .ref 3 0
 |5=> .func 204 [.ref 3 0,.ref 0 0]
 |6=> .ref 4 0
 |33=> .v (.int .i64 n)
 |34=> .v (.int .i64 k)
 |_=> .any
theorem AKc (C0 C1:Row) (f st fo cl bad ow li:D) (x:Dat) (hx:x.ok) (rest:List Int) (ds:List V) (hds:ds.length≤2^30) (n k:Int) {K:St→Prop}
  (hK:∀e,(∀k'∈Eu,AH e k'=Lu n k k')→K ⟨e,Al C0 C1 f st fo cl bad ow li x rest ds (λ_=>true)⟩) (se:Env) (hse:∀k'∈Eu,AH se k'=Lu n k k'):
  XA.ok Tryz.prog GLx Gq K ⟨se,Al C0 C1 f st fo cl bad ow li x rest ds (λj=>decide (16≤j))⟩:=by
 refine IT (λd s=>EnvD KO Cr Eu (Wz x ds) (Lu n k) d s.e∧s.h=Al C0 C1 f st fo cl bad ow li x rest ds d) WB ?_ ?_ ?_
 ·rintro d i ⟨e,h⟩ hi hdi hdep hup ⟨hE,hh⟩;simp only at hE hh;subst hh;have b4:AH e 4= .ref 3 0:=hE.2 4 (by simp[Eu]);have b6:AH e 6= .ref 4 0:=hE.2 6 (by simp[Eu]);have ld:∀(i k':Nat),(i=2∧k'=38∨i=4∧k'=40∨i=7∧k'=43∨i=9∧k'=45)→d i=false→Gq.getD i default=⟨none,.p k' (.load (.t 4 false) 1 false)⟩→∃s1,BD Tryz.prog GLx (Gq.getD i default) ⟨e,Al C0 C1 f st fo cl bad ow li x rest ds d⟩ s1∧EnvD KO Cr Eu (Wz x ds) (Lu n k) (did d i) s1.e∧s1.h=Al C0 C1 f st fo cl bad ow li x rest ds (did d i):=by
   intro i k' hik hdi hx;refine⟨⟨(k',.ref 2 0)::e,_⟩,BB hx (by simp[PI.val,Opd.ev,b4,Al,D.part,D.copy]),hE.push Di i k' ?_ ?_,?_⟩
   ·rcases hik with ⟨rfl,rfl⟩|⟨rfl,rfl⟩|⟨rfl,rfl⟩|⟨rfl,rfl⟩<;>rfl
   ·rcases hik with ⟨rfl,rfl⟩|⟨rfl,rfl⟩|⟨rfl,rfl⟩|⟨rfl,rfl⟩<;>rfl
   ·rcases hik with ⟨rfl,rfl⟩|⟨rfl,rfl⟩|⟨rfl,rfl⟩|⟨rfl,rfl⟩<;>simp[Al,Bs,Bu,did]
  match i,hi with
  |0,_=>
   exact⟨_,BB (v:= .ref 4 4) rfl (by simp[PI.val,Opd.ev,b6]),hE.push Di 0 36 rfl rfl,by simp[Al,Bs,Bu,did]⟩
  |1,_=>
   have v0:AH e 36= .ref 4 4:=hE.1 0 36 rfl (hdep 0 (by decide)) (by intro c hc;simp[Cr]at hc);have d15:d 15=false:=hup 15 (by decide) (by decide);refine⟨_,CG (s1:=⟨(37,.own 88 4 ds)::e,Al C0 C1 f st fo cl bad ow li x rest ds (did d 1)⟩) rfl ?_,hE.push Di 1 37 rfl rfl,rfl⟩;simp[AI.step,Opd.ev,v0,Al,Bu,d15,hdi,did,Bs]
  |2,_=>exact ld 2 38 (by decide) hdi rfl
  |4,_=>exact ld 4 40 (by decide) hdi rfl
  |7,_=>exact ld 7 43 (by decide) hdi rfl
  |9,_=>exact ld 9 45 (by decide) hdi rfl
  |3,_=>
   have v2:AH e 38= .ref 2 0:=hE.1 2 38 rfl (hdep 2 (by decide)) (by intro c hc;simp[Cr]at hc);have d5:d 5=false:=hup 5 (by decide) (by decide);have d8:d 8=false:=hup 8 (by decide) (by decide);have d10:d 10=false:=hup 10 (by decide) (by decide);have hF:=p45 x.cl hx.1 (Al C0 C1 f st fo cl bad ow li x rest ds d) 2 (Af x.ix++(Af x.day++(Af x.file++rest))) (by simp[Al,Cc,Bs,hdi,d5,d8,d10]);exact⟨_,CH (k:=39) (r:= .v (.int .i64 x.cl)) rfl (by simpa[As,D.arg,Opd.ev,v2]using hF),hE.push Di 3 39 rfl rfl,by simp[Al,Cc,Bs,Bu,did,hdi,d5,d8,d10]⟩
  |5,_=>
   have v4:AH e 40= .ref 2 0:=hE.1 4 40 rfl (hdep 4 (by decide)) (by intro c hc;simp[Cr]at hc);have d8:d 8=false:=hup 8 (by decide) (by decide);have d10:d 10=false:=hup 10 (by decide) (by decide);have d3:d 3=true:=hdep 3 (by decide);have hF:=p45 x.ix hx.2.1 (Al C0 C1 f st fo cl bad ow li x rest ds d) 2 (Af x.day++(Af x.file++rest)) (by simp[Al,Cc,Bs,hdi,d8,d10,d3]);exact⟨_,CH (k:=41) (r:= .v (.int .i64 x.ix)) rfl (by simpa[As,D.arg,Opd.ev,v4]using hF),hE.push Di 5 41 rfl rfl,by simp[Al,Cc,Bs,Bu,did,hdi,d8,d10,d3]⟩
  |8,_=>
   have v7:AH e 43= .ref 2 0:=hE.1 7 43 rfl (hdep 7 (by decide)) (by intro c hc;simp[Cr]at hc);have d10:d 10=false:=hup 10 (by decide) (by decide);have d3:d 3=true:=hdep 3 (by decide);have d5:d 5=true:=hdep 5 (by decide);have hF:=p45 x.day hx.2.2.1 (Al C0 C1 f st fo cl bad ow li x rest ds d) 2 (Af x.file++rest) (by simp[Al,Cc,Bs,hdi,d10,d3,d5]);exact⟨_,CH (k:=44) (r:= .v (.int .i64 x.day)) rfl (by simpa[As,D.arg,Opd.ev,v7]using hF),hE.push Di 8 44 rfl rfl,by simp[Al,Cc,Bs,Bu,did,hdi,d10,d3,d5]⟩
  |10,_=>
   have v9:AH e 45= .ref 2 0:=hE.1 9 45 rfl (hdep 9 (by decide)) (by intro c hc;simp[Cr]at hc);have d3:d 3=true:=hdep 3 (by decide);have d5:d 5=true:=hdep 5 (by decide);have d8:d 8=true:=hdep 8 (by decide);have hF:=p45 x.file hx.2.2.2 (Al C0 C1 f st fo cl bad ow li x rest ds d) 2 (rest) (by simp[Al,Cc,Bs,hdi,d3,d5,d8]);exact⟨_,CH (k:=46) (r:= .v (.int .i64 x.file)) rfl (by simpa[As,D.arg,Opd.ev,v9]using hF),hE.push Di 10 46 rfl rfl,by simp[Al,Cc,Bs,Bu,did,hdi,d3,d5,d8]⟩
  |6,_=>
   have v3:AH e 39= .v (.int .i64 x.cl):=hE.1 3 39 rfl (hdep 3 (by decide)) (by intro c hc;simp[Cr]at hc);have v5:AH e 41= .v (.int .i64 x.ix):=hE.1 5 41 rfl (hdep 5 (by decide)) (by intro c hc;simp[Cr]at hc);exact⟨_,BB (v:= .agg [.v (.int .i64 x.cl),.v (.int .i64 x.ix)]) rfl (by simp[PI.val,EU,Opd.ev,v3,v5,D.cells?,D.copy,AN]),hE.push Di 6 42 rfl rfl,by simp[Al,Bs,Bu,did]⟩
  |11,_=>
   have v6:AH e 42= .agg [.v (.int .i64 x.cl),.v (.int .i64 x.ix)]:=hE.1 6 42 rfl (hdep 6 (by decide)) (by intro c hc;simp[Cr]at hc);have v8:AH e 44= .v (.int .i64 x.day):=hE.1 8 44 rfl (hdep 8 (by decide)) (by intro c hc;simp[Cr]at hc);have v10:AH e 46= .v (.int .i64 x.file):=hE.1 10 46 rfl (hdep 10 (by decide)) (by intro c hc;simp[Cr]at hc);exact⟨_,BB (v:= .agg [.v (.int .i64 x.cl),.v (.int .i64 x.ix),.v (.int .i64 x.day),.v (.int .i64 x.file)]) rfl (by simp[PI.val,EU,Opd.ev,v6,v8,v10,D.cells?,D.copy,AN]),hE.push Di 11 47 rfl rfl,by simp[Al,Bs,Bu,did]⟩
  |12,_=>
   have v11:AH e 47= .agg [.v (.int .i64 x.cl),.v (.int .i64 x.ix),.v (.int .i64 x.day),.v (.int .i64 x.file)]:=hE.1 11 47 rfl (hdep 11 (by decide)) (by intro c hc;simp[Cr]at hc);refine⟨_,CG (s1:=⟨(48,.own 88 4 [x.V])::e,Al C0 C1 f st fo cl bad ow li x rest ds d⟩) rfl ?_,hE.push Di 12 48 rfl rfl,?_⟩
   ·simp[AI.step,HC,D.toV,Opd.ev,v11,Dat.V,D.vs?,D.v?,D.copy,V.cells]
   ·simp[Al,Bs,Bu,did]
  |13,_=>
   have v1:AH e 37= .own 88 4 ds:=hE.1 1 37 rfl (hdep 1 (by decide)) (by intro c hc;simp[Cr]at hc;subst hc;exact hdi);have v12:AH e 48= .own 88 4 [x.V]:=hE.1 12 48 rfl (hdep 12 (by decide)) (by intro c hc;simp[Cr]at hc);have hroom:Ae (ds.length+1) 32=true:=by simp[Ae];omega
   refine⟨_,CG (s1:=⟨(49,.own 88 4 (ds++[x.V]))::(37,.any)::e,Al C0 C1 f st fo cl bad ow li x rest ds d⟩) rfl ?_,hE.pushC Di 13 49 1 37 rfl rfl rfl rfl,?_⟩
   ·simp[AI.step,Opd.ev,Opd.clear,v1,v12,EN,D.toV,D.copy,Dat.V,V.cells,hroom,D.v?]
   ·simp[Al,Bs,Bu,did]
  |14,_=>
   exact⟨_,BB (v:= .ref 4 4) rfl (by simp[PI.val,Opd.ev,b6]),hE.push Di 14 50 rfl rfl,by simp[Al,Bs,Bu,did]⟩
  |15,_=>
   have v13:AH e 49= .own 88 4 (ds++[x.V]):=hE.1 13 49 rfl (hdep 13 (by decide)) (by intro c hc;simp[Cr]at hc;subst hc;exact hdi);have v14:AH e 50= .ref 4 4:=hE.1 14 50 rfl (hdep 14 (by decide)) (by intro c hc;simp[Cr]at hc);refine⟨_,CG (s1:=⟨(49,.any)::e,Al C0 C1 f st fo cl bad ow li x rest ds (did d 15)⟩) rfl ?_,hE.last Di 15 13 49 rfl rfl rfl,rfl⟩;simp[AI.step,Opd.ev,v13,v14,Al,Bu,did,Bs,D.copy]
  |i+16,hi=>omega
 ·rintro d ⟨e,h⟩ hall ⟨hE,hh⟩;simp only at hE hh;subst hh;have e1:Al C0 C1 f st fo cl bad ow li x rest ds d=Al C0 C1 f st fo cl bad ow li x rest ds (λ_=>true):=by
   simp[Al,Bs,Bu,hall 10 (by decide),hall 15 (by decide)]
  rw[e1];exact hK e hE.2
 ·refine⟨⟨λj k' hj hd=>?_,hse⟩,rfl⟩;simp only[decide_eq_true_eq]at hd;have:KO[j]?=none:=AUW (by simpa[KO]using hd);rw[this]at hj;cases hj
def W9:AT:=match I2 with| .seq _ (.seq _ (.seq (.block _ (.regA _ _ _ t)) _))=>t|_=> .done
def YR:List (List Nat):=match I2 with| .seq _ (.seq _ (.seq (.block _ (.regA _ _ c _)) _))=>c|_=>[]
theorem Wr:I2= .seq (.reg Nf [1,2,4,5,6,56,57,58]) (.seq (.cond (.t 58 false) .skip (.exit 2)) (.seq (.block 3 (.regA Jw [1,2,4,5,6,56,57] YR W9)) (.reg Nd [1,2,4,5,6,56,57]))):=rfl
theorem WA:W9.chk Jw YR (List.range 14)=true:=by kernel_rfl
def MA:List (Option Nat):=[some 59,some 60,some 61,some 62,some 63,some 64,some 65,some 66,some 67,some 68,some 69,some 70,some 71,none]
def DX:List (Option Nat):=[none,some 11,none,none,none,none,none,none,none,none,none,some 13,none,none]
def Fk:List Nat:=[1,2,4,5,6,56,57]
theorem DT:okN MA Fk=true:=by kernel_rfl
def AEG (x:Own) (ds:List V) (j:Nat):D:=
 match j with
 |0=> .ref 4 6
 |1=> .own 246 3 ds
 |2=> .ref 2 0
 |3=> .v (.int .i64 x.party)
 |4=> .ref 2 0
 |5=> .v (.int .i64 x.num)
 |6=> .ref 2 0
 |7=> .v (.int .i64 x.den)
 |8=> .agg [.v (.int .i64 x.num),.v (.int .i64 x.den)]
 |9=> .agg [.v (.int .i64 x.party),.v (.int .i64 x.num),.v (.int .i64 x.den)]
 |10=> .own 246 3 [x.V]
 |11=> .own 246 3 (ds++[x.V])
 |12=> .ref 4 6
 |_=> .any
def Br (d:Nat→Bool):Nat:=if d 7 then 3 else (if d 5 then 2 else (if d 3 then 1 else (0)))
def C6 (x:Own) (rest:List Int):Nat→List Int
 |0=>Af x.party++(Af x.num++(Af x.den++rest))
 |1=>Af x.num++(Af x.den++rest)
 |2=>Af x.den++rest
 |_=>rest
def Bq (x:Own) (ds:List V) (d:Nat→Bool):D:=if d 13 then .own 246 3 (ds++[x.V]) else if d 1 then .v (.list ds) else .own 246 3 ds
def Ao (C0 C1:Row) (f st fo cl y1 y2 y3:D) (x:Own) (rest:List Int) (ds:List V) (d:Nat→Bool):List Row:=
 [C0,C1,rdr (C6 x rest (Br d)),.cells [.ref 2 0],.cells [f,st,fo,cl,y1,y2,Bq x ds d,y3]]
def Kt (n k:Int) (j:Nat):D:=
 match j with
 |1=> .ref 0 0
 |2=> .ref 1 0
 |4=> .ref 3 0
 |5=> .func 204 [.ref 3 0,.ref 0 0]
 |6=> .ref 4 0
 |56=> .v (.int .i64 n)
 |57=> .v (.int .i64 k)
 |_=> .any
theorem AKb (C0 C1:Row) (f st fo cl y1 y2 y3:D) (x:Own) (hx:x.ok) (rest:List Int) (ds:List V) (hds:ds.length≤2^30) (n k:Int) {K:St→Prop}
  (hK:∀e,(∀k'∈Fk,AH e k'=Kt n k k')→K ⟨e,Ao C0 C1 f st fo cl y1 y2 y3 x rest ds (λ_=>true)⟩) (se:Env) (hse:∀k'∈Fk,AH se k'=Kt n k k'):
  W9.ok Tryz.prog GLx Jw K ⟨se,Ao C0 C1 f st fo cl y1 y2 y3 x rest ds (λj=>decide (14≤j))⟩:=by
 refine IT (λd s=>EnvD MA DX Fk (AEG x ds) (Kt n k) d s.e∧s.h=Ao C0 C1 f st fo cl y1 y2 y3 x rest ds d) WA ?_ ?_ ?_
 ·rintro d i ⟨e,h⟩ hi hdi hdep hup ⟨hE,hh⟩;simp only at hE hh;subst hh;have b4:AH e 4= .ref 3 0:=hE.2 4 (by simp[Fk]);have b6:AH e 6= .ref 4 0:=hE.2 6 (by simp[Fk])
  match i,hi with
  |0,_=>
   exact⟨_,BB (v:= .ref 4 6) rfl (by simp[PI.val,Opd.ev,b6]),hE.push DT 0 59 rfl rfl,by simp[Ao,Br,Bq,did]⟩
  |1,_=>
   have v0:AH e 59= .ref 4 6:=hE.1 0 59 rfl (hdep 0 (by decide)) (by intro c hc;simp[DX]at hc);have d13:d 13=false:=hup 13 (by decide) (by decide);refine⟨_,CG (s1:=⟨(60,.own 246 3 ds)::e,Ao C0 C1 f st fo cl y1 y2 y3 x rest ds (did d 1)⟩) rfl ?_,hE.push DT 1 60 rfl rfl,rfl⟩;simp[AI.step,Opd.ev,v0,Ao,Br,Bq,did,d13,hdi]
  |2,_=>
   exact⟨_,BB (v:= .ref 2 0) rfl (by simp[PI.val,Opd.ev,b4,Ao,D.part,D.copy]),hE.push DT 2 61 rfl rfl,by simp[Ao,Br,Bq,did]⟩
  |3,_=>
   have v2:AH e 61= .ref 2 0:=hE.1 2 61 rfl (hdep 2 (by decide)) (by intro c hc;simp[DX]at hc);have d5:d 5=false:=hup 5 (by decide) (by decide);have d7:d 7=false:=hup 7 (by decide) (by decide);have hF:=p45 x.party hx.1 (Ao C0 C1 f st fo cl y1 y2 y3 x rest ds d) 2 (Af x.num++(Af x.den++rest)) (by simp[Ao,C6,Br,hdi,d5,d7]);exact⟨_,CH (k:=62) (r:= .v (.int .i64 x.party)) rfl (by simpa[As,D.arg,Opd.ev,v2]using hF),hE.push DT 3 62 rfl rfl,by simp[C6,Ao,Br,Bq,did,hdi,d5,d7]⟩
  |4,_=>
   exact⟨_,BB (v:= .ref 2 0) rfl (by simp[PI.val,Opd.ev,b4,Ao,D.part,D.copy]),hE.push DT 4 63 rfl rfl,by simp[Ao,Br,Bq,did]⟩
  |5,_=>
   have v4:AH e 63= .ref 2 0:=hE.1 4 63 rfl (hdep 4 (by decide)) (by intro c hc;simp[DX]at hc);have d7:d 7=false:=hup 7 (by decide) (by decide);have d3:d 3=true:=hdep 3 (by decide);have hF:=p45 x.num hx.2.1 (Ao C0 C1 f st fo cl y1 y2 y3 x rest ds d) 2 (Af x.den++rest) (by simp[Ao,C6,Br,hdi,d7,d3]);exact⟨_,CH (k:=64) (r:= .v (.int .i64 x.num)) rfl (by simpa[As,D.arg,Opd.ev,v4]using hF),hE.push DT 5 64 rfl rfl,by simp[C6,Ao,Br,Bq,did,hdi,d7,d3]⟩
  |6,_=>
   exact⟨_,BB (v:= .ref 2 0) rfl (by simp[PI.val,Opd.ev,b4,Ao,D.part,D.copy]),hE.push DT 6 65 rfl rfl,by simp[Ao,Br,Bq,did]⟩
  |7,_=>
   have v6:AH e 65= .ref 2 0:=hE.1 6 65 rfl (hdep 6 (by decide)) (by intro c hc;simp[DX]at hc);have d3:d 3=true:=hdep 3 (by decide);have d5:d 5=true:=hdep 5 (by decide);have hF:=p45 x.den hx.2.2 (Ao C0 C1 f st fo cl y1 y2 y3 x rest ds d) 2 (rest) (by simp[Ao,C6,Br,hdi,d3,d5]);exact⟨_,CH (k:=66) (r:= .v (.int .i64 x.den)) rfl (by simpa[As,D.arg,Opd.ev,v6]using hF),hE.push DT 7 66 rfl rfl,by simp[C6,Ao,Br,Bq,did,hdi,d3,d5]⟩
  |8,_=>
   have v5:AH e 64= .v (.int .i64 x.num):=hE.1 5 64 rfl (hdep 5 (by decide)) (by intro c hc;simp[DX]at hc);have v7:AH e 66= .v (.int .i64 x.den):=hE.1 7 66 rfl (hdep 7 (by decide)) (by intro c hc;simp[DX]at hc);exact⟨_,BB (v:= .agg [.v (.int .i64 x.num),.v (.int .i64 x.den)]) rfl (by simp[PI.val,EU,Opd.ev,v5,v7,D.cells?,D.copy,AN]),hE.push DT 8 67 rfl rfl,by simp[Ao,Br,Bq,did]⟩
  |9,_=>
   have v3:AH e 62= .v (.int .i64 x.party):=hE.1 3 62 rfl (hdep 3 (by decide)) (by intro c hc;simp[DX]at hc);have v8:AH e 67= .agg [.v (.int .i64 x.num),.v (.int .i64 x.den)]:=hE.1 8 67 rfl (hdep 8 (by decide)) (by intro c hc;simp[DX]at hc);exact⟨_,BB (v:= .agg [.v (.int .i64 x.party),.v (.int .i64 x.num),.v (.int .i64 x.den)]) rfl (by simp[PI.val,EU,Opd.ev,v3,v8,D.cells?,D.copy,AN]),hE.push DT 9 68 rfl rfl,by simp[Ao,Br,Bq,did]⟩
  |10,_=>
   have v9:AH e 68= .agg [.v (.int .i64 x.party),.v (.int .i64 x.num),.v (.int .i64 x.den)]:=hE.1 9 68 rfl (hdep 9 (by decide)) (by intro c hc;simp[DX]at hc);refine⟨_,CG (s1:=⟨(69,.own 246 3 [x.V])::e,Ao C0 C1 f st fo cl y1 y2 y3 x rest ds d⟩) rfl ?_,hE.push DT 10 69 rfl rfl,?_⟩
   ·simp[AI.step,HC,D.toV,Opd.ev,v9,Own.V,D.vs?,D.v?,D.copy,V.cells]
   ·simp[Ao,Br,Bq,did]
  |11,_=>
   have v1:AH e 60= .own 246 3 ds:=hE.1 1 60 rfl (hdep 1 (by decide)) (by intro c hc;simp[DX]at hc;subst hc;exact hdi);have v10:AH e 69= .own 246 3 [x.V]:=hE.1 10 69 rfl (hdep 10 (by decide)) (by intro c hc;simp[DX]at hc);have hroom:Ae (ds.length+1) 24=true:=by simp[Ae];omega
   refine⟨_,CG (s1:=⟨(70,.own 246 3 (ds++[x.V]))::(60,.any)::e,Ao C0 C1 f st fo cl y1 y2 y3 x rest ds d⟩) rfl ?_,hE.pushC DT 11 70 1 60 rfl rfl rfl rfl,?_⟩
   ·simp[AI.step,Opd.ev,Opd.clear,v1,v10,EN,D.toV,D.copy,Own.V,V.cells,hroom,D.v?]
   ·simp[Ao,Br,Bq,did]
  |12,_=>
   exact⟨_,BB (v:= .ref 4 6) rfl (by simp[PI.val,Opd.ev,b6]),hE.push DT 12 71 rfl rfl,by simp[Ao,Br,Bq,did]⟩
  |13,_=>
   have v11:AH e 70= .own 246 3 (ds++[x.V]):=hE.1 11 70 rfl (hdep 11 (by decide)) (by intro c hc;simp[DX]at hc;subst hc;exact hdi);have v12:AH e 71= .ref 4 6:=hE.1 12 71 rfl (hdep 12 (by decide)) (by intro c hc;simp[DX]at hc);refine⟨_,CG (s1:=⟨(70,.any)::e,Ao C0 C1 f st fo cl y1 y2 y3 x rest ds (did d 13)⟩) rfl ?_,hE.last DT 13 11 70 rfl rfl rfl,rfl⟩;simp[AI.step,Opd.ev,v11,v12,Ao,Br,Bq,did,D.copy]
  |i+14,hi=>omega
 ·rintro d ⟨e,h⟩ hall ⟨hE,hh⟩;simp only at hE hh;subst hh;have e1:Ao C0 C1 f st fo cl y1 y2 y3 x rest ds d=Ao C0 C1 f st fo cl y1 y2 y3 x rest ds (λ_=>true):=by
   simp[Ao,Br,Bq,hall 7 (by decide),hall 13 (by decide)]
  rw[e1];exact hK e hE.2
 ·refine⟨⟨λj k' hj hd=>?_,hse⟩,rfl⟩;simp only[decide_eq_true_eq]at hd;have:MA[j]?=none:=AUW (by simpa[MA]using hd);rw[this]at hj;cases hj
def W8:AT:=match I1 with| .seq _ (.seq _ (.seq (.block _ (.regA _ _ _ t)) _))=>t|_=> .done
def YQ:List (List Nat):=match I1 with| .seq _ (.seq _ (.seq (.block _ (.regA _ _ c _)) _))=>c|_=>[]
theorem Wq:I1= .seq (.reg Nb [1,2,4,6,74,75,76]) (.seq (.cond (.t 76 false) .skip (.exit 4)) (.seq (.block 5 (.regA Jv [1,2,4,6,74,75] YQ W8)) (.reg Na [1,2,4,6,74,75]))):=rfl
theorem V9:W8.chk Jv YQ (List.range 15)=true:=by kernel_rfl
def L9:List (Option Nat):=[some 77,some 78,some 79,some 80,some 81,some 82,some 83,some 84,some 85,some 86,some 87,some 88,some 89,some 90,none]
def DG:List (Option Nat):=[none,some 12,none,none,none,none,none,none,none,none,none,none,some 14,none,none]
def Fj:List Nat:=[1,2,4,6,74,75]
theorem DE:okN L9 Fj=true:=by kernel_rfl
def AEF (x:Lic) (ds:List V) (j:Nat):D:=
 match j with
 |0=> .ref 4 7
 |1=> .own 247 4 ds
 |2=> .ref 2 0
 |3=> .v (.int .i64 x.fr)
 |4=> .ref 2 0
 |5=> .v (.int .i64 x.to)
 |6=> .ref 2 0
 |7=> .v (.int .i64 x.fst)
 |8=> .ref 2 0
 |9=> .v (.int .i64 x.lst)
 |10=> .agg [.v (.int .i64 x.fr),.v (.int .i64 x.to),.v (.int .i64 x.fst),.v (.int .i64 x.lst)]
 |11=> .own 247 4 [x.V]
 |12=> .own 247 4 (ds++[x.V])
 |13=> .ref 4 7
 |_=> .any
def Be (d:Nat→Bool):Nat:=if d 9 then 4 else (if d 7 then 3 else (if d 5 then 2 else (if d 3 then 1 else (0))))
def Cb (x:Lic) (rest:List Int):Nat→List Int
 |0=>Af x.fr++(Af x.to++(Af x.fst++(Af x.lst++rest)))
 |1=>Af x.to++(Af x.fst++(Af x.lst++rest))
 |2=>Af x.fst++(Af x.lst++rest)
 |3=>Af x.lst++rest
 |_=>rest
def Bg (x:Lic) (ds:List V) (d:Nat→Bool):D:=if d 14 then .own 247 4 (ds++[x.V]) else if d 1 then .v (.list ds) else .own 247 4 ds
def Ak (C0 C1:Row) (f st fo cl y1 y2 y3:D) (x:Lic) (rest:List Int) (ds:List V) (d:Nat→Bool):List Row:=
 [C0,C1,rdr (Cb x rest (Be d)),.cells [.ref 2 0],.cells [f,st,fo,cl,y1,y2,y3,Bg x ds d]]
def Ks (n k:Int) (j:Nat):D:=
 match j with
 |1=> .ref 0 0
 |2=> .ref 1 0
 |4=> .ref 3 0
 |6=> .ref 4 0
 |74=> .v (.int .i64 n)
 |75=> .v (.int .i64 k)
 |_=> .any
theorem AKa (C0 C1:Row) (f st fo cl y1 y2 y3:D) (x:Lic) (hx:x.ok) (rest:List Int) (ds:List V) (hds:ds.length≤2^30) (n k:Int) {K:St→Prop}
  (hK:∀e,(∀k'∈Fj,AH e k'=Ks n k k')→K ⟨e,Ak C0 C1 f st fo cl y1 y2 y3 x rest ds (λ_=>true)⟩) (se:Env) (hse:∀k'∈Fj,AH se k'=Ks n k k'):
  W8.ok Tryz.prog GLx Jv K ⟨se,Ak C0 C1 f st fo cl y1 y2 y3 x rest ds (λj=>decide (15≤j))⟩:=by
 refine IT (λd s=>EnvD L9 DG Fj (AEF x ds) (Ks n k) d s.e∧s.h=Ak C0 C1 f st fo cl y1 y2 y3 x rest ds d) V9 ?_ ?_ ?_
 ·rintro d i ⟨e,h⟩ hi hdi hdep hup ⟨hE,hh⟩;simp only at hE hh;subst hh;have b4:AH e 4= .ref 3 0:=hE.2 4 (by simp[Fj]);have b6:AH e 6= .ref 4 0:=hE.2 6 (by simp[Fj])
  match i,hi with
  |0,_=>
   exact⟨_,BB (v:= .ref 4 7) rfl (by simp[PI.val,Opd.ev,b6]),hE.push DE 0 77 rfl rfl,by simp[Ak,Be,Bg,did]⟩
  |1,_=>
   have v0:AH e 77= .ref 4 7:=hE.1 0 77 rfl (hdep 0 (by decide)) (by intro c hc;simp[DG]at hc);have d14:d 14=false:=hup 14 (by decide) (by decide);refine⟨_,CG (s1:=⟨(78,.own 247 4 ds)::e,Ak C0 C1 f st fo cl y1 y2 y3 x rest ds (did d 1)⟩) rfl ?_,hE.push DE 1 78 rfl rfl,rfl⟩;simp[AI.step,Opd.ev,v0,Ak,Be,Bg,did,d14,hdi]
  |2,_=>
   exact⟨_,BB (v:= .ref 2 0) rfl (by simp[PI.val,Opd.ev,b4,Ak,D.part,D.copy]),hE.push DE 2 79 rfl rfl,by simp[Ak,Be,Bg,did]⟩
  |3,_=>
   have v2:AH e 79= .ref 2 0:=hE.1 2 79 rfl (hdep 2 (by decide)) (by intro c hc;simp[DG]at hc);have d5:d 5=false:=hup 5 (by decide) (by decide);have d7:d 7=false:=hup 7 (by decide) (by decide);have d9:d 9=false:=hup 9 (by decide) (by decide);have hF:=p45 x.fr hx.1 (Ak C0 C1 f st fo cl y1 y2 y3 x rest ds d) 2 (Af x.to++(Af x.fst++(Af x.lst++rest))) (by simp[Ak,Cb,Be,hdi,d5,d7,d9]);exact⟨_,CH (k:=80) (r:= .v (.int .i64 x.fr)) rfl (by simpa[As,D.arg,Opd.ev,v2]using hF),hE.push DE 3 80 rfl rfl,by simp[Cb,Ak,Be,Bg,did,hdi,d5,d7,d9]⟩
  |4,_=>
   exact⟨_,BB (v:= .ref 2 0) rfl (by simp[PI.val,Opd.ev,b4,Ak,D.part,D.copy]),hE.push DE 4 81 rfl rfl,by simp[Ak,Be,Bg,did]⟩
  |5,_=>
   have v4:AH e 81= .ref 2 0:=hE.1 4 81 rfl (hdep 4 (by decide)) (by intro c hc;simp[DG]at hc);have d7:d 7=false:=hup 7 (by decide) (by decide);have d9:d 9=false:=hup 9 (by decide) (by decide);have d3:d 3=true:=hdep 3 (by decide);have hF:=p45 x.to hx.2.1 (Ak C0 C1 f st fo cl y1 y2 y3 x rest ds d) 2 (Af x.fst++(Af x.lst++rest)) (by simp[Ak,Cb,Be,hdi,d7,d9,d3]);exact⟨_,CH (k:=82) (r:= .v (.int .i64 x.to)) rfl (by simpa[As,D.arg,Opd.ev,v4]using hF),hE.push DE 5 82 rfl rfl,by simp[Cb,Ak,Be,Bg,did,hdi,d7,d9,d3]⟩
  |6,_=>
   exact⟨_,BB (v:= .ref 2 0) rfl (by simp[PI.val,Opd.ev,b4,Ak,D.part,D.copy]),hE.push DE 6 83 rfl rfl,by simp[Ak,Be,Bg,did]⟩
  |7,_=>
   have v6:AH e 83= .ref 2 0:=hE.1 6 83 rfl (hdep 6 (by decide)) (by intro c hc;simp[DG]at hc);have d9:d 9=false:=hup 9 (by decide) (by decide);have d3:d 3=true:=hdep 3 (by decide);have d5:d 5=true:=hdep 5 (by decide);have hF:=p45 x.fst hx.2.2.1 (Ak C0 C1 f st fo cl y1 y2 y3 x rest ds d) 2 (Af x.lst++rest) (by simp[Ak,Cb,Be,hdi,d9,d3,d5]);exact⟨_,CH (k:=84) (r:= .v (.int .i64 x.fst)) rfl (by simpa[As,D.arg,Opd.ev,v6]using hF),hE.push DE 7 84 rfl rfl,by simp[Cb,Ak,Be,Bg,did,hdi,d9,d3,d5]⟩
  |8,_=>
   exact⟨_,BB (v:= .ref 2 0) rfl (by simp[PI.val,Opd.ev,b4,Ak,D.part,D.copy]),hE.push DE 8 85 rfl rfl,by simp[Ak,Be,Bg,did]⟩
  |9,_=>
   have v8:AH e 85= .ref 2 0:=hE.1 8 85 rfl (hdep 8 (by decide)) (by intro c hc;simp[DG]at hc);have d3:d 3=true:=hdep 3 (by decide);have d5:d 5=true:=hdep 5 (by decide);have d7:d 7=true:=hdep 7 (by decide);have hF:=p45 x.lst hx.2.2.2 (Ak C0 C1 f st fo cl y1 y2 y3 x rest ds d) 2 (rest) (by simp[Ak,Cb,Be,hdi,d3,d5,d7]);exact⟨_,CH (k:=86) (r:= .v (.int .i64 x.lst)) rfl (by simpa[As,D.arg,Opd.ev,v8]using hF),hE.push DE 9 86 rfl rfl,by simp[Cb,Ak,Be,Bg,did,hdi,d3,d5,d7]⟩
  |10,_=>
   have v3:AH e 80= .v (.int .i64 x.fr):=hE.1 3 80 rfl (hdep 3 (by decide)) (by intro c hc;simp[DG]at hc);have v5:AH e 82= .v (.int .i64 x.to):=hE.1 5 82 rfl (hdep 5 (by decide)) (by intro c hc;simp[DG]at hc);have v7:AH e 84= .v (.int .i64 x.fst):=hE.1 7 84 rfl (hdep 7 (by decide)) (by intro c hc;simp[DG]at hc);have v9:AH e 86= .v (.int .i64 x.lst):=hE.1 9 86 rfl (hdep 9 (by decide)) (by intro c hc;simp[DG]at hc);exact⟨_,BB (v:= .agg [.v (.int .i64 x.fr),.v (.int .i64 x.to),.v (.int .i64 x.fst),.v (.int .i64 x.lst)]) rfl (by simp[PI.val,EU,Opd.ev,v3,v5,v7,v9,D.cells?,D.copy,AN]),hE.push DE 10 87 rfl rfl,by simp[Ak,Be,Bg,did]⟩
  |11,_=>
   have v10:AH e 87= .agg [.v (.int .i64 x.fr),.v (.int .i64 x.to),.v (.int .i64 x.fst),.v (.int .i64 x.lst)]:=hE.1 10 87 rfl (hdep 10 (by decide)) (by intro c hc;simp[DG]at hc);refine⟨_,CG (s1:=⟨(88,.own 247 4 [x.V])::e,Ak C0 C1 f st fo cl y1 y2 y3 x rest ds d⟩) rfl ?_,hE.push DE 11 88 rfl rfl,?_⟩
   ·simp[AI.step,HC,D.toV,Opd.ev,v10,Lic.V,D.vs?,D.v?,D.copy,V.cells]
   ·simp[Ak,Be,Bg,did]
  |12,_=>
   have v1:AH e 78= .own 247 4 ds:=hE.1 1 78 rfl (hdep 1 (by decide)) (by intro c hc;simp[DG]at hc;subst hc;exact hdi);have v11:AH e 88= .own 247 4 [x.V]:=hE.1 11 88 rfl (hdep 11 (by decide)) (by intro c hc;simp[DG]at hc);have hroom:Ae (ds.length+1) 32=true:=by simp[Ae];omega
   refine⟨_,CG (s1:=⟨(89,.own 247 4 (ds++[x.V]))::(78,.any)::e,Ak C0 C1 f st fo cl y1 y2 y3 x rest ds d⟩) rfl ?_,hE.pushC DE 12 89 1 78 rfl rfl rfl rfl,?_⟩
   ·simp[AI.step,Opd.ev,Opd.clear,v1,v11,EN,D.toV,D.copy,Lic.V,V.cells,hroom,D.v?]
   ·simp[Ak,Be,Bg,did]
  |13,_=>
   exact⟨_,BB (v:= .ref 4 7) rfl (by simp[PI.val,Opd.ev,b6]),hE.push DE 13 90 rfl rfl,by simp[Ak,Be,Bg,did]⟩
  |14,_=>
   have v12:AH e 89= .own 247 4 (ds++[x.V]):=hE.1 12 89 rfl (hdep 12 (by decide)) (by intro c hc;simp[DG]at hc;subst hc;exact hdi);have v13:AH e 90= .ref 4 7:=hE.1 13 90 rfl (hdep 13 (by decide)) (by intro c hc;simp[DG]at hc);refine⟨_,CG (s1:=⟨(89,.any)::e,Ak C0 C1 f st fo cl y1 y2 y3 x rest ds (did d 14)⟩) rfl ?_,hE.last DE 14 12 89 rfl rfl rfl,rfl⟩;simp[AI.step,Opd.ev,v12,v13,Ak,Be,Bg,did,D.copy]
  |i+15,hi=>omega
 ·rintro d ⟨e,h⟩ hall ⟨hE,hh⟩;simp only at hE hh;subst hh;have e1:Ak C0 C1 f st fo cl y1 y2 y3 x rest ds d=Ak C0 C1 f st fo cl y1 y2 y3 x rest ds (λ_=>true):=by
   simp[Ak,Be,Bg,hall 9 (by decide),hall 14 (by decide)]
  rw[e1];exact hK e hE.2
 ·refine⟨⟨λj k' hj hd=>?_,hse⟩,rfl⟩;simp only[decide_eq_true_eq]at hd;have:L9[j]?=none:=AUW (by simpa[L9]using hd);rw[this]at hj;cases hj
theorem AEe (h:List Row) (c4 c1 rr:Nat) (bs:List V) (n:Int) (rest:List Int) (h4:h[c4]?=some (.cells [.ref rr 0])) (h1:h[c1]?=some (.cells [.v (.list bs)])) (hr:h[rr]?=some (rdr (Af n++rest))) (hn:i64 n) (h0:0≤n) (hl:n≤bs.length) (hne:c1≠rr):
  FX 204 [.ref c4 0,.ref c1 0] h [.v (.int .i64 n)] (h.set rr (rdr rest)):=by
 refine AV AS2 rfl ?_;have q:=p45 n hn h rr rest hr;have h1':(h.set rr (rdr rest))[c1]?=some (.cells [.v (.list bs)]):=by rw[AUJ (Ne.symm hne)];exact h1
 have m1:¬n <0:=by omega
 have m2:¬(bs.length:Int) <n:=by omega
 simp only[AOE,AB,AA,nx,AS];simp;rw[BO];refine BG _ (λs hs=>⟨s,.inl rfl,hs⟩) ?_;simp only[nw];simp[h4,h1]
 constructor
 ·refine⟨_,_,q,?_⟩;simp[h1',m1,m2,AF,nz]
 ·refine⟨_,_,q,?_⟩;simp[m1,m2,AF,nz]
def W7:AT:=match tg with| .seq _ (.seq _ (.seq _ (.seq (.regA _ _ _ t) _)))=>t|_=> .done
def YP:List (List Nat):=match tg with| .seq _ (.seq _ (.seq _ (.seq (.regA _ _ c _) _)))=>c|_=>[]
def AD2:AC:=match tg with| .seq _ (.seq _ (.seq _ (.seq _ t)))=>t|_=> .skip
theorem wi:tg= .seq (.reg Sp [1,2]) (.seq (.reg So [1,2,4]) (.seq (.reg Sn [1,2,4,5]) (.seq (.regA NV [1,2,4,5,6] YP W7) AD2))):=rfl
theorem V8:W7.chk NV YP (List.range 9)=true:=by kernel_rfl
def KN:List (Option Nat):=[some 14,some 15,some 16,some 17,some 18,some 19,some 20,some 6,none]
def Es:List (Option Nat):=[none,none,none,none,none,none,none,none,none]
def HU:List Nat:=[1,2,4,5]
theorem FJ:okN KN HU=true:=by kernel_rfl
def OZ (r:Rgt):D:= .agg [.v (.int .i64 r.file),.v (.int .i64 r.state),.v (.int .i64 r.force),.nil 130 5,.nil 88 4,.nil 3 1,.nil 246 3,.nil 247 4]
def AEE (r:Rgt) (j:Nat):D:=
 match j with
 |0|2|4=> .ref 2 0
 |1=> .v (.int .i64 r.file)
 |3=> .v (.int .i64 r.state)
 |5=> .v (.int .i64 r.force)
 |6=>OZ r
 |7=> .ref 4 0
 |_=> .any
def Cm (d:Nat→Bool):Nat:=if d 5 then 3 else (if d 3 then 2 else (if d 1 then 1 else 0))
def EP (r:Rgt) (rest:List Int):Nat→List Int
 |0=>Af r.file++(Af r.state++(Af r.force++rest))
 |1=>Af r.state++(Af r.force++rest)
 |2=>Af r.force++rest
 |_=>rest
def DR (r:Rgt) (d:Nat→Bool):List Row:=
 if d 7 then (if d 8 then [.cells [.v (.int .i64 r.file),.v (.int .i64 r.state),.v (.int .i64 r.force),.own 130 5 [],.own 88 4 [],.own 3 1 [],.own 246 3 [],.own 247 4 []]]
  else [.cells [.v (.int .i64 0),.v (.int .i64 0),.v (.int .i64 0),.own 130 5 [],.own 88 4 [],.own 3 1 [],.own 246 3 [],.own 247 4 []]]) else []
def Ax (C0 C1:Row) (r:Rgt) (rest:List Int) (d:Nat→Bool):List Row:=[C0,C1,rdr (EP r rest (Cm d)),.cells [.ref 2 0]]++DR r d
def Nm (j:Nat):D:=
 match j with
 |1=> .ref 0 0
 |2=> .ref 1 0
 |4=> .ref 3 0
 |5=> .func 204 [.ref 3 0,.ref 0 0]
 |_=> .any
theorem AKZ (C0 C1:Row) (r:Rgt) (hr:r.ok) (rest:List Int) {K:St→Prop}
  (hK:∀e,(∀k'∈HU,AH e k'=Nm k')→AH e 6= .ref 4 0→K ⟨e,Ax C0 C1 r rest (λ_=>true)⟩) (se:Env) (hse:∀k'∈HU,AH se k'=Nm k'):
  W7.ok Tryz.prog GLx NV K ⟨se,Ax C0 C1 r rest (λj=>decide (9≤j))⟩:=by
 refine IT (λd s=>EnvD KN Es HU (AEE r) Nm d s.e∧s.h=Ax C0 C1 r rest d) V8 ?_ ?_ ?_
 ·rintro d i ⟨e,h⟩ hi hdi hdep hup ⟨hE,hh⟩;simp only at hE hh;subst hh;have b4:AH e 4= .ref 3 0:=hE.2 4 (by simp[HU])
  match i,hi with
  |0,_=>
   exact⟨_,BB (v:= .ref 2 0) rfl (by simp[PI.val,Opd.ev,b4,Ax,D.part,D.copy]),hE.push FJ 0 14 rfl rfl,by simp[Ax,Cm,DR,did]⟩
  |2,_=>
   exact⟨_,BB (v:= .ref 2 0) rfl (by simp[PI.val,Opd.ev,b4,Ax,D.part,D.copy]),hE.push FJ 2 16 rfl rfl,by simp[Ax,Cm,DR,did]⟩
  |4,_=>
   exact⟨_,BB (v:= .ref 2 0) rfl (by simp[PI.val,Opd.ev,b4,Ax,D.part,D.copy]),hE.push FJ 4 18 rfl rfl,by simp[Ax,Cm,DR,did]⟩
  |1,_=>
   have v0:AH e 14= .ref 2 0:=hE.1 0 14 rfl (hdep 0 (by decide)) (by intro c hc;simp[Es]at hc);have d3:d 3=false:=hup 3 (by decide) (by decide);have d5:d 5=false:=hup 5 (by decide) (by decide);have hF:=p45 r.file hr.file (Ax C0 C1 r rest d) 2 (Af r.state++(Af r.force++rest)) (by simp[Ax,EP,Cm,hdi,d3,d5]);exact⟨_,CH (k:=15) (r:= .v (.int .i64 r.file)) rfl (by simpa[As,D.arg,Opd.ev,v0]using hF),hE.push FJ 1 15 rfl rfl,by simp[EP,Ax,Cm,DR,did,hdi,d3,d5]⟩
  |3,_=>
   have v2:AH e 16= .ref 2 0:=hE.1 2 16 rfl (hdep 2 (by decide)) (by intro c hc;simp[Es]at hc);have d5:d 5=false:=hup 5 (by decide) (by decide);have d1:d 1=true:=hdep 1 (by decide);have hF:=p45 r.state hr.state (Ax C0 C1 r rest d) 2 (Af r.force++rest) (by simp[Ax,EP,Cm,hdi,d5,d1]);exact⟨_,CH (k:=17) (r:= .v (.int .i64 r.state)) rfl (by simpa[As,D.arg,Opd.ev,v2]using hF),hE.push FJ 3 17 rfl rfl,by simp[EP,Ax,Cm,DR,did,hdi,d5,d1]⟩
  |5,_=>
   have v4:AH e 18= .ref 2 0:=hE.1 4 18 rfl (hdep 4 (by decide)) (by intro c hc;simp[Es]at hc);have d1:d 1=true:=hdep 1 (by decide);have d3:d 3=true:=hdep 3 (by decide);have hF:=p45 r.force hr.force (Ax C0 C1 r rest d) 2 (rest) (by simp[Ax,EP,Cm,hdi,d1,d3]);exact⟨_,CH (k:=19) (r:= .v (.int .i64 r.force)) rfl (by simpa[As,D.arg,Opd.ev,v4]using hF),hE.push FJ 5 19 rfl rfl,by simp[EP,Ax,Cm,DR,did,hdi,d1,d3]⟩
  |6,_=>
   have v1:AH e 15= .v (.int .i64 r.file):=hE.1 1 15 rfl (hdep 1 (by decide)) (by intro c hc;simp[Es]at hc);have v3:AH e 17= .v (.int .i64 r.state):=hE.1 3 17 rfl (hdep 3 (by decide)) (by intro c hc;simp[Es]at hc);have v5:AH e 19= .v (.int .i64 r.force):=hE.1 5 19 rfl (hdep 5 (by decide)) (by intro c hc;simp[Es]at hc);exact⟨_,BB (v:=OZ r) rfl (by simp[PI.val,EU,Opd.ev,v1,v3,v5,D.cells?,D.copy,AN,OZ]),hE.push FJ 6 20 rfl rfl,by simp[Ax,Cm,DR,did]⟩
  |7,_=>
   have d8:d 8=false:=hup 8 (by decide) (by decide);refine⟨_,CG (s1:=⟨(6,.ref 4 0)::e,Ax C0 C1 r rest (did d 7)⟩) rfl ?_,hE.push FJ 7 6 rfl rfl,rfl⟩;simp[AI.step,Ax,Cm,DR,did,hdi,d8]
  |8,_=>
   have v6:AH e 20=OZ r:=hE.1 6 20 rfl (hdep 6 (by decide)) (by intro c hc;simp[Es]at hc);have v7:AH e 6= .ref 4 0:=hE.1 7 6 rfl (hdep 7 (by decide)) (by intro c hc;simp[Es]at hc);have d7:d 7=true:=hdep 7 (by decide);refine⟨_,CG (s1:=⟨e,Ax C0 C1 r rest (did d 8)⟩) rfl ?_,hE.step FJ 8 (λk hk=>by simp[KN]at hk) (λk _ _=>rfl),rfl⟩;simp[AI.step,Opd.ev,v6,v7,Ax,Cm,DR,did,hdi,d7,OZ,D.copy,D.cells?,AN,D.toRow]
  |i+9,hi=>omega
 ·rintro d ⟨e,h⟩ hall ⟨hE,hh⟩;simp only at hE hh;subst hh;have e1:Ax C0 C1 r rest d=Ax C0 C1 r rest (λ_=>true):=by
   simp[Ax,Cm,DR,hall 5 (by decide),hall 7 (by decide),hall 8 (by decide)]
  rw[e1];exact hK e hE.2 (hE.1 7 6 rfl (hall 7 (by decide)) (by intro c hc;simp[Es]at hc))
 ·refine⟨⟨λj k' hj hd=>?_,hse⟩,rfl⟩;simp only[decide_eq_true_eq]at hd;have:KN[j]?=none:=AUW (by simpa[KN]using hd);rw[this]at hj;cases hj
theorem ALh (C0 C1:Row) (f st fo cl y1 y2 y3:D) (rest:List Int) (l:List Dat) (hl:∀x∈l,x.ok) (hn:l.length≤2^30):
  awp Tryz.prog GLx (.loop I3) (λe s=>e= .exit 0∧s=⟨[(1,.ref 0 0),(2,.ref 1 0),(4,.ref 3 0),(5,.func 204 [.ref 3 0,.ref 0 0]),(6,.ref 4 0),(33,.v (.int .i64 l.length)),(34,.v (.int .i64 l.length)),(35,.v (.bool false))],[C0,C1,rdr rest,.cells [.ref 2 0],.cells [f,st,fo,cl,.own 88 4 (l.map Dat.V),y1,y2,y3]]⟩)
   ⟨[(1,.ref 0 0),(2,.ref 1 0),(4,.ref 3 0),(5,.func 204 [.ref 3 0,.ref 0 0]),(6,.ref 4 0),(33,.v (.int .i64 l.length)),(34,.v (.int .i64 0))],[C0,C1,rdr (l.flatMap B8++rest),.cells [.ref 2 0],.cells [f,st,fo,cl,.own 88 4 [],y1,y2,y3]]⟩:=by
 refine Ad l.length (λk=>⟨[(1,.ref 0 0),(2,.ref 1 0),(4,.ref 3 0),(5,.func 204 [.ref 3 0,.ref 0 0]),(6,.ref 4 0),(33,.v (.int .i64 l.length)),(34,.v (.int .i64 k))],[C0,C1,rdr ((l.drop k).flatMap B8++rest),.cells [.ref 2 0],.cells [f,st,fo,cl,.own 88 4 ((l.take k).map Dat.V),y1,y2,y3]]⟩) (by simp) ?_;intro k hk;rw[Ws];simp only[AB,AA,AG,AE,Si];by_cases h1:k <l.length
 ·have hd:l.drop k=l[k]::l.drop (k+1):=AVO h1;have hx:=hl _ (AUs h1);have hw:IntKind.i64.wrap ((k:Int)+1)=k+1:=AJ;have htk:(l.map Dat.V).take (k+1)=(l.map Dat.V).take k++[Dat.V l[k]]:=by
   rw[←AUd,←AUd,AVC h1,AUZ];rfl
  obtain⟨x,hxx⟩:∃x,x=l[k]:=⟨_,rfl⟩;rw[←hxx]at hd hx htk;simp[h1,AD];rw[BO];refine BG _ (λs hs=>⟨s,.inl rfl,hs⟩) ?_;have hX:(l.drop k).flatMap B8++rest=Cc x ((l.drop (k+1)).flatMap B8++rest) 0:=by rw[hd];simp[Cc,B8]
  rw[hX];refine AKc C0 C1 f st fo cl y1 y2 y3 x hx ((l.drop (k+1)).flatMap B8++rest) ((l.map Dat.V).take k) (by simp;omega) l.length k (λe he=>?_) _ (by
   intro k' hk';simp only[Eu,AT7,AUE,or_false]at hk';rcases hk' with rfl|rfl|rfl|rfl|rfl|rfl|rfl<;>rfl)
  have q:∀k'∈Eu,AH e k'=Lu l.length k k':=he;simp only[Eu,AUm,AUE,false_implies,implies_true,and_true]at q;obtain⟨q0,q1,q2,q3,q4,q5,q6⟩:=q;simp only[q0,q1,q2,q3,q4,q5,q6,BR,Ni];simp[Lu,hw,h1,Al,Bs,Cc,Bu,htk]
 ·have:k=l.length:=by omega
  subst this;simp[AM]
theorem ALg (C0 C1:Row) (f st fo cl y1 y2 y3:D) (rest:List Int) (l:List Own) (hl:∀x∈l,x.ok) (hn:l.length≤2^30):
  awp Tryz.prog GLx (.loop I2) (λe s=>e= .exit 2∧s=⟨[(1,.ref 0 0),(2,.ref 1 0),(4,.ref 3 0),(5,.func 204 [.ref 3 0,.ref 0 0]),(6,.ref 4 0),(56,.v (.int .i64 l.length)),(57,.v (.int .i64 l.length)),(58,.v (.bool false))],[C0,C1,rdr rest,.cells [.ref 2 0],.cells [f,st,fo,cl,y1,y2,.own 246 3 (l.map Own.V),y3]]⟩)
   ⟨[(1,.ref 0 0),(2,.ref 1 0),(4,.ref 3 0),(5,.func 204 [.ref 3 0,.ref 0 0]),(6,.ref 4 0),(56,.v (.int .i64 l.length)),(57,.v (.int .i64 0))],[C0,C1,rdr (l.flatMap By++rest),.cells [.ref 2 0],.cells [f,st,fo,cl,y1,y2,.own 246 3 [],y3]]⟩:=by
 refine Ad l.length (λk=>⟨[(1,.ref 0 0),(2,.ref 1 0),(4,.ref 3 0),(5,.func 204 [.ref 3 0,.ref 0 0]),(6,.ref 4 0),(56,.v (.int .i64 l.length)),(57,.v (.int .i64 k))],[C0,C1,rdr ((l.drop k).flatMap By++rest),.cells [.ref 2 0],.cells [f,st,fo,cl,y1,y2,.own 246 3 ((l.take k).map Own.V),y3]]⟩) (by simp) ?_;intro k hk;rw[Wr];simp only[AB,AA,AG,AE,Nf];by_cases h1:k <l.length
 ·have hd:l.drop k=l[k]::l.drop (k+1):=AVO h1;have hx:=hl _ (AUs h1);have hw:IntKind.i64.wrap ((k:Int)+1)=k+1:=AJ;have htk:(l.map Own.V).take (k+1)=(l.map Own.V).take k++[Own.V l[k]]:=by
   rw[←AUd,←AUd,AVC h1,AUZ];rfl
  obtain⟨x,hxx⟩:∃x,x=l[k]:=⟨_,rfl⟩;rw[←hxx]at hd hx htk;simp[h1,AD];rw[BO];refine BG _ (λs hs=>⟨s,.inl rfl,hs⟩) ?_;have hX:(l.drop k).flatMap By++rest=C6 x ((l.drop (k+1)).flatMap By++rest) 0:=by rw[hd];simp[C6,By]
  rw[hX];refine AKb C0 C1 f st fo cl y1 y2 y3 x hx ((l.drop (k+1)).flatMap By++rest) ((l.map Own.V).take k) (by simp;omega) l.length k (λe he=>?_) _ (by
   intro k' hk';simp only[Fk,AT7,AUE,or_false]at hk';rcases hk' with rfl|rfl|rfl|rfl|rfl|rfl|rfl<;>rfl)
  have q:∀k'∈Fk,AH e k'=Kt l.length k k':=he;simp only[Fk,AUm,AUE,false_implies,implies_true,and_true]at q;obtain⟨q0,q1,q2,q3,q4,q5,q6⟩:=q;simp only[q0,q1,q2,q3,q4,q5,q6,BR,Nd];simp[Kt,hw,h1,Ao,Br,C6,Bq,htk]
 ·have:k=l.length:=by omega
  subst this;simp[AM]
theorem ALf (C0 C1:Row) (f st fo cl y1 y2 y3:D) (rest:List Int) (l:List Lic) (hl:∀x∈l,x.ok) (hn:l.length≤2^30):
  awp Tryz.prog GLx (.loop I1) (λe s=>e= .exit 4∧s=⟨[(1,.ref 0 0),(2,.ref 1 0),(4,.ref 3 0),(6,.ref 4 0),(74,.v (.int .i64 l.length)),(75,.v (.int .i64 l.length)),(76,.v (.bool false))],[C0,C1,rdr rest,.cells [.ref 2 0],.cells [f,st,fo,cl,y1,y2,y3,.own 247 4 (l.map Lic.V)]]⟩)
   ⟨[(1,.ref 0 0),(2,.ref 1 0),(4,.ref 3 0),(6,.ref 4 0),(74,.v (.int .i64 l.length)),(75,.v (.int .i64 0))],[C0,C1,rdr (l.flatMap Bz++rest),.cells [.ref 2 0],.cells [f,st,fo,cl,y1,y2,y3,.own 247 4 []]]⟩:=by
 refine Ad l.length (λk=>⟨[(1,.ref 0 0),(2,.ref 1 0),(4,.ref 3 0),(6,.ref 4 0),(74,.v (.int .i64 l.length)),(75,.v (.int .i64 k))],[C0,C1,rdr ((l.drop k).flatMap Bz++rest),.cells [.ref 2 0],.cells [f,st,fo,cl,y1,y2,y3,.own 247 4 ((l.take k).map Lic.V)]]⟩) (by simp) ?_;intro k hk;rw[Wq];simp only[AB,AA,AG,AE,Nb];by_cases h1:k <l.length
 ·have hd:l.drop k=l[k]::l.drop (k+1):=AVO h1;have hx:=hl _ (AUs h1);have hw:IntKind.i64.wrap ((k:Int)+1)=k+1:=AJ;have htk:(l.map Lic.V).take (k+1)=(l.map Lic.V).take k++[Lic.V l[k]]:=by
   rw[←AUd,←AUd,AVC h1,AUZ];rfl
  obtain⟨x,hxx⟩:∃x,x=l[k]:=⟨_,rfl⟩;rw[←hxx]at hd hx htk;simp[h1,AD];rw[BO];refine BG _ (λs hs=>⟨s,.inl rfl,hs⟩) ?_;have hX:(l.drop k).flatMap Bz++rest=Cb x ((l.drop (k+1)).flatMap Bz++rest) 0:=by rw[hd];simp[Cb,Bz]
  rw[hX];refine AKa C0 C1 f st fo cl y1 y2 y3 x hx ((l.drop (k+1)).flatMap Bz++rest) ((l.map Lic.V).take k) (by simp;omega) l.length k (λe he=>?_) _ (by
   intro k' hk';simp only[Fj,AT7,AUE,or_false]at hk';rcases hk' with rfl|rfl|rfl|rfl|rfl|rfl<;>rfl)
  have q:∀k'∈Fj,AH e k'=Ks l.length k k':=he;simp only[Fj,AUm,AUE,false_implies,implies_true,and_true]at q;obtain⟨q0,q1,q2,q3,q4,q5⟩:=q;simp only[q0,q1,q2,q3,q4,q5,BR,Na];simp[Ks,hw,h1,Ak,Be,Cb,Bg,htk]
 ·have:k=l.length:=by omega
  subst this;simp[AM]
theorem tf:AD2=(.seq (.reg Sm [1,2,4,5,6,7,8]) (.seq (.seq (.reg Sl [1,2,4,5,6,7,28]) (.cond (.t 28 false) (.seq (.reg te [2,3]) .ret) .skip)) (.seq (.reg Sk [1,2,4,5,6]) (.seq (.seq (.reg Sj [1,2,4,5,6,33,34]) (.block 0 (.loop I3))) (.seq (.reg Nh [1,2,4,5,6]) (.seq (.seq (.reg Ng [1,2,4,5,6,56,57]) (.block 2 (.loop I2))) (.seq (.seq (.reg Nc [1,2,4,6,74,75]) (.block 4 (.loop I1))) (.seq (.seq (.reg NZ [1,2,6,94]) (.cond (.t 94 false) (.seq (.reg Vy [2,3]) .ret) .skip)) (.seq (.seq (.reg NY [1,2,6,9,10]) (.seq (.reg NX [2,6,109]) (.cond (.t 109 false) (.seq (.reg Vx [2,3]) .ret) .skip))) (.seq (.reg NW [2,3]) .ret)))))))))):=rfl
theorem Pw (x:Dat):1≤(B8 x).length:=by
 have:=GX 9 (IW x.cl);simp only[B8,AT5,Af,HB];omega
theorem Pu (x:Own):1≤(By x).length:=by
 have:=GX 9 (IW x.party);simp only[By,AT5,Af,HB];omega
theorem Pv (x:Lic):1≤(Bz x).length:=by
 have:=GX 9 (IW x.fr);simp only[Bz,AT5,Af,HB];omega
theorem Hz {α:Type} {f:α→List Int} (hf:∀x,1≤(f x).length):∀l:List α,l.length≤(l.flatMap f).length
 |[]=>by simp
 |x::l=>by
  have:=hf x;have:=Hz hf l;simp only[AUN,AT5,AUO];omega
theorem ARB (r:Rgt) (hr:r.ok) (hf:Au r=true) (hz:CR r.claims=0) (hc32:r.claims.length≤32) (hb:(Az r).length≤2^39) (hB:∀x∈Az r,0≤x∧x <256):PX 113 [AL .u8 (Az r)] [r.V,.int .i64 0]:=by
 refine AK ATd rfl ?_;have q51:=(p51 r hr).fsp;rw[hf,if_pos rfl,if_pos rfl]at q51;have q205:=(AQa r.claims hr.claims hz hc32 hr.enc).fsp;simp at q51 q205;have hdl:=Hz Pw r.dates;have hol:=Hz Pu r.owners;have hll:=Hz Pv r.lics;have hbl:=EC r.bad;have hb':=hb;simp only[Az,BN,BJ,AT5]at hb';have hE:Az r=Af r.file++(Af r.state++(Af r.force++(BN (BP r.claims)++(Af r.dates.length++(r.dates.flatMap B8++(BJ r.bad++(Af r.owners.length++(r.owners.flatMap By++(Af r.lics.length++r.lics.flatMap Bz))))))))):=by simp[Az]
 obtain⟨E,hEE⟩:∃E,E=Az r:=⟨_,rfl⟩;rw[←hEE]at hE hb hB ⊢;obtain⟨R5,h5⟩:∃R,R=Af r.lics.length++r.lics.flatMap Bz:=⟨_,rfl⟩;obtain⟨R4,h4⟩:∃R,R=Af r.owners.length++(r.owners.flatMap By++R5):=⟨_,rfl⟩;obtain⟨R3,h3⟩:∃R,R=BJ r.bad++R4:=⟨_,rfl⟩;obtain⟨R2,h2⟩:∃R,R=Af r.dates.length++(r.dates.flatMap B8++R3):=⟨_,rfl⟩;obtain⟨R1,h1⟩:∃R,R=BN (BP r.claims)++R2:=⟨_,rfl⟩;have hE':E=Af r.file++(Af r.state++(Af r.force++R1)):=by rw[hE,h1,h2,h3,h4,h5]
 simp only[wi,AB,AA,AG,AE,Sp,So,Sn,AY];simp;refine⟨_,_,(p44 E (by omega) _),?_⟩;simp[AN];rw[BO];refine BG _ (λs hs=>⟨s,.inl rfl,hs⟩) ?_;obtain⟨C0,hC0⟩:∃C,C=Row.cells [.v (AL .u8 E)]:=⟨_,rfl⟩;obtain⟨C1,hC1⟩:∃C,C=Row.cells [.v (.int .i64 0),.v (.int .i64 0),.v (.int .i64 0),.own 130 5 [],.own 88 4 [],.own 3 1 [],.own 246 3 [],.own 247 4 []]:=⟨_,rfl⟩;rw[←hC0,←hC1];have hrow:([C0,C1,rdr E,.cells [.ref 2 0]]:List Row)=Ax C0 C1 r R1 (λj=>decide (9≤j)):=by rw[hE'];rfl
 rw[hrow];refine AKZ C0 C1 r hr R1 (λe he h6=>?_) _ (by
  intro k' hk';simp only[HU,AT7,AUE,or_false]at hk';rcases hk' with rfl|rfl|rfl|rfl<;>rfl)
 simp only[HU,AUm,AUE,false_implies,implies_true,and_true,Nm]at he;obtain⟨e1,e2,e4,e5⟩:=he;simp only[BR,e1,e2,e4,e5,h6];have hrow2:Ax C0 C1 r R1 (λ_=>true)=[C0,C1,rdr R1,.cells [.ref 2 0],.cells [.v (.int .i64 r.file),.v (.int .i64 r.state),.v (.int .i64 r.force),.own 130 5 [],.own 88 4 [],.own 3 1 [],.own 246 3 [],.own 247 4 []]]:=rfl;rw[hrow2,tf];simp only[AB,AA,AG,AE,Sm];simp;refine⟨_,_,(AJz (BP r.claims) _ 2 R2 (by rw[h2,h3,h4,h5];simp only[BN,BJ,AT5];omega) (by rw[h1];rfl)),?_⟩;simp;refine⟨_,_,q205 _,?_⟩;simp;simp only[Sl];simp[AD];simp only[Sk];simp[AN,D.toRow];simp only[Sj];simp;have hElen:E.length=(Af r.file).length+((Af r.state).length+((Af r.force).length+R1.length)):=by rw[hE'];simp
 have l1:R1.length=(BN (BP r.claims)).length+R2.length:=by rw[h1];simp
 have l2:R2.length=(Af r.dates.length).length+((r.dates.flatMap B8).length+R3.length):=by rw[h2];simp[-List.length_flatMap]
 have l3:R3.length=(BJ r.bad).length+R4.length:=by rw[h3];simp
 have l4:R4.length=(Af r.owners.length).length+((r.owners.flatMap By).length+R5.length):=by rw[h4];simp[-List.length_flatMap]
 have l5:R5.length=(Af r.lics.length).length+(r.lics.flatMap Bz).length:=by rw[h5];simp[-List.length_flatMap]
 have hld:=hr.ld;have hlo:=hr.lo;have hll2:=hr.ll;have m1:=AEe [C0,C1,rdr R2,.cells [.ref 2 0],.cells [.v (.int .i64 r.file),.v (.int .i64 r.state),.v (.int .i64 r.force),.v (.list (r.claims.map Clm.V)),.own 88 4 [],.own 3 1 [],.own 246 3 [],.own 247 4 []]] 3 0 2 (E.map (.int .u8)) r.dates.length (r.dates.flatMap B8++R3) rfl (by rw[hC0];rfl) (by rw[h2];rfl) (by unfold i64;omega) (by omega) (by rw[AUM];omega) (by decide);refine⟨_,_,m1,?_⟩;have hD:=ALh C0 C1 (.v (.int .i64 r.file)) (.v (.int .i64 r.state)) (.v (.int .i64 r.force)) (.v (.list (r.claims.map Clm.V))) (.own 3 1 []) (.own 246 3 []) (.own 247 4 []) R3 r.dates hr.dates hld;refine HV hD ?_;simp only[Nh];simp;refine⟨_,_,(AEl r.bad hr.bad _ 2 R4 (by omega) (by rw[h3];rfl)),?_⟩;simp[AN,D.toRow];simp only[Ng];simp;have m2:=AEe [C0,C1,rdr R4,.cells [.ref 2 0],.cells [.v (.int .i64 r.file),.v (.int .i64 r.state),.v (.int .i64 r.force),.v (.list (r.claims.map Clm.V)),.own 88 4 (r.dates.map Dat.V),.own 3 1 (r.bad.map (.int .i64)),.own 246 3 [],.own 247 4 []]] 3 0 2 (E.map (.int .u8)) r.owners.length (r.owners.flatMap By++R5) rfl (by rw[hC0];rfl) (by rw[h4];rfl) (by unfold i64;omega) (by omega) (by rw[AUM];omega) (by decide);refine⟨_,_,m2,?_⟩;have hO:=ALg C0 C1 (.v (.int .i64 r.file)) (.v (.int .i64 r.state)) (.v (.int .i64 r.force)) (.v (.list (r.claims.map Clm.V))) (.own 88 4 (r.dates.map Dat.V)) (.own 3 1 (r.bad.map (.int .i64))) (.own 247 4 []) R5 r.owners hr.owners hlo;refine HV hO ?_;simp only[Nc];simp;have m3:=AEe [C0,C1,rdr R5,.cells [.ref 2 0],.cells [.v (.int .i64 r.file),.v (.int .i64 r.state),.v (.int .i64 r.force),.v (.list (r.claims.map Clm.V)),.own 88 4 (r.dates.map Dat.V),.own 3 1 (r.bad.map (.int .i64)),.own 246 3 (r.owners.map Own.V),.own 247 4 []]] 3 0 2 (E.map (.int .u8)) r.lics.length (r.lics.flatMap Bz++[]) rfl (by rw[hC0];rfl) (by rw[h5];simp) (by unfold i64;omega) (by omega) (by rw[AUM];omega) (by decide);refine⟨_,_,m3,?_⟩;have hL:=ALf C0 C1 (.v (.int .i64 r.file)) (.v (.int .i64 r.state)) (.v (.int .i64 r.force)) (.v (.list (r.claims.map Clm.V))) (.own 88 4 (r.dates.map Dat.V)) (.own 3 1 (r.bad.map (.int .i64))) (.own 246 3 (r.owners.map Own.V)) [] r.lics hr.lics hll2;refine HV hL ?_;simp only[NZ];simp;have hend:=AEk [C0,C1,rdr [],.cells [.ref 2 0],.cells [.v (.int .i64 r.file),.v (.int .i64 r.state),.v (.int .i64 r.force),.v (.list (r.claims.map Clm.V)),.own 88 4 (r.dates.map Dat.V),.own 3 1 (r.bad.map (.int .i64)),.own 246 3 (r.owners.map Own.V),.own 247 4 (r.lics.map Lic.V)]] 2 rfl;refine⟨_,_,hend,?_⟩;simp[AD];simp only[NY];simp[D.one?,D.vs?,D.v?];have hV:r.V= .agg [.int .i64 r.file,.int .i64 r.state,.int .i64 r.force,.list (r.claims.map Clm.V),.list (r.dates.map Dat.V),.list (r.bad.map (.int .i64)),.list (r.owners.map Own.V),.list (r.lics.map Lic.V)]:=rfl;rw[hV]at q51 ⊢;refine⟨_,_,q51 _,?_⟩;simp;simp only[NX];have hbB:=Fi E hB;simp[hC0,←hEE,AL,hbB,AD];simp only[NW];simp[hC1,AN,D.toRow,D.one?,D.vs?,D.v?,AF,AD3,CB]
def Gw (x:(Int×Int)×Int):V×V:=(.agg [.int .i64 x.1.1,.int .i64 x.1.2],.agg [.int .u64 x.2,.bool true])
def HM.rowS (m:HM):Row:= .map (m.E.map Gw) m.st m.ck
theorem MC (a b:Int):∀E:List ((Int×Int)×Int),CQ true [0,0] (.agg [.int .i64 a,.int .i64 b]) (E.map Gw)=some (E.findIdx? λx=>x.1==(a,b))
 |[]=>rfl
 |x::E=>by
  obtain⟨⟨c,d⟩,v⟩:=x;have hk:BL true [0,0] (.agg [.int .i64 c,.int .i64 d])=true:=by simp[BL,V.eqL,V.eq1,V.cells]
  simp only[AUD,Gw,CQ,hk,if_true,V.cells,V.eqL,V.eq1,AVh,MC a b E,AUy];have e:((c,d)==(a,b))=((a==c)&&(b==d)):=by
   rw[AU3];simp
   constructor<;>(rintro⟨h1,h2⟩;exact⟨h1.symm,h2.symm⟩)
  rw[e];cases (a==c)&&(b==d)<;>simp
theorem HM.lookS (m:HM) (a b:Int):(m.get (a,b)=none∧CQ true [0,0] (.agg [.int .i64 a,.int .i64 b]) (m.E.map Gw)=some none)∨
  ∃i v,m.get (a,b)=some v∧CQ true [0,0] (.agg [.int .i64 a,.int .i64 b]) (m.E.map Gw)=some (some i)∧(m.E.map Gw)[i]?=some (.agg [.int .i64 a,.int .i64 b],.agg [.int .u64 v,.bool true]):=by
 have hgi:=Dw (a,b) m.E;rw[MC];cases hi:m.E.findIdx? (λx=>x.fst==(a,b))with
 |none=>
  rw[hi]at hgi;exact .inl ⟨hgi,rfl⟩
 |some i=>
  rw[hi]at hgi;obtain⟨hlt,hx,_⟩:=AVj.1 hi;rw[AUX,AT2 hlt]at hgi;refine .inr ⟨i,_,hgi,rfl,?_⟩;rw[AUG,AT2 hlt];have:(m.E[i]).1=(a,b):=by simpa using hx
  simp[Gw,this]
theorem HM.rowS_new {m:HM} {k:Int×Int} (v:Int) (h:(m.E.findIdx? λx=>x.1==k)=none):(m.set k v).rowS= .map (m.E.map Gw++[Gw (k,v)]) (m.st++[m.ck]) (m.ck+1):=by
 have h1:m.get k=none:=by rw[HM.get,Dw,h];rfl
 have h2:=GD k v m.E;rw[h]at h2;simp[HM.set,h1,HM.rowS,h2]
theorem HM.rowS_old {m:HM} {k:Int×Int} {i:Nat} (v:Int) (h:(m.E.findIdx? λx=>x.1==k)=some i):(m.set k v).rowS= .map ((m.E.map Gw).set i (Gw (k,v))) m.st m.ck:=by
 have hlt:=(AVj.1 h).1;have h1:m.get k=some (m.E[i]).2:=by rw[HM.get,Dw,h];simp[hlt]
 have h2:=GD k v m.E;rw[h]at h2;simp[HM.set,h1,HM.rowS,h2,List.map_set]
def lfU (lf:Int→Option Int) (l:List Rgt):Int→Option Int:=l.foldl (λf r=>upd f r.file (C7 r.file (Az r))) lf
def lfL (l:List Rgt):Int→Option Int:=lfU (λ_=>none) l
def kmS (l:List Rgt):HM:=l.foldl (λm r=>m.set (0,r.file) (C7 r.file (Az r))) ⟨[],[],0⟩
theorem OT:∀(l:List Rgt) (lf:Int→Option Int) (m:HM),(∀j n,m.get (j,n)=if j=0 then lf n else none)→
  ∀j n,(l.foldl (λm r=>m.set (0,r.file) (C7 r.file (Az r))) m).get (j,n)=if j=0 then lfU lf l n else none
 |[],_,_,h=>h
 |r::l,lf,m,h=>OT l _ _ λj n=>by
  rw[HM.get_set,h];unfold upd;by_cases hj:j=0<;>by_cases hn:n=r.file<;>simp[hj,hn]
theorem u9 (l:List Rgt) (j n:Int):(kmS l).get (j,n)=if j=0 then lfL l n else none:=OT l _ _ (λj n=>by simp[HM.get,Bc]) j n
theorem OQ {k:Int}:∀ {l:List Rgt} (_:l.Pairwise λa b=>a.file≠b.file) (lf:Int→Option Int),lfU lf l k=match l.find? (λr=>r.file==k)with|some r=>some (C7 r.file (Az r))|none=>lf k
 |[],_,lf=>rfl
 |r::l,hp,lf=>by
  have ih:=OQ (k:=k) hp.of_cons (upd lf r.file (C7 r.file (Az r)));show lfU (upd lf r.file (C7 r.file (Az r))) l k=_;rw[ih,List.find?_cons];by_cases h:r.file=k
  ·subst h;have hn:l.find? (λq=>q.file==r.file)=none:=by
    rw[AWD];intro q hq hqe;have he:q.file=r.file:=by simpa using hqe
    exact(AVY hp hq) he.symm
   rw[hn];simp[upd]
  ·have:(r.file==k)=false:=by simpa using h
   rw[this];cases l.find? (λr=>r.file==k)with
   |some q=>rfl
   |none=>simp[upd,Ne.symm h]
theorem Pk (l:List Rgt) (k:Int):lfP (l.map E1) k=(l.find? λr=>r.file==k).map λr=>C7 r.file (Az r):=by
 unfold lfP;rw[List.find?_map];have e:((λp:Int×List Int=>p.1==k) ∘ E1)=λr=>r.file==k:=rfl;rw[e];cases l.find? (λr=>r.file==k)<;>rfl
theorem AEy {l:List Rgt} (hp:l.Pairwise λa b=>a.file≠b.file) (j n:Int):(kmS l).get (j,n)=if j=0 then lfP (l.map E1) n else none:=by
 rw[u9];unfold lfL;rw[OQ hp,Pk];cases l.find? (λr=>r.file==n)<;>rfl
theorem u4 {l:List Rgt} (hp:l.Pairwise λa b=>a.file≠b.file):lfP ((BY l).map E1)=lfP (l.map E1):=by
 funext k
 have hq:=Ga hp;have hpm:=Gb hp;rw[Pk,Pk];cases h:l.find? (λr=>r.file==k)with
 |none=>
  have:(BY l).find? (λr=>r.file==k)=none:=by
   rw[AWD]at h ⊢;exact λx hx=>h x (hpm.mem_iff.1 hx)
  rw[this]
 |some r=>
  have hm:=List.mem_of_find?_eq_some h;have hk:r.file=k:=by simpa using List.find?_some h
  subst hk;rw[Gl hq (hpm.mem_iff.2 hm)]
theorem AQi (m:HM) (lf:Int→Option Int) (hm:∀j n,m.get (j,n)=if j=0 then lf n else none) (rh rc q:Nat):∀(l:Nat),l≤12→∀(H:List Row) (_:H[rh]?=some (.cells [.mref q])) (_:H[q]?=some m.rowS)
  (_:H[rc]?=some (.cells [.func 180 [.ref rh 0,.ref rc 0]])) (_:Low H) (n:Int),0≤n→n <2^(12-l)→
  FX 180 [.v (Ew l n),.ref rh 0,.ref rc 0] H [.v (Ex (bH lf l n))] H:=by
 intro l;induction l with
 |zero=>
  intro _ H h1 h2 h3 hl n hn0 hn1;refine Ai AEz rfl (AT6 _) hl (by simp[D.lt]) ?_;have g1:=λZ=>AO Z h1;have g2:∀Z,(H++Z)[q]?=some (.map (m.E.map Gw) m.st m.ck):=λZ=>AO Z h2;have hlk:=m.lookS 0 n;have hg:=hm 0 n;rw[if_pos rfl]at hg;rw[hg]at hlk;simp only[bH];simp only[wM,AB,AA,AE,Ro,Rn,AS];simp[Ew,AN];rcases hlk with ⟨e1,e2⟩|⟨i,v,e1,e2,e3⟩
  ·simp[g1,g2,BL,V.eqL,V.eq1,e2,C5];simp only[AA,NA];simp;simp[AB,AA,Rm,AN,AF,PG,e1,Ex,D.one?,D.vs?,D.v?]
  ·simp[g1,g2,BL,V.eqL,V.eq1,e2,e3,C5,-List.getElem?_map];simp only[AA,NA];simp;simp[AB,AA,Rm,AN,AF,PG,e1,Ex,D.one?,D.vs?,D.v?]
 |succ l ih=>
  intro hl12 H h1 h2 h3 hl n hn0 hn1;have hpw:(2:Int)^(12-l)=2*2^(12-(l+1)):=by rw[show 12-l=(12-(l+1))+1 by omega,AU2];omega
  have hpb:(2:Int)^(12-(l+1))≤2048:=by
   have:(2:Int)^(12-(l+1))≤2^11:=by exact_mod_cast AV6 (by decide:0 <2) (by omega:12-(l+1)≤11)
   simpa using this
  refine Ai AEz rfl (AT6 _) hl (by simp[D.lt]) ?_;have g1:=λZ=>AO Z h1;have g2:∀Z,(H++Z)[q]?=some (.map (m.E.map Gw) m.st m.ck):=λZ=>AO Z h2;have g3:=λZ=>AO Z h3;have hlk:=m.lookS (l+1:Nat) n;have hg:=hm (l+1:Nat) n;rw[if_neg (by omega)]at hg;rw[hg]at hlk;have q1:=(AJq (l+1:Nat) n (by omega) (by omega)).fsp;have el:((l+1:Nat):Int)-1=l:=by omega
  rw[el]at q1;have hz:¬((l+1:Nat):Int)=0:=by omega
  have hJ:Lows [.cells [.v (.int .i64 (l+1:Nat)),.v (.int .i64 n)],.cells [.v (.int .u64 0),.v (.bool false)],.cells [.v (.int .u64 0),.v (.bool false)],.cells [.v (.int .i64 l),.v (.int .i64 (2*n))],.cells [.v (.int .i64 l),.v (.int .i64 (2*n+1))]]:=by
   intro row hrow n;simp only[AT7,AUE,or_false]at hrow;rcases hrow with rfl|rfl|rfl|rfl|rfl<;>rfl
  have q2:=ih (by omega) _ (g1 _) (g2 _) (g3 _) (hl.lows hJ) (2*n) (by omega) (by omega);have q3:=ih (by omega) _ (g1 _) (g2 _) (g3 _) (hl.lows hJ) (2*n+1) (by omega) (by omega);have q4:=AJp (bH lf l (2*n)) (bH lf l (2*n+1));simp only[bH];generalize ER (bH lf l (2*n)) (bH lf l (2*n+1))=B at*;generalize bH lf l (2*n)=b1 at*;generalize bH lf l (2*n+1)=b2 at*;rcases hlk with ⟨_,e2⟩|⟨i,v,e1,_⟩
  ·generalize ((l+1:Nat):Int)=L at*;simp[Ew]at q1 q2 q3 q4;simp only[wM,AB,AA,AE,Ro,Rn,AS];simp[Ew,AN];simp[g1,g2,BL,V.eqL,V.eq1,e2,C5];simp only[AA,NA];simp[hz,AD];simp only[AA,pM];simp;refine⟨_,_,q1 _,?_⟩;simp[AN];rw[BO];refine BG _ (λs hs=>⟨s,.inl rfl,hs⟩) ?_;simp only[pK];simp[g3];refine⟨_,_,q2,⟨[],by simp⟩,?_⟩;simp[g3];refine⟨_,_,q3,⟨[],by simp⟩,?_⟩;simp;refine⟨_,_,⟨rfl,rfl⟩,_,q4,?_⟩;simp[AN,AF,PG,Ex,D.one?,D.vs?,D.v?]
  ·cases e1
def prR (r:Rgt):V:= .agg [.int .i64 r.file,AL .u8 (Az r)]
theorem AQk (rs:List Rgt) (hn:rs.length≤2^20) (hb:∀r∈rs,(0≤r.file∧r.file≤4095)∧(Az r).length≤65536) (hs:∀(k:Nat) r q,rs[k]?=some r→rs[k+1]?=some q→r.file <q.file):
  PX 178 [.int .i64 0,.int .i64 4095,.list (rs.map prR)] [.bool false]:=by
 refine AK ALF rfl ?_;simp only[AID,AB,AA,AG,pV,pU,AY];simp;refine Aa rs.length (λk s=>∃J,s=⟨[(0,.v (.int .i64 0)),(1,.v (.int .i64 4095)),(2,.v (.list (rs.map prR))),(9,.v (.list (rs.map prR))),(10,.v (.int .i64 rs.length)),(11,.v (.int .i64 k))],J⟩) ⟨[],by simp⟩ ?_;rintro k s hk ⟨J,rfl⟩;simp only[pW,AB,AA,AG,AE,pT];simp;by_cases hkl:k <rs.length
 ·obtain⟨r,hr⟩:∃r,rs[k]?=some r:=⟨_,AT2 hkl⟩;obtain⟨⟨b1,b2⟩,b3⟩:=hb r (AT3 hr);have w1:IntKind.i64.wrap ((k:Int)+1)=k+1:=AJ;have h1:¬r.file <0:=by omega
  have h2:¬4095 <r.file:=by omega
  have h3:¬65536 <((Az r).length:Int):=by omega
  rw[if_pos (by omega),AD];simp only[AA,pS];simp[hr,prR,AN,AL];simp only[AW,pR];cases k with
  |zero=>
   have w0:IntKind.i64.wrap 1=1:=by decide
   simp[h1,h2,h3,w0,AD,AA,Ru,w1,hkl]
  |succ j=>
   obtain⟨q,hq⟩:∃q,rs[j]?=some q:=⟨_,AT2 (by omega)⟩;have hlt:=hs j q r hq hr;have h4:¬r.file≤q.file:=by omega
   have w2:IntKind.i64.wrap (((j+1:Nat):Int)-1)=j:=by rw[AJ];omega
   have w3:IntKind.i64.wrap (j:Int)=j:=AJ;have h5:(0:Int) <(j:Int)+1:=by omega
   simp at w1;simp[h1,h2,h3,h4,h5,w2,w3,hq,prR,AL,AD,AA,Ru,w1,hkl]
 ·have hk2:k=rs.length:=by omega
  subst hk2;rw[if_neg (by omega),AM];simp[AA,pQ,AF,pX]
theorem ARd (rs:List Rgt) (hn:rs.length≤2^20) (hb:∀r∈rs,isB (Az r)∧(Az r).length≤2^39) (H:List Row) (q t:Nat) (hq:H[q]?=some (kmS []).rowS) (ht:H[t]?=some (.cells [.mref q])) (hne:q≠t) (d7 d8 d9 d11 d12 d13:D) (Q:AExit→St→Prop)
  (hQ:∀e J,AH e 7=d7→AH e 8=d8→AH e 9=d9→AH e 10= .ref t 0→AH e 11=d11→AH e 12=d12→AH e 13=d13→Q (.exit 2) ⟨e,H.set q (kmS rs).rowS++J⟩):
  awp Tryz.prog GLx (.loop NF) Q ⟨[(7,d7),(8,d8),(9,d9),(10,.ref t 0),(11,d11),(12,d12),(13,d13),(76,.v (.list (rs.map prR))),(77,.v (.int .i64 rs.length)),(78,.v (.int .i64 (0:Nat)))],H⟩:=by
 have hlen:q <H.length:=CE hq;have hset:∀(y z:Row) (Z:List Row),(H.set q y++Z).set q z=H.set q z++Z:=λy z Z=>by rw[AVc _ _ (by rw[AUt];exact hlen),AVB]
 have hgq:∀(y:Row) (Z:List Row),(H.set q y++Z)[q]?=some y:=λy Z=>AO Z (BX hq);have hgt:∀(y:Row) (Z:List Row),(H.set q y++Z)[t]?=some (.cells [.mref q]):=λy Z=>AO Z (by rw[AUJ hne];exact ht);refine Aa rs.length (λk s=>∃J,s=⟨[(7,d7),(8,d8),(9,d9),(10,.ref t 0),(11,d11),(12,d12),(13,d13),(76,.v (.list (rs.map prR))),(77,.v (.int .i64 rs.length)),(78,.v (.int .i64 k))],H.set q (kmS (rs.take k)).rowS++J⟩) ⟨[],by
  simp only[List.take_zero,AUq];obtain⟨g1,g2⟩:=AT4.1 hq;rw[←g2,AWc]⟩ ?_
 rintro k s hk ⟨J,rfl⟩;simp only[NF,AB,AA,AG,AE,VV];simp;by_cases hkl:k <rs.length
 ·obtain⟨r,hr⟩:∃r,rs[k]?=some r:=⟨_,AT2 hkl⟩;obtain⟨b1,b2⟩:=hb r (AT3 hr);have w1:IntKind.i64.wrap ((k:Int)+1)=k+1:=AJ;have htk:kmS (rs.take (k+1))=(kmS (rs.take k)).set (0,r.file) (C7 r.file (Az r)):=by
   rw[AUP,hr];unfold kmS;rw[AVf];rfl
  have q1:=AJs r.file (Az r) b1 b2;rw[htk];generalize kmS (rs.take k)=m at*;generalize hlf:C7 r.file (Az r)=lv at*;have hmf:=MC 0 r.file m.E;have hgm:∀(Z:List Row),(H.set q m.rowS++Z)[q]?=some (.map (m.E.map Gw) m.st m.ck):=λZ=>hgq _ Z;have hgt':=hgt m.rowS;have hst':=λz Z=>hset m.rowS z Z;generalize hHM:H.set q m.rowS=HM0 at*;simp[AL]at q1;rw[if_pos (by omega),AD];simp only[AA,VU];simp[hr,prR,AN,AL];simp only[AW,VT];simp[hgt',AN];refine⟨_,_,⟨rfl,rfl⟩,_,q1,?_⟩;simp[hgm,hmf,BL,V.eqL,V.eq1];cases hi:m.E.findIdx? (λx=>x.fst==(0,r.file))with
  |none=>
   rw[HM.rowS_new lv hi];simp[hst',AA,ND,w1,hkl,Gw]
  |some i=>
   rw[HM.rowS_old lv hi];simp[hst',AA,ND,w1,hkl,Gw]
 ·have hk2:k=rs.length:=by omega
  subst hk2;rw[if_neg (by omega),AM,AUb];exact hQ _ _ rfl rfl rfl rfl rfl rfl rfl
def pP:AC:=(.seq (.reg Rq [0,2,5,7,8,9,10,11,12,13]) (.seq (.seq (.reg Rp [2,5,7,8,9,10,11,12,13,25]) (.block 0 (.rangeF (.t 25 false) [26] pO pN))) (.seq (.seq (.reg NE [7,8,9,10,11,12,13,76,77,78]) (.block 2 (.loop NF))) (.seq (.regA NC [8,9] [[],[],[],[2],[2,3],[1,2,3,4],[1,2,3,4,5],[1,2,3,4,5,6],[1,2,3,4,5,6,7],[1,2,3,4,5,6,7,8],[1,2,3,4,5,6,7,8,9],[1,2,3,4,5,6,7,8,9,10],[1,2,3,4,5,6,7,8,9,10,11],[1,2,3,4,5,6,7,8,9,10,11,12],[1,2,3,4,5,6,7,8,9,10,11,12,13],[1,2,3,4,5,6,7,8,9,10,11,12,13,14],[0,1,2,3,4,5,6,7,8,9,10,11],[0,1,2,3,4,5,6,7,8,9,10,11,12,13,14,15,16]] (.take 0 (.take 1 (.take 2 (.take 3 (.take 4 (.take 5 (.take 6 (.take 7 (.take 8 (.take 9 (.take 10 (.take 11 (.pick (.alt 12 (.take 13 (.take 14 (.take 15 (.take 16 (.take 17 .done))))) (.alt 16 (.take 12 (.take 13 (.take 14 (.take 15 (.take 17 .done))))) .none)))))))))))))))) .ret))))
theorem ARE (rs:List Rgt) (hn:rs.length≤2^20) (hb:∀r∈rs,isB (Az r)∧(Az r).length≤2^39) (h:List Row) (a b:Nat) (ha:a=h.length+6∨a=h.length+7) (hbb:b=h.length+6∨b=h.length+7) (Q:AExit→St→Prop)
  (hQ:∀e J,AH e 8= .ref (h.length+2) 0→AH e 9= .ref (h.length+3) 0→Q .ret ⟨e,h++([.cells [.v (.int .i64 4095)],.cells [.v (.list []),.v (.list []),.v (.list [])],.cells [.mref (h.length+4)],.cells [.v (.bool true)],(kmS rs).rowS]++J)⟩):
  awp Tryz.prog GLx pP Q ⟨[(0,.v (.int .i64 0)),(2,.v (.list (rs.map prR))),(5,.ref h.length 0),(7,.ref (h.length+1) 0),(8,.ref (h.length+2) 0),(9,.ref (h.length+3) 0),(10,.ref (h.length+5) 0),(11,.ref a 0),(12,.ref b 0)],
   h++[.cells [.v (.int .i64 4095)],.cells [.v (.list []),.v (.list []),.v (.list [])],.cells [.v .nilm],.cells [.v (.bool false)],(kmS []).rowS,.cells [.mref (h.length+4)],.cells [.v (.list [])],.cells [.v (.list [])]]⟩:=by
 have q4:=λZ=>AJh 0 4095 (h++Z);simp only[pP,AB,AA,AG,Rq,Rp];simp[AN];refine⟨_,_,(q4 _),?_⟩;simp;obtain⟨H7,hH7⟩:∃H7,H7=h++[Row.cells [.v (.int .i64 4095)],.cells [.v (.list []),.v (.list []),.v (.list [])],.cells [.v .nilm],.cells [.v (.bool false)],(kmS []).rowS,.cells [.mref (h.length+4)],.cells [.v (.list [])],.cells [.v (.list [])],.cells [.v (.int .i64 0)],.cells [.v (.int .i64 0)],.cells [.v (.int .i64 4095)]]:=⟨_,rfl⟩;have g5:∀Z,(H7++Z)[h.length+9]?=some (.cells [.v (.int .i64 0)]):=λZ=>by rw[hH7];simp
 have g6:∀Z,(H7++Z)[h.length+9+1]?=some (.cells [.v (.int .i64 4095)]):=λZ=>by rw[hH7,AUB,At h _ _ 10 (by omega)];rfl
 rw[←hH7];refine DZ H7.length rfl 301 [.ref (h.length+9) 0,.ref (h.length+9+1) 0] [] _ _ .ready rfl rfl (yF H7.length _ (h.length+9) (h.length+9+1) (g5 _) (g6 _)) ?_ ?_
 ·simp
 ·simp[Bo];simp only[AA,NE];simp;have hloop:=ARd rs hn hb (H7++[.dead,.cells [.yld H7.length],.cells [.func 302 [.ref (h.length+9) 0,.ref (h.length+9+1) 0,.ref (H7.length+1) 0,.ref (H7.length+2) 0]],.cells [.v (.int .i64 12),.v (.int .i64 0)]]) (h.length+4) (h.length+5) (by rw[hH7];simp) (by rw[hH7];simp) (by omega);simp at hloop;refine hloop _ _ _ _ _ _ _ ?_;intro e J g7 g8 g9 g10 g11 g12 g13;obtain⟨J2,hJ2⟩:∃J2,(H7++[Row.dead,.cells [.yld H7.length],.cells [.func 302 [.ref (h.length+9) 0,.ref (h.length+9+1) 0,.ref (H7.length+1) 0,.ref (H7.length+2) 0]],.cells [.v (.int .i64 12),.v (.int .i64 0)]]).set (h.length+4) (kmS rs).rowS++J=
    h++([Row.cells [.v (.int .i64 4095)],.cells [.v (.list []),.v (.list []),.v (.list [])],.cells [.v .nilm],.cells [.v (.bool false)],(kmS rs).rowS,.cells [.mref (h.length+4)],.cells [.v (.list [])],.cells [.v (.list [])],.cells [.v (.int .i64 0)]]++J2):=⟨_,by rw[hH7];simp;rfl⟩
  rw[hJ2];generalize (kmS rs).rowS=X at*;rw[BO];refine BG _ (λs hs=>⟨s,.inl rfl,hs⟩) ?_;simp only[NC];rcases ha with rfl|rfl<;>rcases hbb with rfl|rfl<;>simp[g7,g8,g9,g10,g11,g12,g13,AN]
  all_goals rw[AF];exact hQ _ (.cells [.mref (h.length+4)]:: .cells [.v (.list [])]:: .cells [.v (.list [])]:: .cells [.v (.int .i64 0)]::J2) rfl rfl
theorem AQj (rs:List Rgt) (hn:rs.length≤2^20) (hb:∀r∈rs,isB (Az r)∧(Az r).length≤2^39) (h:List Row) (hl:Low h):
  FX 179 [.v (.int .i64 0),.v (.int .i64 4095),.v (.list (rs.map prR)),.v (.agg [.list [],.list [],.list []])] h [.mref (h.length+4),.v (.bool true)]
   (h++[.cells [.v (.int .i64 4095)],.cells [.v (.list []),.v (.list []),.v (.list [])],.cells [.mref (h.length+4)],.cells [.v (.bool true)],(kmS rs).rowS]):=by
 refine Ai ALE rfl (by simp) ?_ ?_ ?_
 ·intro row hrow;rw[AT5];rcases AUK.1 hrow with hr|hr
  ·exact Row.low_mono (by omega) (hl row hr)
  ·simp only[AT7,AUE,or_false]at hr;rcases hr with rfl|rfl|rfl|rfl|rfl<;>simp[Row.low,D.lts,D.lt,HM.rowS]
 ·intro d hd;simp only[AT7,AUE,or_false]at hd;rcases hd with rfl|rfl<;>simp[D.lt]
 ·have hm:=λa b ha hb' Q=>ARE rs hn hb h a b ha hb' Q;rw[show AIB= .seq (.reg Rt _) (.seq (.reg Rs _) (.seq (.regA Rr _ _ _) pP)) from rfl,AB,AA];simp only[Rt,AS];simp;rw[AB,AA];simp only[Rs];simp[AN];rw[AB,BO];refine BG _ (λs hs=>⟨s,.inl rfl,hs⟩) ?_;simp only[Rr];simp[AN];have e0:(kmS []).rowS= .map [] [] 0:=rfl;rw[e0]at hm;simp at hm
  repeat' first
   |exact hm _ _ (.inl rfl) (.inr rfl) _ λe J g8 g9=>⟨trivial,by simp[VW,g8,g9,D.one?],J,rfl⟩
   |exact hm _ _ (.inr rfl) (.inl rfl) _ λe J g8 g9=>⟨trivial,by simp[VW,g8,g9,D.one?],J,rfl⟩
   |apply And.intro
theorem p89 (rs:List Rgt) (hn:rs.length≤2^20) (hb:∀r∈rs,(0≤r.file∧r.file≤4095)∧isB (Az r)∧(Az r).length≤65536) (hs:∀(k:Nat) r q,rs[k]?=some r→rs[k+1]?=some q→r.file <q.file)
  (hp:rs.Pairwise λa b=>a.file≠b.file) (h:List Row) (hl:Low h) (root:Int) (hr:root=(bH (lfP (rs.map E1)) 12 0).getD 0):
  FX 89 [.v (.int .u64 root),.v (.int .i64 0),.v (.int .i64 4095),.v (.list (rs.map prR)),.v (.agg [.list [],.list [],.list []])] h [.v (.int .i64 0)] h:=by
 refine Ai k89 rfl (AT6 _) hl (by simp[D.lt]) ?_;have q1:=yG.fsp;have q2:=(AQk rs hn (λr hr=>⟨(hb r hr).1,(hb r hr).2.2⟩) hs).fsp;have hl1:Low (h++[.cells [.v (.list []),.v (.list []),.v (.list [])]]):=hl.lows (by
  intro row hrow n;rw[AUC.1 hrow];rfl)
 have q3:=AQj rs hn (λr hr=>⟨(hb r hr).2.1,by have:=(hb r hr).2.2;omega⟩) _ hl1;simp at q1 q2 q3;simp only[c89,AB,AA,AG,AE,zj,zi,AS];simp;refine⟨_,_,q1 _,?_⟩;simp;simp only[AB,AA,AE,zh];simp;refine⟨_,_,q2 _,?_⟩;simp[AD];simp only[AA,zg];simp;refine⟨_,_,q3,?_⟩;simp[AN,zf,AD,ze];simp only[AA,zd];simp[AN];simp only[AA,Yn];simp;have q4:=λH h1 h2 h3 h4=>AQi (kmS rs) _ (λj n=>AEy hp j n) (h.length+6) (h.length+7) (h.length+1+4) 12 (by decide) H h1 h2 h3 h4 0 (by decide) (by decide);simp only[Ew,Ex]at q4;rw[←hr]at q4;refine⟨_,_,q4 _ ?_ ?_ ?_ ?_,?_⟩
 ·simp
 ·simp
 ·simp
 ·intro row hrow;rw[AT5];rcases AUK.1 hrow with hr|hr
  ·exact Row.low_mono (by omega) (hl row hr)
  ·simp only[AT7,AUE,or_false]at hr;rcases hr with rfl|rfl|rfl|rfl|rfl|rfl|rfl|rfl<;>simp[Row.low,D.lts,D.lt,HM.rowS]<;>omega
 ·simp[AD,AA,Ym,AF,AFh]
def Bx (kind pa day:Int) (t:Th) (rs:List Rgt) (cl:List (Int×Int)) (fs:List Int):List V:=
 [.int .i64 kind,.int .i64 0,.int .i64 pa,.int .i64 day,AL .i64 t.cs,.list (t.vs.map Val.V),.list (t.ps.map Th.V),.list (rs.map Rgt.V),.list (cl.map BA),AL .i64 fs,.list [],.list [],.list []]
def yC (kind pa day:Int) (t:Th) (cl:List (Int×Int)) (fs:List Int):Prop:=
 (kind=1∧pa=0∧day=0∧fs=[])∨(kind=3∧pa=0∧(0≤day∧day≤131072)∧fs=[])∨(kind=2∧(1≤pa∧pa≤4095)∧day=0∧t= .mk [] [] []∧cl=[])
set_option maxHeartbeats 2000000 in
theorem p87 (kind pa day:Int) (t:Th) (rs:List Rgt) (cl:List (Int×Int)) (fs:List Int) (hc:yC kind pa day t cl fs):PX 87 [.agg (Bx kind pa day t rs cl fs)] [.int .i64 0]:=by
 refine AK k87 rfl ?_;rcases hc with ⟨rfl,rfl,rfl,rfl⟩|⟨rfl,rfl,⟨h1,h2⟩,rfl⟩|⟨rfl,⟨h1,h2⟩,rfl,rfl,rfl⟩
 ·simp only[c87,AB,AA,AG,AE,T2,AY,Bx,AL];simp[T1,Tz,Ty,AB,AA,AE,Tx];simp[Tw,Tv,Tu,Tt,AB,AA,AE];simp[Mc,Mb,AD,AB,AA,AE,Ma,AF,Yr]
 ·have h3:¬day <0:=by omega
  have h4:¬131072 <day:=by omega
  simp only[c87,AB,AA,AG,AE,T2,AY,Bx,AL];simp[T1,Tz,Ty,AB,AA,AE,Tx];simp[Tw,Tv,Tu,Tt,AB,AA,AE];simp[Mc,Mb,AD,AB,AA,AE,Ma,AF,Yr,h3,h4]
 ·have h3:¬pa <1:=by omega
  have h4:¬4095 <pa:=by omega
  have w0:IntKind.i64.wrap 0=0:=by decide
  simp only[c87,AB,AA,AG,AE,T2,AY,Bx,AL,Th.cs,Th.vs,Th.ps];simp[T1,Tz,Ty,AB,AA,AE,Tx,w0];simp[Tw,Tv,Tu,Tt,AB,AA,AE,w0];simp[Mc,Mb,AD,AB,AA,AE,Ma,AF,Yr,h3,h4,w0]
theorem p91 (a b:List (Int×Int)) (hl:a.length≤2^40):PX 91 [.list (a.map BA),.list (b.map BA)] [.bool (decide (a=b))]:=by
 refine AK k91 rfl ?_;simp only[c91,AB,AA,AG,AE,zU,zT,AY];simp;by_cases hab:a.length=b.length
 ·simp[hab,AD,zR];refine Aa b.length (λk s=>s=⟨[(0,.v (.list (a.map BA))),(1,.v (.list (b.map BA))),(12,.v (.int .i64 b.length)),(13,.v (.int .i64 k))],[]⟩∧∀j <k,a[j]?=b[j]?) ⟨by simp,by omega⟩ ?_;rintro k s hk ⟨rfl,hI⟩;simp only[zV,AB,AA,AG,AE,zQ];simp;by_cases hkl:k <b.length
  ·obtain⟨x,hx⟩:∃x,a[k]?=some x:=⟨_,AT2 (by omega)⟩;obtain⟨y,hy⟩:∃y,b[k]?=some y:=⟨_,AT2 hkl⟩;have w1:IntKind.i64.wrap ((k:Int)+1)=k+1:=AJ;obtain⟨x1,x2⟩:=x;obtain⟨y1,y2⟩:=y;rw[if_pos (by omega),AD];simp only[AA,zO];simp;simp only[AW,zN];simp[hx,hy,BA,V.eqL,V.eq1];by_cases e1:x1=y1
   ·by_cases e2:x2=y2
    ·subst e1;subst e2;simp[AD,AA,zM,w1,hkl];intro j hj;by_cases hj2:j <k
     ·exact hI j hj2
     ·have:j=k:=by omega
      subst this;rw[hx,hy]
    ·have hne:a≠b:=by
      intro h;subst h;rw[hx]at hy;simp at hy;exact e2 hy.2
     simp[e1,e2,hne,AB,AA,YZ,AF,Wh]
   ·have hne:a≠b:=by
     intro h;subst h;rw[hx]at hy;simp at hy;exact e1 hy.1
    simp[e1,hne,AB,AA,YZ,AF,Wh]
  ·have hk2:k=b.length:=by omega
   subst hk2;have he:a=b:=by
    apply AUj;intro j;by_cases hj:j <b.length
    ·exact hI j hj
    ·rw[AUW (by omega),AUW (by omega)]
   rw[if_neg (by omega),AM];simp[AA,zL,AF,Wh,he]
 ·have hne:a≠b:=λh=>hab (by rw[h]);have hab':¬(a.length:Int)=b.length:=by omega
  simp[hab,hab',hne,AB,AA,zS,AF,Wh]
theorem p92 (a b:List Int) (hl:a.length≤2^40):PX 92 [AL .i64 a,AL .i64 b] [.bool (decide (a=b))]:=by
 refine AK k92 rfl ?_;simp only[c92,AB,AA,AG,AE,zJ,zI,AY,AL];simp;by_cases hab:a.length=b.length
 ·simp[hab,AD,zG];refine Aa b.length (λk s=>s=⟨[(0,.v (.list (a.map (.int .i64)))),(1,.v (.list (b.map (.int .i64)))),(12,.v (.int .i64 b.length)),(13,.v (.int .i64 k))],[]⟩∧∀j <k,a[j]?=b[j]?) ⟨by simp,by omega⟩ ?_;rintro k s hk ⟨rfl,hI⟩;simp only[zK,AB,AA,AG,AE,zF];simp;by_cases hkl:k <b.length
  ·obtain⟨x,hx⟩:∃x,a[k]?=some x:=⟨_,AT2 (by omega)⟩;obtain⟨y,hy⟩:∃y,b[k]?=some y:=⟨_,AT2 hkl⟩;have w1:IntKind.i64.wrap ((k:Int)+1)=k+1:=AJ;rw[if_pos (by omega),AD];simp only[AA,zE];simp;simp only[AW,zC];simp[hx,hy];by_cases e1:x=y
   ·subst e1;simp[AD,AA,zA,w1,hkl];intro j hj;by_cases hj2:j <k
    ·exact hI j hj2
    ·have:j=k:=by omega
     subst this;rw[hx,hy]
   ·have hne:a≠b:=by
     intro h;subst h;rw[hx]at hy;simp at hy;exact e1 hy
    simp[e1,hne,AB,AA,zB,AF,YY]
  ·have hk2:k=b.length:=by omega
   subst hk2;have he:a=b:=by
    apply AUj;intro j;by_cases hj:j <b.length
    ·exact hI j hj
    ·rw[AUW (by omega),AUW (by omega)]
   rw[if_neg (by omega),AM];simp[AA,y8,AF,YY,he]
 ·have hne:a≠b:=λh=>hab (by rw[h]);have hab':¬(a.length:Int)=b.length:=by omega
  simp[hab,hab',hne,AB,AA,zH,AF,YY]
theorem AQh (o:Own) (pa:Int) (h:List Row) (q:Nat) (ds:List D) (hq:h[q]?=some (.cells ds)) (hd:ds[2]?=some (.v (.int .i64 pa))) (hl:Low h):FX 184 [.v o.V,.ref q 0] h [.v (.bool (o.party==pa))] h:=by
 refine Ai AS7 rfl (AT6 _) hl (by simp[D.lt]) ?_;have hq':=λZ=>AO Z hq;have hlen:2 <ds.length:=(AT4.1 hd).1;have hlen3:3≤ds.length:=hlen;have hd2:ds[2]'hlen= .v (.int .i64 pa):=(AT4.1 hd).2;simp[AOL,awp,pA,o9,ADM,AS,Own.V,hq',hd,hd2,hlen,hlen3]
def AL6:=[xw 8 false]
def AL5:=[x0 20 9,xm 9 20]
def AL3:=[xm 22 9,xn 23 0,x1 24 10 23,x1 25 14 24,x2 26 13 22 25,xn 21 26,xe 27 21 0,xe 28 21 1,xm 10 27,xm 11 28]
def ALz:=[xm 29 10,xp 30 (.eqP false (xt 29) (.c (.v .nilp))),xm 31 30,xF 31 (xm 32 11),xF 31 (xC 33 .neq 32 0),xO 34 31 33]
def ATk:=[xw 8 false]
def ALy:=[xm 35 10,x1 36 17 35,xp 37 (.build zl4 [(5,1,xt 36)]),xc 38 39 [xj 3,xt 37],xo (.alloc 12 zl4),xs 12 38 8]
def ALx:=[xn 39 1,xc 40 21 [xt 39,xi 6,xi 3],xo (.alloc 13 zl17),xs 13 40 3]
def ALw:=[xv 14 1]
def Yt:=[xm 41 14,xC 42 .lss 41 4]
def T6:=[xm 46 10,xm 47 14,xm 48 2,xc 49 11 [xt 48,xi 5],xb 50 .add (xi 1) (xt 49),xm 51 2,xc 52 11 [xt 51,xi 60],xb 53 .add (xi 36000) (xt 52),xo (.bsl 54 3 1 [xi 0,xi 0,xt 50,xt 53]),xm 55 14,xI 56 54 55 1,xl 57 56 1,xL 58 13 3,xq 59 27 [xt 46,xt 47,xt 57,xt 58],xn 45 59,xe 60 45 0,xe 61 45 1,xo (.alloc 15 zl3),xs 15 60 13,xm 16 61]
def Y5:=[xm 62 16,xC 63 .neq 62 0]
def AL4:=[xw 8 false]
def T5:=[xL 64 15 13,xo (.alloc 17 zl3),xs 17 64 13]
def T4:=[xL 65 15 13,xo (.alloc 18 zl3),xs 18 65 13]
def T3:=[xm 66 14,xC 67 .eql 66 2]
def Y4:=[xo (.bsl 68 3 1 []),xa 69 15 9 1,xl 70 69 1,xo (.app 71 (xu 68) (xt 70) 3 1 8),xm 72 3,xo (.bsl 73 3 1 [xt 72]),xo (.app 74 (xu 71) (xt 73) 3 1 8),xa 75 17 9 1,xo (.store (xt 75) (xu 74) 1)]
def Y3:=[xa 76 15 9 1,xl 77 76 1,xa 78 15 9 1,xl 79 78 1,xA 80 79,xC 81 .sub 80 1,xp 82 (.minmax true (xi 0) (xt 81)),xp 83 (.slc (xt 77) none (some (xt 82)) 1),xa 84 18 9 1,xo (.store (xt 84) (xu 83) 1)]
def Y2:=[xo (.bsl 85 76 2 []),xa 86 15 8 1,xl 87 86 1,xo (.app 88 (xu 85) (xt 87) 76 2 16),xm 89 3,xp 90 (.build zl7 [(0,1,xi 7),(1,1,xt 89)]),xo (.bsl 91 76 2 [xt 90]),xo (.app 92 (xu 88) (xt 91) 76 2 16),xa 93 17 8 1,xo (.store (xt 93) (xu 92) 1)]
def Y1:=[xa 94 15 8 1,xl 95 94 1,xa 96 15 8 1,xl 97 96 1,xA 98 97,xC 99 .sub 98 1,xp 100 (.minmax true (xi 0) (xt 99)),xp 101 (.slc (xt 95) none (some (xt 100)) 2),xa 102 18 8 1,xo (.store (xt 102) (xu 101) 1)]
def Y0:=[xm 103 9,xc 104 40 [xj 3],xL 105 12 8,xL 106 15 13,xq 107 34 [xt 103,xt 104,xt 105,xt 106],xC 108 .neq 107 0,xm 109 108,xF 109 (xm 110 9),xF 109 (xc 111 40 [xj 3]),xF 109 (xL 112 12 8),xF 109 (xL 113 17 13),xF 109 (xq 114 34 [xt 110,xt 111,xt 112,xt 113]),xF 109 (xC 115 .neq 114 10),xO 116 109 115]
def AL2:=[xw 8 false]
def Yz:=[xa 117 15 9 1,xl 118 117 1,xA 119 118,xa 120 15 8 1,xl 121 120 1,xA 122 121,xB 123 .add 119 122,xC 124 .gtr 123 0,xm 125 124,xH 125 (xm 126 9),xH 125 (xc 127 40 [xj 3]),xH 125 (xL 128 12 8),xH 125 (xL 129 18 13),xH 125 (xq 130 34 [xt 126,xt 127,xt 128,xt 129]),xH 125 (xC 131 .neq 130 10),xN 132 125 131]
def AL1:=[xw 8 false]
def Yy:=[xa 133 15 8 1,xl 134 133 1,xA 135 134,xC 136 .gtr 135 1]
def Yx:=[xL 137 15 13,xo (.alloc 19 zl3),xs 19 137 13]
def Yw:=[xo (.bsl 138 76 2 []),xa 139 15 8 1,xl 140 139 1,xo (.appR 141 (xt 138) (xt 140) 76 2 16),xa 142 19 8 1,xo (.store (xt 142) (xu 141) 1)]
def Yv:=[xa 143 19 8 1,xl 144 143 1,xa 145 19 8 1,xl 146 145 1,xa 147 19 8 1,xl 148 147 1,xp 149 (.iaddr (xt 148) (xi 1) 2),xL 150 149 2,xa 151 19 8 1,xl 152 151 1,xp 153 (.iaddr (xt 152) (xi 0) 2),xL 154 153 2,xp 155 (.iaddr (xt 144) (xi 0) 2),xs 155 150 2,xp 156 (.iaddr (xt 146) (xi 1) 2),xs 156 154 2]
def Yu:=[xm 157 9,xc 158 40 [xj 3],xL 159 12 8,xL 160 19 13,xq 161 34 [xt 157,xt 158,xt 159,xt 160],xC 162 .neq 161 10]
def AL0:=[xw 8 false]
def Ys:=xV 43 14 44
def Oz:AC:=.seq (xS Yt [2,3,9,10,12,13,14,42] (xD 42 0)) (.seq (.block 1 (.seq (.regA T6 [2,3,9,10,12,13,14,15,16] (xK [[],[],[],[2],[3],[],[3,5],[6],[4,7],[],[8,9],[10],[],[0,1,11,12],[13],[14],[14],[],[15,17],[16,18]]) (.take 0 (.take 1 (.take 2 (.take 3 (.take 4 (.take 5 (.take 6 (.take 7 (.take 8 (.take 9 (.take 10 (.take 11 (.take 12 (.pick (.alt 13 (.take 14 (.take 15 (.take 16 (.take 17 tq150)))) (.alt 17 (.take 13 (.take 14 (.take 15 (.take 16 tq150)))) .none))))))))))))))))) (xQ Y5 [2,3,9,10,12,13,14,15,63] 63 (xE AL4 [8]) (xS T5 [2,3,9,10,12,13,14,15,17] (xS T4 [2,3,9,10,12,13,14,15,17,18] (.seq (xS T3 [2,3,9,10,12,13,14,15,17,18,67] (.cond (xt 67) (xS Y4 [2,3,9,10,12,13,14,15,17,18] (.reg Y3 [2,3,9,10,12,13,14,15,17,18])) (xS Y2 [2,3,9,10,12,13,14,15,17,18] (.reg Y1 [2,3,9,10,12,13,14,15,17,18])))) (.seq (.seq (.regD Y0 [2,3,9,10,12,13,14,15,18,116] (xK [[],[],[],[],[0,1,2,3],[4],[5],[6],[6],[6],[6],[7,8,9,10],[11],[12]])) (.cond (xt 116) (xE AL2 [8]) .skip)) (.seq (.seq (.regD Yz [2,3,9,10,12,13,14,15,132] (xK [[],[0],[1],[],[3],[4],[2,5],[6],[7],[8],[8],[8],[8],[9,10,11,12],[13],[14]])) (.cond (xt 132) (xE AL1 [8]) .skip)) (xS Yy [2,3,9,10,12,13,14,15,136] (.cond (xt 136) (xS Yx [2,3,9,10,12,13,14,15,19] (xS Yw [2,3,9,10,12,13,14,19] (.seq (.regA Yv [2,3,9,10,12,13,14,19] (xK [[],[0],[],[2],[],[4],[5],[6],[],[8],[9],[10],[1,7,11],[12],[3,13],[14]]) (.take 0 (.take 1 (.take 2 (.take 4 (.take 5 (.take 6 (.take 7 (.take 8 (.take 9 (.take 10 (.take 11 (.take 12 (.pick (.alt 3 tq6 (.alt 13 (.take 3 tq5) .none)))))))))))))))) (.seq (.regD Yu [2,3,9,10,12,13,14,162] (xK [[],[],[],[],[0,1,2,3],[4]])) (.cond (xt 162) (xE AL0 [8]) .skip))))) .skip)))))))))) (.reg Ys [2,3,9,10,12,13,14]))
def zo:=[x0 163 20,xm 8 163]
def c7:AC:=xS AL6 [0,1,2,3] (xS AL5 [0,1,2,3,9] (xS AL3 [1,2,3,9,10,11] (xQ ALz [1,2,3,9,10,34] 34 (xE ATk [8]) (xS ALy [1,2,3,9,10,12] (xS ALx [2,3,9,10,12,13] (.seq (xS ALw [2,3,9,10,12,13,14] (.block 0 (.loop Oz))) (xE zo [8])))))))
def c7R:List AR:=[.t 8]
theorem k7:AU 7 4 c7 c7R:=by kernel_rfl
def Ub:=[xx 7 3,xo (.alloc 8 zl3),xv 9 0]
def Ua:=[xm 10 1]
def UZ:=[xC 12 .eql 10 0,xm 11 12]
def ANN:=[xm 13 0,xm 14 2,x2 15 59 13 14,xe 16 15 0,xe 17 15 1,xs 8 16 13,xm 9 17]
def UY:=[xC 19 .eql 10 1,xm 18 19]
def ACb:=[xm 20 0,xL 21 7 3,x2 22 22 20 21,xe 23 22 0,xe 24 22 1,xs 8 23 13,xm 9 24]
def iC:=[xC 26 .eql 10 2,xm 25 26]
def ACa:=[xm 27 0,xm 28 2,x2 29 72 27 28,xe 30 29 0,xe 31 29 1,xs 8 30 13,xm 9 31]
def ACZ:=[xm 32 0,xL 33 7 3,xm 34 2,x3 35 23 32 33 34,xe 36 35 0,xe 37 35 1,xs 8 36 13,xm 9 37]
def c27:AC:=xS Ub [0,1,2,7,8] (.seq (xS Ua [0,2,7,8,10] (.block 0 (xS UZ [0,2,7,8,10,11] (.cond (xt 11) (xE ANN [8,9]) (xS UY [0,2,7,8,10,18] (.cond (xt 18) (xE ACb [8,9]) (xS iC [0,2,7,8,25] (.cond (xt 25) (xE ACa [8,9]) .skip)))))))) (xE ACZ [8,9]))
def vu:List AR:=[.c 8 13 true,.t 9]
theorem k27:AU 27 4 c27 vu:=by kernel_rfl
def zr:=[xo (.alloc 4 zl3),xv 5 0]
def zq:=[xm 6 1,xC 7 .lss 6 1,xm 8 7,xF 8 (xm 9 1),xF 8 (xC 10 .gtr 9 4095),xO 11 8 10]
def AL7:=[xp 12 (.build zl11 []),xs 4 12 13,xv 5 1]
def zp:=[xm 13 0,xm 14 1,xp 15 (.build zl11 [(0,1,xi 2),(2,1,xt 14)]),xo (.callN (some 16) (xf 61) [xt 13,xt 15]),xe 17 16 0,xe 18 16 1,xs 4 17 13,xm 5 18]
def c72:AC:=xS zr [0,1,4] (xQ zq [0,1,4,11] 11 (xE AL7 [4,5]) (xE zp [4,5]))
def AL8:List AR:=[.c 4 13 true,.t 5]
theorem k72:AU 72 2 c72 AL8:=by kernel_rfl
def D7 (pa:Int) (rs:List Rgt):List Int:=(rs.filter λr=>r.owners.any λo=>o.party==pa).map Rgt.file
theorem Hq (n:Nat) (kind pa day:Int) (t:Th) (rs:List Rgt) (cl:List (Int×Int)) (fs:List Int):Row.low n (.cells ((Bx kind pa day t rs cl fs).map .v))=true:=by
 simp only[Row.low];exact G3 _
theorem ARL (h:List Row) (hl:Low h) (pa day:Int) (t:Th) (rs:List Rgt) (hn:rs.length≤2^20) (ho:∀r∈rs,r.owners.length <2^40) (cl:List (Int×Int)) (fs:List Int) (Q:AExit→St→Prop)
  (hQ:∀e J,AH e 7= .own 3 1 ((D7 pa rs).map (.int .i64))→Q (.exit 1) ⟨e,h++ .cells ((Bx 2 pa day t rs cl fs).map .v)::J⟩):
  awp Tryz.prog GLx (.loop Yk) Q ⟨[(3,.ref h.length 0),(7,.own 3 1 []),(22,.v (.list (rs.map Rgt.V))),(23,.v (.int .i64 rs.length)),(24,.v (.int .i64 (0:Nat)))],h++[.cells ((Bx 2 pa day t rs cl fs).map .v)]⟩:=by
 refine Aa rs.length (λk s=>∃J,Lows J∧s=⟨[(3,.ref h.length 0),(7,.own 3 1 ((D7 pa (rs.take k)).map (.int .i64))),(22,.v (.list (rs.map Rgt.V))),(23,.v (.int .i64 rs.length)),(24,.v (.int .i64 k))],h++ .cells ((Bx 2 pa day t rs cl fs).map .v)::J⟩)
  ⟨[],Lows.nil,by simp[D7]⟩ ?_
 rintro k s hk ⟨J,hJ,rfl⟩;simp only[Yk,AB,AA,AG,AE,zZ];simp;by_cases hkl:k <rs.length
 ·obtain⟨r,hr⟩:∃r,rs[k]?=some r:=⟨_,AT2 hkl⟩;have w1:IntKind.i64.wrap ((k:Int)+1)=k+1:=AJ;have htk2:rs.take (k+1)=rs.take k++[r]:=by rw[AUP,hr];rfl
  have hfl:D7 pa (rs.take (k+1))=D7 pa (rs.take k)++if (r.owners.any λo=>o.party==pa) then [r.file] else []:=by
   rw[htk2];unfold D7;rw[AVN,AUZ];cases h2:r.owners.any (λo=>o.party==pa)<;>simp[h2]
  have hlr:∀n,Row.low n (.cells (r.cs.map .v))=true:=λn=>by simp only[Row.low];exact G3 _
  have hlen:(D7 pa (rs.take k)).length≤k:=by
   unfold D7;have:=AUn (λr=>r.owners.any λo=>o.party==pa) (rs.take k);rw[AUT]at this;rw[AUM];omega
  have hLow:Low (h++(.cells ((Bx 2 pa day t rs cl fs).map .v)::(J++[.cells (r.cs.map .v)]))):=hl.lows (by
   intro row hrow n;rcases AT7.1 hrow with rfl|hrow
   ·exact Hq n _ _ _ _ _ _ _
   ·exact hJ.app hlr row hrow n)
  have hidx:IdxR Tryz.prog GLx 184 [.ref h.length 0] (r.owners.map Own.V) (h++(.cells ((Bx 2 pa day t rs cl fs).map .v)::(J++[.cells (r.cs.map .v)]))) (r.owners.findIdx? λo=>o.party==pa) (h++(.cells ((Bx 2 pa day t rs cl fs).map .v)::(J++[.cells (r.cs.map .v)]))):=
   IdxR.map λo _=>AQh o pa _ h.length ((Bx 2 pa day t rs cl fs).map .v) (by simp) rfl hLow
  have hcf:=AJo (.func 184 [.ref h.length 0]) 184 _ (FV.r 184 h.length 0 []) (r.owners.map Own.V) (by have:=ho r (AT3 hr);simpa using this) (by
   intro x hx;obtain⟨y,_,rfl⟩:=AT9.1 hx;exact⟨_,rfl,rfl⟩) hidx
  rw[CU]at hcf;rw[hfl];generalize D7 pa (rs.take k)=L at*;generalize r.owners.any (λo=>o.party==pa)=B at*;have hroom:Ae (L.length+1) 8=true:=by simp[Ae];omega
  clear hidx;obtain⟨file,state,force,claims,dates,bad,owners,lics⟩:=r;simp only[Bx,Rgt.cs,AL]at*;simp at hcf;rw[if_pos (by omega),AD];simp only[AB,AA,zY];simp[hr,Rgt.V,Rgt.cs,AL,AN];simp only[AA,zX];simp;refine⟨_,_,hcf,?_⟩;simp;have hJ2:=hJ.app hlr;cases B with
  |false=>
   simp[AD,AA,Ya,w1,hkl];exact hJ2
  |true=>
   simp[AA,zW,hroom,Ya,w1,hkl];exact hJ2
 ·have hk2:k=rs.length:=by omega
  subst hk2;rw[if_neg (by omega),AM,AUb];exact hQ _ _ rfl
theorem AJM (h:List Row) (hl:Low h) (x:Nat) (pa day:Int) (t:Th) (rs:List Rgt) (hn:rs.length≤2^20) (ho:∀r∈rs,r.owners.length <2^40) (cl:List (Int×Int)) (fs:List Int):
  FX 90 [.ref x 0,.v (.agg (Bx 2 pa day t rs cl fs))] h [.own 76 2 [],.own 3 1 ((D7 pa rs).map (.int .i64)),.v (.int .i64 0)] h:=by
 refine Ai k90 rfl (AT6 _) hl (by simp[D.lt]) ?_;have hloop:=ARL h hl pa day t rs hn ho cl fs;simp only[Bx,AL]at*;simp at hloop;simp only[c90,AB,AA,AG,AE,Ts,Tr,AS];simp;simp[Tq,AB,AA,AG,zc,za];refine hloop _ ?_;intro e J he;simp[AB,AA,Yh,he,AF,Yl]
theorem AJN (kind pa day:Int) (hk:kind≠0) (t:Th) (rs:List Rgt) (cl:List (Int×Int)) (fs:List Int):PX 88 [.agg (Bx kind pa day t rs cl fs)] [.int .i64 0,.int .i64 4095]:=by
 refine AK k88 rfl ?_;simp only[c88,AB,AA,AE,Yq,Yp,AY,Bx];simp[AL,hk,AD,AA,Yo,AF,vP]
def Xq (pa:Int) (rs:List Rgt):Row:=
 .cells [.v (.int .i64 2),.v (.int .i64 0),.v (.int .i64 pa),.v (.int .i64 0),.own 3 1 [],.own 171 3 [],.own 58 3 [],.own 74 8 (rs.map Rgt.V),.own 76 2 [],.own 3 1 [],.own 47 1 [],.own 47 1 [],.own 5 1 []]
theorem ARP (h:List Row) (pa:Int) (g:Nat) (ps:List V) (rs:List Rgt) (hn:rs.length≤2^20) (hps:ps=rs.map λr=>V.agg [.int .i64 r.file,AL .u8 (Az r)])
  (KE:∀r∈rs,PX 113 [AL .u8 (Az r)] [r.V,.int .i64 0]) (R4 R9:Row) (Q:AExit→St→Prop)
  (hQ:∀e J,Lows J→AH e 0= .ref g 0→AH e 3= .ref h.length 0→AH e 4= .ref (h.length+1) 0→AH e 9= .ref (h.length+2) 0→Q (.exit 0) ⟨e,h++(Xq pa rs::R4::R9::J)⟩):
  awp Tryz.prog GLx (.loop O0) Q ⟨[(0,.ref g 0),(3,.ref h.length 0),(4,.ref (h.length+1) 0),(9,.ref (h.length+2) 0),(35,.v (.list ps)),(36,.v (.int .i64 rs.length)),(37,.v (.int .i64 (0:Nat)))],h++(Xq pa []::R4::R9::[])⟩:=by
 subst hps;refine Aa rs.length (λk s=>∃J,Lows J∧s=⟨[(0,.ref g 0),(3,.ref h.length 0),(4,.ref (h.length+1) 0),(9,.ref (h.length+2) 0),(35,.v (.list (rs.map λr=>V.agg [.int .i64 r.file,AL .u8 (Az r)]))),(36,.v (.int .i64 rs.length)),(37,.v (.int .i64 k))],
   h++(Xq pa (rs.take k)::R4::R9::J)⟩) ⟨[],Lows.nil,by simp⟩ ?_
 rintro k s hk ⟨J,hJ,rfl⟩;simp only[O0,AB,AA,AG,AE,Zh];simp;by_cases hkl:k <rs.length
 ·obtain⟨r,hr⟩:∃r,rs[k]?=some r:=⟨_,AT2 hkl⟩;have w1:IntKind.i64.wrap ((k:Int)+1)=k+1:=AJ;have htk2:rs.take (k+1)=rs.take k++[r]:=by rw[AUP,hr];rfl
  have q1:=(KE r (AT3 hr)).fsp;have hl1:∀n,Row.low n (.cells [.v (.int .i64 r.file),.v (AL .u8 (Az r))])=true:=λn=>by simp[Row.low,D.lts,D.lt]
  have hl2:∀n,Row.low n (.cells (r.cs.map .v))=true:=λn=>by simp only[Row.low];exact G3 _
  have hJ2:=(hJ.app hl1).app hl2;rw[htk2];have hm:min k rs.length=k:=by omega
  have hroom:Ae (k+1) 144=true:=by simp[Ae];omega
  obtain⟨file,state,force,claims,dates,bad,owners,lics⟩:=r;generalize hE:Az ⟨file,state,force,claims,dates,bad,owners,lics⟩=E at*;simp only[Rgt.V,Rgt.cs,Xq,AL]at*;simp at q1;rw[if_pos (by omega),AD];simp only[AA,Zg];simp[hr,AN,hE,AL];simp only[AA,Zf];simp;refine⟨_,_,q1 _,?_⟩;simp[AN];simp only[AA,Ze];simp[hm,hroom,QG,w1,hkl];simp at hJ2;exact⟨hJ2,by simp[Rgt.V,Rgt.cs,AL]⟩
 ·have hk2:k=rs.length:=by omega
  subst hk2;rw[if_neg (by omega),AM,AUb];exact hQ _ _ hJ rfl rfl rfl rfl
theorem APN (h:List Row) (hl:Low h) (pa:Int) (g tr qm x:Nat) (hg:h[g]?=some (.cells [.ref x 0,.mref qm,.ref tr 0])) (rs:List Rgt) (hn:rs.length≤2^20) (fs:List Int)
  (Pe:∀Z,Lows Z→FX 137 [.ref tr 0,.v (.int .i64 0),.v (.int .i64 4095)] (h++Z) [.own 193 2 (rs.map λr=>V.agg [.int .i64 r.file,AL .u8 (Az r)]),.v (.agg [.list [],.list [],.list []]),.v (.int .i64 0)] (h++Z))
  (KE:∀r∈rs,PX 113 [AL .u8 (Az r)] [r.V,.int .i64 0])
  (q90:∀Z,Lows Z→FX 90 [.ref x 0,.v (.agg (Bx 2 pa 0 (.mk [] [] []) rs [] []))] (h++Z) [.own 76 2 [],.own 3 1 (fs.map (.int .i64)),.v (.int .i64 0)] (h++Z)):
  FX 61 [.ref g 0,.agg [.v (.int .i64 2),.v (.int .i64 0),.v (.int .i64 pa),.v (.int .i64 0),.nil 3 1,.nil 171 3,.nil 58 3,.nil 74 8,.nil 76 2,.nil 3 1,.nil 47 1,.nil 47 1,.nil 5 1]] h
   [.v (.agg (Bx 2 pa 0 (.mk [] [] []) rs [] fs)),.v (.int .i64 0)] h:=by
 refine Ai k61 rfl (AT6 _) hl (by simp[D.lt]) ?_;have q88:=(AJN 2 pa 0 (by decide) (.mk [] [] []) [] [] []).fsp;have hg':=λZ=>AO Z hg;have hloop:=λR4 R9 Q=>ARP h pa g _ rs hn rfl KE R4 R9 Q;simp only[Bx,Xq,Th.cs,Th.vs,Th.ps,AL]at*;simp at q88;simp only[c61,AB,AA,AG,AE,Zm,AS];simp;simp only[AA,Zl];simp;refine⟨_,_,q88 _,?_⟩;simp;simp only[AA,Zk];simp[hg'];have hq:=Pe [.cells [.v (.int .i64 2),.v (.int .i64 0),.v (.int .i64 pa),.v (.int .i64 0),.own 3 1 [],.own 171 3 [],.own 58 3 [],.own 74 8 [],.own 76 2 [],.own 3 1 [],.own 47 1 [],.own 47 1 [],.own 5 1 []],
   .cells [.v (.int .i64 0),.v (.int .i64 0),.v (.int .i64 0),.v (.int .i64 0),.own 3 1 [],.own 171 3 [],.own 58 3 [],.own 74 8 [],.own 76 2 [],.own 3 1 [],.own 47 1 [],.own 47 1 [],.own 5 1 []]] (by
  intro row hrow n;simp only[AT7,AUE,or_false]at hrow;rcases hrow with rfl|rfl<;>rfl)
 refine⟨_,_,hq,?_⟩;simp[AN];simp[Zj,AD,Zi];simp at hloop;refine hloop _ _ _ ?_;intro e J hJ g0 g3 g4 g9;simp only[AA,QF];simp[g0,g3,g4,g9,AN];simp only[AW,QE];simp[hg'];have hq9:=q90 (.cells [.v (.int .i64 2),.v (.int .i64 0),.v (.int .i64 pa),.v (.int .i64 0),.own 3 1 [],.own 171 3 [],.own 58 3 [],.own 74 8 (rs.map Rgt.V),.own 76 2 [],.own 3 1 [],.v (.list []),.v (.list []),.v (.list [])]::
   .cells [.v (.int .i64 0),.v (.int .i64 0),.v (.int .i64 0),.v (.int .i64 0),.own 3 1 [],.own 171 3 [],.own 58 3 [],.own 74 8 [],.own 76 2 [],.own 3 1 [],.own 47 1 [],.own 47 1 [],.own 5 1 []]:: .cells [.v (.list []),.v (.list []),.v (.list [])]::J) (by
  intro row hrow n;simp only[AT7]at hrow;rcases hrow with rfl|rfl|rfl|hrow
  ·rfl
  ·rfl
  ·rfl
  ·exact hJ row hrow n)
 simp at hq9;refine⟨_,_,hq9,?_⟩;simp[AN,Mf,AD,AA,Me,AF,Zn,D.one?]
theorem p72 (h:List Row) (hl:Low h) (g:Nat) (pa:Int) (hp:1≤pa∧pa≤4095) (rs:List Rgt) (fs:List Int)
  (q61:∀Z,Lows Z→FX 61 [.ref g 0,.agg [.v (.int .i64 2),.v (.int .i64 0),.v (.int .i64 pa),.v (.int .i64 0),.nil 3 1,.nil 171 3,.nil 58 3,.nil 74 8,.nil 76 2,.nil 3 1,.nil 47 1,.nil 47 1,.nil 5 1]] (h++Z) [.v (.agg (Bx 2 pa 0 (.mk [] [] []) rs [] fs)),.v (.int .i64 0)] (h++Z)):
  FX 72 [.ref g 0,.v (.int .i64 pa)] h [.v (.agg (Bx 2 pa 0 (.mk [] [] []) rs [] fs)),.v (.int .i64 0)] h:=by
 refine Ai k72 rfl (AT6 _) hl (by simp[D.lt]) ?_;have h1:¬pa <1:=by omega
 have h2:¬4095 <pa:=by omega
 have hq:=q61 [.cells [.v (.int .i64 0),.v (.int .i64 0),.v (.int .i64 0),.v (.int .i64 0),.own 3 1 [],.own 171 3 [],.own 58 3 [],.own 74 8 [],.own 76 2 [],.own 3 1 [],.own 47 1 [],.own 47 1 [],.own 5 1 []]] (by
  intro row hrow n;rw[AUC.1 hrow];rfl)
 simp only[Bx,AL,Th.cs,Th.vs,Th.ps]at*;simp at hq;simp only[c72,AB,AA,AE,zr,zq,AS];simp[h1,h2,AD];simp only[AA,zp];simp[AN];refine⟨_,_,hq,?_⟩;simp[AN,AF,AL8,D.one?]
theorem l34 (h:List Row) (x:D) (rs:List Rgt) (hn:rs.length≤2^20) (q51:∀r∈rs,PX 51 [r.V] [AL .u8 (Az r),.int .i64 0]) (A B:Row) (Q:AExit→St→Prop)
  (hQ:∀e J,Lows J→AH e 0=x→AH e 6= .ref h.length 0→AH e 7= .ref (h.length+1) 0→AH e 11= .own 193 2 (rs.map prR)→Q (.exit 0) ⟨e,h++(A::B::J)⟩):
  awp Tryz.prog GLx (.loop ca) Q ⟨[(0,x),(6,.ref h.length 0),(7,.ref (h.length+1) 0),(11,.own 193 2 []),(36,.v (.list (rs.map Rgt.V))),(37,.v (.int .i64 rs.length)),(38,.v (.int .i64 (0:Nat)))],h++(A::B::[])⟩:=by
 refine Aa rs.length (λk s=>∃J,Lows J∧s=⟨[(0,x),(6,.ref h.length 0),(7,.ref (h.length+1) 0),(11,.own 193 2 ((rs.take k).map prR)),(36,.v (.list (rs.map Rgt.V))),(37,.v (.int .i64 rs.length)),(38,.v (.int .i64 k))],h++(A::B::J)⟩)
  ⟨[],Lows.nil,by simp⟩ ?_
 rintro k s hk ⟨J,hJ,rfl⟩;simp only[ca,AB,AA,AG,AE,cY];simp;by_cases hkl:k <rs.length
 ·obtain⟨r,hr⟩:∃r,rs[k]?=some r:=⟨_,AT2 hkl⟩;have w1:IntKind.i64.wrap ((k:Int)+1)=k+1:=AJ;have htk2:(rs.map prR).take (k+1)=(rs.map prR).take k++[prR r]:=by rw[AUP,AUG,hr];rfl
  have hlr:∀n,Row.low n (.cells (r.cs.map .v))=true:=λn=>by simp only[Row.low];exact G3 _
  have q1:=(q51 r (AT3 hr)).fsp;have hJ2:=hJ.app hlr;have hm:min k rs.length=k:=by omega
  have hroom:Ae (k+1) 32=true:=by simp[Ae];omega
  have hpr:prR r= .agg [.int .i64 r.file,AL .u8 (Az r)]:=rfl;rw[htk2,hpr];obtain⟨file,state,force,claims,dates,bad,owners,lics⟩:=r;generalize Az ⟨file,state,force,claims,dates,bad,owners,lics⟩=E at*;simp only[Rgt.V,Rgt.cs,AL]at*;simp at q1;rw[if_pos (by omega),AD];simp only[AA,cX];simp[hr,Rgt.V,Rgt.cs,AL,AN];simp only[AA,cW];simp;refine⟨_,_,q1 _,?_⟩;simp;simp[cV,AD];simp only[AA,cU];simp[hm,hroom,AN];simp[AA,cT,w1,hkl];exact hJ2
 ·have hk2:k=rs.length:=by omega
  subst hk2;rw[if_neg (by omega),AM];exact hQ _ _ hJ rfl rfl rfl (by rw[AUc (by simp)];rfl)
set_option maxHeartbeats 1000000 in
theorem p34 (h:List Row) (hl:Low h) (x:Nat) (k m:Int) (kind pa day:Int) (hk:kind≠0) (t:Th) (rs:List Rgt) (cl c2:List (Int×Int)) (fs f2:List Int) (hpar:yC kind pa day t cl fs) (hn:rs.length≤2^20)
  (q51:∀r∈rs,PX 51 [r.V] [AL .u8 (Az r),.int .i64 0])
  (q89:∀Z,Lows Z→FX 89 [.v (.int .u64 m),.v (.int .i64 0),.v (.int .i64 4095),.v (.list (rs.map prR)),.v (.agg [.list [],.list [],.list []])] (h++Z) [.v (.int .i64 0)] (h++Z))
  (d4:D) (hd4:d4= .v (.list (c2.map BA))∨d4= .own 76 2 (c2.map BA)) (hc2:c2.length≤2^40) (hf2:f2.length≤2^40)
  (q90:∀Z,Lows Z→FX 90 [.ref x 0,.v (.agg (Bx kind pa day t rs cl fs))] (h++Z) [d4,.own 3 1 (f2.map (.int .i64)),.v (.int .i64 0)] (h++Z)):
  FX 34 [.ref x 0,.v (.int .u64 k),.v (hdV m (EL k m)),.v (.agg (Bx kind pa day t rs cl fs))] h [.v (.int .i64 (if c2=cl∧f2=fs then 0 else 10))] h:=by
 refine Ai k34 rfl (AT6 _) hl (by simp[D.lt]) ?_;have q1:=(p86 k m).fsp;have q2:=(p87 kind pa day t rs cl fs hpar).fsp;have q3:=(AJN kind pa day hk t rs cl fs).fsp;have q4:=(p91 c2 cl hc2).fsp;have q5:=(p92 f2 fs hf2).fsp;have hloop:=λA B Q=>l34 h (.ref x 0) rs hn q51 A B Q;have hres:(if c2=cl∧f2=fs then (0:Int) else 10)=if (!decide (c2=cl)|| !decide (f2=fs))=true then 10 else 0:=by
  by_cases h1:c2=cl<;>by_cases h2:f2=fs<;>simp[h1,h2]
 rw[hres];generalize decide (c2=cl)=B1 at*;generalize decide (f2=fs)=B2 at*;have lX:∀n,Row.low n (.cells ((Bx kind pa day t rs cl fs).map .v))=true:=λn=>Hq n _ _ _ _ _ _ _;have lH:∀n,Row.low n (.cells ((hdC m (EL k m)).map .v))=true:=λn=>by simp only[Row.low];exact G3 _
 have lZ:∀J,Lows J→Lows (.cells ((hdC m (EL k m)).map .v):: .cells ((Bx kind pa day t rs cl fs).map .v)::J):=λJ hJ row hrow n=>by
  rcases AT7.1 hrow with rfl|hrow
  ·exact lH n
  ·rcases AT7.1 hrow with rfl|hrow
   ·exact lX n
   ·exact hJ row hrow n
 have q89':=λJ hJ=>q89 _ (lZ J hJ);have q90':=λJ hJ=>q90 _ (lZ J hJ);clear q89 q90 lX lH lZ hres hpar;obtain⟨cs,vs,ps⟩:=t;generalize EL k m=sg at*;simp only[Bx,hdV,hdC,Th.cs,Th.vs,Th.ps,AL]at*;simp at q1 q2 q3 q4 q5 q89' q90' hloop;simp only[c34,AB,AA,AG,AE,ACE,ACD,AS];simp[AD];simp only[AA,ACC];simp;refine⟨_,_,q1 _,?_⟩;simp[ACB,AD];simp only[AA,ACA];simp;refine⟨_,_,q2 _,?_⟩;simp[AB9,AD,AB8];simp only[AA,cZ];simp;refine hloop _ _ _ ?_;intro e J hJ g0 g6 g7 g11;simp only[AA,cR];simp[g0,g6,g7,g11];refine⟨_,_,q3 _,?_⟩;simp[g0,g6,g7,g11];simp only[AA,cQ];simp;refine⟨_,_,(q89' J hJ),?_⟩;simp[cP,AD];simp only[AA,cO];simp;have hq9:=q90' J hJ;rcases hd4 with rfl|rfl
 ·refine⟨_,_,hq9,?_⟩;simp[AB,AA,AE,QZ];simp only[AA,QY];simp;refine⟨_,_,q4 _,?_⟩;cases B1 with
  |false=>simp[AB,AA,Ki,AF,Wj]
  |true=>
   simp;refine⟨_,_,q5 _,?_⟩;cases B2<;>simp[AB,AD,AA,Ki,QX,AF,Wj]
 ·refine⟨_,_,hq9,?_⟩;simp[AB,AA,AE,QZ];simp only[AA,QY];simp;refine⟨_,_,q4 _,?_⟩;cases B1 with
  |false=>simp[AB,AA,Ki,AF,Wj]
  |true=>
   simp;refine⟨_,_,q5 _,?_⟩;cases B2<;>simp[AB,AD,AA,Ki,QX,AF,Wj]
section
variable {P:Program} {GL:AX}
theorem FSp.frzA {f:Nat} {args rets:List D} {h h':List Row} {ds cs:List D} {j i r n sz:Nat} {xs:List V} (hj:args[j]?=some (.agg ds)) (hi:ds[i]?=some (.sref r n)) (hr:h[r]?=some (.cells cs))
  (hx:xs.length=n) (hxc:∀x∈xs,x.cells.length=sz) (hvs:D.vs? (cs.take (n*sz))=some (xs.flatMap V.cells)) (hf:FSp P GL f (args.set j (.agg (ds.set i (.v (.list xs))))) (h.set r .dead) rets h'):FSp P GL f args h rets h':=by
 obtain⟨h1,h2⟩:=hf;refine⟨h1,λg w μ us O hinv hgl hall htame=>?_⟩;obtain⟨u,hu,hru⟩:=hall.get hj;obtain⟨vs,rfl,ha,ho,hn⟩:=hru;obtain⟨u2,hu2,hru2⟩:=ha.get hi;obtain⟨b,cap,hb,rfl,hnc⟩:=hru2;obtain⟨g',hinv',hchg,hrv⟩:=hinv.frzRow hr hb hx hxc hvs;have hall':All2 (RepG g' w μ) (args.set j (.agg (ds.set i (.v (.list xs))))) us:=by
  refine⟨by rw[AUt];exact hall.1,λk d v hd hv=>?_⟩;rw[AUe]at hd;by_cases hjk:j=k
  ·subst hjk;rw[if_pos rfl]at hd;split at hd
   ·simp only[AT0]at hd;subst hd;rw[hu]at hv;simp only[AT0]at hv;subst hv;refine⟨vs,rfl,⟨by rw[AUt];exact ha.1,λk x v hk hv=>?_⟩,ho,λd hd v=>?_⟩
    ·rw[AUe]at hk;by_cases hik:i=k
     ·subst hik;rw[if_pos rfl]at hk;split at hk
      ·simp only[AT0]at hk;subst hk;rw[hu2]at hv;simp only[AT0]at hv;subst hv;exact hrv cap hnc
      ·cases hk
     ·rw[if_neg hik]at hk;refine(ha.2 k x v hk hv).chg hchg (AT8 _) λb' hb'=>?_;rw[hn x (AT3 hk) v]at hb';cases hb'
    ·rcases AUv hd with h3|rfl
     ·exact hn d h3 v
     ·rfl
   ·cases hd
  ·rw[if_neg hjk]at hd;refine(hall.2 k d v hd hv).chg hchg (AT8 _) λb' hb'=>?_;rw[htame k d v hd hv]at hb';cases hb'
 have htame':Tame (args.set j (.agg (ds.set i (.v (.list xs))))) us:=λk d v hd hv=>by
  rw[AUe]at hd;by_cases hjk:j=k
  ·subst hjk;rw[if_pos rfl]at hd;split at hd
   ·simp only[AT0]at hd;subst hd;rfl
   ·cases hd
  ·rw[if_neg hjk]at hd;exact htame k d v hd hv
 refine(h2 g' w μ us O hinv' (hgl.mono hchg.le) hall' htame').mono ?_;rintro e w' ⟨v,g2,μ',rfl,hi',hch,hμ⟩;exact⟨v,g2,μ',rfl,hi',(hchg.mono λz (hz:z=b) ho=>hinv.mo b (AT3 hb) (hz▸ho)).trans hch,hμ⟩
theorem FSp.aggA {f:Nat} {args rets:List D} {h h':List Row} {xs:List V} {j:Nat} (hj:args[j]?=some (.agg (xs.map .v))) (hf:FSp P GL f (args.set j (.v (.agg xs))) h rets h'):FSp P GL f args h rets h':=by
 obtain⟨h1,h2⟩:=hf;refine⟨h1,λg w μ us O hinv hgl hall htame=>h2 g w μ us O hinv hgl ?_ ?_⟩
 ·refine⟨by rw[AUt];exact hall.1,λk d v hd hv=>?_⟩;rw[AUe]at hd;by_cases hjk:j=k
  ·subst hjk;rw[if_pos rfl]at hd;split at hd
   ·simp only[AT0]at hd;subst hd;have h3:=hall.2 j _ v hj hv;obtain⟨vs,rfl,ha,ho,_⟩:=h3;exact .agg' ⟨by simpa using ha.1,λi x v hx hv=>ha.2 i (.v x) v (by simp[hx]) hv⟩ ho
   ·cases hd
  ·rw[if_neg hjk]at hd;exact hall.2 k d v hd hv
 ·intro k d v hd hv;rw[AUe]at hd;by_cases hjk:j=k
  ·subst hjk;rw[if_pos rfl]at hd;split at hd
   ·simp only[AT0]at hd;subst hd;rfl
   ·cases hd
  ·rw[if_neg hjk]at hd;exact htame k d v hd hv
end
open Go.Proofs
theorem p27 (h:List Row) (hl:Low h) (g:Nat) (kind n:Int) (t:Th) (X:List V) (hX:X.length=13) (hk:kind=1∨kind=2∨kind=3)
  (q1:kind=1→∀Z,Lows Z→FX 22 [.ref g 0,.v t.V] (h++Z) [.v (.agg X),.v (.int .i64 0)] (h++Z))
  (q2:kind=2→∀Z,Lows Z→FX 72 [.ref g 0,.v (.int .i64 n)] (h++Z) [.v (.agg X),.v (.int .i64 0)] (h++Z))
  (q3:kind=3→∀Z,Lows Z→FX 23 [.ref g 0,.v t.V,.v (.int .i64 n)] (h++Z) [.v (.agg X),.v (.int .i64 0)] (h++Z)):
  FX 27 [.ref g 0,.v (.int .i64 kind),.v (.int .i64 n),.v t.V] h [.v (.agg X),.v (.int .i64 0)] h:=by
 refine Ai k27 rfl (AT6 _) hl (by simp[D.lt]) ?_;have lZ:Lows [.cells t.cells,.cells [.v (.int .i64 0),.v (.int .i64 0),.v (.int .i64 0),.v (.int .i64 0),.own 3 1 [],.own 171 3 [],.own 58 3 [],.own 74 8 [],.own 76 2 [],.own 3 1 [],.own 47 1 [],.own 47 1 [],.own 5 1 []]]:=by
  intro row hrow n;simp only[AT7,AUE,or_false]at hrow;rcases hrow with rfl|rfl
  ·exact GA n t
  ·rfl
 obtain⟨x0,x1,x2,x3,x4,x5,x6,x7,x8,x9,x10,x11,x12,rfl⟩:∃x0 x1 x2 x3 x4 x5 x6 x7 x8 x9 x10 x11 x12,X=[x0,x1,x2,x3,x4,x5,x6,x7,x8,x9,x10,x11,x12]:=by
  match X,hX with
  |[x0,x1,x2,x3,x4,x5,x6,x7,x8,x9,x10,x11,x12],_=>exact⟨_,_,_,_,_,_,_,_,_,_,_,_,_,rfl⟩
 obtain⟨cs,vs,pa⟩:=t;simp only[Th.V_eq,Th.cells,Th.cs,Th.vs,Th.ps,AL]at*;rcases hk with rfl|rfl|rfl
 ·have q:=q1 rfl _ lZ
  try simp at q
  simp only[c27,AB,AA,AG,AE,Ub,AS];simp;simp[Ua,UZ,UY];simp only[AB,AA,ACb];simp;refine⟨_,_,q,?_⟩;simp[AN,AF,vu,D.one?]
 ·have q:=q2 rfl _ lZ
  try simp at q
  simp only[c27,AB,AA,AG,AE,Ub,AS];simp;simp[Ua,UZ,UY,iC];simp only[AB,AA,ACa];simp;refine⟨_,_,q,?_⟩;simp[AN,AF,vu,D.one?]
 ·have q:=q3 rfl _ lZ
  try simp at q
  simp only[c27,AB,AA,AG,AE,Ub,AS];simp;simp[Ua,UZ,UY,iC,AD];simp only[AA,ACZ];simp;refine⟨_,_,q,?_⟩;simp[AN,AF,vu,D.one?]
def AC.l:AC→AC
 | .seq a _=>a
 | .block _ c=>c
 | .cond _ a _=>a
 | .loop c=>c
 |_=> .skip
def AC.r:AC→AC
 | .seq _ b=>b
 | .cond _ _ b=>b
 |_=> .skip
def c7U:AC:=Oz.r.l.l.r.r.r.r.r
def c7V:AC:=c7U.r
def c7W:AC:=c7V.r
def c7T:AC:=c7W.r.l
def Je (kind pa day:Int) (t:Th) (rs:List Rgt) (q n:Nat) (fs:List Int):List D:=
 [.v (.int .i64 kind),.v (.int .i64 0),.v (.int .i64 pa),.v (.int .i64 day),.v (AL .i64 t.cs),.v (.list (t.vs.map Val.V)),.v (.list (t.ps.map Th.V)),.v (.list (rs.map Rgt.V)),.sref q n,.v (AL .i64 fs),.v (.list []),.v (.list []),.v (.list [])]
theorem Lm (cl:List (Int×Int)):(cl.map BA).flatMap V.cells=cl.flatMap λc=>[.int .i64 c.1,.int .i64 c.2]:=by
 induction cl with
 |nil=>rfl
 |cons c cl ih=>simp only[AUD,AUN,ih];rfl
theorem Tp:∀cl:List (Int×Int),(cl.flatMap λc=>([.int .i64 c.1,.int .i64 c.2]:List V)).length=cl.length*2
 |[]=>rfl
 |c::cl=>by simp only[AUN,AT5,AUO,AVA,Tp cl];omega
theorem Wy:∀xs:List V,D.vs? (xs.map .v)=some xs
 |[]=>rfl
 |x::xs=>by
  have:=Wy xs;simp[D.vs?,D.v?,this]
theorem AJH {kind pa day:Int} {t:Th} {rs:List Rgt} {c2:List (Int×Int)} {fs:List Int} {H:List Row} {a0 a1 a2:D} {rets:List D} (k:Nat)
  (hf:FX 34 [a0,a1,a2,.v (.agg (Bx kind pa day t rs c2 fs))] (H++[.cells (Je kind pa day t rs (H.length+1) c2.length fs),.dead]) rets (H++[.cells (Je kind pa day t rs (H.length+1) c2.length fs),.dead])):
  FX 34 [a0,a1,a2,.agg (Je kind pa day t rs (H.length+1) c2.length fs)] (H++[.cells (Je kind pa day t rs (H.length+1) c2.length fs),.cells ((c2.flatMap λc=>[.int .i64 c.1,.int .i64 c.2]).map .v++List.replicate k .any)]) rets
   (H++[.cells (Je kind pa day t rs (H.length+1) c2.length fs),.dead]):=by
 have hlen:((c2.flatMap λc=>([.int .i64 c.1,.int .i64 c.2]:List V)).map D.v).length=c2.length*2:=by rw[AUM,Tp]
 refine FSp.frzA (j:=3) (i:=8) (r:=H.length+1) (n:=c2.length) (sz:=2) (xs:=c2.map BA) (cs:=(c2.flatMap λc=>[.int .i64 c.1,.int .i64 c.2]).map .v++List.replicate k .any) rfl rfl (by simp) (by simp) (by
  intro x hx;obtain⟨y,_,rfl⟩:=AT9.1 hx;rfl) ?_ ?_
 ·rw[←hlen,List.take_left,Wy,Lm]
 ·refine FSp.aggA (j:=3) (xs:=Bx kind pa day t rs c2 fs) rfl ?_;have e:(H++[Row.cells (Je kind pa day t rs (H.length+1) c2.length fs),.cells ((c2.flatMap λc=>[.int .i64 c.1,.int .i64 c.2]).map .v++List.replicate k .any)]).set (H.length+1) .dead=H++[.cells (Je kind pa day t rs (H.length+1) c2.length fs),.dead]:=by simp
  rw[e];exact hf
section
variable (kind pa day:Int) (tt:Th) (rs:List Rgt) (cl:List (Int×Int)) (fs:List Int) (G:List Row) (m n at_:Int)
def Q34:Prop:=∀c2 f2 J,(kind=2→c2=[])→(kind≠2→f2=[])→Low (G++J)→FX 34 [.ref 0 0,.v (.int .u64 (EQ 3)),.v (hdV m (EL (EQ 3) m)),.v (.agg (Bx kind pa day tt rs c2 f2))] (G++J) [.v (.int .i64 (if cl=c2∧fs=f2 then 0 else 10))] (G++J)
theorem w7 (h34:Q34 kind pa day tt rs cl fs G m) (hG:G[6]?=some (.cells ((hdC m (EL (EQ 3) m)).map .v))) (hcase:(kind=2∧cl=[])∨(kind≠2∧fs=[])) (hne:∀a b,cl[0]?=some a→cl[1]?=some b→a≠b) (hcl:cl.length≤2^20)
  (d132:D) (J:List Row) (hJ:Low (G++J)) (a:Nat) (ha:(G++J)[a]?=some (.cells ((Bx kind pa day tt rs cl fs).map .v))) (Q:AExit→St→Prop)
  (hQ:∀e J',Low (G++J')→AH e 2= .v (.int .i64 n)→AH e 3= .v (.int .i64 at_)→AH e 9= .ref 0 0→AH e 10= .ref 5 0→AH e 12= .ref 6 0→AH e 13= .ref 7 0→AH e 14= .v (.int .i64 kind)→Q .normal ⟨e,G++J'⟩):
  awp Tryz.prog GLx c7W Q ⟨[(2,.v (.int .i64 n)),(3,.v (.int .i64 at_)),(9,.ref 0 0),(10,.ref 5 0),(12,.ref 6 0),(13,.ref 7 0),(14,.v (.int .i64 kind)),(15,.ref a 0),(132,d132)],G++J⟩:=by
 have ga:=λZ=>AO Z ha;have hlen:(G++J).length=G.length+J.length:=AT5;rw[show c7W= .seq (.reg Yy _) (.cond (.t 136 false) c7T .skip) from rfl];simp only[AB,AA,AE,Yy];by_cases hc:1 <cl.length
 ·obtain⟨x,y,z,rfl⟩:∃x y z,cl=x::y::z:=by
   match cl,hc with
   |x::y::z,_=>exact⟨x,y,z,rfl⟩
  have hxy:x≠y:=hne x y rfl rfl;have hk:kind≠2∧fs=[]:=by
   rcases hcase with ⟨_,h⟩|h
   ·cases h
   ·exact h
  obtain⟨hk,rfl⟩:=hk;have q1:=p40 3;have h1:(1:Int) <(z.length:Int)+1+1:=by omega
  have h0:(0:Int) <(z.length:Int)+1+1:=by omega
  have hroom:Ae (z.length+1+1) 16=true:=by simp[Ae];simp at hcl;omega
  have hsw:¬(x::y::z=y::x::z∧([]:List Int)=[]):=by
   rintro⟨h,_⟩;simp at h;exact hxy h.1
  have hZl:∀row∈(G++J)++[Row.cells (Je kind pa day tt rs ((G++J).length+1) (y::x::z).length []),.dead],Row.low ((G++J)++[Row.cells (Je kind pa day tt rs ((G++J).length+1) (y::x::z).length []),.dead]).length row=true:=by
   intro row hrow;rw[AT5];rcases AUK.1 hrow with hr|hr
   ·exact Row.low_mono (by omega) (hJ row hr)
   ·simp only[AT7,AUE,or_false]at hr;rcases hr with rfl|rfl
    ·simp[Je,Row.low,D.lts,D.lt]
    ·rfl
  have hq0:=h34 (y::x::z) [] (J++[.cells (Je kind pa day tt rs ((G++J).length+1) (y::x::z).length []),.dead]) (λh=>absurd h hk) (λ_=>rfl) (by rw[←AUB];exact hZl);rw[if_neg hsw,←AUB]at hq0;have hq:=λk=>AJH k hq0;have gG:∀Z,(G++J++Z)[6]?=some (.cells ((hdC m (EL (EQ 3) m)).map .v)):=λZ=>by rw[AUB];exact AO _ hG
  obtain⟨x1,x2⟩:=x;obtain⟨y1,y2⟩:=y;obtain⟨cs,vs,ps⟩:=tt;generalize EL (EQ 3) m=sg at*;generalize EQ 3=ky at*;clear h34 hq0;generalize hH:G++J=H at*;simp only[Bx,Je,hdV,hdC,Th.cs,Th.vs,Th.ps,AL]at*;simp at q1 hq ga gG ha;simp[ha,h1];rw[show c7T= .seq (.reg Yx _) (.seq (.reg Yw _) (.seq (.regA Yv _ _ _) (.seq (.regD Yu _ _) (.cond _ _ .skip)))) from rfl];simp only[AB,AA,AE,Yx];simp[ha,AN];simp only[AA,Yw];simp[ga,AN,hroom];refine⟨rfl,λk=>?_⟩;have hqk:=hq k;rw[BO];refine BG _ (λs hs=>⟨s,.inl rfl,hs⟩) ?_;simp only[Yv];simp[BA,AN,h1,h0];rw[Lm];simp only[AW,Yu];simp;refine⟨_,_,⟨rfl,rfl⟩,_,q1,?_⟩;simp[gG]
  first|refine⟨_,_,hqk,?_⟩|refine⟨_,hqk,?_⟩|refine⟨_,⟨_,hqk⟩,?_⟩|exact⟨_,hqk⟩|exact⟨_,_,hqk⟩|refine⟨⟨_,hqk⟩,?_⟩
  simp;rw[AD,←hH,AUB];exact hQ _ _ (by rw[←AUB,hH];exact hZl) rfl rfl rfl rfl rfl rfl rfl
 ·have h1:¬(1:Int) <cl.length:=by omega
  obtain⟨cs,vs,ps⟩:=tt;simp only[Bx,Th.cs,Th.vs,Th.ps,AL]at ha;simp at ha;simp[ha,h1,AD];exact hQ _ _ hJ rfl rfl rfl rfl rfl rfl rfl
def Pq (d8 d9:D):List D:=
 [.v (.int .i64 kind),.v (.int .i64 0),.v (.int .i64 pa),.v (.int .i64 day),.v (AL .i64 tt.cs),.v (.list (tt.vs.map Val.V)),.v (.list (tt.ps.map Th.V)),.v (.list (rs.map Rgt.V)),d8,d9,.v (.list []),.v (.list []),.v (.list [])]
set_option maxHeartbeats 2000000 in
theorem u7 (h34:Q34 kind pa day tt rs cl fs G m) (hG:G[6]?=some (.cells ((hdC m (EL (EQ 3) m)).map .v))) (hcase:(kind=2∧cl=[])∨(kind≠2∧fs=[])) (hne:∀a b,cl[0]?=some a→cl[1]?=some b→a≠b) (hcl:cl.length≤2^20) (hfs:fs.length≤2^20)
  (c3 c4:List (Int×Int)) (f3 f4:List Int) (hk3:kind=2→c3=[]) (hk3':kind≠2→f3=[]) (hk4:kind=2→c4=[]) (hk4':kind≠2→f4=[]) (h3:¬(cl=c3∧fs=f3)) (h4:0 <fs.length+cl.length→¬(cl=c4∧fs=f4)) (d8 d9:D)
  (hd:(d8= .v (.list (c3.map BA))∧d9= .own 3 1 (f3.map (.int .i64)))∨(d8= .own 76 2 (c3.map BA)∧d9= .v (.list (f3.map (.int .i64)))))
  (J:List Row) (hJ:Low (G++J)) (a:Nat) (ha:(G++J)[a]?=some (.cells ((Bx kind pa day tt rs cl fs).map .v))) (Q:AExit→St→Prop)
  (hQ:∀e J',Low (G++J')→AH e 2= .v (.int .i64 n)→AH e 3= .v (.int .i64 at_)→AH e 9= .ref 0 0→AH e 10= .ref 5 0→AH e 12= .ref 6 0→AH e 13= .ref 7 0→AH e 14= .v (.int .i64 kind)→Q .normal ⟨e,G++J'⟩):
  awp Tryz.prog GLx c7U Q ⟨[(2,.v (.int .i64 n)),(3,.v (.int .i64 at_)),(9,.ref 0 0),(10,.ref 5 0),(12,.ref 6 0),(13,.ref 7 0),(14,.v (.int .i64 kind)),(15,.ref a 0),(17,.ref (G++J).length 0),(18,.ref ((G++J).length+1) 0)],
   G++(J++[.cells (Pq kind pa day tt rs d8 d9),.cells ((Bx kind pa day tt rs c4 f4).map .v)])⟩:=by
 have hJ1:Low (G++(J++[.cells (Pq kind pa day tt rs d8 d9),.cells ((Bx kind pa day tt rs c4 f4).map .v)])):=by
  rw[←AUB];refine hJ.lows λrow hrow n=>?_;simp only[AT7,AUE,or_false]at hrow;rcases hrow with rfl|rfl
  ·rcases hd with ⟨rfl,rfl⟩|⟨rfl,rfl⟩<;>simp[Pq,Row.low,D.lts,D.lt]
  ·exact Hq n _ _ _ _ _ _ _
 have e1:=h34 cl fs _ (λh=>by rcases hcase with ⟨_,h2⟩|⟨h2,_⟩;exact h2;exact absurd h h2) (λh=>by rcases hcase with ⟨h2,_⟩|⟨_,h2⟩;exact absurd h2 h;exact h2) hJ1
 rw[if_pos ⟨rfl,rfl⟩]at e1;have e2:=h34 c3 f3 _ hk3 hk3' hJ1;rw[if_neg h3]at e2;have e4:=h34 c4 f4 _ hk4 hk4' hJ1;have hw:=λd132 Q hQ=>w7 kind pa day tt rs cl fs G m n at_ h34 hG hcase hne hcl d132 (J++[.cells (Pq kind pa day tt rs d8 d9),.cells ((Bx kind pa day tt rs c4 f4).map .v)]) hJ1 a (by rw[←AUB];exact AO _ ha) Q hQ;have q1:=p40 3;have g6:=λZ=>AO Z hG;have ga:=λZ=>AO Z ha;have w0:IntKind.i64.wrap ((fs.length:Int)+cl.length)=(fs.length:Int)+cl.length:=AJ;rw[←AUB]at e1 e2 e4 hw ⊢;have g6':∀Z,(G++J++Z)[6]?=some (.cells ((hdC m (EL (EQ 3) m)).map .v)):=λZ=>by rw[AUB];exact g6 _
 clear h34 hJ hJ1 hne hG g6;generalize EL (EQ 3) m=sg at*;generalize EQ 3=ky at*;generalize hH:G++J=H at*;obtain⟨cs,vs,ps⟩:=tt;rcases hd with ⟨rfl,rfl⟩|⟨rfl,rfl⟩
 all_goals
  simp only[Bx,Pq,hdV,hdC,Th.cs,Th.vs,Th.ps,AL]at*;simp at q1 e1 e2 e4 hw g6' ga;rw[show c7U= .seq (.seq (.regD Y0 _ _) (.cond (.t 116 false) _ .skip)) c7V from rfl];simp only[AB,AE,AW,Y0];simp;refine⟨_,_,⟨rfl,rfl⟩,_,q1,?_⟩;simp[g6',ga]
  first|refine⟨_,_,e1,?_⟩|refine⟨_,e1,?_⟩|refine⟨_,⟨_,e1⟩,?_⟩|exact⟨_,e1⟩|exact⟨_,_,e1⟩|refine⟨⟨_,e1⟩,?_⟩
  simp;refine⟨_,_,⟨rfl,rfl⟩,_,q1,?_⟩;simp[g6',ga]
  first|refine⟨_,_,e2,?_⟩|refine⟨_,e2,?_⟩|refine⟨_,⟨_,e2⟩,?_⟩|exact⟨_,e2⟩|exact⟨_,_,e2⟩|refine⟨⟨_,e2⟩,?_⟩
  simp[AD];rw[show c7V= .seq (.seq (.regD Yz _ _) (.cond (.t 132 false) _ .skip)) c7W from rfl];simp only[AB,AE,AW,Yz];by_cases hz:0 <fs.length+cl.length
  ·have hz':(0:Int) <(fs.length:Int)+cl.length:=by omega
   rw[if_neg (h4 hz)]at e4;simp[ga,w0,hz'];refine⟨_,_,⟨rfl,rfl⟩,_,q1,?_⟩;simp[g6',hz']
   first|refine⟨_,_,e4,?_⟩|refine⟨_,e4,?_⟩|refine⟨_,⟨_,e4⟩,?_⟩|exact⟨_,e4⟩|exact⟨_,_,e4⟩|refine⟨⟨_,e4⟩,?_⟩
   simp[hz',AD];exact hw _ _ hQ
  ·have hz':¬(0:Int) <(fs.length:Int)+cl.length:=by omega
   simp[ga,w0,hz',AD];exact hw _ _ hQ
def c7N:AC:=Oz.r.l.l.r
set_option maxHeartbeats 2000000 in
theorem n7 (h34:Q34 kind pa day tt rs cl fs G m) (hG:G[6]?=some (.cells ((hdC m (EL (EQ 3) m)).map .v))) (hcase:(kind=2∧cl=[])∨(kind≠2∧fs=[])) (hne:∀a b,cl[0]?=some a→cl[1]?=some b→a≠b) (hcl:cl.length≤2^20) (hfs:fs.length≤2^20)
  (J:List Row) (hJ:Low (G++J)) (a:Nat) (ha:(G++J)[a]?=some (.cells ((Bx kind pa day tt rs cl fs).map .v))) (Q:AExit→St→Prop)
  (hQ:∀e J',Low (G++J')→AH e 2= .v (.int .i64 n)→AH e 3= .v (.int .i64 at_)→AH e 9= .ref 0 0→AH e 10= .ref 5 0→AH e 12= .ref 6 0→AH e 13= .ref 7 0→AH e 14= .v (.int .i64 kind)→Q .normal ⟨e,G++J'⟩):
  awp Tryz.prog GLx c7N Q ⟨[(2,.v (.int .i64 n)),(3,.v (.int .i64 at_)),(9,.ref 0 0),(10,.ref 5 0),(12,.ref 6 0),(13,.ref 7 0),(14,.v (.int .i64 kind)),(15,.ref a 0),(16,.v (.int .i64 0))],G++J⟩:=by
 have ga:=λZ=>AO Z ha;rw[show c7N= .seq (.seq (.reg Y5 _) (.cond (.t 63 false) _ .skip)) (.seq (.reg T5 _) (.seq (.reg T4 _) (.seq (.seq (.reg T3 _) (.cond (.t 67 false) (.seq (.reg Y4 _) (.reg Y3 _)) (.seq (.reg Y2 _) (.reg Y1 _)))) c7U))) from rfl];simp only[AB,AA,AE,Y5];rcases hcase with ⟨rfl,rfl⟩|⟨hk,rfl⟩
 ·have hu:=u7 2 pa day tt rs [] fs G m n at_ h34 hG (.inl ⟨rfl,rfl⟩) (by simp) (by simp) hfs [] [] (fs++[at_]) (fs.take (fs.length-1)) (λ_=>rfl) (by simp) (λ_=>rfl) (by simp)
   (by rintro⟨_,h⟩;have:=congrArg List.length h;simp at this)
   (by rintro h1 ⟨_,h⟩;have:=congrArg List.length h;simp at this h1;omega) _ _ (.inl ⟨rfl,rfl⟩) J hJ a ha Q hQ
  have hh:CK 1 (fs.map (V.int .i64))=true:=by cases fs<;>rfl
  have r1:Ae fs.length 8=true:=by simp[Ae];omega
  have r2:Ae (fs.length+1) 8=true:=by simp[Ae];omega
  have w1:IntKind.i64.wrap ((fs.length:Int)-1)=(fs.length:Int)-1:=AJ;obtain⟨cs,vs,ps⟩:=tt;clear h34 hG hne hQ hJ;simp only[Bx,Pq,Th.cs,Th.vs,Th.ps,AL]at*;rw[←AUB]at hu;generalize G++J=H at*;simp at hu ga ha;simp[ha,AD];simp only[AA,T5];simp[ha,AN];simp only[AA,T4];simp[ga,AN];simp[T3];simp only[AB,AA,Y4];simp[ga,AN,r1,r2];simp only[AA,Y3];by_cases h1:1 <fs.length
  ·have h2:((fs.length:Int)-1).toNat=fs.length-1:=by omega
   have h3:(1:Int) <(fs.length:Int):=by omega
   have h4:(1:Int)≤(fs.length:Int):=by omega
   simp[ga,AN,w1,h2,h3,h4,hh]
   try simp at hu
   exact hu
  ·have h2:fs.length-1=0:=by omega
   have h3:¬(1:Int) <(fs.length:Int):=by omega
   rw[h2]at hu;simp at hu;simp[ga,AN,w1,h3,hh];exact hu
 ·have hu:=u7 kind pa day tt rs cl [] G m n at_ h34 hG (.inr ⟨hk,rfl⟩) hne hcl (by simp) (cl++[(7,at_)]) (cl.take (cl.length-1)) [] [] (λh=>absurd h hk) (λ_=>rfl) (λh=>absurd h hk) (λ_=>rfl)
   (by rintro⟨h,_⟩;have:=congrArg List.length h;simp at this)
   (by rintro h1 ⟨h,_⟩;have:=congrArg List.length h;simp at this h1;omega) _ _ (.inr ⟨rfl,rfl⟩) J hJ a ha Q hQ
  have hh:CK 2 (cl.map BA)=true:=by cases cl<;>rfl
  have r1:Ae cl.length 16=true:=by simp[Ae];omega
  have r2:Ae (cl.length+1) 16=true:=by simp[Ae];omega
  have w1:IntKind.i64.wrap ((cl.length:Int)-1)=(cl.length:Int)-1:=AJ;obtain⟨cs,vs,ps⟩:=tt;clear h34 hG hne hQ hJ;simp only[Bx,Pq,Th.cs,Th.vs,Th.ps,AL]at*;rw[←AUB]at hu;generalize G++J=H at*;simp[BA]at hu ga ha hh;simp[ha,AD];simp only[AA,T5];simp[ha,AN];simp only[AA,T4];simp[ga,AN];simp[T3,hk];simp only[AB,AA,Y2];simp[ga,AN,r1,r2,hh];simp only[AA,Y1];by_cases h1:1 <cl.length
  ·have h2:((cl.length:Int)-1).toNat=cl.length-1:=by omega
   have h3:(1:Int) <(cl.length:Int):=by omega
   have h4:(1:Int)≤(cl.length:Int):=by omega
   simp[ga,AN,w1,h2,h3,h4,hh];exact hu
  ·have h2:cl.length-1=0:=by omega
   have h3:¬(1:Int) <(cl.length:Int):=by omega
   rw[h2]at hu;simp at hu;simp[ga,AN,w1,h3,hh];exact hu
end
theorem HA {α:Type} (f:α→Bool) {l:List α} {k:Nat} {x:α} (h:l[k]?=some x):(l.take (k+1)).any f=((l.take k).any f||f x):=by
 rw[AUP,h,List.any_append];simp
theorem l4d (H:List Row) (t13 t15 t17 t19:Nat) (first:Int) (own:List Rgt) (k:Nat) (r:Rgt) (hr:own[k]?=some r) (hrd:r.dates.length≤2^30) (A:List (Int×Int)) (i:Nat) (c:Int×Int) (hc:A[i]?=some c)
  (d0 d1 d2 d3 d4 d5 d6 d7 d9 d10 d11 d12:D) (h15:H[t15]?=some (.cells [d0,d1,d2,d3,d4,d5,d6,d7,.v (.list (A.map BA)),d9,d10,d11,d12])) (n la:Int) (v26:V) (j:Nat) (w is:Bool) (J:List Row) (hJ:Lows J) (Q:AExit→St→Prop)
  (hQ:∀J',Lows J'→∀q:Int,Q (.exit 6) ⟨[(9,.ref 0 0),(10,.v (.list (own.map Rgt.V))),(13,.ref t13 0),(14,.v (.int .i64 first)),(15,.ref t15 0),(17,.ref t17 0),(19,.ref t19 0),(21,.v (.int .i64 n)),(22,.v (.int .i64 la)),(23,.v (.int .i64 i)),
   (24,.v (.bool (w||(is&&Py r c.2 j first)))),(25,.v (.int .i64 k)),(26,.v v26),(28,.v (.int .i64 j)),(29,.v (.bool is)),(30,.v (.int .i64 0)),(31,.v (.int .i64 q)),(154,.v (.bool false))],H++J'⟩):
  awp Tryz.prog GLx (.loop AF2) Q ⟨[(9,.ref 0 0),(10,.v (.list (own.map Rgt.V))),(13,.ref t13 0),(14,.v (.int .i64 first)),(15,.ref t15 0),(17,.ref t17 0),(19,.ref t19 0),(21,.v (.int .i64 n)),(22,.v (.int .i64 la)),(23,.v (.int .i64 i)),
   (24,.v (.bool w)),(25,.v (.int .i64 k)),(26,.v v26),(28,.v (.int .i64 j)),(29,.v (.bool is)),(30,.v (.int .i64 0)),(31,.v (.int .i64 (0:Nat)))],H++J⟩:=by
 unfold Py at hQ;refine Aa r.dates.length (λq s=>∃J',Lows J'∧s=⟨[(9,.ref 0 0),(10,.v (.list (own.map Rgt.V))),(13,.ref t13 0),(14,.v (.int .i64 first)),(15,.ref t15 0),(17,.ref t17 0),(19,.ref t19 0),(21,.v (.int .i64 n)),(22,.v (.int .i64 la)),(23,.v (.int .i64 i)),
   (24,.v (.bool (w||(is&&(r.dates.take q).any λd=>((d.cl==c.2)&&(d.ix==(j:Int)))&&decide (d.day <first))))),(25,.v (.int .i64 k)),(26,.v v26),(28,.v (.int .i64 j)),(29,.v (.bool is)),(30,.v (.int .i64 0)),(31,.v (.int .i64 q))],H++J'⟩) ⟨J,hJ,by simp⟩ ?_
 rintro q s hq ⟨J',hJ',rfl⟩;have h15':=λZ=>AO Z h15;have hrv:(own.map Rgt.V)[k]?=some r.V:=by simp[hr]
 have hcv:(A.map BA)[i]?=some (BA c):=by simp[hc]
 simp only[AF2,AB,AA,AG,AE,ABX];simp[hr,Rgt.V,Rgt.cs];by_cases hql:q <r.dates.length
 ·obtain⟨d,hd⟩:∃d,r.dates[q]?=some d:=⟨_,AT2 hql⟩;have w1:IntKind.i64.wrap ((q:Int)+1)=q+1:=AJ;have hld:∀m,Row.low m (.cells [.v (.int .i64 d.cl),.v (.int .i64 d.ix),.v (.int .i64 d.day),.v (.int .i64 d.file)])=true:=λm=>by simp[Row.low,D.lts,D.lt]
  have hat:=HA (λd:Dat=>((d.cl==c.2)&&(d.ix==(j:Int)))&&decide (d.day <first)) hd;rw[hat];generalize ((r.dates.take q).any λd=>((d.cl==c.2)&&(d.ix==(j:Int)))&&decide (d.day <first))=T at*;rw[if_pos (by omega),AD];simp only[AA,ABW];simp[hr,Rgt.V,Rgt.cs,hd,Dat.V,AN];simp only[AW,ABV];cases w with
  |true=>
   simp[AA,Lr,w1,hql];exact hJ'.app hld
  |false=>
   cases is with
   |false=>
    simp[AA,Lr,w1,hql];exact hJ'.app hld
   |true=>
    cases T with
    |true=>
     simp[AA,Lr,w1,hql];exact hJ'.app hld
    |false=>
     cases h1:(d.cl==c.2)&&(d.ix==(j:Int))with
     |false=>
      have h1':¬(d.cl=c.2∧d.ix=(j:Int)):=by
       rintro⟨a,b⟩;simp[a,b]at h1
      simp[h15',hc,BA,V.eqL,V.eq1,AN,h1',h1,AA,Lr,w1,hql];exact hJ'.app hld
     |true=>
      have h1':d.cl=c.2∧d.ix=(j:Int):=by simpa using h1
      simp[h15',hc,BA,V.eqL,V.eq1,AN,h1',h1,AA,Lr,w1,hql];exact hJ'.app hld
 ·have hq2:q=r.dates.length:=by omega
  subst hq2;rw[if_neg (by omega),AM];have:=hQ J' hJ' r.dates.length;rw[AUb];change Q (.exit 6) _;simp only[Nat.lt_irrefl,decide_false];exact this
theorem l4a {ps:List V} {bs:List Bool} (hps:ps.length≤64) (hbs:bs.length=4096) (H:List Row) (hl:Low H) (hx:H[0]?=some (CM ps bs)) (t:Th) (ht:t.ok) (hte:thE t=0) (htk:t.kinds ps.length=true)
  (t13 t15 t17 t19:Nat) (h13:H[t13]?=some (.cells t.cells)) (first:Int) (own:List Rgt) (k:Nat) (r:Rgt) (hr:own[k]?=some r) (hrd:r.dates.length≤2^30) (A:List (Int×Int)) (i:Nat) (c:Int×Int) (hc:A[i]?=some c)
  (d0 d1 d2 d3 d4 d5 d6 d7 d9 d10 d11 d12:D) (h15:H[t15]?=some (.cells [d0,d1,d2,d3,d4,d5,d6,d7,.v (.list (A.map BA)),d9,d10,d11,d12])) (n la:Int) (al:List F) (has:K1 ps.length al) (w:Bool) (J:List Row) (hJ:Lows J) (Q:AExit→St→Prop)
  (hQ:∀J',Lows J'→∀e,AH e 9= .ref 0 0→AH e 10= .v (.list (own.map Rgt.V))→AH e 13= .ref t13 0→AH e 14= .v (.int .i64 first)→AH e 15= .ref t15 0→AH e 17= .ref t17 0→AH e 19= .ref t19 0→AH e 21= .v (.int .i64 n)→AH e 22= .v (.int .i64 la)→
   AH e 23= .v (.int .i64 i)→AH e 24= .v (.bool (w||Fw (isT ps.length bs) t r c.2 first 0 al))→AH e 25= .v (.int .i64 k)→Q (.exit 4) ⟨e,H++J'⟩):
  awp Tryz.prog GLx (.loop AF3) Q ⟨[(9,.ref 0 0),(10,.v (.list (own.map Rgt.V))),(13,.ref t13 0),(14,.v (.int .i64 first)),(15,.ref t15 0),(17,.ref t17 0),(19,.ref t19 0),(21,.v (.int .i64 n)),(22,.v (.int .i64 la)),(23,.v (.int .i64 i)),
   (24,.v (.bool w)),(25,.v (.int .i64 k)),(26,.v (.list (al.map F.V))),(28,.v (.int .i64 (0:Nat)))],H++J⟩:=by
 refine Aa al.length (λj s=>∃J',Lows J'∧s=⟨[(9,.ref 0 0),(10,.v (.list (own.map Rgt.V))),(13,.ref t13 0),(14,.v (.int .i64 first)),(15,.ref t15 0),(17,.ref t17 0),(19,.ref t19 0),(21,.v (.int .i64 n)),(22,.v (.int .i64 la)),(23,.v (.int .i64 i)),
   (24,.v (.bool (w||Fw (isT ps.length bs) t r c.2 first 0 (al.take j)))),(25,.v (.int .i64 k)),(26,.v (.list (al.map F.V))),(28,.v (.int .i64 j))],H++J'⟩) ⟨J,hJ,by simp[Fw]⟩ ?_
 rintro j s hj ⟨J',hJ',rfl⟩;have h13':=λZ=>AO Z h13;simp only[AF3,AB,AA,AG,AE,ABb];simp;by_cases hjl:j <al.length
 ·obtain⟨a,ha⟩:∃a,al[j]?=some a:=⟨_,AT2 hjl⟩;have ham:=AT3 ha;have hlen:=has.1;have w1:IntKind.i64.wrap ((j:Int)+1)=j+1:=AJ;have htk2:al.take (j+1)=al.take j++[a]:=by rw[AUP,ha];rfl
  have hbt:=Kv (isT ps.length bs) t r c.2 first a (al.take j) 0;rw[←htk2,AUT,AVG (by omega),AU9]at hbt;rw[hbt];have q1:=p25 hps hbs a (has.2 a ham).1 t ht (H++J') 0 (AO _ hx) (hl.lows hJ');rw[ALY has ham hte htk]at q1;simp only[decide_true,AUh]at q1;have hloop:=λQ hQ=>l4d H t13 t15 t17 t19 first own k r hr hrd A i c hc d0 d1 d2 d3 d4 d5 d6 d7 d9 d10 d11 d12 h15 n la (.list (al.map F.V)) j (w||Fw (isT ps.length bs) t r c.2 first 0 (al.take j)) (a.hold (isT ps.length bs) t) J' hJ' Q hQ
  generalize Fw (isT ps.length bs) t r c.2 first 0 (al.take j)=T at*;generalize a.hold (isT ps.length bs) t=B at*;generalize Py r c.2 j first=DB at*;obtain⟨fo,fn,fi,fk⟩:=a;obtain⟨cs,vs,pa⟩:=t;simp only[F.V_eq,Th.cells,Th.cs,Th.vs,Th.ps,Th.V_eq,AL]at*;simp at q1 h13' hloop;rw[if_pos (by omega),AD];simp only[AW,ABZ];simp[ha,F.V_eq,h13'];refine⟨_,_,q1,?_⟩;simp[ABY];refine hloop _ ?_;intro J2 hJ2 q;simp[AA,ABa,w1,hjl];exact⟨hJ2,by simp[Bool.or_assoc]⟩
 ·have hj2:j=al.length:=by omega
  subst hj2;rw[if_neg (by omega),AM,AUb];exact hQ J' hJ' _ rfl rfl rfl rfl rfl rfl rfl rfl rfl rfl rfl rfl
def Nu (I:Int→Int→Bool) (t:Th) (own:List Rgt) (first:Int) (c:Int×Int):Bool:=own.any λr=>r.file==c.1&&Nn I t r c.2 first
theorem l4o {ps:List V} {bs:List Bool} (hps:ps.length≤64) (hbs:bs.length=4096) (H:List Row) (hl:Low H) (hx:H[0]?=some (CM ps bs)) (t:Th) (ht:t.ok) (hte:thE t=0) (htk:t.kinds ps.length=true)
  (t13 t15 t17 t19:Nat) (h13:H[t13]?=some (.cells t.cells)) (first:Int) (own:List Rgt) (hon:own.length≤2^20) (hrd:∀r∈own,r.dates.length≤2^30) (A:List (Int×Int)) (i:Nat) (c:Int×Int) (hc:A[i]?=some c)
  (has:∀r∈own,r.file=c.1→K1 ps.length (CS r.claims c.2)) (q24:∀r∈own,r.file=c.1→PX 24 [.list (r.claims.map Clm.V),.int .i64 c.2] [.list ((CS r.claims c.2).map F.V),.int .i64 0])
  (d0 d1 d2 d3 d4 d5 d6 d7 d9 d10 d11 d12:D) (h15:H[t15]?=some (.cells [d0,d1,d2,d3,d4,d5,d6,d7,.v (.list (A.map BA)),d9,d10,d11,d12])) (n la:Int) (J:List Row) (hJ:Lows J) (Q:AExit→St→Prop)
  (hQ:∀J',Lows J'→∀e,AH e 9= .ref 0 0→AH e 10= .v (.list (own.map Rgt.V))→AH e 13= .ref t13 0→AH e 14= .v (.int .i64 first)→AH e 15= .ref t15 0→AH e 17= .ref t17 0→AH e 19= .ref t19 0→AH e 21= .v (.int .i64 n)→AH e 22= .v (.int .i64 la)→
   AH e 23= .v (.int .i64 i)→AH e 24= .v (.bool (Nu (isT ps.length bs) t own first c))→Q (.exit 2) ⟨e,H++J'⟩):
  awp Tryz.prog GLx (.loop vT) Q ⟨[(9,.ref 0 0),(10,.v (.list (own.map Rgt.V))),(13,.ref t13 0),(14,.v (.int .i64 first)),(15,.ref t15 0),(17,.ref t17 0),(19,.ref t19 0),(21,.v (.int .i64 n)),(22,.v (.int .i64 la)),(23,.v (.int .i64 i)),
   (24,.v (.bool false)),(25,.v (.int .i64 (0:Nat)))],H++J⟩:=by
 refine Aa own.length (λk s=>∃J',Lows J'∧s.h=H++J'∧AH s.e 9= .ref 0 0∧AH s.e 10= .v (.list (own.map Rgt.V))∧AH s.e 13= .ref t13 0∧AH s.e 14= .v (.int .i64 first)∧AH s.e 15= .ref t15 0∧AH s.e 17= .ref t17 0∧AH s.e 19= .ref t19 0∧AH s.e 21= .v (.int .i64 n)∧AH s.e 22= .v (.int .i64 la)∧
   AH s.e 23= .v (.int .i64 i)∧AH s.e 24= .v (.bool ((own.take k).any λr=>r.file==c.1&&Nn (isT ps.length bs) t r c.2 first))∧AH s.e 25= .v (.int .i64 k)) ⟨J,hJ,rfl,rfl,rfl,rfl,rfl,rfl,rfl,rfl,rfl,rfl,rfl,rfl,rfl⟩ ?_
 rintro k ⟨se,sh⟩ hk ⟨J',hJ',rfl,f9,f10,f13,f14,f15,f17,f19,f21,f22,f23,f24,f25⟩;simp only at f9 f10 f13 f14 f15 f17 f19 f21 f22 f23 f24 f25;have h15':=λZ=>AO Z h15;simp only[vT,AB,AA,AG,AE,ABg];simp[f9,f10,f13,f14,f15,f17,f19,f21,f22,f23,f24,f25];by_cases hkl:k <own.length
 ·obtain⟨r,hr⟩:∃r,own[k]?=some r:=⟨_,AT2 hkl⟩;have hrm:=AT3 hr;have w1:IntKind.i64.wrap ((k:Int)+1)=k+1:=AJ;have hat:=HA (λr:Rgt=>r.file==c.1&&Nn (isT ps.length bs) t r c.2 first) hr;rw[hat];generalize ((own.take k).any λr=>r.file==c.1&&Nn (isT ps.length bs) t r c.2 first)=T at*;rw[if_pos (by omega),AD];simp only[AW,ABf];simp[hr,Rgt.V,Rgt.cs,h15',hc,BA];by_cases hfc:r.file=c.1
  ·have hloop:=l4a hps hbs H hl hx t ht hte htk t13 t15 t17 t19 h13 first own k r hr (hrd r hrm) A i c hc d0 d1 d2 d3 d4 d5 d6 d7 d9 d10 d11 d12 h15 n la (CS r.claims c.2) (has r hrm hfc) T J' hJ';have q:=q24 r hrm hfc;have hbr:Nn (isT ps.length bs) t r c.2 first=Fw (isT ps.length bs) t r c.2 first 0 (CS r.claims c.2):=rfl;rw[←hbr]at hloop;generalize Nn (isT ps.length bs) t r c.2 first=B at*;generalize CS r.claims c.2=al at*;simp at hloop;simp[hfc,AD];simp only[AW,ABe];simp[hr,Rgt.V,Rgt.cs,h15',hc,BA];refine⟨_,_,⟨rfl,rfl⟩,_,q,?_⟩;simp[ABd,AD,AA,ABc];refine hloop _ ?_;intro J2 hJ2 e g9 g10 g13 g14 g15 g17 g19 g21 g22 g23 g24 g25;simp[AA,au,g9,g10,g13,g14,g15,g17,g19,g21,g22,g23,g24,g25,w1,hkl];exact hJ2
  ·simp[hfc,AM];simp[AA,au,w1,hkl];exact⟨J',hJ',rfl,λh=>absurd h hfc⟩
 ·have hk2:k=own.length:=by omega
  subst hk2;rw[if_neg (by omega),AM];rw[AUb]at f24 ⊢;refine hQ J' hJ' _ ?_ ?_ ?_ ?_ ?_ ?_ ?_ ?_ ?_ ?_ ?_<;>simp[f9,f10,f13,f14,f15,f17,f19,f21,f22,f23,f24,f25,Nu]
theorem PP {I:Int→Int→Bool} {t:Th} {rs:List Rgt} {c:Int×Int} (h:c∈BU I t rs):∃r∈rs,r.file=c.1∧0≤c.2∧c.2 <r.claims.length:=by
 unfold BU at h;obtain⟨r,hr,h⟩:=AUp.1 h;unfold C9 at h;obtain⟨i,hi,rfl⟩:=AT9.1 h;have:=OO (AVd.1 hi).1;exact⟨r,hr,rfl,this.1,this.2⟩
theorem JY (I:Int→Int→Bool) (t:Th) (n:Nat):∀rs:List Rgt,(∀r∈rs,r.claims.length≤n)→(BU I t rs).length≤n*rs.length
 |[],_=>by simp[BU]
 |y::l,hy=>by
  have h1:=JY I t n l λz hz=>hy z (by simp[hz]);have h2:=hy y (by simp);have h3:=Ik y;have h4:(C9 I t y).length≤(E3 y).length:=by
   unfold C9;rw[AUM];exact AUn _ _
  unfold BU at h1 ⊢;rw[AUN,AT5,AUO,AVv];omega
theorem WK {own:List Rgt} (hp:own.Pairwise λa b=>a.file≠b.file):(Du ((kmL own).E.map (·.1))).map (G0 (kmL own))=(BY own).map λr=>V.agg [.int .i64 r.file,AL .u8 (Az r)]:=by
 have hE:=TO own hp;have e1:(kmL own).E.map (·.1)=own.map Rgt.file:=by rw[hE,AVM];rfl
 rw[e1];unfold BY;rw[AVM];refine AWY λk hk=>?_;have hk2:k∈own.map Rgt.file:=(AWe _ _).mem_iff.1 hk;obtain⟨r,hr,rfl⟩:=AT9.1 hk2;have hv:K4 (kmL own) r.file=Az r:=by
  unfold K4;rw[hE,List.find?_map];have:(own.find? ((λx:Int×List Int=>x.1==r.file) ∘ E1))=some r:=Gl hp hr;rw[this];rfl
 show G0 (kmL own) r.file=_;rw[Function.comp_apply,FT hp hr];unfold G0;rw[hv]
def ps6:List V:=DM.map (AL .i64)
def bs6:List Bool:=CV 6 zb
theorem V0:bs6.length=4096:=by unfold bs6;rw[Im,Ww]
def G6 (own:List Rgt):List Row:=CM ps6 bs6::Ee (.ref 0 0) 1 own
theorem uS (own:List Rgt):Low (G6 own):=by
 have hT:∀row∈[CM ps6 bs6],row.low [CM ps6 bs6].length=true:=by
  intro row hrow;rw[AUC.1 hrow];simp only[CM,Row.low];refine EB λd hd=>?_;rcases AT7.1 hd with rfl|hd
  ·rfl
  ·obtain⟨b,_,rfl⟩:=AT9.1 hd;rfl
 have q0:PN [CM ps6 bs6] (.ref 0 0) own (G6 own):=⟨[],by simp[G6],by simp⟩;exact q0.low (by simp[D.lt]) hT
theorem Jc {h Z J:List Row} (hZ:Low (h++Z)) (hJ:Lows J):Low (h++(Z++J)):=by
 rw[←AUB];exact hZ.lows hJ
theorem Pe {own:List Rgt} (hp:own.Pairwise λa b=>a.file≠b.file) (hn:own.length≤2^20) (hf:∀r∈own,(0≤r.file∧r.file≤4095)∧(Az r).length≤2^39) (Z:List Row) (hZ:Low (G6 own++Z)):
  FX 137 [.ref 4 0,.v (.int .i64 0),.v (.int .i64 4095)] (G6 own++Z) [.own 193 2 ((BY own).map λr=>V.agg [.int .i64 r.file,AL .u8 (Az r)]),.v (.agg [.list [],.list [],.list []]),.v (.int .i64 0)] (G6 own++Z):=by
 have hE:=TO own hp;have q:=AQ4 (G6 own++Z) hZ 4 2 (.mref 3) (kmL own) rfl rfl (by rw[hE,AUM];omega) (by
  intro x hx;rw[hE]at hx;obtain⟨r,hr,rfl⟩:=AT9.1 hx;exact hf r hr)
 rw[WK hp]at q;exact q
theorem TY (b:Int×Int→Bool):∀(A:List (Int×Int)) (i:Nat) (c:Int×Int),A[i]?=some c→
  ((b c=true∧(A.filter b)[((A.take i).filter b).length]?=some c)∨(b c=false∧∀y,(A.filter b)[((A.take i).filter b).length]?=some y→y≠c))∧((A.take (i+1)).filter b).length=((A.take i).filter b).length+(if b c then 1 else 0):=by
 intro A i c hc;obtain⟨hi,hg⟩:=AT4.1 hc;have hsp:A=A.take i++c::A.drop (i+1):=by
  conv=>lhs;rw[←AUr i A,AVO hi,hg]
 have hf:A.filter b=(A.take i).filter b++((if b c then [c] else [])++(A.drop (i+1)).filter b):=by
  conv=>lhs;rw[hsp,AVN,AVi]
  split<;>simp
 have htk:A.take (i+1)=A.take i++[c]:=by rw[AUP,hc];rfl
 constructor
 ·cases hb:b c with
  |true=>
   refine .inl ⟨rfl,?_⟩;rw[hf,AUa (AT6 _),hb];simp
  |false=>
   refine .inr ⟨rfl,λy hy=>?_⟩;rintro rfl;have:=AT3 hy;have:=(AVd.1 this).2;rw[hb]at this;cases this
 ·rw[htk,AVN,AT5,AVi,AWF];split<;>rfl
def Mg:AC:=(.seq (.regD IK [9,10,13,14,15,17,19,21,22,23,24,33] [[],[],[1],[1,2],[0,1,2,3],[0,1,2,3,4],[0,1,2,3,4,5],[0,1,2,3,4,5,6],[0,1,2,3,4,5],[0,1,2,3,4,5,6,7,8],[0,1,2,3,4,5,6,7,8,9],[0,1,2,3,4,5],[0,1,2,3,4,5,11],[0,1,2,3,4,5],[0,1,2,3,4,5,11,12,13],[0,1,2,3,4,5,11,12,13,14],[0,1,2,3,4,5,6,7,8,9,10,11,12,13,14,15],[0,1,2,3,4,5,6,7,8,9,10,11,12,13,14,15,16],[0,1,2,3,4,5,6,7,8,9,10,11,12,13,14,15,16,17]]) (.seq (.seq (.reg IJ [9,10,13,14,15,17,19,21,22,23,33,212]) (.cond (.t 212 false) (.seq (.reg ABU [8]) .ret) .skip)) (.seq (.regD II [9,10,13,14,15,17,19,21,22,23,33,34] [[],[],[1],[1,2],[0,1,2,3],[0,1,2,3,4],[0,1,2,3,4,5],[0,1,2,3,4,5,6],[0,1,2,3,4,5],[0,1,2,3,4,5,6,7,8],[0,1,2,3,4,5,6,7,8,9],[0,1,2,3,4,5],[0,1,2,3,4,5,11],[0,1,2,3,4,5],[0,1,2,3,4,5,11,12,13],[0,1,2,3,4,5,11,12,13,14],[0,1,2,3,4,5,6,7,8,9,10,11,12,13,14,15],[0,1,2,3,4,5,6,7,8,9,10,11,12,13,14,15,16],[0,1,2,3,4,5,6,7,8,9,10,11,12,13,14,15,16,17]]) (.seq (.seq (.reg IH [9,10,13,14,15,17,19,21,22,23,33,34,235]) (.cond (.t 235 false) (.seq (.reg ABT [8]) .ret) .skip)) (.seq (.seq (.reg IG [9,10,13,14,15,17,19,21,22,23,34,236]) (.cond (.t 236 false) (.reg IF [9,10,13,14,15,17,19,21,22,23,34]) .skip)) (.seq (.reg IE [9,10,13,14,15,17,19,21,22,23,239]) (.cond (.t 239 false) (.reg ID [9,10,13,14,15,17,19,21,22,23]) .skip)))))))
theorem vU:vV=(.seq (.seq (.reg ay [9,10,13,14,15,17,19,21,22,23,93]) (.cond (.t 93 false) .skip (.exit 0))) (.seq (.block 1 (.seq (.reg aw [9,10,13,14,15,17,19,21,22,23,24]) (.seq (.seq (.reg av [9,10,13,14,15,17,19,21,22,23,24,25]) (.block 2 (.loop vT))) Mg))) (.reg ax [9,10,13,14,15,17,19,21,22,23]))):=rfl
set_option maxHeartbeats 2000000 in
theorem l4t (H:List Row) (t13 t15 t17 t19:Nat) (first:Int) (own:List Rgt) (A B1 B2:List (Int×Int)) (i:Nat) (c:Int×Int) (hc:A[i]?=some c)
  (e0 e1 e2 e3 e4 e5 e6 e7 e9 e10 e11 e12:D) (h15:H[t15]?=some (.cells [e0,e1,e2,e3,e4,e5,e6,e7,.v (.list (A.map BA)),e9,e10,e11,e12]))
  (x0 x1 x2 x3 x4 x5 x6 x7 x9 x10 x11 x12:D) (h17:H[t17]?=some (.cells [x0,x1,x2,x3,x4,x5,x6,x7,.v (.list (B1.map BA)),x9,x10,x11,x12]))
  (y0 y1 y2 y3 y4 y5 y6 y7 y9 y10 y11 y12:D) (h19:H[t19]?=some (.cells [y0,y1,y2,y3,y4,y5,y6,y7,.v (.list (B2.map BA)),y9,y10,y11,y12]))
  (n la:Nat) (hnb:n≤2^30) (hlb:la≤2^30) (b1 b2:Bool) (hmono:b1=true→b2=true)
  (hn:(b1=true∧B1[n]?=some c)∨(b1=false∧∀y,B1[n]?=some y→y≠c)) (hla:(b2=true∧B2[la]?=some c)∨(b2=false∧∀y,B2[la]?=some y→y≠c)) (J:List Row) (Q:AExit→St→Prop)
  (hQ:∀e,AH e 9= .ref 0 0→AH e 10= .v (.list (own.map Rgt.V))→AH e 13= .ref t13 0→AH e 14= .v (.int .i64 first)→AH e 15= .ref t15 0→AH e 17= .ref t17 0→AH e 19= .ref t19 0→AH e 21= .v (.int .i64 ((n+if b1 then 1 else 0:Nat):Int))→AH e 22= .v (.int .i64 ((la+if b2 then 1 else 0:Nat):Int))→
   AH e 23= .v (.int .i64 i)→Q .normal ⟨e,H++J⟩):
  ∀e,AH e 9= .ref 0 0→AH e 10= .v (.list (own.map Rgt.V))→AH e 13= .ref t13 0→AH e 14= .v (.int .i64 first)→AH e 15= .ref t15 0→AH e 17= .ref t17 0→AH e 19= .ref t19 0→AH e 21= .v (.int .i64 n)→AH e 22= .v (.int .i64 la)→
   AH e 23= .v (.int .i64 i)→AH e 24= .v (.bool b1)→awp Tryz.prog GLx Mg Q ⟨e,H++J⟩:=by
 intro e f9 f10 f13 f14 f15 f17 f19 f21 f22 f23 f24;have h15':=λZ=>AO Z h15;have h17':=λZ=>AO Z h17;have h19':=λZ=>AO Z h19;have w1:IntKind.i64.wrap ((n:Int)+1)=n+1:=AJ;have w2:IntKind.i64.wrap ((la:Int)+1)=la+1:=AJ;rcases hn with ⟨rfl,hB⟩|⟨rfl,hB⟩
 ·obtain⟨hl,hBg⟩:=AT4.1 hB;have hb2:b2=true:=hmono rfl;subst hb2;rcases hla with ⟨-,hB2⟩|⟨hf,-⟩
  ·obtain⟨hl2,hBg2⟩:=AT4.1 hB2;simp only[Mg,AB,AW,AE,IK];simp[f9,f10,f13,f14,f15,f17,f19,f21,f22,f23,f24,h17',h15',hc,BA,V.eqL,V.eq1,AN,hB,hBg,hl];simp only[AA,IJ];simp[AD];simp only[AW,II];simp[h19',h15',hc,BA,V.eqL,V.eq1,AN,hB2,hBg2,hl2];simp[IH,AD,AA,IG,IF,IE,ID,w1,w2];exact hQ _ rfl rfl rfl rfl rfl rfl rfl rfl rfl rfl
  ·cases hf
 ·by_cases hl:n <B1.length
  ·obtain⟨y,hy⟩:∃y,B1[n]?=some y:=⟨_,AT2 hl⟩;have hyg:B1[n]'hl=y:=(AT4.1 hy).2;have hyn:¬(y.1=c.1∧y.2=c.2):=λh=>hB y hy (AVK h.1 h.2);have hyn2:¬y.1=c.1∨¬y.2=c.2:=Decidable.not_and_iff_or_not.1 hyn;rcases hla with ⟨rfl,hB2⟩|⟨rfl,hB2⟩
   ·obtain⟨hl2,hBg2⟩:=AT4.1 hB2;simp only[Mg,AB,AW,AE,IK];simp[f9,f10,f13,f14,f15,f17,f19,f21,f22,f23,f24,h17',h15',hc,BA,V.eqL,V.eq1,AN,hy,hyg,hl,hyn,hyn2];simp only[AA,IJ];simp[AD,hyn,hyn2];simp only[AW,II];simp[h19',h15',hc,BA,V.eqL,V.eq1,AN,hB2,hBg2,hl2,hyn,hyn2];simp[IH,AD,AA,IG,IF,IE,ID,w1,w2,hyn,hyn2];exact hQ _ rfl rfl rfl rfl rfl rfl rfl rfl rfl rfl
   ·by_cases hl2:la <B2.length
    ·obtain⟨z,hz⟩:∃z,B2[la]?=some z:=⟨_,AT2 hl2⟩;have hzg:B2[la]'hl2=z:=(AT4.1 hz).2;have hzn:¬(z.1=c.1∧z.2=c.2):=λh=>hB2 z hz (AVK h.1 h.2);have hzn2:¬z.1=c.1∨¬z.2=c.2:=Decidable.not_and_iff_or_not.1 hzn;simp only[Mg,AB,AW,AE,IK];simp[f9,f10,f13,f14,f15,f17,f19,f21,f22,f23,f24,h17',h15',hc,BA,V.eqL,V.eq1,AN,hy,hyg,hl,hyn,hyn2];simp only[AA,IJ];simp[AD,hyn,hyn2];simp only[AW,II];simp[h19',h15',hc,BA,V.eqL,V.eq1,AN,hz,hzg,hl2,hzn,hzn2,hyn,hyn2];simp[IH,AD,AA,IG,IF,IE,ID,w1,w2,hyn,hyn2,hzn,hzn2];exact hQ _ rfl rfl rfl rfl rfl rfl rfl rfl rfl rfl
    ·simp only[Mg,AB,AW,AE,IK];simp[f9,f10,f13,f14,f15,f17,f19,f21,f22,f23,f24,h17',h15',hc,BA,V.eqL,V.eq1,AN,hy,hyg,hl,hyn,hyn2];simp only[AA,IJ];simp[AD,hyn,hyn2];simp only[AW,II];simp[h19',h15',hc,BA,V.eqL,V.eq1,AN,hl2,hyn,hyn2];simp[IH,AD,AA,IG,IF,IE,ID,w1,w2,hyn,hyn2];exact hQ _ rfl rfl rfl rfl rfl rfl rfl rfl rfl rfl
  ·rcases hla with ⟨rfl,hB2⟩|⟨rfl,hB2⟩
   ·obtain⟨hl2,hBg2⟩:=AT4.1 hB2;simp only[Mg,AB,AW,AE,IK];simp[f9,f10,f13,f14,f15,f17,f19,f21,f22,f23,f24,h17',h15',hc,BA,V.eqL,V.eq1,AN,hl];simp only[AA,IJ];simp[AD];simp only[AW,II];simp[h19',h15',hc,BA,V.eqL,V.eq1,AN,hB2,hBg2,hl2];simp[IH,AD,AA,IG,IF,IE,ID,w1,w2];exact hQ _ rfl rfl rfl rfl rfl rfl rfl rfl rfl rfl
   ·by_cases hl2:la <B2.length
    ·obtain⟨z,hz⟩:∃z,B2[la]?=some z:=⟨_,AT2 hl2⟩;have hzg:B2[la]'hl2=z:=(AT4.1 hz).2;have hzn:¬(z.1=c.1∧z.2=c.2):=λh=>hB2 z hz (AVK h.1 h.2);have hzn2:¬z.1=c.1∨¬z.2=c.2:=Decidable.not_and_iff_or_not.1 hzn;simp only[Mg,AB,AW,AE,IK];simp[f9,f10,f13,f14,f15,f17,f19,f21,f22,f23,f24,h17',h15',hc,BA,V.eqL,V.eq1,AN,hl];simp only[AA,IJ];simp[AD];simp only[AW,II];simp[h19',h15',hc,BA,V.eqL,V.eq1,AN,hz,hzg,hl2,hzn,hzn2];simp[IH,AD,AA,IG,IF,IE,ID,w1,w2,hzn,hzn2];exact hQ _ rfl rfl rfl rfl rfl rfl rfl rfl rfl rfl
    ·simp only[Mg,AB,AW,AE,IK];simp[f9,f10,f13,f14,f15,f17,f19,f21,f22,f23,f24,h17',h15',hc,BA,V.eqL,V.eq1,AN,hl];simp only[AA,IJ];simp[AD];simp only[AW,II];simp[h19',h15',hc,BA,V.eqL,V.eq1,AN,hl2];simp[IH,AD,AA,IG,IF,IE,ID,w1,w2];exact hQ _ rfl rfl rfl rfl rfl rfl rfl rfl rfl rfl
theorem l4c {ps:List V} {bs:List Bool} (hps:ps.length≤64) (hbs:bs.length=4096) (H:List Row) (hl:Low H) (hx:H[0]?=some (CM ps bs)) (t:Th) (ht:t.ok) (hte:thE t=0) (htk:t.kinds ps.length=true)
  (t13 t15 t17 t19:Nat) (h13:H[t13]?=some (.cells t.cells)) (first:Int) (own:List Rgt) (hon:own.length≤2^20) (hrd:∀r∈own,r.dates.length≤2^30) (A:List (Int×Int)) (hA:A.length≤2^20) (b1 b2:Int×Int→Bool)
  (hmono:∀c∈A,b1 c=true→b2 c=true) (hw:∀c∈A,Nu (isT ps.length bs) t own first c=b1 c)
  (has:∀c∈A,∀r∈own,r.file=c.1→K1 ps.length (CS r.claims c.2)) (q24:∀c∈A,∀r∈own,r.file=c.1→PX 24 [.list (r.claims.map Clm.V),.int .i64 c.2] [.list ((CS r.claims c.2).map F.V),.int .i64 0])
  (e0 e1 e2 e3 e4 e5 e6 e7 e9 e10 e11 e12:D) (h15:H[t15]?=some (.cells [e0,e1,e2,e3,e4,e5,e6,e7,.v (.list (A.map BA)),e9,e10,e11,e12]))
  (x0 x1 x2 x3 x4 x5 x6 x7 x9 x10 x11 x12:D) (h17:H[t17]?=some (.cells [x0,x1,x2,x3,x4,x5,x6,x7,.v (.list ((A.filter b1).map BA)),x9,x10,x11,x12]))
  (y0 y1 y2 y3 y4 y5 y6 y7 y9 y10 y11 y12:D) (h19:H[t19]?=some (.cells [y0,y1,y2,y3,y4,y5,y6,y7,.v (.list ((A.filter b2).map BA)),y9,y10,y11,y12])) (Q:AExit→St→Prop)
  (hQ:∀J' e,Lows J'→AH e 17= .ref t17 0→AH e 19= .ref t19 0→AH e 21= .v (.int .i64 ((A.filter b1).length:Nat))→AH e 22= .v (.int .i64 ((A.filter b2).length:Nat))→Q (.exit 0) ⟨e,H++J'⟩):
  awp Tryz.prog GLx (.loop vV) Q ⟨[(9,.ref 0 0),(10,.v (.list (own.map Rgt.V))),(13,.ref t13 0),(14,.v (.int .i64 first)),(15,.ref t15 0),(17,.ref t17 0),(19,.ref t19 0),(21,.v (.int .i64 (0:Nat))),(22,.v (.int .i64 (0:Nat))),(23,.v (.int .i64 (0:Nat)))],H⟩:=by
 refine Aa A.length (λi s=>∃J',Lows J'∧s.h=H++J'∧AH s.e 9= .ref 0 0∧AH s.e 10= .v (.list (own.map Rgt.V))∧AH s.e 13= .ref t13 0∧AH s.e 14= .v (.int .i64 first)∧AH s.e 15= .ref t15 0∧AH s.e 17= .ref t17 0∧AH s.e 19= .ref t19 0∧AH s.e 21= .v (.int .i64 (((A.take i).filter b1).length:Nat))∧AH s.e 22= .v (.int .i64 (((A.take i).filter b2).length:Nat))∧
   AH s.e 23= .v (.int .i64 i)) ⟨[],Lows.nil,by simp,rfl,rfl,rfl,rfl,rfl,rfl,rfl,rfl,rfl,rfl⟩ ?_
 rintro i ⟨se,sh⟩ hi ⟨J',hJ',rfl,f9,f10,f13,f14,f15,f17,f19,f21,f22,f23⟩;simp only at f9 f10 f13 f14 f15 f17 f19 f21 f22 f23;have h15':=λZ=>AO Z h15;rw[vU];simp only[AB,AA,AG,AE,ay];simp[f9,f10,f13,f14,f15,f17,f19,f21,f22,f23,h15'];by_cases hil:i <A.length
 ·obtain⟨c,hc⟩:∃c,A[i]?=some c:=⟨_,AT2 hil⟩;have hcm:=AT3 hc;have w1:IntKind.i64.wrap ((i:Int)+1)=i+1:=AJ;obtain⟨hf1,hn1⟩:=TY b1 A i c hc;obtain⟨hf2,hn2⟩:=TY b2 A i c hc;have hle1:((A.take i).filter b1).length≤i:=by
   have:=AUn b1 (A.take i);rw[AUT]at this;omega
  have hle2:((A.take i).filter b2).length≤i:=by
   have:=AUn b2 (A.take i);rw[AUT]at this;omega
  have hm:=hmono c hcm;have hwc:=hw c hcm;rw[hn1,hn2];have hlo:=l4o hps hbs H hl hx t ht hte htk t13 t15 t17 t19 h13 first own hon hrd A i c hc (has c hcm) (q24 c hcm) e0 e1 e2 e3 e4 e5 e6 e7 e9 e10 e11 e12 h15 ((((A.take i).filter b1).length:Nat):Int) ((((A.take i).filter b2).length:Nat):Int) J' hJ';have hlt:=λJ Q hQ=>l4t H t13 t15 t17 t19 first own A (A.filter b1) (A.filter b2) i c hc e0 e1 e2 e3 e4 e5 e6 e7 e9 e10 e11 e12 h15 x0 x1 x2 x3 x4 x5 x6 x7 x9 x10 x11 x12 h17 y0 y1 y2 y3 y4 y5 y6 y7 y9 y10 y11 y12 h19 ((A.take i).filter b1).length ((A.take i).filter b2).length (by omega) (by omega) (b1 c) (b2 c) hm hf1 hf2 J Q hQ;rw[hwc]at hlo;generalize ((A.take i).filter b1).length=n at*;generalize ((A.take i).filter b2).length=la at*;generalize b1 c=B1 at*;generalize b2 c=B2 at*;rw[if_pos (by omega),AD];simp only[AA,aw,av];simp;simp at hlo;refine hlo _ ?_;intro J2 hJ2 e g9 g10 g13 g14 g15 g17 g19 g21 g22 g23 g24;simp only[true_and,if_true];refine hlt J2 _ ?_ _ ?_ ?_ ?_ ?_ ?_ ?_ ?_ ?_ ?_ ?_ ?_
  ·intro e2 k9 k10 k13 k14 k15 k17 k19 k21 k22 k23;simp[AA,ax,k9,k10,k13,k14,k15,k17,k19,k21,k22,k23,w1,hil];exact hJ2
  all_goals simp[AH,g9,g10,g13,g14,g15,g17,g19,g21,g22,g23,g24]
 ·have hi2:i=A.length:=by omega
  subst hi2;rw[if_neg (by omega),AM];rw[AUb]at f21 f22;refine hQ J' _ hJ' ?_ ?_ ?_ ?_<;>simp[f17,f19,f21,f22]
def c4M:AC:=(.seq (.seq (.reg bC [9,10,13,14,15,17,19,88]) (.cond (.t 88 false) (.seq (.reg ABh [8]) .ret) .skip)) (.seq (.reg bB [9,10,13,14,15,17,19,21]) (.seq (.reg bA [9,10,13,14,15,17,19,21,22]) (.seq (.seq (.reg az [9,10,13,14,15,17,19,21,22,23]) (.block 0 (.loop vV))) (.seq (.reg ar [8]) .ret)))))
theorem m4 {ps:List V} {bs:List Bool} (hps:ps.length≤64) (hbs:bs.length=4096) (h20:PX 20 [] [.bool true]) (G:List Row) (hG:G.length=6) (hl:Low G) (hx:G[0]?=some (CM ps bs)) (t:Th) (ht:t.ok) (hte:thE t=0) (htk:t.kinds ps.length=true)
  (first later:Int) (own rs:List Rgt) (hon:own.length≤2^20) (hrd:∀r∈own,r.dates.length≤2^30) (A:List (Int×Int)) (hA:A.length≤2^20) (b1 b2:Int×Int→Bool)
  (hmono:∀c∈A,b1 c=true→b2 c=true) (hw:∀c∈A,Nu (isT ps.length bs) t own first c=b1 c)
  (has:∀c∈A,∀r∈own,r.file=c.1→K1 ps.length (CS r.claims c.2)) (q24:∀c∈A,∀r∈own,r.file=c.1→PX 24 [.list (r.claims.map Clm.V),.int .i64 c.2] [.list ((CS r.claims c.2).map F.V),.int .i64 0])
  (Q:AExit→St→Prop) (hQ:∀e J,AH e 8= .v (.bool true)→Q .ret ⟨e,J⟩):
  awp Tryz.prog GLx c4M Q ⟨[(9,.ref 0 0),(10,.v (.list (own.map Rgt.V))),(13,.ref 6 0),(14,.v (.int .i64 first)),(15,.ref 7 0),(16,.v (.int .i64 0)),(17,.ref 8 0),(18,.v (.int .i64 0)),(19,.ref 9 0),(20,.v (.int .i64 0))],
   G++[.cells t.cells,.cells ((BZ 1 0 t rs A).map .v),.cells ((BZ 3 first t rs (A.filter b1)).map .v),.cells ((BZ 3 later t rs (A.filter b2)).map .v)]⟩:=by
 have hlow:Low (G++[.cells t.cells,.cells ((BZ 1 0 t rs A).map .v),.cells ((BZ 3 first t rs (A.filter b1)).map .v),.cells ((BZ 3 later t rs (A.filter b2)).map .v)]):=hl.lows (by
  intro row hrow n;simp only[AT7,AUE,or_false]at hrow;rcases hrow with rfl|rfl|rfl|rfl
  ·exact GA n t
  ·exact Ds n _ _ _ _ _
  ·exact Ds n _ _ _ _ _
  ·exact Ds n _ _ _ _ _)
 have hloop:=λh13 e0 e1 e2 e3 e4 e5 e6 e7 e9 e10 e11 e12 h15 x0 x1 x2 x3 x4 x5 x6 x7 x9 x10 x11 x12 h17 y0 y1 y2 y3 y4 y5 y6 y7 y9 y10 y11 y12 h19 Q=>l4c hps hbs _ hlow (AO _ hx) t ht hte htk 6 7 8 9 h13 first own hon hrd A hA b1 b2 hmono hw has q24 e0 e1 e2 e3 e4 e5 e6 e7 e9 e10 e11 e12 h15 x0 x1 x2 x3 x4 x5 x6 x7 x9 x10 x11 x12 h17 y0 y1 y2 y3 y4 y5 y6 y7 y9 y10 y11 y12 h19 Q;have g13:(G++[.cells t.cells,.cells ((BZ 1 0 t rs A).map .v),.cells ((BZ 3 first t rs (A.filter b1)).map .v),.cells ((BZ 3 later t rs (A.filter b2)).map .v)])[6]?=some (.cells t.cells):=by
  rw[At G _ 6 0 (by omega)];rfl
 have g15:(G++[.cells t.cells,.cells ((BZ 1 0 t rs A).map .v),.cells ((BZ 3 first t rs (A.filter b1)).map .v),.cells ((BZ 3 later t rs (A.filter b2)).map .v)])[7]?=some (.cells ((BZ 1 0 t rs A).map .v)):=by
  rw[At G _ 7 1 (by omega)];rfl
 have g17:∀Z,(G++[.cells t.cells,.cells ((BZ 1 0 t rs A).map .v),.cells ((BZ 3 first t rs (A.filter b1)).map .v),.cells ((BZ 3 later t rs (A.filter b2)).map .v)]++Z)[8]?=some (.cells ((BZ 3 first t rs (A.filter b1)).map .v)):=λZ=>by
  rw[AUB,At G _ 8 2 (by omega)];rfl
 have g19:∀Z,(G++[.cells t.cells,.cells ((BZ 1 0 t rs A).map .v),.cells ((BZ 3 first t rs (A.filter b1)).map .v),.cells ((BZ 3 later t rs (A.filter b2)).map .v)]++Z)[9]?=some (.cells ((BZ 3 later t rs (A.filter b2)).map .v)):=λZ=>by
  rw[AUB,At G _ 9 3 (by omega)];rfl
 have hl3:=λQ=>hloop g13 _ _ _ _ _ _ _ _ _ _ _ _ g15 _ _ _ _ _ _ _ _ _ _ _ _ (by have:=g17 [];rwa [AUq]at this) _ _ _ _ _ _ _ _ _ _ _ _ (by have:=g19 [];rwa [AUq]at this) Q;generalize hH:G++[.cells t.cells,.cells ((BZ 1 0 t rs A).map .v),.cells ((BZ 3 first t rs (A.filter b1)).map .v),.cells ((BZ 3 later t rs (A.filter b2)).map .v)]=H at*;have q20:=h20.fsp;simp at q20;unfold c4M;simp only[AB,AA,AE,AG,bC];simp[AD,bB,bA,az];simp at hl3;refine hl3 _ ?_;intro J' e hJ' f17 f19 f21 f22;have g17':=g17 J';have g19':=g19 J';simp only[BZ]at g17' g19';simp at g17' g19';simp only[AA,ar];simp[f17,f19,f21,f22,g17',g19'];refine⟨_,_,q20 _,?_⟩;simp[AF];exact hQ _ _ rfl
theorem AMO:c4=(.seq (.reg AF1 [0,1,2,3]) (.seq (.reg AF0 [0,1,2,3,9]) (.seq (.reg AFz [1,2,3,9,10]) (.seq (.reg AFy [1,2,3,9,10,11,12]) (.seq (.seq (.reg AFx [1,2,3,9,10,11,50]) (.cond (.t 50 false) (.seq (.reg AMM [8]) .ret) .skip)) (.seq (.reg AFw [2,3,9,10,11,13]) (.seq (.reg AFv [3,9,10,11,13,14]) (.seq (.reg AFu [3,9,10,11,13,14,15,16]) (.seq (.reg AFt [3,9,10,11,13,14,15,16,17,18]) (.seq (.regA bD [9,10,13,14,15,16,17,18,19,20] [[],[],[],[],[3],[2,3,4],[0,1,2,3,4,5],[0,1,2,3,4,5,6],[0,1,2,3,4,5,6,7],[0,1,2,3,4,5,6,7],[],[0,1,2,3,4,5,6,7,8,10],[0,1,2,3,4,5,6,7,8,9,10,11]] (.take 0 (.take 1 (.take 2 (.take 3 (.take 4 (.take 5 (.pick (.alt 6 (.take 7 (.take 8 (.take 9 (.take 10 (.take 11 (.take 12 .done)))))) (.alt 10 (.take 6 (.take 7 (.take 8 (.take 9 (.take 11 (.take 12 .done)))))) .none)))))))))) c4M)))))))))):=rfl
theorem p4 {ps:List V} {bs:List Bool} (hps:ps.length≤64) (hbs:bs.length=4096) (h20:PX 20 [] [.bool true]) (h9:FX 9 [] [] [.ref 0 0] [CM ps bs]) (l l2:List Int) (d2 d3:Int)
  (own:List Rgt) (G5:List Row) (hG:G5.length=5) (hl:Low (CM ps bs::G5)) (t:Th) (ht:t.ok) (hte:thE t=0) (htk:t.kinds ps.length=true)
  (h10:PX 10 [AL .i64 l] [.list (own.map Rgt.V)]) (h14:PX 14 [.list (own.map Rgt.V)] [.list (own.map Rgt.V)])
  (h13:FX 13 [.ref 0 0,.v (.list (own.map Rgt.V))] [CM ps bs] [.ref 5 0,.v (.int .i64 0)] (CM ps bs::G5)) (h21:PX 21 [AL .i64 l2,.int .i64 6,.int .i64 3] [t.V])
  (rs:List Rgt) (hon:own.length≤2^20) (hrd:∀r∈own,r.dates.length≤2^30) (A:List (Int×Int)) (hA:A.length≤2^20) (b1 b2:Int×Int→Bool)
  (q22:∀Z,Lows Z→FX 22 [.ref 5 0,.v t.V] (CM ps bs::G5++Z) [.v (DN 1 0 t rs A),.v (.int .i64 0)] (CM ps bs::G5++Z))
  (q23:∀Z,Lows Z→FX 23 [.ref 5 0,.v t.V,.v (.int .i64 (35990+Aq d2 80))] (CM ps bs::G5++Z) [.v (DN 3 (35990+Aq d2 80) t rs (A.filter b1)),.v (.int .i64 0)] (CM ps bs::G5++Z))
  (q23':∀Z,Lows Z→FX 23 [.ref 5 0,.v t.V,.v (.int .i64 (35990+Aq d2 80+Aq d3 60))] (CM ps bs::G5++Z) [.v (DN 3 (35990+Aq d2 80+Aq d3 60) t rs (A.filter b2)),.v (.int .i64 0)] (CM ps bs::G5++Z))
  (hmono:∀c∈A,b1 c=true→b2 c=true) (hw:∀c∈A,Nu (isT ps.length bs) t own (35990+Aq d2 80) c=b1 c)
  (has:∀c∈A,∀r∈own,r.file=c.1→K1 ps.length (CS r.claims c.2)) (q24:∀c∈A,∀r∈own,r.file=c.1→PX 24 [.list (r.claims.map Clm.V),.int .i64 c.2] [.list ((CS r.claims c.2).map F.V),.int .i64 0]):
  PX 4 [AL .i64 l,AL .i64 l2,.int .i64 d2,.int .i64 d3] [.bool true]:=by
 refine AK k4 rfl ?_;have p11a:=(p11 d2 80 (by decide)).fsp;have p11b:=p11 d3 60 (by decide);have hb1:=Dn d2 80 (by decide);have hb2:=Dn d3 60 (by decide);have hm:=λQ=>m4 hps hbs h20 (CM ps bs::G5) (by simp[hG]) hl (by rfl) t ht hte htk (35990+Aq d2 80) (35990+Aq d2 80+Aq d3 60) own rs hon hrd A hA b1 b2 hmono hw has q24 Q;have h10':=h10.fsp;have h14':=h14.fsp;have h21':=h21.fsp;have q22a:=q22 [.cells t.cells] (λrow hrow n=>by rw[AUC.1 hrow];exact GA n t);have lE:∀(k d:Int) (B:List (Int×Int)),∀n,Row.low n (.cells ((BZ k d t rs B).map .v))=true:=λk d B n=>Ds n _ _ _ _ _;have q23a:=q23 [.cells t.cells,.cells ((BZ 1 0 t rs A).map .v)] (λrow hrow n=>by
  simp only[AT7,AUE,or_false]at hrow;rcases hrow with rfl|rfl
  ·exact GA n t
  ·exact lE _ _ _ n)
 have q23b:=q23' [.cells t.cells,.cells ((BZ 1 0 t rs A).map .v),.cells ((BZ 3 (35990+Aq d2 80) t rs (A.filter b1)).map .v)] (λrow hrow n=>by
  simp only[AT7,AUE,or_false]at hrow;rcases hrow with rfl|rfl|rfl
  ·exact GA n t
  ·exact lE _ _ _ n
  ·exact lE _ _ _ n)
 have q23c:=q23' [.cells t.cells,.cells ((BZ 1 0 t rs A).map .v),.cells ((BZ 3 (35990+Aq d2 80) t rs (A.filter b1)).map .v),.cells [.v (.int .i64 0),.v (.int .i64 0),.v (.int .i64 0),.v (.int .i64 0),.own 3 1 [],.own 171 3 [],.own 58 3 [],.own 74 8 [],.own 76 2 [],.own 3 1 [],.own 47 1 [],.own 47 1 [],.own 5 1 []]] (λrow hrow n=>by
  simp only[AT7,AUE,or_false]at hrow;rcases hrow with rfl|rfl|rfl|rfl
  ·exact GA n t
  ·exact lE _ _ _ n
  ·exact lE _ _ _ n
  ·rfl)
 obtain⟨first,hfi⟩:∃f,35990+Aq d2 80=f:=⟨_,rfl⟩;have w1:IntKind.i64.wrap (35990+Aq d2 80)=first:=by rw[AJ];exact hfi
 rw[hfi]at hm q23a q23b q23c;obtain⟨later,hla⟩:∃f,first+Aq d3 60=f:=⟨_,rfl⟩;have w2:IntKind.i64.wrap (first+Aq d3 60)=later:=by rw[AJ];exact hla
 rw[hla]at hm q23b q23c;clear q22 q23 q23' h10 h14 h21 lE hw has q24 hmono hte htk ht;obtain⟨cs,vs,pa⟩:=t;simp only[DN,BZ,Th.V_eq,Th.cells,Th.cs,Th.vs,Th.ps,AL]at*;simp at h10' h14' h21' p11a q22a q23a q23b q23c;rw[AMO];simp only[AB,AA,AE,AF1,AF0,AY];simp[AL];refine⟨_,_,h9,?_⟩;simp;simp only[AA,AFz];simp;refine⟨_,_,h10' _,?_⟩;simp;refine⟨_,_,h14' _,?_⟩;simp;simp only[AA,AFy];simp;refine⟨_,_,h13,?_⟩;simp;simp[AFx,AD];simp only[AA,AFw];simp;refine⟨_,_,h21' _,?_⟩;simp[AN];simp only[AA,AFv];simp;refine⟨_,_,p11a _,?_⟩;simp[w1];simp only[AA,AFu];simp[hG];refine⟨_,_,q22a,?_⟩;simp[AN];simp only[AA,AFt];simp[hG];refine⟨_,_,q23a,?_⟩;simp[AN];rw[BO];refine BG _ (λs hs=>⟨s,.inl rfl,hs⟩) ?_;simp only[bD];simp[hG];refine⟨_,_,⟨rfl,rfl⟩,_,p11b,?_⟩;simp[w2];simp at hm;refine⟨?_,?_⟩
 ·refine⟨_,_,q23b,?_⟩;simp[AN,hG];refine hm _ ?_;intro e J h8;simp[c4R,h8]
 ·refine⟨_,_,q23c,?_⟩;simp[AN,hG];refine hm _ ?_;intro e J h8;simp[c4R,h8]
def pgG (f:Nat→Th×Nat) (len:Nat) (dd:Int) (n at_:Nat):List Th×Nat:=if 1 <dd then Ch f len n at_ else ([],at_)
theorem ARR (l:List Int) (f:Nat→Th×Nat) (dd:Int) (hdd:1≤dd∧dd≤9) (hB:∀a,(f a).2≤a+100) (M:Nat) (hM:M≤10000) (hf:1 <dd→∀a,a≤M+500→PX 60 [AL .i64 l,.int .i64 a,.int .i64 6,.int .i64 (dd-1)] [(f a).1.V,.int .i64 (f a).2])
  (many at_:Nat) (hm:many≤3) (ha:at_≤M+5) (R0:Row) (C W:D) (J0:List Row) (Q:AExit→St→Prop) (res:List Th×Nat) (hres:pgG f l.length dd many at_=res)
  (hQ:∀e J,AH e 8= .ref 0 0→AH e 10= .ref 1 0→AH e 1= .v (.int .i64 res.2)→Q (.exit 4) ⟨e,R0:: .cells [C,W,.own 58 3 (res.1.map Th.V)]::J⟩):
  awp Tryz.prog GLx (.loop Z5) Q ⟨[(0,.v (AL .i64 l)),(1,.v (.int .i64 at_)),(2,.v (.int .i64 6)),(3,.v (.int .i64 dd)),(8,.ref 0 0),(10,.ref 1 0),(16,.v (.int .i64 many)),(17,.v (.int .i64 (0:Nat)))],R0:: .cells [C,W,.own 58 3 []]::J0⟩:=by
 refine Aa many (λk s=>∃(J:List Row) (a:Nat) (done:List Th),s=⟨[(0,.v (AL .i64 l)),(1,.v (.int .i64 a)),(2,.v (.int .i64 6)),(3,.v (.int .i64 dd)),(8,.ref 0 0),(10,.ref 1 0),(16,.v (.int .i64 many)),(17,.v (.int .i64 k))],
   R0:: .cells [C,W,.own 58 3 (done.map Th.V)]::J⟩∧a≤M+5+100*k∧done.length≤k∧(done++(pgG f l.length dd (many-k) a).1,(pgG f l.length dd (many-k) a).2)=res) ⟨J0,at_,[],by simp,by omega,by simp,by simpa using hres⟩ ?_
 rintro k s hk ⟨J,a,done,rfl,ha,hd,hr⟩;have w1:IntKind.i64.wrap (dd-1)=dd-1:=AJ;have w2:IntKind.i64.wrap ((k:Int)+1)=k+1:=AJ;have hstop:pgG f l.length dd (many-k) a=([],a)→Q (.exit 4) ⟨[(0,.v (AL .i64 l)),(1,.v (.int .i64 a)),(2,.v (.int .i64 6)),(3,.v (.int .i64 dd)),(8,.ref 0 0),(10,.ref 1 0),(16,.v (.int .i64 many)),(17,.v (.int .i64 k)),(95,.v (.bool false))],
   R0:: .cells [C,W,.own 58 3 (done.map Th.V)]::J⟩:=by
  intro h0;rw[h0]at hr;simp only[AUq]at hr;subst hr;exact hQ _ J rfl rfl rfl
 simp only[Z5,AB,AA,AG,AE,Zv];simp[AL]at hstop ⊢;by_cases h1:k <many
 ·have h1':(k:Int) <many:=by omega
  have e1:many-k=(many-(k+1))+1:=by omega
  by_cases h2:1 <dd
  ·by_cases h3:a <l.length
   ·have h3':(a:Int) <l.length:=by omega
    have q:=(hf h2 a (by omega)).fsp;have hb:=hB a;have hroom:Ae (done.length+1) 72=true:=by simp[Ae];omega
    rw[e1,pgG,if_pos h2,Ch,if_pos h3]at hr;generalize (f a).2=a2 at*;generalize (f a).1=p at*;obtain⟨pc,pv,pp⟩:=p;simp[AL,Th.V_eq]at q;simp[h1,h2,h3,AD];simp only[AA,Zt];simp[w1,AL];refine⟨_,_,q _,?_⟩;simp[AN];simp only[AA,Zr,Zq,Zu];simp[hroom,w2,h1];refine⟨_,a2,done++[Th.mk pc pv pp],⟨rfl,by simp[Th.V_eq,AL],rfl⟩,by omega,by simp;omega,?_⟩;rw[←hr,pgG,if_pos h2];simp
   ·have h0:pgG f l.length dd (many-k) a=([],a):=by rw[e1,pgG,if_pos h2,Ch,if_neg h3]
    simp[h1,h2,h3,AM];exact hstop h0
  ·have h0:pgG f l.length dd (many-k) a=([],a):=by rw[pgG,if_neg h2]
   simp[h1,h2,AM];exact hstop h0
 ·have h0:pgG f l.length dd (many-k) a=([],a):=by
   rw[show many-k=0 by omega,pgG];split<;>simp[Ch]
  simp[h1,AM];exact⟨by omega,hstop h0⟩
set_option maxHeartbeats 2000000 in
theorem ARQ (l:List Int) (hl:∀n∈l,i64 n) (at_:Nat) (ha:at_≤20000) (x2 x3:V) (R0:Row) (C:D) (J0:List Row) (Q:AExit→St→Prop)
  (hQ:∀J,Q (.exit 2) ⟨[(0,.v (AL .i64 l)),(1,.v (.int .i64 (at_+3:Nat))),(2,.v x2),(3,.v x3),(8,.ref 0 0),(10,.ref 1 0),(13,.v (.int .i64 3)),(45,.v (.bool false))],R0:: .cells [C,.own 171 3 ((Cy l at_ 3).map Val.V),.own 58 3 []]::J⟩):
  awp Tryz.prog GLx (.loop Z6) Q ⟨[(0,.v (AL .i64 l)),(1,.v (.int .i64 at_)),(2,.v x2),(3,.v x3),(8,.ref 0 0),(10,.ref 1 0),(13,.v (.int .i64 (0:Nat)))],R0:: .cells [C,.own 171 3 [],.own 58 3 []]::J0⟩:=by
 refine Aa 3 (λk s=>∃J:List Row,s=⟨[(0,.v (AL .i64 l)),(1,.v (.int .i64 (at_+k:Nat))),(2,.v x2),(3,.v x3),(8,.ref 0 0),(10,.ref 1 0),(13,.v (.int .i64 k))],R0:: .cells [C,.own 171 3 ((Cy l at_ k).map Val.V),.own 58 3 []]::J⟩) ⟨J0,by simp[Cy]⟩ ?_;rintro k s hk ⟨J,rfl⟩;simp only[Z6,AB,AA,AG,AE,Z4];simp[AL];by_cases h1:k <3
 ·have h1':(k:Int) <3:=by omega
  have w1:IntKind.i64.wrap ((k:Int)+1)=k+1:=AJ;have w2:IntKind.i64.wrap (((at_:Int)+k)+1)=at_+(k+1):=by rw[AJ];omega
  have q:=(p47 l ((at_+k:Nat):Int) 1048576 (by decide)).fsp;have hnn:=OF l hl ((at_+k:Nat):Int) 1048576;have hs:Cy l at_ (k+1)=Cy l at_ k++(match L3 l at_ k with|some x=>[x]|none=>[]):=by
   unfold Cy;rw[AU0,List.filterMap_append]
   congr 1
   simp only[List.filterMap_cons,List.filterMap_nil];cases L3 l at_ k<;>rfl
  have hlen:(Cy l at_ k).length≤k:=by
   have:=AVu (L3 l at_) (List.range k);simpa[Cy]using this
  have hroom:Ae ((Cy l at_ k).length+1) 24=true:=by simp[Ae];omega
  rw[hs];unfold L3;simp only;generalize Cy l at_ k=L at*;have hle:=Dq l ((at_+k:Nat):Int) 1048576 (by decide);generalize Ac l ((at_+k:Nat):Int) 1048576=n at*;have hq1:0≤n.tdiv 3:=Int.tdiv_nonneg hnn (by decide);have hq2:n.tdiv 3≤n:=Int.tdiv_le_self _ hnn;have w3:IntKind.i64.wrap (n.tdiv 3)=n.tdiv 3:=AJ;rw[w3];have hm0:0≤(n.tdiv 3).tmod 8:=AWa _ hq1;have hm1:(n.tdiv 3).tmod 8 <8:=AVt _ (by decide);simp[AL]at q;simp[h1',AD];simp only[AA,Z3];simp;refine⟨_,_,q _,?_⟩;simp only[AA,AE,Z1];by_cases h3:n.tmod 3=0
  ·have:(n.tdiv 3).tmod 8=0∨(n.tdiv 3).tmod 8=1∨(n.tdiv 3).tmod 8=2∨(n.tdiv 3).tmod 8=3∨(n.tdiv 3).tmod 8=4∨(n.tdiv 3).tmod 8=5∨(n.tdiv 3).tmod 8=6∨(n.tdiv 3).tmod 8=7:=by omega
   rcases this with e|e|e|e|e|e|e|e<;>
    simp[h3,AB,AA,Z0,w3,e,V.getI,AN,Zz,QH,QI,hroom,w1,w2,h1,Nz,Val.V]
  ·simp[h3,AD,AA,QH,QI,w1,w2,h1]
 ·have hk3:k=3:=by omega
  subst hk3;simp[AM];have:=hQ J;simpa[AL]using this
theorem ARS (n:Int) (d0 d1 d3:V) (R0:Row) (Q:AExit→St→Prop)
  (hQ:Q (.exit 0) ⟨[(0,.v d0),(1,.v d1),(2,.v (.int .i64 6)),(3,.v d3),(8,.ref 0 0),(10,.ref 1 0),(11,.v (.int .i64 n)),(12,.v (.int .i64 6)),(28,.v (.bool false))],[R0,.cells [.own 3 1 ((Is n).map (.int .i64)),.own 171 3 [],.own 58 3 []]]⟩):
  awp Tryz.prog GLx (.loop Z7) Q ⟨[(0,.v d0),(1,.v d1),(2,.v (.int .i64 6)),(3,.v d3),(8,.ref 0 0),(10,.ref 1 0),(11,.v (.int .i64 n)),(12,.v (.int .i64 (0:Nat)))],[R0,.cells [.own 3 1 [],.own 171 3 [],.own 58 3 []]]⟩:=by
 refine Ad 6 (λk=>⟨[(0,.v d0),(1,.v d1),(2,.v (.int .i64 6)),(3,.v d3),(8,.ref 0 0),(10,.ref 1 0),(11,.v (.int .i64 n)),(12,.v (.int .i64 k))],
  [R0,.cells [.own 3 1 ((((List.range k).filter λc=>(n.fdiv (2^(min c IntKind.i64.bits))).tmod 3==1).map λ(c:Nat)=>(c:Int)).map (.int .i64)),.own 171 3 [],.own 58 3 []]]⟩) (by simp) ?_
 intro k hk;simp only[Z7,AB,AA,AG,AE,AAy];simp;by_cases h1:k <6
 ·have h1':(k:Int) <6:=by omega
  have w1:IntKind.i64.wrap ((k:Int)+1)=k+1:=AJ;have t1:(k:Int).tmod 20=k:=Int.tmod_eq_of_lt (by omega) (by omega);have w2:IntKind.u64.wrap (k:Int)=k:=Bm (by omega) (by omega);have hs:(List.range (k+1)).filter (λc=>(n.fdiv (2^(min c IntKind.i64.bits))).tmod 3==1)=(List.range k).filter (λc=>(n.fdiv (2^(min c IntKind.i64.bits))).tmod 3==1)++(if (n.fdiv (2^(min k IntKind.i64.bits))).tmod 3==1 then [k] else []):=by
   rw[AU0,AVN];simp only[AVi,AWF]
  have hlen:((List.range k).filter (λc=>(n.fdiv (2^(min c IntKind.i64.bits))).tmod 3==1)).length≤k:=by
   have:=AUn (λc=>(n.fdiv (2^(min c IntKind.i64.bits))).tmod 3==1) (List.range k);simpa using this
  rw[hs];generalize (List.range k).filter (λc=>(n.fdiv (2^(min c IntKind.i64.bits))).tmod 3==1)=L at*;have hroom:Ae (L.length+1) 8=true:=by simp[Ae];omega
  simp[h1',AD];simp only[AA,AE,AAx];simp[t1,w2];by_cases h2:(n.fdiv (2^(min k IntKind.i64.bits))).tmod 3=1
  ·simp[h2,AA,AAw,hroom,AN,Zo,w1,h1]
  ·simp[h2,AD,AA,Zo,w1,h1]
 ·have hk6:k=6:=by omega
  subst hk6;simp[AM];simpa[Is]using hQ
theorem AEc (l:List Int) (hl:∀n∈l,i64 n) (f:Nat→Th×Nat) (dd:Int) (hdd:1≤dd∧dd≤9) (hB:∀a,(f a).2≤a+100) (M:Nat) (hM:M≤10000) (hf:1 <dd→∀a,a≤M+500→PX 60 [AL .i64 l,.int .i64 a,.int .i64 6,.int .i64 (dd-1)] [(f a).1.V,.int .i64 (f a).2])
  (at_:Nat) (ha:at_≤M) (res:List Th×Nat) (hres:pgG f l.length dd (Ac l ((at_+4:Nat):Int) 4).toNat (at_+5)=res):
  PX 60 [AL .i64 l,.int .i64 at_,.int .i64 6,.int .i64 dd] [(Th.mk (Is (Ac l at_ 1048576)) (Cy l (at_+1) 3) res.1).V,.int .i64 res.2]:=by
 refine AK k60 rfl ?_;have q1:=(p47 l at_ 1048576 (by decide)).fsp;have q2:=(p47 l ((at_+4:Nat):Int) 4 (by decide)).fsp;have hnn:=OF l hl ((at_+4:Nat):Int) 4;have hm4:=OL l ((at_+4:Nat):Int);have hm:((Ac l ((at_+4:Nat):Int) 4).toNat:Int)=Ac l ((at_+4:Nat):Int) 4:=AWd hnn;have w1:IntKind.i64.wrap ((at_:Int)+1)=(at_+1:Nat):=by rw[AJ];omega
 have w2:IntKind.i64.wrap ((at_:Int)+1+3+1)=(at_+5:Nat):=by rw[AJ];omega
 have hc:=λR0 Q=>ARS (Ac l at_ 1048576) (AL .i64 l) (.int .i64 (at_+1:Nat)) (.int .i64 dd) R0 Q;have hv:=λR0 C J Q=>ARQ l hl (at_+1) (by omega) (.int .i64 6) (.int .i64 dd) R0 C J Q;have hp:=λR0 C W J Q=>ARR l f dd hdd hB M hM hf (Ac l ((at_+4:Nat):Int) 4).toNat (at_+5) hm4 (by omega) R0 C W J Q res hres;rw[hm]at hp;generalize Is (Ac l at_ 1048576)=C at*;generalize Ac l ((at_+4:Nat):Int) 4=many at*;generalize Ac l at_ 1048576=n at*;generalize Cy l (at_+1) 3=W at*;simp[AL]at q1 q2 hc hv hp;simp only[c60,AB,AA,AG,AA3,AA2,AA1,AY];simp[AL,AN];refine⟨_,_,q1 _,?_⟩;simp[AA0,AAz,w1];refine hc _ _ ?_;simp[AAv];refine hv _ _ _ _ ?_;intro J;simp[Zy];have e4:((at_:Int)+1+3)=(at_:Int)+4:=by omega
 rw[e4];refine⟨_,_,q2 _,?_⟩;simp[Zx,Zw];rw[e4]at w2;simp at w2;rw[w2];refine hp _ _ _ _ _ ?_;intro e J' h8 h10 h1;simp[AB,AA,Zp,h8,h10,h1,AN,AF,AMH,Th.V_eq,AL,D.vs?,D.v?]
theorem W5 (l:List Int) (d:Nat) (hd:d≤2) (a:Nat):(thG l d a).2≤a+100:=by
 have:=W4 l d a;have h2:4^d≤4^2:=AV6 (by decide) hd;have h3:(4:Nat)^2=16:=by decide
 omega
theorem AJQ (l:List Int) (hl:∀n∈l,i64 n) (at_:Nat) (ha:at_≤1500):PX 60 [AL .i64 l,.int .i64 at_,.int .i64 6,.int .i64 1] [(thG l 0 at_).1.V,.int .i64 (thG l 0 at_).2]:=
 AEc l hl (thG l 0) 1 (by decide) (W5 l 0 (by decide)) 1500 (by decide) (λh=>by omega) at_ ha ([],at_+5) (by rw[pgG,if_neg (by decide)])
theorem AJP (l:List Int) (hl:∀n∈l,i64 n) (at_:Nat) (ha:at_≤1000):PX 60 [AL .i64 l,.int .i64 at_,.int .i64 6,.int .i64 2] [(thG l 1 at_).1.V,.int .i64 (thG l 1 at_).2]:=
 AEc l hl (thG l 0) 2 (by decide) (W5 l 0 (by decide)) 1000 (by decide) (λ_ a h=>AJQ l hl a h) at_ ha _ (by rw[pgG,if_pos (by decide)])
theorem AJO (l:List Int) (hl:∀n∈l,i64 n) (at_:Nat) (ha:at_≤500):PX 60 [AL .i64 l,.int .i64 at_,.int .i64 6,.int .i64 3] [(thG l 2 at_).1.V,.int .i64 (thG l 2 at_).2]:=
 AEc l hl (thG l 1) 3 (by decide) (W5 l 1 (by decide)) 500 (by decide) (λ_ a h=>AJP l hl a h) at_ ha _ (by rw[pgG,if_pos (by decide)])
def Ar (l:List Int):Th:=(thG l 2 0).1
theorem p21 (l:List Int) (hl:∀n∈l,i64 n):PX 21 [AL .i64 l,.int .i64 6,.int .i64 3] [(Ar l).V]:=by
 refine AK k21 rfl ?_;have q:=(AJO l hl 0 (by decide)).fsp;unfold Ar;generalize (thG l 2 0).2=m at*;generalize (thG l 2 0).1=t at*;obtain⟨cs,vs,ps⟩:=t;simp[AL,Th.V_eq]at q;simp only[c21,AB,AA,ADB,ADA,AY];simp[AL,Th.V_eq];refine⟨_,_,q _,?_⟩;simp[AN,AC9,AF,ANt,D.vs?,D.v?]
def I6:Int→Int→Bool:=isT ps6.length bs6
def EH (l l2:List Int):List (Int×Int):=BU I6 (Ar l2) (BY (AQ l))
def Jg (l l2:List Int) (day:Int) (c:Int×Int):Bool:=Nn I6 (Ar l2) (JL (BY (AQ l)) c.1) c.2 day
section
variable (l l2:List Int)
theorem Do {r:Rgt} (h:r∈BY (AQ l)):r∈AQ l:=(Gb (CD l)).mem_iff.1 h
theorem Dg:(AQ l).length≤4:=by
 have h1:=AUn Au ((List.range (Ac l 0 5).toNat).map (CX l));have h2:=Dq l 0 5 (by decide);rw[AUM,AWC]at h1;unfold AQ;omega
theorem Cu:(BY (AQ l)).length≤4:=by rw[(Gb (CD l)).length_eq];exact Dg l
theorem KE:∀r∈BY (AQ l),PX 113 [AL .u8 (Az r)] [r.V,.int .i64 0]:=by
 intro r hr;have hm:=Do l hr;have ht:=BT hm;obtain⟨_,_,hf⟩:=CW hm;have hc:=DD hm;exact ARB r (ht.ok (by decide)) hf hc.z (by have:=hc.n;omega) (H6 ht (by decide)) (Pt ht (by decide))
theorem Pc:∀r∈BY (AQ l),∀i:Int,0≤i→i <r.claims.length→PX 274 [.list (r.claims.map Clm.V),.int .i64 i] [(CJ r.claims i).V,.int .i64 0]:=by
 intro r hr i h0 hi;obtain⟨k,rfl⟩:∃k:Nat,i=k:=⟨i.toNat,by omega⟩;exact AJb (DD (Do l hr)) k (by omega)
theorem APL:∀r∈AQ l,∀i:Int,0≤i→i <r.claims.length→PX 24 [.list (r.claims.map Clm.V),.int .i64 i] [.list ((CS r.claims i).map F.V),.int .i64 0]:=by
 intro r hr i h0 hi;obtain⟨k,rfl⟩:∃k:Nat,i=k:=⟨i.toNat,by omega⟩;exact AP5 (DD hr) k (by omega)
theorem AI6:∀r∈AQ l,∀i:Int,0≤i→i <r.claims.length→K1 6 (CS r.claims i):=by
 intro r hr i h0 hi;obtain⟨k,rfl⟩:∃k:Nat,i=k:=⟨i.toNat,by omega⟩;exact(DD hr).alts k (by omega)
theorem TC:ps6.length=6:=rfl
theorem FC:(Ar l2).good:=J6 l2 2 0
theorem Pd (Z:List Row) (hZ:Low (G6 (AQ l)++Z)):FX 185 [.ref 0 0,.v (.list ((BY (AQ l)).map Rgt.V)),.v (Ar l2).V] (G6 (AQ l)++Z) [.own 76 2 ((EH l l2).map BA),.v (.int .i64 0)] (G6 (AQ l)++Z):=
 AQg (ps:=ps6) (bs:=bs6) (by rw[TC];decide) V0 _ 0 rfl hZ (Ar l2) (FC l2).ok (S1 l2 0) (FC l2).kd (BY (AQ l))
  (λr hr=>(DD (Do l hr)).fine (by have:=(BT (Do l hr)).lb;omega)) (by have:=Cu l;omega) (λr hr=>by have:=(DD (Do l hr)).n;omega) (Pc l)
theorem IU:(EH l l2).length≤2^20:=by
 have:=JY I6 (Ar l2) 3 (BY (AQ l)) λr hr=>(DD (Do l hr)).n;have h4:=Cu l;unfold EH;omega
theorem WJ (day:Int) (c0:List (Int×Int)):∀c∈EH l l2,∀Z,Low (G6 (AQ l)++Z)→FX 186 [.ref 0 0,.v (DN 3 day (Ar l2) (BY (AQ l)) c0),.v (BA c)] (G6 (AQ l)++Z) [.v (.bool (Jg l l2 day c)),.v (.int .i64 0)] (G6 (AQ l)++Z):=by
 rintro⟨f,i⟩ hc Z hZ;obtain⟨r,hr,hrf,h0,hi⟩:=PP hc;simp only at hrf h0 hi;subst hrf;have hm:=Do l hr;have hfind:=Gl (Ga (CD l)) hr;have hfr:JL (BY (AQ l)) r.file=r:=FT (Ga (CD l)) hr;have q:=AQf (c0:=c0) (ps:=ps6) (bs:=bs6) (by rw[TC];decide) V0 (G6 (AQ l)++Z) 0 rfl hZ (Ar l2) (FC l2).ok (S1 l2 0) (FC l2).kd 3 day (BY (AQ l)) (by have:=Cu l;omega) r r.file i hfind
  (by have:=(BT hm).ld;omega) (AI6 l r hm i h0 hi) (APL l r hm i h0 hi)
 unfold Jg;rw[hfr];exact q
end
theorem Lows.both {J K:List Row} (h:Lows J) (k:Lows K):Lows (J++K):=λrow hr n=>by
 rcases AUK.1 hr with hr|hr
 ·exact h row hr n
 ·exact k row hr n
section
variable (l l2:List Int)
theorem APK (Z:List Row) (hZ:Low (G6 (AQ l)++Z)):FX 61 [.ref 5 0,MS 1 0 (Ar l2)] (G6 (AQ l)++Z) [.v (DN 1 0 (Ar l2) (BY (AQ l)) (EH l l2)),.v (.int .i64 0)] (G6 (AQ l)++Z):=by
 refine p61 (G6 (AQ l)++Z) hZ 1 0 (by decide) (Ar l2) 5 4 1 0 rfl (BY (AQ l)) (by have:=Cu l;omega) (EH l l2) _ (.inl rfl) (λZ' hZ'=>?_) (KE l) (λZ' hZ'=>?_)
 ·rw[AUB];exact Pe (CD l) (by have:=Dg l;omega) (λr hr=>⟨Dx (CW hr).choose_spec.2,H6 (BT hr) (by decide)⟩) _ (Jc hZ hZ')
 ·refine yE _ 0 0 (Ar l2) (BY (AQ l)) (EH l l2) ?_ (λZ2 hZ2=>?_)
  ·rw[AUB];exact Jc hZ hZ'
  ·rw[AUB,AUB];exact Pd l l2 _ (Jc hZ (hZ'.both hZ2))
theorem APJ (day:Int) (Z:List Row) (hZ:Low (G6 (AQ l)++Z)):FX 61 [.ref 5 0,MS 3 day (Ar l2)] (G6 (AQ l)++Z) [.v (DN 3 day (Ar l2) (BY (AQ l)) ((EH l l2).filter (Jg l l2 day))),.v (.int .i64 0)] (G6 (AQ l)++Z):=by
 refine p61 (G6 (AQ l)++Z) hZ 3 day (by decide) (Ar l2) 5 4 1 0 rfl (BY (AQ l)) (by have:=Cu l;omega) ((EH l l2).filter (Jg l l2 day)) _ (.inr rfl) (λZ' hZ'=>?_) (KE l) (λZ' hZ'=>?_)
 ·rw[AUB];exact Pe (CD l) (by have:=Dg l;omega) (λr hr=>⟨Dx (CW hr).choose_spec.2,H6 (BT hr) (by decide)⟩) _ (Jc hZ hZ')
 ·refine yD _ 0 day (Ar l2) (BY (AQ l)) (EH l l2) (IU l l2) ?_ (Jg l l2 day) (λZ2 hZ2=>?_) (λc hc Z2 hZ2=>?_)
  ·rw[AUB];exact Jc hZ hZ'
  ·rw[AUB,AUB];exact Pd l l2 _ (Jc hZ (hZ'.both hZ2))
  ·rw[AUB,AUB];refine WJ l l2 day [] c hc _ (Jc hZ (hZ'.both ?_));intro row hrow n;rcases AT7.1 hrow with rfl|hrow
   ·exact Ds n _ _ _ _ _
   ·exact hZ2 row hrow n
end
section
variable (kind pa day:Int) (tt:Th) (rs:List Rgt) (cl:List (Int×Int)) (fs:List Int) (G:List Row) (m n at_:Int)
set_option maxHeartbeats 4000000 in
theorem r7 (hk:kind=1∨kind=2∨kind=3) (hn:i64 n) (t:Th) (arg:Int) (harg:arg=if kind=1 then 0 else if kind=2 then 1+Aq n 5 else 36000+Aq n 60) (h34:Q34 kind pa day tt rs cl fs G m) (hG:G[6]?=some (.cells ((hdC m (EL (EQ 3) m)).map .v))) (hG7:G[7]?=some (.cells t.cells))
  (hcase:(kind=2∧cl=[])∨(kind≠2∧fs=[])) (hne:∀a b,cl[0]?=some a→cl[1]?=some b→a≠b) (hcl:cl.length≤2^20) (hfs:fs.length≤2^20)
  (q27:∀J,Low (G++J)→FX 27 [.ref 5 0,.v (.int .i64 kind),.v (.int .i64 arg),.v t.V] (G++J) [.v (.agg (Bx kind pa day tt rs cl fs)),.v (.int .i64 0)] (G++J))
  (J:List Row) (hJ:Low (G++J)) (Q:AExit→St→Prop)
  (hQ:∀J',Low (G++J')→Q .normal ⟨[(2,.v (.int .i64 n)),(3,.v (.int .i64 at_)),(9,.ref 0 0),(10,.ref 5 0),(12,.ref 6 0),(13,.ref 7 0),(14,.v (.int .i64 (kind+1)))],G++J'⟩):
  awp Tryz.prog GLx Oz Q ⟨[(2,.v (.int .i64 n)),(3,.v (.int .i64 at_)),(9,.ref 0 0),(10,.ref 5 0),(12,.ref 6 0),(13,.ref 7 0),(14,.v (.int .i64 kind))],G++J⟩:=by
 have b1:=Dn n 5 (by decide);have b2:=Dn n 60 (by decide);have b3:=Ea n 5 hn;have b4:=Ea n 60 hn;have q1:=p11 n 5 (by decide);have q2:=p11 n 60 (by decide);have w1:IntKind.i64.wrap (1+Aq n 5)=1+Aq n 5:=AJ;have w2:IntKind.i64.wrap (36000+Aq n 60)=36000+Aq n 60:=AJ;have w3:IntKind.i64.wrap (kind+1)=kind+1:=AJ;have lz:Lows [.cells [.v (.int .i64 0),.v (.int .i64 0),.v (.int .i64 0),.v (.int .i64 0),.own 3 1 [],.own 171 3 [],.own 58 3 [],.own 74 8 [],.own 76 2 [],.own 3 1 [],.own 47 1 [],.own 47 1 [],.own 5 1 []]]:=λrow hrow n=>by
  rw[AUC.1 hrow];rfl
 have e1:=q27 J hJ;have e2:=q27 _ (Jc hJ lz);have g7:=λZ=>AO Z hG7;have g7':∀Z,(G++J++Z)[7]?=some (.cells t.cells):=λZ=>by rw[AUB];exact g7 _
 have hx:Lows [.cells ((Bx kind pa day tt rs cl fs).map .v)]:=λrow hrow n=>by
  rw[AUC.1 hrow];exact Hq n _ _ _ _ _ _ _
 have hnn:=λQ hQ=>n7 kind pa day tt rs cl fs G m n at_ h34 hG hcase hne hcl hfs _ (Jc hJ hx) (G++J).length (by rw[←AUB];exact FQ _ _) Q hQ;rw[←AUB]at e2 hnn;have g7n:(G++J)[7]?=some (.cells t.cells):=g7 J;rw[show Oz= .seq (.seq (.reg Yt _) (.cond (.t 42 false) .skip (.exit 0))) (.seq (.block 1 (.seq (.regA T6 _ _ _) c7N)) (.reg Ys _)) from rfl];clear h34 hG hG7 hcase hne hJ lz hx q27 g7;generalize Aq n 5=a5 at*;generalize Aq n 60=a60 at*;generalize EL (EQ 3) m=sg at*;obtain⟨cs,vs,ps⟩:=t;obtain⟨cs2,vs2,ps2⟩:=tt;generalize hH:G++J=H at*;rcases hk with rfl|rfl|rfl
 all_goals
  simp at harg;subst harg;simp only[Bx,Th.cells,Th.cs,Th.vs,Th.ps,Th.V_eq,AL]at*;simp at q1 q2 e1 e2 hnn g7' g7n;simp only[AB,AA,AE,AG,Yt];simp[AD];rw[BO];refine BG _ (λs hs=>⟨s,.inl rfl,hs⟩) ?_;simp only[T6];simp;refine⟨_,_,⟨rfl,rfl⟩,_,q1,?_⟩;simp[w1];refine⟨_,_,⟨rfl,rfl⟩,_,q2,?_⟩;simp[w2,g7n,g7'];refine⟨?_,?_⟩
  ·first|refine⟨_,_,e1,?_⟩|refine⟨_,e1,?_⟩|refine⟨_,⟨_,e1⟩,?_⟩|exact⟨_,e1⟩|exact⟨_,_,e1⟩|refine⟨⟨_,e1⟩,?_⟩
   simp[AN];refine hnn _ ?_;intro e J' hJ' f2 f3 f9 f10 f12 f13 f14;simp[Ys,f2,f3,f9,f10,f12,f13,f14];simp at w3;simp[w3];simp at hQ;exact hQ J' hJ'
  ·first|refine⟨_,_,e2,?_⟩|refine⟨_,e2,?_⟩|refine⟨_,⟨_,e2⟩,?_⟩|exact⟨_,e2⟩|exact⟨_,_,e2⟩|refine⟨⟨_,e2⟩,?_⟩
   simp[AN];refine hnn _ ?_;intro e J' hJ' f2 f3 f9 f10 f12 f13 f14;simp[Ys,f2,f3,f9,f10,f12,f13,f14];simp at w3;simp[w3];simp at hQ;exact hQ J' hJ'
end
theorem WC {l:List Rgt} (hp:l.Pairwise λa b=>a.file≠b.file):(BY l).map Rgt.file=Du (l.map Rgt.file):=by
 unfold BY;rw[AVM];conv=>rhs;rw[←List.map_id (Du (l.map Rgt.file))]
 refine AWY λk hk=>?_;have hk2:k∈l.map Rgt.file:=(AWe _ _).mem_iff.1 hk;obtain⟨r,hr,rfl⟩:=AT9.1 hk2;show (JL l r.file).file=r.file;rw[FT hp hr]
theorem AET {l:List Rgt} (hp:l.Pairwise λa b=>a.file≠b.file) (k:Nat) (r q:Rgt) (hr:(BY l)[k]?=some r) (hq:(BY l)[k+1]?=some q):r.file <q.file:=by
 have h1:(Du (l.map Rgt.file)).Pairwise λa b=>decide (a≤b)=true:=List.pairwise_mergeSort (λa b c h1 h2=>by simp at *;omega) (λa b=>by simp;omega) _;rw[←WC hp,List.pairwise_map]at h1;have h2:=Ga hp;obtain⟨g1,g2⟩:=AT4.1 hr;obtain⟨g3,g4⟩:=AT4.1 hq;have h3:=List.pairwise_iff_getElem.1 h1 k (k+1) g1 g3 (by omega);have h4:=List.pairwise_iff_getElem.1 h2 k (k+1) g1 g3 (by omega);rw[g2,g4]at h3 h4;simp at h3;omega
theorem AI5 (I:Int→Int→Bool) (t:Th) {rs:List Rgt} (hp:rs.Pairwise λa b=>a.file≠b.file):(BU I t rs).Pairwise λa b=>a≠b:=by
 unfold BU;rw[List.pairwise_flatMap];refine⟨λr _=>?_,hp.imp λh x hx y hy hxy=>?_⟩
 ·unfold C9;rw[List.pairwise_map];refine List.Pairwise.filter _ ?_;have:(E3 r).Pairwise λa b=>a≠b:=by
   unfold E3;split
   ·refine List.Pairwise.filter _ ?_;rw[List.pairwise_map];exact AVa.imp λh=>by omega
   ·exact .nil
  exact this.imp λh h2=>h (by simpa using h2)
 ·subst hxy;unfold C9 at hx hy;obtain⟨_,_,rfl⟩:=AT9.1 hx;obtain⟨_,_,h2⟩:=AT9.1 hy;simp at h2;exact h h2.1.symm
theorem AJL {cl:List (Int×Int)} (h:cl.Pairwise λa b=>a≠b) (a b:Int×Int) (ha:cl[0]?=some a) (hb:cl[1]?=some b):a≠b:=by
 obtain⟨g1,g2⟩:=AT4.1 ha;obtain⟨g3,g4⟩:=AT4.1 hb;have:=List.pairwise_iff_getElem.1 h 0 1 g1 g3 (by omega);rw[g2,g4]at this;exact this
section
variable (l l2:List Int)
def Cz:Int:=((hmL (AQ l)).get (12,0)).getD 0
theorem ue:Cz l=(bH (lfP ((BY (AQ l)).map E1)) 12 0).getD 0:=by
 have h0:=FS (AQ l).length 0 (JC l);have h1:=TU (l:=AQ l) (AQ l).length (AT6 _) (λj hj=>h0 j (by omega) (by omega)) 12 (AT6 _) 0;rw[AUb]at h1;have h2:(hmL (AQ l)).get (12,0)=bH (lfP ((AQ l).map E1)) 12 0:=h1;unfold Cz;rw[h2,u4 (CD l)]
theorem j51:∀r∈BY (AQ l),PX 51 [r.V] [AL .u8 (Az r),.int .i64 0]:=by
 intro r hr;have hm:=Do l hr;obtain⟨_,_,hf⟩:=CW hm;have:=p51 r ((BT hm).ok (by decide));rw[hf]at this;exact this
theorem j89 (H:List Row) (hl:Low H):FX 89 [.v (.int .u64 (Cz l)),.v (.int .i64 0),.v (.int .i64 4095),.v (.list ((BY (AQ l)).map prR)),.v (.agg [.list [],.list [],.list []])] H [.v (.int .i64 0)] H:=
 p89 (BY (AQ l)) (by have:=Cu l;omega) (λr hr=>by
  have hm:=Do l hr;obtain⟨_,_,hf⟩:=CW hm;exact⟨Dx hf,Pt (BT hm) (by decide),Om (BT hm)⟩) (AET (CD l)) (Ga (CD l)) H hl (Cz l) (ue l)
def Reg (H:List Row):Prop:=Low H∧∃Z,H=G6 (AQ l)++Z
theorem Reg.app {H Z:List Row} (h:Reg l H) (hZ:Lows Z):Reg l (H++Z):=by
 obtain⟨h1,Y,rfl⟩:=h;exact⟨h1.lows hZ,Y++Z,by rw[AUB]⟩
theorem ALW (H:List Row) (h:Reg l H):FX 185 [.ref 0 0,.v (.list ((BY (AQ l)).map Rgt.V)),.v (Ar l2).V] H [.own 76 2 ((EH l l2).map BA),.v (.int .i64 0)] H:=by
 obtain⟨h1,Y,rfl⟩:=h;exact Pd l l2 Y h1
theorem ALV (H:List Row) (h:Reg l H):FX 61 [.ref 5 0,MS 1 0 (Ar l2)] H [.v (DN 1 0 (Ar l2) (BY (AQ l)) (EH l l2)),.v (.int .i64 0)] H:=by
 obtain⟨h1,Y,rfl⟩:=h;exact APK l l2 Y h1
theorem ATg (day:Int) (H:List Row) (h:Reg l H):FX 61 [.ref 5 0,MS 3 day (Ar l2)] H [.v (DN 3 day (Ar l2) (BY (AQ l)) ((EH l l2).filter (Jg l l2 day))),.v (.int .i64 0)] H:=by
 obtain⟨h1,Y,rfl⟩:=h;exact APJ l l2 day Y h1
theorem S4:∀r∈BY (AQ l),r.owners.length <2^40:=λr hr=>by have:=(BT (Do l hr)).lo;omega
theorem ATf (pa:Int) (H:List Row) (h:Reg l H):FX 61 [.ref 5 0,.agg [.v (.int .i64 2),.v (.int .i64 0),.v (.int .i64 pa),.v (.int .i64 0),.nil 3 1,.nil 171 3,.nil 58 3,.nil 74 8,.nil 76 2,.nil 3 1,.nil 47 1,.nil 47 1,.nil 5 1]] H
  [.v (.agg (Bx 2 pa 0 (.mk [] [] []) (BY (AQ l)) [] (D7 pa (BY (AQ l))))),.v (.int .i64 0)] H:=by
 obtain⟨h1,Y,rfl⟩:=h;refine APN _ h1 pa 5 4 1 0 rfl (BY (AQ l)) (by have:=Cu l;omega) _ (λZ' hZ'=>?_) (KE l) (λZ' hZ'=>?_)
 ·rw[AUB];exact Pe (CD l) (by have:=Dg l;omega) (λr hr=>⟨Dx (CW hr).choose_spec.2,H6 (BT hr) (by decide)⟩) _ (Jc h1 hZ')
 ·exact AJM _ (h1.lows hZ') 0 pa 0 _ _ (by have:=Cu l;omega) (S4 l) [] []
end
section
variable (l l2:List Int)
def G7:List Row:=G6 (AQ l)++[.cells ((hdC (Cz l) (EL (EQ 3) (Cz l))).map .v),.cells (Ar l2).cells]
theorem AI8:Low (G7 l l2):=(uS _).lows λrow hrow n=>by
 simp only[AT7,AUE,or_false]at hrow;rcases hrow with rfl|rfl
 ·simp only[Row.low];exact G3 _
 ·exact GA n _
theorem K0 {J:List Row} (h:Low (G7 l l2++J)):Reg l (G7 l l2++J):=⟨h,_,by unfold G7;rw[AUB]⟩
theorem Ny:(Ar l2).small:=LJ l2 2 0
theorem TZ (day:Int):((EH l l2).filter (Jg l l2 day)).length≤2^20:=by
 have:=AUn (Jg l l2 day) (EH l l2);have:=IU l l2;omega
theorem Lf (pa:Int):(D7 pa (BY (AQ l))).length≤2^20:=by
 unfold D7;have:=AUn (λr:Rgt=>r.owners.any λo=>o.party==pa) (BY (AQ l));have:=Cu l;rw[AUM];omega
theorem APD:Q34 1 0 0 (Ar l2) (BY (AQ l)) (EH l l2) [] (G7 l l2) (Cz l):=by
 intro c2 f2 J _ hf hJ;have hf2:=hf (by decide);subst hf2;have hr:=K0 l l2 hJ;exact p34 (G7 l l2++J) hJ 0 (EQ 3) (Cz l) 1 0 0 (by decide) (Ar l2) (BY (AQ l)) c2 (EH l l2) [] [] (.inl ⟨rfl,rfl,rfl,rfl⟩) (by have:=Cu l;omega) (j51 l) (λZ hZ=>j89 l _ (hJ.lows hZ))
  _ (.inl rfl) (by have:=IU l l2;omega) (by simp) (λZ hZ=>yE (c0:=c2) _ 0 0 (Ar l2) (BY (AQ l)) (EH l l2) (hJ.lows hZ) (λZ2 hZ2=>ALW l l2 _ ((hr.app l hZ).app l hZ2)))
theorem APB (day:Int) (hd:0≤day∧day≤131072):Q34 3 0 day (Ar l2) (BY (AQ l)) ((EH l l2).filter (Jg l l2 day)) [] (G7 l l2) (Cz l):=by
 intro c2 f2 J _ hf hJ;have hf2:=hf (by decide);subst hf2;have hr:=K0 l l2 hJ;refine p34 (G7 l l2++J) hJ 0 (EQ 3) (Cz l) 3 0 day (by decide) (Ar l2) (BY (AQ l)) c2 ((EH l l2).filter (Jg l l2 day)) [] [] (.inr (.inl ⟨rfl,rfl,hd,rfl⟩)) (by have:=Cu l;omega) (j51 l) (λZ hZ=>j89 l _ (hJ.lows hZ))
  _ (.inr rfl) (by have:=TZ l l2 day;omega) (by simp) (λZ hZ=>yD (c0:=c2) _ 0 day (Ar l2) (BY (AQ l)) (EH l l2) (IU l l2) (hJ.lows hZ) (Jg l l2 day) (λZ2 hZ2=>ALW l l2 _ ((hr.app l hZ).app l hZ2)) (λc hc Z2 hZ2=>?_))
 obtain⟨h1,Y,hY⟩:=(hr.app l hZ).app l (Z:= .cells ((BZ 3 day (Ar l2) (BY (AQ l)) c2).map .v)::Z2) (λrow hrow n=>by
  rcases AT7.1 hrow with rfl|hrow
  ·exact Ds n _ _ _ _ _
  ·exact hZ2 row hrow n)
 rw[hY]at h1 ⊢;exact WJ l l2 day c2 c hc Y h1
theorem APC (pa:Int) (hp:1≤pa∧pa≤4095):Q34 2 pa 0 (.mk [] [] []) (BY (AQ l)) [] (D7 pa (BY (AQ l))) (G7 l l2) (Cz l):=by
 intro c2 f2 J hc _ hJ;have hc2:=hc rfl;subst hc2;exact p34 (G7 l l2++J) hJ 0 (EQ 3) (Cz l) 2 pa 0 (by decide) (.mk [] [] []) (BY (AQ l)) [] [] f2 (D7 pa (BY (AQ l))) (.inr (.inr ⟨rfl,hp,rfl,rfl,rfl⟩)) (by have:=Cu l;omega) (j51 l) (λZ hZ=>j89 l _ (hJ.lows hZ))
  _ (.inr rfl) (by simp) (by have:=Lf l pa;omega) (λZ hZ=>AJM _ (hJ.lows hZ) 0 pa 0 _ _ (by have:=Cu l;omega) (S4 l) [] f2)
theorem AJK (J:List Row) (hJ:Low (G7 l l2++J)):FX 27 [.ref 5 0,.v (.int .i64 1),.v (.int .i64 0),.v (Ar l2).V] (G7 l l2++J) [.v (.agg (Bx 1 0 0 (Ar l2) (BY (AQ l)) (EH l l2) [])),.v (.int .i64 0)] (G7 l l2++J):=by
 have hr:=K0 l l2 hJ;exact p27 _ hJ 5 1 0 (Ar l2) _ rfl (.inl rfl) (λ_ Z hZ=>p22 _ (hJ.lows hZ) 5 (Ar l2) (Ny l2) _ _ (λZ2 hZ2=>ALV l l2 _ ((hr.app l hZ).app l hZ2))) (λh=>by cases h) (λh=>by cases h)
theorem AJJ (pa:Int) (hp:1≤pa∧pa≤4095) (J:List Row) (hJ:Low (G7 l l2++J)):FX 27 [.ref 5 0,.v (.int .i64 2),.v (.int .i64 pa),.v (Ar l2).V] (G7 l l2++J) [.v (.agg (Bx 2 pa 0 (.mk [] [] []) (BY (AQ l)) [] (D7 pa (BY (AQ l))))),.v (.int .i64 0)] (G7 l l2++J):=by
 have hr:=K0 l l2 hJ;exact p27 _ hJ 5 2 pa (Ar l2) _ rfl (.inr (.inl rfl)) (λh=>by cases h) (λ_ Z hZ=>p72 _ (hJ.lows hZ) 5 pa hp _ _ (λZ2 hZ2=>ATf l pa _ ((hr.app l hZ).app l hZ2))) (λh=>by cases h)
theorem AJI (day:Int) (hd:0≤day∧day≤131072) (J:List Row) (hJ:Low (G7 l l2++J)):FX 27 [.ref 5 0,.v (.int .i64 3),.v (.int .i64 day),.v (Ar l2).V] (G7 l l2++J) [.v (.agg (Bx 3 0 day (Ar l2) (BY (AQ l)) ((EH l l2).filter (Jg l l2 day)) [])),.v (.int .i64 0)] (G7 l l2++J):=by
 have hr:=K0 l l2 hJ;exact p27 _ hJ 5 3 day (Ar l2) _ rfl (.inr (.inr rfl)) (λh=>by cases h) (λh=>by cases h) (λ_ Z hZ=>p23 _ (hJ.lows hZ) 5 (Ar l2) (Ny l2) day hd _ (EH l l2) _ (λZ2 hZ2=>ALV l l2 _ ((hr.app l hZ).app l hZ2)) (λZ2 hZ2=>ATg l l2 day _ ((hr.app l hZ).app l hZ2)))
set_option maxHeartbeats 1000000 in
theorem ARI (h20:PX 20 [] [.bool true]) (hl2:∀n∈l2,i64 n) (n at_:Int) (hn:i64 n):PX 7 [AL .i64 l,AL .i64 l2,.int .i64 n,.int .i64 at_] [.bool true]:=by
 refine AK k7 rfl ?_;have h13:=p13 [CM ps6 bs6] 0 (by simp) (by
  have:=uS [];intro row hrow;rw[AUC.1 hrow];simp only[CM,Row.low];refine EB λd hd=>?_;rcases AT7.1 hd with rfl|hd
  ·rfl
  ·obtain⟨b,_,rfl⟩:=AT9.1 hd;rfl) (m:=3) (by decide) (AQ l) (λr hr=>BT hr) (by have:=Dg l;omega)
 rw[JC,if_pos rfl,if_pos rfl]at h13;have h13':FX 13 [.ref 0 0,.v (.list ((AQ l).map Rgt.V))] [CM ps6 bs6] [.ref 5 0,.v (.int .i64 0)] (G6 (AQ l)):=h13;have h10:=(p10 l).fsp;have h14:=(p14 (AQ l) (λr hr=>(BT hr).ok (by decide)) (by have:=Dg l;omega)).fsp;have h21:=(p21 l2 hl2).fsp;have h17:=p17 (G6 (AQ l)) 5 4 3 (.ref 0 0) (.mref 1) (.mref 2) (hmL (AQ l)) rfl rfl rfl;have h17':FX 17 [.ref 5 0] (G6 (AQ l)) [.v (.int .u64 (Cz l))] (G6 (AQ l)):=h17;have h39:=(p39 3 (Cz l) 0).fsp;have q20:=h20.fsp;have b1:=Dn n 5 (by decide);have b2:=Dn n 60 (by decide);have b3:=Ea n 5 hn;have b4:=Ea n 60 hn;have hG6:(G6 (AQ l)).length=6:=rfl;have g6:(G7 l l2)[6]?=some (.cells ((hdC (Cz l) (EL (EQ 3) (Cz l))).map .v)):=rfl;have g7:(G7 l l2)[7]?=some (.cells (Ar l2).cells):=rfl;have hap:=AI5 I6 (Ar l2) (Ga (CD l));have hround:∀(k:Int),k=1∨k=2∨k=3→∀J,Low (G7 l l2++J)→∀Q:AExit→St→Prop,
   (∀J',Low (G7 l l2++J')→Q .normal ⟨[(2,.v (.int .i64 n)),(3,.v (.int .i64 at_)),(9,.ref 0 0),(10,.ref 5 0),(12,.ref 6 0),(13,.ref 7 0),(14,.v (.int .i64 (k+1)))],G7 l l2++J'⟩)→
   awp Tryz.prog GLx Oz Q ⟨[(2,.v (.int .i64 n)),(3,.v (.int .i64 at_)),(9,.ref 0 0),(10,.ref 5 0),(12,.ref 6 0),(13,.ref 7 0),(14,.v (.int .i64 k))],G7 l l2++J⟩:=by
  rintro k (rfl|rfl|rfl) J hJ Q hQ
  ·exact r7 1 0 0 (Ar l2) _ _ _ (G7 l l2) (Cz l) n at_ (.inl rfl) hn (Ar l2) 0 rfl (APD l l2) g6 g7 (.inr ⟨by decide,rfl⟩) (AJL hap) (IU l l2) (by simp) (AJK l l2) J hJ Q hQ
  ·exact r7 2 (1+Aq n 5) 0 (.mk [] [] []) _ _ _ (G7 l l2) (Cz l) n at_ (.inr (.inl rfl)) hn (Ar l2) (1+Aq n 5) rfl (APC l l2 _ (by omega)) g6 g7 (.inl ⟨rfl,rfl⟩) (by simp) (by simp) (Lf l _) (AJJ l l2 _ (by omega)) J hJ Q hQ
  ·exact r7 3 0 (36000+Aq n 60) (Ar l2) _ _ _ (G7 l l2) (Cz l) n at_ (.inr (.inr rfl)) hn (Ar l2) (36000+Aq n 60) rfl (APB l l2 _ (by omega)) g6 g7 (.inr ⟨by decide,rfl⟩) (AJL (List.Pairwise.filter _ hap)) (TZ l l2 _) (by simp) (AJI l l2 _ (by omega)) J hJ Q hQ
 have hloop:∀Q:AExit→St→Prop,(∀e J,Q (.exit 0) ⟨e,J⟩)→awp Tryz.prog GLx (.loop Oz) Q ⟨[(2,.v (.int .i64 n)),(3,.v (.int .i64 at_)),(9,.ref 0 0),(10,.ref 5 0),(12,.ref 6 0),(13,.ref 7 0),(14,.v (.int .i64 1))],G7 l l2⟩:=by
  intro Q hQ;refine Aa 3 (λk s=>∃J,Low (G7 l l2++J)∧s=⟨[(2,.v (.int .i64 n)),(3,.v (.int .i64 at_)),(9,.ref 0 0),(10,.ref 5 0),(12,.ref 6 0),(13,.ref 7 0),(14,.v (.int .i64 ((k:Int)+1)))],G7 l l2++J⟩) ⟨[],by rw[AUq];exact AI8 l l2,by simp⟩ ?_;rintro k s hk ⟨J,hJ,rfl⟩;by_cases hk3:k <3
  ·refine hround ((k:Int)+1) (by omega) J hJ _ λJ' hJ'=>⟨hk3,J',hJ',?_⟩;simp
  ·have hk4:k=3:=by omega
   subst hk4;rw[show Oz= .seq (.seq (.reg Yt _) (.cond (.t 42 false) .skip (.exit 0))) (.seq (.block 1 (.seq (.regA T6 _ _ _) c7N)) (.reg Ys _)) from rfl];simp only[AB,AA,AE,Yt];simp[AM];exact hQ _ _
 clear h13 h17 hround hap g6 g7 hl2;unfold G7 at hloop;simp only[hdV,hdC]at*;generalize G6 (AQ l)=G at*;generalize AQ l=own at*;generalize EL (EQ 3) (Cz l)=sg at*;generalize Cz l=m at*;generalize Ar l2=t at*;obtain⟨cs,vs,pa⟩:=t;simp only[Th.V_eq,Th.cells,Th.cs,Th.vs,Th.ps,AL]at*;simp at h10 h14 h21 h39 q20 hloop;simp only[c7,AB,AA,AE,AG,AL6,AL5,AY];simp;refine⟨_,_,p9t,?_⟩;simp;simp only[AA,AL3];simp;refine⟨_,_,(h10 _),?_⟩;simp;refine⟨_,_,(h14 _),?_⟩;simp;refine⟨_,_,h13',?_⟩;simp;simp[ALz,AD];simp only[AA,ALy];simp;refine⟨_,_,h17',?_⟩;simp[AN];refine⟨_,_,(h39 _),?_⟩;simp[AN];simp only[AA,ALx];simp;refine⟨_,_,(h21 _),?_⟩;simp[AN,hG6,ALw];refine hloop _ ?_;intro e J;simp[zo];refine⟨_,_,(q20 _),?_⟩;simp[AF,c7R]
end
end Go.Va
