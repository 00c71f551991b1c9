/- Laws, part 42. No condition. -/
import Derived.Test.YtbonllhdlmegeaaGreatDoorCards
import Derived.ChangeSlices
import Derived.Deep.DeepHandedRow
import Derived.Lib.LaidTab
import Derived.Stop.Joined
import Derived.JoinedCond
import Derived.ProofKit
import Derived.Test.YtbonllhdlmegeaaGreatDoorL04
import Derived.Test.YtbonllhdlmegeaaGreatDoorL34
import Derived.Test.YtbonllhdlmegeaaGreatDoorL41
set_option linter.all false
set_option maxRecDepth 100000
set_option maxHeartbeats 4000000
noncomputable section
namespace Go.Proofs.YtbonllhdlmegeaaGreatDoor.rightsBytes
open Go.ChangeShapes Go.WideShapes Go.ChangeAt Go.RowKit Go.Va
theorem own:ownKnob Tryz.prog.godebug=none:=by kernel_rfl
theorem gCiv:Tryz.prog.globalNamed "priorart/civil.lengths" =some 2:=by kernel_rfl
theorem gLaw:Tryz.prog.globalNamed "priorart/law.ranges" =some 1:=by kernel_rfl
theorem gActs:Tryz.prog.globalNamed "priorart/acts.fields" =some 0:=by kernel_rfl
theorem gFees:Tryz.prog.globalNamed "priorart/fees.events" =some 3:=by kernel_rfl
theorem gTypes:(Tryz.prog.globals[0]?).map (·.type)=some 299∧(Tryz.prog.globals[1]?).map (·.type)=some 341∧(Tryz.prog.globals[2]?).map (·.type)=some 471∧(Tryz.prog.globals[3]?).map (·.type)=some 496:=⟨by kernel_rfl,by kernel_rfl,by kernel_rfl,by kernel_rfl⟩
theorem cells3:Tryz.prog.cellsOf 3=1:=by kernel_rfl
theorem cells5:Tryz.prog.cellsOf 5=1:=by kernel_rfl
def gOf (W:World):Gh:=⟨λb o=>W.cell? ⟨b,o,none⟩⟩
theorem agreeOf (W:World):Agree (gOf W) W:=λ_ _ _ h=>h
def civL:List Int:=[31,28,31,30,31,30,31,31,30,31,30,31]
def actL:List Int:=[655,1,1,257,61,20,17,17,49,17,1,1,5,281,5,257,77,29,17,1024,18,50]
def lawL:List (List Int):=[[0,120],[0,120],[0,120],[0,120],[0,120],[0,120],[0,120],[1,100],[1,100],[0,1099511627776],[0,1099511627776],[0,1099511627776],[0,1099511627776],[0,1099511627776],[0,1099511627776],[0,1099511627776],[0,1099511627776],[0,100],[0,100]]
def feeL:List (List Int):=[[10,2,11],[12,3,12],[14,4,13],[18,5,14]]
theorem whole {W:World} (h:laidMetH Tryz.prog Rows.rightsBytesRow.laid W):(∀i,W.cell? ⟨2,i,none⟩=(civL.map (Value.int .i64))[i]?)∧(∀i,W.cell? ⟨1,i,none⟩=(lawL.flatten.map (Value.int .i64))[i]?)∧
  (∀i,W.cell? ⟨0,i,none⟩=(actL.map (Value.int .i64))[i]?)∧∀i,W.cell? ⟨3,i,none⟩=(feeL.flatten.map (Value.int .i64))[i]?:=by
 obtain⟨ps,hv,_⟩:=(h:laidMet Tryz.prog Rows.rightsBytesRow.laid W);obtain⟨g1,t1,c1,f1,p1,q1,hg1,ht1,hv1,hd1,hv,_⟩:=hv;obtain⟨g2,t2,c2,f2,p2,q2,hg2,ht2,hv2,hd2,hv,_⟩:=hv;obtain⟨g3,t3,c3,f3,p3,q3,hg3,ht3,hv3,hd3,hv,_⟩:=hv;obtain⟨g4,t4,c4,f4,p4,q4,hg4,ht4,hv4,hd4,_,_⟩:=hv;obtain rfl:=Option.some.inj (gCiv.symm.trans hg1);obtain rfl:=Option.some.inj (gLaw.symm.trans hg2);obtain rfl:=Option.some.inj (gActs.symm.trans hg3);obtain rfl:=Option.some.inj (gFees.symm.trans hg4);obtain rfl:=Option.some.inj (gTypes.2.2.1.symm.trans ht1);obtain rfl:=Option.some.inj (gTypes.2.1.symm.trans ht2);obtain rfl:=Option.some.inj (gTypes.1.symm.trans ht3);obtain rfl:=Option.some.inj (gTypes.2.2.2.symm.trans ht4);have e1:c1.toList=civL.map (Value.int .i64):=readI (n:=12) Tryz.underlying471 Tryz.underlying3 cells3 (by kernel_rfl) rfl hd1;have e2:c2.toList=lawL.flatten.map (Value.int .i64):=readS (n:=19) (k:=2) Tryz.underlying341 Tryz.underlying340 (by kernel_rfl) (by kernel_rfl) rfl (by
  intro j f hj
  match j with
  |0=>simp at hj;subst hj;exact⟨rfl,Tryz.underlying3,cells3⟩
  |1=>simp at hj;subst hj;exact⟨rfl,Tryz.underlying3,cells3⟩
  |j+2=>simp at hj) rfl (by decide) hd2
 have e3:c3.toList=actL.map (Value.int .i64):=readI (n:=22) Tryz.underlying299 Tryz.underlying3 cells3 (by kernel_rfl) rfl hd3;have e4:c4.toList=feeL.flatten.map (Value.int .i64):=readS (n:=4) (k:=3) Tryz.underlying496 Tryz.underlying495 (by kernel_rfl) (by kernel_rfl) rfl (by
  intro j f hj
  match j with
  |0=>simp at hj;subst hj;exact⟨rfl,Tryz.underlying3,cells3⟩
  |1=>simp at hj;subst hj;exact⟨rfl,Tryz.underlying3,cells3⟩
  |2=>simp at hj;subst hj;exact⟨rfl,Tryz.underlying3,cells3⟩
  |j+3=>simp at hj) rfl (by decide) hd4
 exact⟨λi=>by rw[World.var?_cell gCiv hv1,←e1,Array.getElem?_toList],λi=>by rw[World.var?_cell gLaw hv2,←e2,Array.getElem?_toList],λi=>by rw[World.var?_cell gActs hv3,←e3,Array.getElem?_toList],λi=>by rw[World.var?_cell gFees hv4,←e4,Array.getElem?_toList]⟩
theorem globOf {W:World} (h:laidMetH Tryz.prog Rows.rightsBytesRow.laid W):GlobOK GLx (gOf W):=by
 obtain⟨hc,hl,ha,hf⟩:=whole h;intro p hp;simp only[List.mem_cons,List.not_mem_nil,or_false]at hp;rcases hp with rfl|rfl|rfl|rfl
 ·intro i v hv;rw[Nat.zero_add];exact(ha i).trans hv
 ·intro i v hv;rw[Nat.zero_add];exact(hl i).trans hv
 ·intro i v hv;rw[Nat.zero_add];exact(hc i).trans hv
 ·intro i v hv;rw[Nat.zero_add];exact(hf i).trans hv
theorem walk {W:World} (hg:GlobOK GLx (gOf W)) {v0 v1 v5:Value} {l k raw:List Int} (h0:RepV (gOf W) (nums .i64 l) v0) (h1:RepV (gOf W) (nums .i64 k) v1) (h5:RepV (gOf W) (nums .u8 raw) v5) (hr:isB raw) (a h b c:Int) (ha:i64 a) (hh:i64 h) (hb:i64 b) (hc:0≤c∧c <256):
  Calls Tryz.prog 3 #[v0,v1,.int .i64 a,.int .i64 h,.int .i64 b,v5,.int .u8 c] W λe W'=>e= .returned (.bool true)∧W.keptBut W' (λ_=>False)∧∀a:Addr,a.block <W.heap.size→W'.cell? a=W.cell? a:=by
 refine((law3 l k a h b (pLives PrL_ok rB_ok) ha hh hb raw hr c hc).2 (gOf W) W [v0,v1,.int .i64 a,.int .i64 h,.int .i64 b,v5,.int .u8 c] (agreeOf W) hg (.cons h0 (.cons h1 (.cons (.int _ _) (.cons (.int _ _) (.cons (.int _ _) (.cons h5 (.cons (.int _ _) .nil)))))))).mono ?_;rintro e W' ⟨v,g',rfl,hr,hc,_⟩;have hv:v= .bool true:=by
  have hr':RepV g' (.bool true) v:=hr;cases hr';rfl
 subst hv;refine⟨rfl,⟨hc.os,hc.out,λi hi=>?_⟩,λa ha=>World.cell?_of_block (hc.heap _ ha (λh=>h))⟩;have:=hc.heap i hi (λh=>h);rw[this];cases hx:W.heap[i]? with
 |none=>rfl
 |some o=>cases o<;>simp
theorem rep_ints {W:World} {kd:IntKind} {a:Addr} {len cap:Nat} {zs:List Int} (hs:a.spot=none) (hl:len≤cap) (hz:zs.length=cap) (hc:∀i,i <zs.length→W.cell? (a.add i)=some (.int kd (zs.getD i 0))):
  RepV (gOf W) (nums kd (zs.take len)) (.slice (some a) len cap):=by
 have e:(zs.take len).length=len:=by simp;omega
 have h:=RepV.list (g:=gOf W) ((zs.take len).map (V.int kd)) a cap 1 (λi=> .int kd (zs.getD i 0)) hs (by rw[List.length_map,e];exact hl) ?_ ?_
 ·have e2:(List.map (V.int kd) (zs.take len)).length=len:=by rw[List.length_map,e]
  rw[e2]at h;exact h
 ·intro i x hx;simp only[List.getElem?_map,Option.map_eq_some_iff]at hx;obtain⟨n,hn,rfl⟩:=hx;rw[List.getElem?_take]at hn;split at hn
  ·have:zs.getD i 0=n:=by simp[List.getD,hn]
   rw[this];exact .int _ _
  ·cases hn
 ·intro i hi;refine⟨rfl,λj v hv=>?_⟩
  match j with
  |0=>
   simp[Value.cells]at hv;subst hv;have hi':i <zs.length:=by rw[List.length_map,e]at hi;omega
   have:=hc i hi';obtain⟨b,o,sp⟩:=a;simp only at hs;subst hs;rw[add_plain]at this;simpa[gOf]using this
  |j+1=>simp[Value.cells]at hv
set_option maxRecDepth 100000 in
theorem open_nums {H:Type} {enc:TypeId×Value→H} {W:World} {b0:Nat} {v:Value} {d:DataW H} {ps:List MemPlace} (hval:Value.okWide Tryz.prog W .any b0 22 v) (h:DataW.Trod enc Tryz.prog W 0 (λ_=>true) true 22 v d ps):
  ∃l:List Int,RepV (gOf W) (nums .i64 l) v∧(∀n∈l,i64 n)∧∀W':World,(∀a:Addr,a.block <W.heap.size→W'.cell? a=W.cell? a)→∀sp:Nat→Bool,(∀p∈ps,sp p.block=true)→DataW.Trod enc Tryz.prog W' 0 sp true 22 v d ps:=by
 obtain⟨fuel,hf⟩:=h;simp only[Value.okWide,Cell.okWide,Tryz.underlying22]at hval;rcases open_ints Tryz.underlying22 Tryz.underlying3 cells3 hf with ⟨hcs,hx⟩|⟨a,len,cap,zs,hcs,_,hl,hm,hz,hx,hcell,hwz⟩
 ·cases v<;>simp[Value.cells]at hcs
  ·obtain⟨rfl,rfl,rfl⟩:=hcs;simp only[Prod.mk.injEq]at hx;obtain⟨rfl,rfl⟩:=hx;refine⟨[],.lnil,by simp,λW' _ sp _=>⟨1,?_⟩⟩;simp[DataW.trod,Value.cells,Tryz.underlying22]
  ·simp[Cell.ok,Tryz.underlying22]at hval
 ·cases v<;>simp[Value.cells]at hcs
  ·obtain⟨rfl,rfl,rfl⟩:=hcs;simp only[Prod.mk.injEq]at hx;obtain⟨rfl,rfl⟩:=hx;simp only[if_true]at hz;simp only[Cell.ok,Tryz.underlying22,World.has]at hval;have hs:=hval.2.2.2.1;refine⟨zs.take _,rep_ints hs hl hz hcell,(λn hn=>by
    have h:=hwz n (List.mem_of_mem_take hn);have b:=bounds_i64 h;exact⟨b.1,by omega⟩),λW' hW sp hsp=>⟨2,?_⟩⟩
   simp only[Value.cells];refine shut_ints 0 Tryz.underlying22 Tryz.underlying3 cells3 (Nat.zero_le _) hl hm ?_ (λi hi=>?_) hwz
   ·by_cases h0:zs.length=0
    ·split<;>omega
    ·have h1:sp a.block=true:=hsp (.cell a.block a.off) (MemPlace.mem_row.2 ⟨0,by omega,by simp⟩);rw[if_pos h1];exact hz
   ·have h1:=hcell i hi;rw[hW _ (World.block_lt_of_cell? W _ h1)];exact h1
  ·simp[Cell.ok,Tryz.underlying22]at hval
set_option maxRecDepth 100000 in
theorem open_bytes {H:Type} {enc:TypeId×Value→H} {W:World} {b0:Nat} {v:Value} {d:DataW H} {ps:List MemPlace} (hval:Value.okWide Tryz.prog W .any b0 23 v) (h:DataW.Trod enc Tryz.prog W 0 (λ_=>true) true 23 v d ps):
  ∃l:List Int,RepV (gOf W) (nums .u8 l) v∧isB l∧∀W':World,(∀a:Addr,a.block <W.heap.size→W'.cell? a=W.cell? a)→∀sp:Nat→Bool,(∀p∈ps,sp p.block=true)→DataW.Trod enc Tryz.prog W' 0 sp true 23 v d ps:=by
 obtain⟨fuel,hf⟩:=h;simp only[Value.okWide,Cell.okWide,Tryz.underlying23]at hval;rcases open_ints Tryz.underlying23 Tryz.underlying5 cells5 hf with ⟨hcs,hx⟩|⟨a,len,cap,zs,hcs,_,hl,hm,hz,hx,hcell,hwz⟩
 ·cases v<;>simp[Value.cells]at hcs
  ·obtain⟨rfl,rfl,rfl⟩:=hcs;simp only[Prod.mk.injEq]at hx;obtain⟨rfl,rfl⟩:=hx;refine⟨[],.lnil,(λn hn=>by cases hn),λW' _ sp _=>⟨1,?_⟩⟩;simp[DataW.trod,Value.cells,Tryz.underlying23]
  ·simp[Cell.ok,Tryz.underlying23]at hval
 ·cases v<;>simp[Value.cells]at hcs
  ·obtain⟨rfl,rfl,rfl⟩:=hcs;simp only[Prod.mk.injEq]at hx;obtain⟨rfl,rfl⟩:=hx;simp only[if_true]at hz;simp only[Cell.ok,Tryz.underlying23,World.has]at hval;have hs:=hval.2.2.2.1;refine⟨zs.take _,rep_ints hs hl hz hcell,(λn hn=>by
    have h:=hwz n (List.mem_of_mem_take hn);have b:=bounds_u8 h;exact⟨b.1,by omega⟩),λW' hW sp hsp=>⟨2,?_⟩⟩
   simp only[Value.cells];refine shut_ints 0 Tryz.underlying23 Tryz.underlying5 cells5 (Nat.zero_le _) hl hm ?_ (λi hi=>?_) hwz
   ·by_cases h0:zs.length=0
    ·split<;>omega
    ·have h1:sp a.block=true:=hsp (.cell a.block a.off) (MemPlace.mem_row.2 ⟨0,by omega,by simp⟩);rw[if_pos h1];exact hz
   ·have h1:=hcell i hi;rw[hW _ (World.block_lt_of_cell? W _ h1)];exact h1
  ·simp[Cell.ok,Tryz.underlying23]at hval
set_option maxRecDepth 100000 in
theorem contract (H:Type) (enc:TypeId×Value→H) (W:World) (base:Nat) (args:Array Value) (ds gs:List (DataW H)) (before:List MemPlace)
  (hval:∀(j:Nat) t v,Tryz.f3.params[j]?=some t→args[j]?=some v→Value.okWide Tryz.prog W .any base t v)
  (hW:DataW.Whole enc Tryz.prog Tryz.f3.params.toList Rows.rightsBytesSpec.vars false W args.toList ds gs before) (hL:laidMetH Tryz.prog Rows.rightsBytesRow.laid W):
  Calls Tryz.prog 3 args W λe W'=>∃v,e= .returned v∧Rows.rightsBytesSpec.post enc Tryz.prog Tryz.f3 false true false false W args v W':=by
 have hW':=hW;obtain⟨p,q,hA0,hV,rfl,hfz,hnd⟩:=hW;have hA:DataW.TrodAll enc Tryz.prog W 0 (λ_=>true) true Tryz.f3.params.toList args.toList ds p:=hA0;rw[Tryz.params3]at hA hval;obtain⟨v0,vs0,d0,ds0,p0,q0,hargs,rfl,rfl,h0,r0⟩:=trodAll_cons hA;obtain⟨v1,vs1,d1,ds1,p1,q1,rfl,rfl,rfl,h1,r1⟩:=trodAll_cons r0;obtain⟨v2,vs2,d2,ds2,p2,q2,rfl,rfl,rfl,h2,r2⟩:=trodAll_cons r1;obtain⟨v3,vs3,d3,ds3,p3,q3,rfl,rfl,rfl,h3,r3⟩:=trodAll_cons r2;obtain⟨v4,vs4,d4,ds4,p4,q4,rfl,rfl,rfl,h4,r4⟩:=trodAll_cons r3;obtain⟨v5,vs5,d5,ds5,p5,q5,rfl,rfl,rfl,h5,r5⟩:=trodAll_cons r4;obtain⟨v6,vs6,d6,ds6,p6,q6,rfl,rfl,rfl,h6,r6⟩:=trodAll_cons r5;obtain⟨rfl,rfl,rfl⟩:=trodAll_nil r6;obtain rfl:args= #[v0,v1,v2,v3,v4,v5,v6]:=by cases args;simp_all
 obtain⟨rfl,rfl⟩:=trodVars_none hV;obtain⟨n2,rfl,rfl,rfl,w2⟩:=open_int Tryz.underlying3 (hval 2 3 v2 rfl rfl) h2;obtain⟨n3,rfl,rfl,rfl,w3⟩:=open_int Tryz.underlying3 (hval 3 3 v3 rfl rfl) h3;obtain⟨n4,rfl,rfl,rfl,w4⟩:=open_int Tryz.underlying3 (hval 4 3 v4 rfl rfl) h4;obtain⟨n6,rfl,rfl,rfl,w6⟩:=open_int Tryz.underlying5 (hval 6 5 v6 rfl rfl) h6;clear hA0;have b2:=bounds_i64 w2;have b3:=bounds_i64 w3;have b4:=bounds_i64 w4;have b6:=bounds_u8 w6;have hg:=globOf hL;have hb2:i64 n2:=⟨b2.1,by omega⟩;have hb3:i64 n3:=⟨b3.1,by omega⟩;have hb4:i64 n4:=⟨b4.1,by omega⟩;obtain⟨l,hr,_,hk⟩:=open_nums (hval 0 22 v0 rfl rfl) h0;obtain⟨l2,hr2,_,hk2⟩:=open_nums (hval 1 22 v1 rfl rfl) h1;obtain⟨raw,hr5,hrB,hk5⟩:=open_bytes (hval 5 23 v5 rfl rfl) h5;simp only[List.append_nil,List.nil_append]at hW';refine(walk hg hr hr2 hr5 hrB n2 n3 n4 n6 hb2 hb3 hb4 ⟨b6.1,by omega⟩).mono ?_;rintro e W' ⟨rfl,hkept,hcell⟩;refine⟨_,rfl,_,_,_,[],p0++(p1++p5),[],hW',?_,?_,?_,World.keptBut_mono (λ_ f=>f.elim) hkept,λh=>by cases h⟩
 ·exact trodAll_cons_mk (shut_bool Tryz.underlying4 _) trodAll_mk0
 ·have h:=trodAll_cons_mk (hk W' hcell (λb=>decide (b <W.heap.size)) (λp hp=>by simpa using hW'.lt p (by simp[hp]))) (trodAll_cons_mk (hk2 W' hcell (λb=>decide (b <W.heap.size)) (λp hp=>by simpa using hW'.lt p (by simp[hp]))) (trodAll_cons_mk (shut_int Tryz.underlying3 w2) (trodAll_cons_mk (shut_int Tryz.underlying3 w3) (trodAll_cons_mk (shut_int Tryz.underlying3 w4) (trodAll_cons_mk (hk5 W' hcell (λb=>decide (b <W.heap.size)) (λp hp=>by simpa using hW'.lt p (by simp[hp]))) (trodAll_cons_mk (shut_int Tryz.underlying5 w6) trodAll_mk0))))));simp only[List.append_nil,List.nil_append]at h;rw[Tryz.params3];exact h
 ·rfl
def setG (h:Array Obj) (k:Nat) (l:List Value):Array Obj:=h.modify k fun
 | .cells _ t frozen=> .cells l.toArray t frozen
 |o=>o
noncomputable def laidWorld (os:Os):World:=
 {World.holding Tryz.prog os ⟨#[],#[],[]⟩with heap:=setG (setG (setG (setG (World.holding Tryz.prog os ⟨#[],#[],[]⟩).heap 0 (actL.map (Value.int .i64))) 1 (lawL.flatten.map (Value.int .i64))) 2 (civL.map (Value.int .i64))) 3 (feeL.flatten.map (Value.int .i64))}
def wArgs:Array Value:= #[.slice none 0 0,.slice none 0 0,.int .i64 0,.int .i64 0,.int .i64 0,.slice none 0 0,.int .u8 0]
theorem laid_met (os:Os):laidMet Tryz.prog Rows.rightsBytesRow.laid ((laidWorld os).forCall (λ_ _=>0) ⟨#[],wArgs,[]⟩).memory:=
 laidMet_of_run' 8 (by kernel_rfl) (by kernel_rfl)
theorem reads (os:Os) {H:Type} (enc:TypeId×Value→H):∃places,DataW.whole enc Tryz.prog ((laidWorld os).forCall (λ_ _=>0) ⟨#[],wArgs,[]⟩).memory Tryz.f3.params.toList Rows.rightsBytesSpec.vars false wArgs.toList 8=some ([.nil,.nil,.lit (.int .i64 0),.lit (.int .i64 0),.lit (.int .i64 0),.nil,.lit (.int .u8 0)],[],places):=
 ⟨[],by kernel_rfl⟩
set_option maxRecDepth 100000 in
theorem lifted (os:Os) (started:os.Started) (H:Type) (enc:TypeId×Value→H) (F:Stop.Interp):
  ReturnsInHanded {} Tryz.checked os 3 .any ((OpenSpec.ofChange Rows.rightsBytesSpec).preRow enc Tryz.prog Tryz.f3 Rows.rightsBytesRow.domain false Rows.rightsBytesRow.laid) (((OpenSpec.ofChange Rows.rightsBytesSpec).at F).post enc Tryz.prog Tryz.f3 false true false false):=by
 obtain⟨places,hx⟩:=reads os enc;refine returnsInHanded_of_row (C:=Tryz.checked) (s:=OpenSpec.ofChange Rows.rightsBytesSpec) own started (by kernel_rfl) Tryz.func3
  (witness_row_at (enc:=enc) (C:=Tryz.checked) false (laidWorld os) wArgs rfl (by kernel_rfl) (by kernel_rfl) (by kernel_rfl)
   (OpenSpec.preRow_of_cond 8 hx (by kernel_rfl) (λk hk=>by cases hk) (by kernel_rfl) (laid_met os))) ?_
 intro W base args ds gs before hval hW _ _ _ hL _ _;exact contract H enc W base args ds gs before hval hW hL
theorem said (hC : joinedFacts Tryz.prog 3 Tryz.f3 (OpenSpec.ofChange Rows.rightsBytesSpec).bare Rows.rightsBytesRow = true):Rows.RightsBytesSaid:=
 OpenClaim.holds_of_cond 3 Tryz.f3 rfl rfl rfl rfl rfl rfl rfl ⟨rfl,rfl,rfl,rfl,rfl⟩ rfl rfl rfl rfl rfl (by kernel_rfl) Tryz.func3 hC
  (of_decide_eq_true (by kernel_rfl)) (by unfold Func.isWrapper;first|(rw[if_pos (by decide+kernel)];kernel_rfl)|(rw[if_neg (by decide+kernel)];exact⟨rfl,rfl⟩))
  (λos started H enc _ F=>by rw[OpenClaim.pre_eq_preRow];exact lifted os started H enc F)
end Go.Proofs.YtbonllhdlmegeaaGreatDoor.rightsBytes
