/- Laws that ExtractBytes leans on, part 44. No condition of its own. -/
import Derived.Test.YtopldfpkgbkomaaGreatDoorCards
import Derived.Test.YtopldfpkgbkomaaGreatDoorTie
import Derived.OpenShut
import Derived.ChangeSlices
import Derived.Deep.DeepHandedRow
import Derived.Lib.LaidTab
import Derived.Test.YtopldfpkgbkomaaGreatDoorL00
import Derived.Test.YtopldfpkgbkomaaGreatDoorL43
set_option linter.all false
set_option maxRecDepth 100000
set_option maxHeartbeats 4000000
noncomputable section
namespace Go.Proofs.YtopldfpkgbkomaaGreatDoor.extractBytes
open Go.ChangeShapes Go.WideShapes Go.ChangeAt Go.RowKit Go.Va
theorem own:ownKnob Tryz.prog.godebug=none:=by kernel_rfl
theorem Qv:Tryz.prog.globalNamed "priorart/authmap.whole" =some 0:=by kernel_rfl
theorem Qu:(Tryz.prog.globals[0]?).map (·.type)=some 255:=by kernel_rfl
theorem Q7:Tryz.prog.cellsOf 3=1:=by kernel_rfl
theorem Vl:Tryz.prog.cellsOf 5=1:=by kernel_rfl
def Ti (W:World):Gh:=⟨λb o=>W.cell? ⟨b,o,none⟩⟩
theorem Xx (W:World):SW (Ti W) W:=λ_ _ _ h=>h
variable {W:World}
theorem cm (h:laidMetH Tryz.prog Rows.extractBytesRow.laid W):W.cell? ⟨0,0,none⟩=some (.int .i64 12)∧W.cell? ⟨0,1,none⟩=some (.int .i64 0):=by
 obtain⟨ps,⟨g',t',cs,fuel,p,q,hg',ht',hvar,hd,_,_⟩,_⟩:=(h:laidMet Tryz.prog Rows.extractBytesRow.laid W);obtain rfl:=re (Qv.symm.trans hg');obtain rfl:=re (Qu.symm.trans ht');obtain⟨y0,y1,n,hx,hl,h0,h1⟩:=trod_struct2 Tryz.underlying255 hd;obtain⟨a0,c0,rfl,_⟩:=DataW.trod_int Tryz.underlying3 h0;obtain⟨a1,c1,rfl,_⟩:=DataW.trod_int Tryz.underlying3 h1;simp only[Rows.laid_priorart_authmap_whole,sW,DataW.agg.injEq,List.cons.injEq,DataW.lit.injEq,Lit.int.injEq,true_and,and_true]at hx;obtain⟨⟨rfl,rfl⟩,_⟩:=hx;rw[Q7]at c0 c1;simp only[List.drop_zero]at c0;have d0:cs[0]?=some (.int .i64 12):=by
  have:=congrArg (·[0]?) c0;simpa[qu]using this
 have d1:cs[1]?=some (.int .i64 0):=by
  have:=congrArg (·[0]?) c1;simpa[qu,rm]using this
 exact⟨by rw[World.var?_cell Qv hvar 0];exact d0,by rw[World.var?_cell Qv hvar 1];exact d1⟩
theorem aK (h:laidMetH Tryz.prog Rows.extractBytesRow.laid W):GlobOK An (Ti W):=by
 intro p hp;simp only[qO]at hp;subst hp;obtain⟨h0,h1⟩:=cm h;intro i v hv
 match i with
 |0=>simp at hv;subst hv;exact h0
 |1=>simp at hv;subst hv;exact h1
 |i+2=>simp at hv
theorem ii (hg:GlobOK An (Ti W)) {v0 v1 v6:Value} {l l2 raw:List Int} (h0:RepV (Ti W) (AH .i64 l) v0) (h1:RepV (Ti W) (AH .i64 l2) v1) (h6:RepV (Ti W) (AH .u8 raw) v6) (hl2:∀n∈l2,i64 n) (hr:isB raw) (n h a b c:Int) (hn:i64 n) (hh:i64 h) (ha:i64 a) (hb:i64 b) (hc:0≤c∧c <256):
  Calls Tryz.prog 8 #[v0,v1,.int .i64 n,.int .i64 h,.int .i64 a,.int .i64 b,v6,.int .u8 c] W λe W'=>e= .returned (.bool true)∧W.keptBut W' (λ_=>False)∧∀a:Addr,a.block <W.heap.size→W'.cell? a=W.cell? a:=by
 refine((mT l l2 pW hl2 n h a b hn hh ha hb raw hr c hc).2 (Ti W) W [v0,v1,.int .i64 n,.int .i64 h,.int .i64 a,.int .i64 b,v6,.int .u8 c] (Xx W) hg (.cons h0 (.cons h1 (.cons (.int _ _) (.cons (.int _ _) (.cons (.int _ _) (.cons (.int _ _) (.cons h6 (.cons (.int _ _) .nil))))))))).mono ?_;rintro e W' ⟨v,g',rfl,hr,hc,_⟩;have hv:v= .bool true:=by
  have hr':RepV g' (.bool true) v:=hr;cases hr';rfl
 subst hv;refine⟨rfl,⟨hc.os,hc.out,λi hi=>?_⟩,λa ha=>World.cell?_of_block (hc.heap _ ha (λh=>h))⟩;have:=hc.heap i hi (λh=>h);rw[this];cases hx:W.heap[i]? with
 |none=>rfl
 |some o=>cases o<;>simp
variable {cap len:Nat}
theorem Oq {kd:IntKind} {a:Addr} {zs:List Int} (hs:a.spot=none) (hl:len≤cap) (hz:zs.length=cap) (hc:∀i,i <zs.length→W.cell? (a.add i)=some (.int kd (zs.getD i 0))):
  RepV (Ti W) (AH kd (zs.take len)) (.slice (some a) len cap):=by
 have e:(zs.take len).length=len:=by simp;omega
 have h:=RepV.list (g:=Ti W) ((zs.take len).map (V.int kd)) a cap 1 (λi=> .int kd (zs.getD i 0)) hs (by rw[qr,e];exact hl) ?_ ?_
 ·have e2:(List.map (V.int kd) (zs.take len)).length=len:=by rw[qr,e]
  rw[e2]at h;exact h
 ·intro i x hx;simp only[qZ,qQ]at hx;obtain⟨n,hn,rfl⟩:=hx;rw[qu]at hn;split at hn
  ·have:zs.getD i 0=n:=by simp[List.getD,hn]
   rw[this];exact .int _ _
  ·cases hn
 ·intro i hi;refine⟨rfl,λj v hv=>?_⟩
  match j with
  |0=>
   simp[Value.cells]at hv;subst hv;have hi':i <zs.length:=by rw[qr,e]at hi;omega
   have:=hc i hi';obtain⟨b,o,sp⟩:=a;simp only at hs;subst hs;rw[add_plain]at this;simpa[Ti]using this
  |j+1=>simp[Value.cells]at hv
variable {v:Value}
theorem M3 {H:Type} {enc:TypeId×Value→H} {b0:Nat} {d:DataW H} {ps:List MemPlace} (hval:Value.okWide Tryz.prog W .any b0 22 v) (h:DataW.Trod enc Tryz.prog W 0 (λ_=>true) true 22 v d ps):
  ∃l:List Int,RepV (Ti W) (AH .i64 l) v∧(∀n∈l,i64 n)∧∀W':World,(∀a:Addr,a.block <W.heap.size→W'.cell? a=W.cell? a)→∀sp:Nat→Bool,(∀p∈ps,sp p.block=true)→DataW.Trod enc Tryz.prog W' 0 sp true 22 v d ps:=by
 obtain⟨fuel,hf⟩:=h;simp only[Value.okWide,Cell.okWide,Tryz.underlying22]at hval;rcases open_ints Tryz.underlying22 Tryz.underlying3 Q7 hf with ⟨hcs,hx⟩|⟨a,len,cap,zs,hcs,_,hl,hm,hz,hx,hcell,hwz⟩
 ·cases v<;>simp[Value.cells]at hcs
  ·obtain⟨rfl,rfl,rfl⟩:=hcs;simp only[sW]at hx;obtain⟨rfl,rfl⟩:=hx;refine⟨[],.lnil,by simp,λW' _ sp _=>⟨1,?_⟩⟩;simp[DataW.trod,Value.cells,Tryz.underlying22]
  ·simp[Cell.ok,Tryz.underlying22]at hval
 ·cases v<;>simp[Value.cells]at hcs
  ·obtain⟨rfl,rfl,rfl⟩:=hcs;simp only[sW]at hx;obtain⟨rfl,rfl⟩:=hx;simp only[if_true]at hz;simp only[Cell.ok,Tryz.underlying22,World.has]at hval;have hs:=hval.2.2.2.1;refine⟨zs.take _,Oq hs hl hz hcell,(λn hn=>by
    have h:=hwz n (rK hn);have b:=bounds_i64 h;exact⟨b.1,by omega⟩),λW' hW sp hsp=>⟨2,?_⟩⟩
   simp only[Value.cells];refine shut_ints 0 Tryz.underlying22 Tryz.underlying3 Q7 (rF _) hl hm ?_ (λi hi=>?_) hwz
   ·by_cases h0:zs.length=0
    ·split<;>omega
    ·have h1:sp a.block=true:=hsp (.cell a.block a.off) (MemPlace.mem_row.2 ⟨0,by omega,by simp⟩);rw[if_pos h1];exact hz
   ·have h1:=hcell i hi;rw[hW _ (World.block_lt_of_cell? W _ h1)];exact h1
  ·simp[Cell.ok,Tryz.underlying22]at hval
theorem Qj {H:Type} {enc:TypeId×Value→H} {b0:Nat} {d:DataW H} {ps:List MemPlace} (hval:Value.okWide Tryz.prog W .any b0 62 v) (h:DataW.Trod enc Tryz.prog W 0 (λ_=>true) true 62 v d ps):
  ∃l:List Int,RepV (Ti W) (AH .u8 l) v∧isB l∧∀W':World,(∀a:Addr,a.block <W.heap.size→W'.cell? a=W.cell? a)→∀sp:Nat→Bool,(∀p∈ps,sp p.block=true)→DataW.Trod enc Tryz.prog W' 0 sp true 62 v d ps:=by
 obtain⟨fuel,hf⟩:=h;simp only[Value.okWide,Cell.okWide,Tryz.underlying62]at hval;rcases open_ints Tryz.underlying62 Tryz.underlying5 Vl hf with ⟨hcs,hx⟩|⟨a,len,cap,zs,hcs,_,hl,hm,hz,hx,hcell,hwz⟩
 ·cases v<;>simp[Value.cells]at hcs
  ·obtain⟨rfl,rfl,rfl⟩:=hcs;simp only[sW]at hx;obtain⟨rfl,rfl⟩:=hx;refine⟨[],.lnil,(λn hn=>by cases hn),λW' _ sp _=>⟨1,?_⟩⟩;simp[DataW.trod,Value.cells,Tryz.underlying62]
  ·simp[Cell.ok,Tryz.underlying62]at hval
 ·cases v<;>simp[Value.cells]at hcs
  ·obtain⟨rfl,rfl,rfl⟩:=hcs;simp only[sW]at hx;obtain⟨rfl,rfl⟩:=hx;simp only[if_true]at hz;simp only[Cell.ok,Tryz.underlying62,World.has]at hval;have hs:=hval.2.2.2.1;refine⟨zs.take _,Oq hs hl hz hcell,(λn hn=>by
    have h:=hwz n (rK hn);have b:=bounds_u8 h;exact⟨b.1,by omega⟩),λW' hW sp hsp=>⟨2,?_⟩⟩
   simp only[Value.cells];refine shut_ints 0 Tryz.underlying62 Tryz.underlying5 Vl (rF _) hl hm ?_ (λi hi=>?_) hwz
   ·by_cases h0:zs.length=0
    ·split<;>omega
    ·have h1:sp a.block=true:=hsp (.cell a.block a.off) (MemPlace.mem_row.2 ⟨0,by omega,by simp⟩);rw[if_pos h1];exact hz
   ·have h1:=hcell i hi;rw[hW _ (World.block_lt_of_cell? W _ h1)];exact h1
  ·simp[Cell.ok,Tryz.underlying62]at hval
theorem Vc (H:Type) (enc:TypeId×Value→H) (W:World) (base:Nat) (args:Array Value) (ds gs:List (DataW H)) (before:List MemPlace)
  (hval:∀(j:Nat) t v,Tryz.f8.params[j]?=some t→args[j]?=some v→Value.okWide Tryz.prog W .any base t v)
  (hW:DataW.Whole enc Tryz.prog Tryz.f8.params.toList Rows.extractBytesSpec.vars false W args.toList ds gs before) (hL:laidMetH Tryz.prog Rows.extractBytesRow.laid W):
  Calls Tryz.prog 8 args W λe W'=>∃v,e= .returned v∧Rows.extractBytesSpec.post enc Tryz.prog Tryz.f8 false true false false W args v W':=by
 have hW':=hW;obtain⟨p,q,hA0,hV,rfl,hfz,hnd⟩:=hW;have hA:DataW.TrodAll enc Tryz.prog W 0 (λ_=>true) true Tryz.f8.params.toList args.toList ds p:=hA0;rw[Tryz.params8]at hA hval;obtain⟨v0,vs0,d0,ds0,p0,q0,hargs,rfl,rfl,h0,r0⟩:=trodAll_cons hA;obtain⟨v1,vs1,d1,ds1,p1,q1,rfl,rfl,rfl,h1,r1⟩:=trodAll_cons r0;obtain⟨v2,vs2,d2,ds2,p2,q2,rfl,rfl,rfl,h2,r2⟩:=trodAll_cons r1;obtain⟨v3,vs3,d3,ds3,p3,q3,rfl,rfl,rfl,h3,r3⟩:=trodAll_cons r2;obtain⟨v4,vs4,d4,ds4,p4,q4,rfl,rfl,rfl,h4,r4⟩:=trodAll_cons r3;obtain⟨v5,vs5,d5,ds5,p5,q5,rfl,rfl,rfl,h5,r5⟩:=trodAll_cons r4;obtain⟨v6,vs6,d6,ds6,p6,q6,rfl,rfl,rfl,h6,r6⟩:=trodAll_cons r5;obtain⟨v7,vs7,d7,ds7,p7,q7,rfl,rfl,rfl,h7,r7⟩:=trodAll_cons r6;obtain⟨rfl,rfl,rfl⟩:=trodAll_nil r7;obtain rfl:args= #[v0,v1,v2,v3,v4,v5,v6,v7]:=by cases args;simp_all
 obtain⟨rfl,rfl⟩:=trodVars_none hV;obtain⟨n2,rfl,rfl,rfl,w2⟩:=open_int Tryz.underlying3 (hval 2 3 v2 rfl rfl) h2;obtain⟨n3,rfl,rfl,rfl,w3⟩:=open_int Tryz.underlying3 (hval 3 3 v3 rfl rfl) h3;obtain⟨n4,rfl,rfl,rfl,w4⟩:=open_int Tryz.underlying3 (hval 4 3 v4 rfl rfl) h4;obtain⟨n5,rfl,rfl,rfl,w5⟩:=open_int Tryz.underlying3 (hval 5 3 v5 rfl rfl) h5;obtain⟨n7,rfl,rfl,rfl,w7⟩:=open_int Tryz.underlying5 (hval 7 5 v7 rfl rfl) h7;clear hA0;have b2:=bounds_i64 w2;have b7:=bounds_u8 w7;have b3:=bounds_i64 w3;have b4:=bounds_i64 w4;have b5:=bounds_i64 w5;have hg:=aK hL;have hb2:i64 n2:=⟨b2.1,by omega⟩;have hb3:i64 n3:=⟨b3.1,by omega⟩;have hb4:i64 n4:=⟨b4.1,by omega⟩;have hb5:i64 n5:=⟨b5.1,by omega⟩;obtain⟨l,hr,_,hk⟩:=M3 (hval 0 22 v0 rfl rfl) h0;obtain⟨l2,hr2,hl2,hk2⟩:=M3 (hval 1 22 v1 rfl rfl) h1;obtain⟨raw,hr6,hrB,hk6⟩:=Qj (hval 6 62 v6 rfl rfl) h6;simp only[sI,sX]at hW';refine(ii hg hr hr2 hr6 hl2 hrB n2 n3 n4 n5 n7 hb2 hb3 hb4 hb5 ⟨b7.1,by omega⟩).mono ?_;rintro e W' ⟨rfl,hkept,hcell⟩;refine⟨_,rfl,_,_,_,[],p0++(p1++p6),[],hW',?_,?_,?_,World.keptBut_mono (λ_ f=>f.elim) hkept,λh=>by cases h⟩
 ·exact trodAll_cons_mk (shut_bool Tryz.underlying4 _) trodAll_mk0
 ·have h:=trodAll_cons_mk (hk W' hcell (λb=>decide (b <W.heap.size)) (λp hp=>by simpa using hW'.lt p (by simp[hp]))) (trodAll_cons_mk (hk2 W' hcell (λb=>decide (b <W.heap.size)) (λp hp=>by simpa using hW'.lt p (by simp[hp]))) (trodAll_cons_mk (shut_int Tryz.underlying3 w2) (trodAll_cons_mk (shut_int Tryz.underlying3 w3) (trodAll_cons_mk (shut_int Tryz.underlying3 w4) (trodAll_cons_mk (shut_int Tryz.underlying3 w5) (trodAll_cons_mk (hk6 W' hcell (λb=>decide (b <W.heap.size)) (λp hp=>by simpa using hW'.lt p (by simp[hp]))) (trodAll_cons_mk (shut_int Tryz.underlying5 w7) trodAll_mk0)))))));simp only[sI,sX]at h;rw[Tryz.params8];exact h
 ·rfl
noncomputable def J7 (os:Os):World:=
 {World.holding Tryz.prog os ⟨#[],#[],[]⟩with heap:=(World.holding Tryz.prog os ⟨#[],#[],[]⟩).heap.modify 0 fun
   | .cells _ t frozen=> .cells #[.int .i64 12,.int .i64 0] t frozen
   |o=>o}
def RN:Array Value:= #[.slice none 0 0,.slice none 0 0,.int .i64 0,.int .i64 0,.int .i64 0,.int .i64 0,.slice none 0 0,.int .u8 0]
theorem Uq (os:Os):laidMet Tryz.prog Rows.extractBytesRow.laid ((J7 os).forCall (λ_ _=>0) ⟨#[],RN,[]⟩).memory:=
 laidMet_of_run' 8 (by kernel_rfl) (by kernel_rfl)
theorem ct (os:Os) {H:Type} (enc:TypeId×Value→H):∃places,DataW.whole enc Tryz.prog ((J7 os).forCall (λ_ _=>0) ⟨#[],RN,[]⟩).memory Tryz.f8.params.toList Rows.extractBytesSpec.vars false RN.toList 8=some ([.nil,.nil,.lit (.int .i64 0),.lit (.int .i64 0),.lit (.int .i64 0),.lit (.int .i64 0),.nil,.lit (.int .u8 0)],[],places):=
 ⟨[],by kernel_rfl⟩
theorem Z3 (os:Os) (started:os.Started) (H:Type) (enc:TypeId×Value→H) (F:Stop.Interp):
  ReturnsInHanded {} Tryz.checked os 8 .any ((OpenSpec.ofChange Rows.extractBytesSpec).preRow enc Tryz.prog Tryz.f8 Rows.extractBytesRow.domain false Rows.extractBytesRow.laid) (((OpenSpec.ofChange Rows.extractBytesSpec).at F).post enc Tryz.prog Tryz.f8 false true false false):=by
 obtain⟨places,hx⟩:=ct os enc;refine returnsInHanded_of_row (C:=Tryz.checked) (s:=OpenSpec.ofChange Rows.extractBytesSpec) own started (by kernel_rfl) Tryz.func8
  (witness_row_at (enc:=enc) (C:=Tryz.checked) false (J7 os) RN rfl (by kernel_rfl) (by kernel_rfl) (by kernel_rfl)
   (OpenSpec.preRow_of_cond 8 hx (by kernel_rfl) (λk hk=>by cases hk) (by kernel_rfl) (Uq os))) ?_
 intro W base args ds gs before hval hW _ _ _ hL _ _;exact Vc H enc W base args ds gs before hval hW hL
theorem io:Rows.ExtractBytesSaid:=
 OpenClaim.holds_of_cond 8 Tryz.f8 rfl rfl rfl rfl rfl rfl rfl ⟨rfl,rfl,rfl,rfl,rfl⟩ rfl rfl rfl rfl rfl (by kernel_rfl) Tryz.func8 bC
  (of_decide_eq_true (by kernel_rfl)) (by unfold Func.isWrapper;first|(rw[if_pos (by decide+kernel)];kernel_rfl)|(rw[if_neg (by decide+kernel)];exact⟨rfl,rfl⟩))
  (λos started H enc _ F=>by rw[OpenClaim.pre_eq_preRow];exact Z3 os started H enc F)
theorem O5 (f:FuncId) (fn:Func) (hf:Tryz.pinned.checked.prog.funcNamed "priorart/priorartlaw35.ExtractBytes" =some f) (hfn:Tryz.pinned.checked.prog.funcs[f]?=some fn):
  false=Tryz.pinned.checked.prog.looks []∧∀(j:Nat) t,fn.params[j]?=some t→Tryz.pinned.checked.prog.wantsStandIn t=false:=by
 obtain rfl:f=8:=re ((show Tryz.prog.funcNamed "priorart/priorartlaw35.ExtractBytes" =some 8 by kernel_rfl).symm.trans hf) |>.symm
 obtain rfl:fn=Tryz.f8:=(re (Tryz.func8.symm.trans hfn)).symm;refine⟨by kernel_rfl,λj t ht=>?_⟩;rw[Tryz.params8]at ht;have hm:t∈ #[22,22,3,3,3,3,62,5]:=Array.mem_of_getElem? ht;simp at hm;rcases hm with rfl|rfl|rfl|rfl
 ·exact(show Tryz.prog.wantsStandIn 22=false by kernel_rfl)
 ·exact(show Tryz.prog.wantsStandIn 3=false by kernel_rfl)
 ·exact(show Tryz.prog.wantsStandIn 62=false by kernel_rfl)
 ·exact(show Tryz.prog.wantsStandIn 5=false by kernel_rfl)
end Go.Proofs.YtopldfpkgbkomaaGreatDoor.extractBytes
