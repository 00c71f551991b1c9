/- Part 10 of the proof that ExtractOther returns true for every input and leaves its arguments alone. Condition: the variable that the row lists holds what the text of the program lays. Texts joined here: VrN. -/
import Derived.Test.YtopldfpkgbkomaaGreatDoorCards
import Derived.Test.YtopldfpkgbkomaaGreatDoorTie
import Derived.OpenShut
import Derived.ProofKit
import Derived.ChangeSlices
import Derived.Deep.DeepHandedRow
import Derived.Lib.LaidTab
import Derived.Test.YtopldfpkgbkomaaGreatDoorL00
import Derived.Test.YtopldfpkgbkomaaGreatDoorL07
import Derived.Test.YtopldfpkgbkomaaGreatDoorL09
set_option linter.all false
set_option maxRecDepth 100000
namespace Go.Proofs.YtopldfpkgbkomaaGreatDoor.extractOther
open Go.ChangeShapes Go.WideShapes Go.ChangeAt Go.RowKit Go.Va
theorem own:ownKnob Tryz.prog.godebug=none:=by kernel_rfl
theorem Po:Tryz.prog.globalNamed "priorart/authmap.whole" =some 0:=by kernel_rfl
theorem Pn:(Tryz.prog.globals[0]?).map (·.type)=some 255:=by kernel_rfl
theorem P4:Tryz.prog.cellsOf 3=1:=by kernel_rfl
def gOf (W:World):Gh:=⟨λb o=>W.cell? ⟨b,o,none⟩⟩
theorem wt (W:World):V5 (gOf W) W:=λ_ _ _ h=>h
theorem AJF {W:World} (h:laidMetH Tryz.prog Rows.extractOtherRow.laid W):W.cell? ⟨0,0,none⟩=some (.int .i64 12)∧W.cell? ⟨0,1,none⟩=some (.int .i64 0):=by
 obtain⟨ps,⟨g',t',cs,fuel,p,q,hg',ht',hvar,hd,_,_⟩,_⟩:=(h:laidMet Tryz.prog Rows.extractOtherRow.laid W);obtain rfl:=AVy (Po.symm.trans hg');obtain rfl:=AVy (Pn.symm.trans ht');obtain⟨y0,y1,n,hx,hl,h0,h1⟩:=trod_struct2 Tryz.underlying255 hd;obtain⟨a0,c0,rfl,_⟩:=DataW.trod_int Tryz.underlying3 h0;obtain⟨a1,c1,rfl,_⟩:=DataW.trod_int Tryz.underlying3 h1;simp only[Rows.laid_priorart_authmap_whole,AV0,DataW.agg.injEq,List.cons.injEq,DataW.lit.injEq,Lit.int.injEq,true_and,and_true]at hx;obtain⟨⟨rfl,rfl⟩,_⟩:=hx;rw[P4]at c0 c1;simp only[List.drop_zero]at c0;have d0:cs[0]?=some (.int .i64 12):=by
  have:=congrArg (·[0]?) c0;simpa[AUV]using this
 have d1:cs[1]?=some (.int .i64 0):=by
  have:=congrArg (·[0]?) c1;simpa[AUV,AVF]using this
 exact⟨by rw[World.var?_cell Po hvar 0];exact d0,by rw[World.var?_cell Po hvar 1];exact d1⟩
theorem AFC {W:World} (h:laidMetH Tryz.prog Rows.extractOtherRow.laid W):GlobOK GLx (gOf W):=by
 intro p hp;simp only[AUC]at hp;subst hp;obtain⟨h0,h1⟩:=AJF h;intro i v hv
 match i with
 |0=>simp at hv;subst hv;exact h0
 |1=>simp at hv;subst hv;exact h1
 |i+2=>simp at hv
theorem APG {W:World} (hg:GlobOK GLx (gOf W)) {v0 v1:Value} {l l2:List Int} (h0:RepV (gOf W) (AL .i64 l) v0) (h1:RepV (gOf W) (AL .i64 l2) v1) (hl2:∀n∈l2,i64 n) (by_ at_:Int) (hb:i64 by_) (ha:i64 at_):
  Calls Tryz.prog 7 #[v0,v1,.int .i64 by_,.int .i64 at_] W λe W'=>e= .returned (.bool true)∧W.keptBut W' (λ_=>False)∧∀a:Addr,a.block <W.heap.size→W'.cell? a=W.cell? a:=by
 refine((ARI l l2 p20 hl2 by_ at_ hb).2 (gOf W) W [v0,v1,.int .i64 by_,.int .i64 at_] (wt W) hg (.cons h0 (.cons h1 (.cons (.int _ _) (.cons (.int _ _) .nil))))).mono ?_;rintro e W' ⟨v,g',rfl,hr,hc,_⟩;have hv:v= .bool true:=by
  have hr':RepV g' (.bool true) v:=hr;cases hr';rfl
 subst hv;refine⟨rfl,⟨hc.os,hc.out,λi hi=>?_⟩,λa ha=>World.cell?_of_block (hc.heap _ ha (λh=>h))⟩;have:=hc.heap i hi (λh=>h);rw[this];cases hx:W.heap[i]? with
 |none=>rfl
 |some o=>cases o<;>simp
theorem XK {W:World} {a:Addr} {len cap:Nat} {zs:List Int} (hs:a.spot=none) (hl:len≤cap) (hz:zs.length=cap) (hc:∀i,i <zs.length→W.cell? (a.add i)=some (.int .i64 (zs.getD i 0))):
  RepV (gOf W) (AL .i64 (zs.take len)) (.slice (some a) len cap):=by
 have e:(zs.take len).length=len:=by simp;omega
 have h:=RepV.list (g:=gOf W) ((zs.take len).map (V.int .i64)) a cap 1 (λi=> .int .i64 (zs.getD i 0)) hs (by rw[AUM,e];exact hl) ?_ ?_
 ·have e2:(List.map (V.int .i64) (zs.take len)).length=len:=by rw[AUM,e]
  rw[e2]at h;exact h
 ·intro i x hx;simp only[AUG,AUA]at hx;obtain⟨n,hn,rfl⟩:=hx;rw[AUV]at hn;split at hn
  ·have:zs.getD i 0=n:=by simp[List.getD,hn]
   rw[this];exact .int _ _
  ·cases hn
 ·intro i hi;refine⟨rfl,λj v hv=>?_⟩
  match j with
  |0=>
   simp[Value.cells]at hv;subst hv;have hi':i <zs.length:=by rw[AUM,e]at hi;omega
   have:=hc i hi';obtain⟨b,o,sp⟩:=a;simp only at hs;subst hs;rw[add_plain]at this;simpa[gOf]using this
  |j+1=>simp[Value.cells]at hv
theorem LS {H:Type} {enc:TypeId×Value→H} {W:World} {b0:Nat} {v:Value} {d:DataW H} {ps:List MemPlace} (hval:Value.okWide Tryz.prog W .any b0 22 v) (h:DataW.Trod enc Tryz.prog W 0 (λ_=>true) true 22 v d ps):
  ∃l:List Int,RepV (gOf W) (AL .i64 l) v∧(∀n∈l,i64 n)∧∀W':World,(∀a:Addr,a.block <W.heap.size→W'.cell? a=W.cell? a)→∀sp:Nat→Bool,(∀p∈ps,sp p.block=true)→DataW.Trod enc Tryz.prog W' 0 sp true 22 v d ps:=by
 obtain⟨fuel,hf⟩:=h;simp only[Value.okWide,Cell.okWide,Tryz.underlying22]at hval;rcases open_ints Tryz.underlying22 Tryz.underlying3 P4 hf with ⟨hcs,hx⟩|⟨a,len,cap,zs,hcs,_,hl,hm,hz,hx,hcell,hwz⟩
 ·cases v<;>simp[Value.cells]at hcs
  ·obtain⟨rfl,rfl,rfl⟩:=hcs;simp only[AV0]at hx;obtain⟨rfl,rfl⟩:=hx;refine⟨[],.lnil,by simp,λW' _ sp _=>⟨1,?_⟩⟩;simp[DataW.trod,Value.cells,Tryz.underlying22]
  ·simp[Cell.ok,Tryz.underlying22]at hval
 ·cases v<;>simp[Value.cells]at hcs
  ·obtain⟨rfl,rfl,rfl⟩:=hcs;simp only[AV0]at hx;obtain⟨rfl,rfl⟩:=hx;simp only[if_true]at hz;simp only[Cell.ok,Tryz.underlying22,World.has]at hval;have hs:=hval.2.2.2.1;refine⟨zs.take _,XK hs hl hz hcell,(λn hn=>by
    have h:=hwz n (AUi hn);have b:=bounds_i64 h;exact⟨b.1,by omega⟩),λW' hW sp hsp=>⟨2,?_⟩⟩
   simp only[Value.cells];refine shut_ints 0 Tryz.underlying22 Tryz.underlying3 P4 (AU6 _) hl hm ?_ (λi hi=>?_) hwz
   ·by_cases h0:zs.length=0
    ·split<;>omega
    ·have h1:sp a.block=true:=hsp (.cell a.block a.off) (MemPlace.mem_row.2 ⟨0,by omega,by simp⟩);rw[if_pos h1];exact hz
   ·have h1:=hcell i hi;rw[hW _ (World.block_lt_of_cell? W _ h1)];exact h1
  ·simp[Cell.ok,Tryz.underlying22]at hval
theorem YO (H:Type) (enc:TypeId×Value→H) (W:World) (base:Nat) (args:Array Value) (ds gs:List (DataW H)) (before:List MemPlace)
  (hval:∀(j:Nat) t v,Tryz.f7.params[j]?=some t→args[j]?=some v→Value.okWide Tryz.prog W .any base t v)
  (hW:DataW.Whole enc Tryz.prog Tryz.f7.params.toList Rows.extractOtherSpec.vars false W args.toList ds gs before) (hL:laidMetH Tryz.prog Rows.extractOtherRow.laid W):
  Calls Tryz.prog 7 args W λe W'=>∃v,e= .returned v∧Rows.extractOtherSpec.post enc Tryz.prog Tryz.f7 false true false false W args v W':=by
 have hW':=hW;obtain⟨p,q,hA0,hV,rfl,hfz,hnd⟩:=hW;have hA:DataW.TrodAll enc Tryz.prog W 0 (λ_=>true) true Tryz.f7.params.toList args.toList ds p:=hA0;rw[Tryz.params7]at hA hval;obtain⟨v0,vs0,d0,ds0,p0,q0,hargs,rfl,rfl,h0,r0⟩:=trodAll_cons hA;obtain⟨v1,vs1,d1,ds1,p1,q1,rfl,rfl,rfl,h1,r1⟩:=trodAll_cons r0;obtain⟨v2,vs2,d2,ds2,p2,q2,rfl,rfl,rfl,h2,r2⟩:=trodAll_cons r1;obtain⟨v3,vs3,d3,ds3,p3,q3,rfl,rfl,rfl,h3,r3⟩:=trodAll_cons r2;obtain⟨rfl,rfl,rfl⟩:=trodAll_nil r3;obtain rfl:args= #[v0,v1,v2,v3]:=by cases args;simp_all
 obtain⟨rfl,rfl⟩:=trodVars_none hV;obtain⟨by_,rfl,rfl,rfl,w2⟩:=open_int Tryz.underlying3 (hval 2 3 v2 rfl rfl) h2;obtain⟨at_,rfl,rfl,rfl,w3⟩:=open_int Tryz.underlying3 (hval 3 3 v3 rfl rfl) h3;clear hA0;have b2:=bounds_i64 w2;have b3:=bounds_i64 w3;have hg:=AFC hL;have hb2:i64 by_:=⟨b2.1,by omega⟩;have hb3:i64 at_:=⟨b3.1,by omega⟩;obtain⟨l,hr,_,hk⟩:=LS (hval 0 22 v0 rfl rfl) h0;obtain⟨l2,hr2,hl2,hk2⟩:=LS (hval 1 22 v1 rfl rfl) h1;simp only[AUq]at hW';refine(APG hg hr hr2 hl2 by_ at_ hb2 hb3).mono ?_;rintro e W' ⟨rfl,hkept,hcell⟩;refine⟨_,rfl,_,_,_,[],p0++p1,[],hW',?_,?_,?_,World.keptBut_mono (λ_ f=>f.elim) hkept,λh=>by cases h⟩
 ·exact trodAll_cons_mk (shut_bool Tryz.underlying4 _) trodAll_mk0
 ·have h:=trodAll_cons_mk (hk W' hcell (λb=>decide (b <W.heap.size)) (λp hp=>by simpa using hW'.lt p (by simp[hp]))) (trodAll_cons_mk (hk2 W' hcell (λb=>decide (b <W.heap.size)) (λp hp=>by simpa using hW'.lt p (by simp[hp]))) (trodAll_cons_mk (shut_int Tryz.underlying3 w2) (trodAll_cons_mk (shut_int Tryz.underlying3 w3) trodAll_mk0)));simp only[AUq]at h;rw[Tryz.params7];exact h
 ·rfl
noncomputable def Il (os:Os):World:=
 {World.holding Tryz.prog os ⟨#[],#[],[]⟩with heap:=(World.holding Tryz.prog os ⟨#[],#[],[]⟩).heap.modify 0 fun
   | .cells _ t frozen=> .cells #[.int .i64 12,.int .i64 0] t frozen
   |o=>o}
def Sz:Array Value:= #[.slice none 0 0,.slice none 0 0,.int .i64 0,.int .i64 0]
theorem Xb (os:Os):laidMet Tryz.prog Rows.extractOtherRow.laid ((Il os).forCall (λ_ _=>0) ⟨#[],Sz,[]⟩).memory:=
 laidMet_of_run' 8 (by kernel_rfl) (by kernel_rfl)
theorem XM (os:Os) {H:Type} (enc:TypeId×Value→H):∃places,DataW.whole enc Tryz.prog ((Il os).forCall (λ_ _=>0) ⟨#[],Sz,[]⟩).memory Tryz.f7.params.toList Rows.extractOtherSpec.vars false Sz.toList 8=some ([.nil,.nil,.lit (.int .i64 0),.lit (.int .i64 0)],[],places):=
 ⟨[],by kernel_rfl⟩
theorem AEx (os:Os) (started:os.Started) (H:Type) (enc:TypeId×Value→H) (F:Stop.Interp):
  ReturnsInHanded {} Tryz.checked os 7 .any ((OpenSpec.ofChange Rows.extractOtherSpec).preRow enc Tryz.prog Tryz.f7 Rows.extractOtherRow.domain false Rows.extractOtherRow.laid) (((OpenSpec.ofChange Rows.extractOtherSpec).at F).post enc Tryz.prog Tryz.f7 false true false false):=by
 obtain⟨places,hx⟩:=XM os enc;refine returnsInHanded_of_row (C:=Tryz.checked) (s:=OpenSpec.ofChange Rows.extractOtherSpec) own started (by kernel_rfl) Tryz.func7
  (witness_row_at (enc:=enc) (C:=Tryz.checked) false (Il os) Sz rfl (by kernel_rfl) (by kernel_rfl) (by kernel_rfl)
   (OpenSpec.preRow_of_cond 8 hx (by kernel_rfl) (λk hk=>by cases hk) (by kernel_rfl) (Xb os))) ?_
 intro W base args ds gs before hval hW _ _ _ hL _ _;exact YO H enc W base args ds gs before hval hW hL
theorem APH:Rows.ExtractOtherSaid:=
 OpenClaim.holds_of_cond 7 Tryz.f7 rfl rfl rfl rfl rfl rfl rfl ⟨rfl,rfl,rfl,rfl,rfl⟩ rfl rfl rfl rfl rfl (by kernel_rfl) Tryz.func7 AFR
  (of_decide_eq_true (by kernel_rfl)) (by unfold Func.isWrapper;first|(rw[if_pos (by decide+kernel)];kernel_rfl)|(rw[if_neg (by decide+kernel)];exact⟨rfl,rfl⟩))
  (λos started H enc _ F=>by rw[OpenClaim.pre_eq_preRow];exact AEx os started H enc F)
theorem OE (f:FuncId) (fn:Func) (hf:Tryz.pinned.checked.prog.funcNamed "priorart/priorartlaw35.ExtractOther" =some f) (hfn:Tryz.pinned.checked.prog.funcs[f]?=some fn):
  false=Tryz.pinned.checked.prog.looks []∧∀(j:Nat) t,fn.params[j]?=some t→Tryz.pinned.checked.prog.wantsStandIn t=false:=by
 obtain rfl:f=7:=AVy ((show Tryz.prog.funcNamed "priorart/priorartlaw35.ExtractOther" =some 7 by kernel_rfl).symm.trans hf) |>.symm
 obtain rfl:fn=Tryz.f7:=(AVy (Tryz.func7.symm.trans hfn)).symm;refine⟨by kernel_rfl,λj t ht=>?_⟩;rw[Tryz.params7]at ht;have hm:t∈ #[22,22,3,3]:=Array.mem_of_getElem? ht;simp at hm;rcases hm with rfl|rfl
 ·exact(show Tryz.prog.wantsStandIn 22=false by kernel_rfl)
 ·exact(show Tryz.prog.wantsStandIn 3=false by kernel_rfl)
theorem card:Rows.ExtractOtherCardSaid:=
 Claim7.holds_tied_plain_at .later [] _ _ _ _ APH (λ_ h=>by cases h) (by kernel_rfl) (λ_ h=>by cases h) extractOther_row_tie rfl ⟨rfl,rfl⟩ (by kernel_rfl) rfl OE (by kernel_rfl)
end Go.Proofs.YtopldfpkgbkomaaGreatDoor.extractOther
