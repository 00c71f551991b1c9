/- Laws, part 15. No condition. -/
import Derived.Test.YtopldfpkgbkomaaGreatDoorCards
import Derived.Test.YtopldfpkgbkomaaGreatDoorTie
import Derived.OpenShut
import Derived.ChangeSlices
import Derived.Deep.DeepHandedRow
import Derived.Lib.LaidTab
import Derived.Test.YtopldfpkgbkomaaGreatDoorL00
import Derived.Test.YtopldfpkgbkomaaGreatDoorL14
set_option linter.all false
set_option maxRecDepth 100000
set_option maxHeartbeats 4000000
noncomputable section
namespace Go.Proofs.YtopldfpkgbkomaaGreatDoor.extractChecks
open Go.ChangeShapes Go.WideShapes Go.ChangeAt Go.RowKit Go.Va
theorem own:ownKnob Tryz.prog.godebug=none:=by kernel_rfl
theorem Rd:Tryz.prog.globalNamed "priorart/authmap.whole" =some 0:=by kernel_rfl
theorem Rc:(Tryz.prog.globals[0]?).map (·.type)=some 255:=by kernel_rfl
theorem Rr:Tryz.prog.cellsOf 3=1:=by kernel_rfl
def Wd(W:World):Gh:=⟨λb o=>W.cell? ⟨b,o,none⟩⟩
theorem YE(W:World):S8 (Wd W) W:=λ_ _ _ h=>h
variable {W:World}
theorem cX(h:laidMetH Tryz.prog Rows.extractChecksRow.laid W):W.cell? ⟨0,0,none⟩=some (.int .i64 12)/\W.cell? ⟨0,1,none⟩=some (.int .i64 0):=by
 obtain⟨ps,⟨g',t',cs,fuel,p,q,N,O,G,hd,_,_⟩,_⟩:=(h:laidMet Tryz.prog Rows.extractChecksRow.laid W);obtain rfl:=tR (Rd.symm.trans N);obtain rfl:=tR (Rc.symm.trans O);obtain⟨y0,y1,n,hx,hl,Z,h1⟩:=trod_struct2 Tryz.underlying255 hd;obtain⟨a0,J,rfl,_⟩:=DataW.trod_int Tryz.underlying3 Z;obtain⟨a1,U,rfl,_⟩:=DataW.trod_int Tryz.underlying3 h1;simp only[Rows.laid_priorart_authmap_whole,uo,DataW.agg.injEq,List.cons.injEq,DataW.lit.injEq,Lit.int.injEq,true_and,and_true]at hx;obtain⟨⟨rfl,rfl⟩,_⟩:=hx;rw[Rr]at J U;simp only[List.drop_zero]at J;have d0:cs[0]?=some (.int .i64 12):=by have:=congrArg (·[0]?) J;simpa[sP]using this
 have d1:cs[1]?=some (.int .i64 0):=by have:=congrArg (·[0]?) U;simpa[sP,tG]using this
 exact⟨by rw[World.var?_cell Rd G 0];exact d0,by rw[World.var?_cell Rd G 1];exact d1⟩
theorem ah(h:laidMetH Tryz.prog Rows.extractChecksRow.laid W):GlobOK BK (Wd W):=by
 intro p J;simp only[rm]at J;subst J;obtain⟨N,O⟩:=cX h;intro i v G
 match i with
 |0=>simp at G;subst G;exact N
 |1=>simp at G;subst G;exact O
 |i+2=>simp at G
theorem jP(hg:GlobOK BK (Wd W)){v0 Z:Value}{l U:List Int}(h0:RepV (Wd W) (AM .i64 l) v0)(h1:RepV (Wd W) (AM .i64 U) Z)(N:∀n∈U,i64 n)(d n h a b:Int)(hd:i64 d)(hn:i64 n)(hh:i64 h)(J:i64 a)(hb:i64 b):
  Calls Tryz.prog 6 #[v0,Z,.int .i64 d,.int .i64 n,.int .i64 h,.int .i64 a,.int .i64 b] W λe G=>e= .returned (.bool true)/\W.keptBut G (λ_=>False)/\∀a:Addr,a.block <W.heap.size->G.cell? a=W.cell? a:=by
 refine((nn l U n d h a b hn hd hh J hb qq N).2 (Wd W) W [v0,Z,.int .i64 d,.int .i64 n,.int .i64 h,.int .i64 a,.int .i64 b] (YE W) hg (.cons h0 (.cons h1 (.cons (.int _ _) (.cons (.int _ _) (.cons (.int _ _) (.cons (.int _ _) (.cons (.int _ _) .nil)))))))).mono ?_;rintro e G ⟨v,g',rfl,hr,hc,_⟩;have hv:v= .bool true:=by have O:RepV g' (.bool true) v:=hr;cases O;rfl
 subst hv;refine⟨rfl,⟨hc.os,hc.out,λi hi=>?_⟩,λa J=>World.cell?_of_block (hc.heap _ J (λh=>h))⟩;have:=hc.heap i hi (λh=>h);rw[this];cases hx:W.heap[i]? with
 |none=>rfl
 |some o=>cases o<;>simp
variable {cap len:Nat}
theorem Uo{a:Addr}{zs:List Int}(N:a.spot=none)(U:len<=cap)(Z:zs.length=cap)(hc:∀i,i <zs.length->W.cell? (a.add i)=some (.int .i64 (zs.getD i 0))):
  RepV (Wd W) (AM .i64 (zs.take len)) (.slice (some a) len cap):=by
 have e:(zs.take len).length=len:=by simp;omega
 have h:=RepV.list (g:=Wd W) ((zs.take len).map (V.int .i64)) a cap 1 (λi=> .int .i64 (zs.getD i 0)) N (by rw[sD,e];exact U) ?_ ?_
 .have e2:(List.map (V.int .i64) (zs.take len)).length=len:=by rw[sD,e]
  rw[e2]at h;exact h
 .intro i x hx;simp only[rk,rt]at hx;obtain⟨n,G,rfl⟩:=hx;rw[sP]at G;split at G
  .have:zs.getD i 0=n:=by simp[List.getD,G]
   rw[this];exact .int _ _
  .cases G
 .intro i hi;refine⟨rfl,λj v O=>?_⟩
  match j with
  |0=>
   simp[Value.cells]at O;subst O;have J:i <zs.length:=by rw[sD,e]at hi;omega
   have:=hc i J;obtain⟨b,o,sp⟩:=a;simp only at N;subst N;rw[add_plain]at this;simpa[Wd]using this
  |j+1=>simp[Value.cells]at O
theorem iw(H:Type)(d1 G J N O U Z:DataW H):Rows.extractChecksSpec.fn H [d1,G,J,N,O,U,Z]={results:=[.lit (.bool true)],args:=[d1,G,J,N,O,U,Z]}:=rfl
variable {v:Value}
theorem Nj{H:Type}{enc:TypeId×Value->H}{b0:Nat}{d:DataW H}{ps:List MemPlace}(G:Value.okWide Tryz.prog W .any b0 22 v)(h:DataW.Trod enc Tryz.prog W 0 (λ_=>true) true 22 v d ps):
  ∃l:List Int,RepV (Wd W) (AM .i64 l) v/\(∀n∈l,i64 n)/\∀Z:World,(∀a:Addr,a.block <W.heap.size->Z.cell? a=W.cell? a)->∀U:Nat->Bool,(∀p∈ps,U p.block=true)->DataW.Trod enc Tryz.prog Z 0 U true 22 v d ps:=by
 obtain⟨fuel,hf⟩:=h;simp only[Value.okWide,Cell.okWide,Tryz.underlying22]at G;rcases open_ints Tryz.underlying22 Tryz.underlying3 Rr hf with ⟨N,hx⟩|⟨a,len,cap,zs,N,_,hl,hm,hz,hx,J,O⟩
 .cases v<;>simp[Value.cells]at N
  .obtain⟨rfl,rfl,rfl⟩:=N;simp only[uo]at hx;obtain⟨rfl,rfl⟩:=hx;refine⟨[],.lnil,by simp,λZ _ U _=>⟨1,?_⟩⟩;simp[DataW.trod,Value.cells,Tryz.underlying22]
  .simp[Cell.ok,Tryz.underlying22]at G
 .cases v<;>simp[Value.cells]at N
  .obtain⟨rfl,rfl,rfl⟩:=N;simp only[uo]at hx;obtain⟨rfl,rfl⟩:=hx;simp only[if_true]at hz;simp only[Cell.ok,Tryz.underlying22,World.has]at G;have hs:=G.2.2.2.1;refine⟨zs.take _,Uo hs hl hz J,(λn hn=>by have h:=O n (s9 hn);have b:=bounds_i64 h;exact⟨b.1,by omega⟩),λZ hW U a1=>⟨2,?_⟩⟩
   simp only[Value.cells];refine shut_ints 0 Tryz.underlying22 Tryz.underlying3 Rr (tB _) hl hm ?_ (λi hi=>?_) O
   .by_cases h0:zs.length=0
    .split<;>omega
    .have h1:U a.block=true:=a1 (.cell a.block a.off) (MemPlace.mem_row.2 ⟨0,by omega,by simp⟩);rw[if_pos h1];exact hz
   .have h1:=J i hi;rw[hW _ (World.block_lt_of_cell? W _ h1)];exact h1
  .simp[Cell.ok,Tryz.underlying22]at G
theorem Vr(H:Type)(enc:TypeId×Value->H)(W:World)(base:Nat)(args:Array Value)(ds gs:List (DataW H))(N:List MemPlace)(G:∀(j:Nat)t v,Tryz.f6.params[j]?=some t->args[j]?=some v->Value.okWide Tryz.prog W .any base t v)(hW:DataW.Whole enc Tryz.prog Tryz.f6.params.toList Rows.extractChecksSpec.vars false W args.toList ds gs N)(hL:laidMetH Tryz.prog Rows.extractChecksRow.laid W):
  Calls Tryz.prog 6 args W λe W'=>∃v,e= .returned v/\Rows.extractChecksSpec.post enc Tryz.prog Tryz.f6 false true false false W args v W':=by
 have O:=hW;obtain⟨p,q,Z,hV,rfl,c8,c9⟩:=hW;have hA:DataW.TrodAll enc Tryz.prog W 0 (λ_=>true) true Tryz.f6.params.toList args.toList ds p:=Z;rw[Tryz.params6]at hA G;obtain⟨v0,d7,d0,c1,p0,q0,a1,rfl,rfl,h0,r0⟩:=trodAll_cons hA;obtain⟨v1,d8,d1,c2,p1,q1,rfl,rfl,rfl,h1,r1⟩:=trodAll_cons r0;obtain⟨v2,vs2,d2,c3,p2,q2,rfl,rfl,rfl,h2,r2⟩:=trodAll_cons r1;obtain⟨v3,d9,d3,c4,p3,q3,rfl,rfl,rfl,h3,r3⟩:=trodAll_cons r2;obtain⟨v4,e1,d4,c5,p4,q4,rfl,rfl,rfl,h4,r4⟩:=trodAll_cons r3;obtain⟨v5,e3,d5,c6,p5,q5,rfl,rfl,rfl,h5,r5⟩:=trodAll_cons r4;obtain⟨v6,e4,d6,c7,p6,q6,rfl,rfl,rfl,h6,r6⟩:=trodAll_cons r5;obtain⟨rfl,rfl,rfl⟩:=trodAll_nil r6;obtain rfl:args= #[v0,v1,v2,v3,v4,v5,v6]:=by cases args;simp_all
 obtain⟨rfl,rfl⟩:=trodVars_none hV;obtain⟨n2,rfl,rfl,rfl,w2⟩:=open_int Tryz.underlying3 (G 2 3 v2 rfl rfl) h2;obtain⟨n3,rfl,rfl,rfl,w3⟩:=open_int Tryz.underlying3 (G 3 3 v3 rfl rfl) h3;obtain⟨n4,rfl,rfl,rfl,w4⟩:=open_int Tryz.underlying3 (G 4 3 v4 rfl rfl) h4;obtain⟨n5,rfl,rfl,rfl,w5⟩:=open_int Tryz.underlying3 (G 5 3 v5 rfl rfl) h5;obtain⟨n6,rfl,rfl,rfl,w6⟩:=open_int Tryz.underlying3 (G 6 3 v6 rfl rfl) h6;clear Z;have b2:=bounds_i64 w2;have b3:=bounds_i64 w3;have b4:=bounds_i64 w4;have b5:=bounds_i64 w5;have b6:=bounds_i64 w6;have hg:=ah hL;have a2:i64 n2:=⟨b2.1,by omega⟩;have b0:i64 n6:=⟨b6.1,by omega⟩;have a6:i64 n3:=⟨b3.1,by omega⟩;have a7:i64 n4:=⟨b4.1,by omega⟩;have a8:i64 n5:=⟨b5.1,by omega⟩;obtain⟨l,hr,_,hk⟩:=Nj (G 0 22 v0 rfl rfl) h0;obtain⟨l2,c0,b9,b1⟩:=Nj (G 1 22 v1 rfl rfl) h1;simp only[sk]at O;refine(jP hg hr c0 b9 n2 n3 n4 n5 n6 a2 a6 a7 a8 b0).mono ?_;rintro e W' ⟨rfl,U,J⟩;refine⟨_,rfl,_,_,_,[],p0++p1,[],O,?_,?_,?_,World.keptBut_mono (λ_ f=>f.elim) U,λh=>by cases h⟩
 .exact trodAll_cons_mk (shut_bool Tryz.underlying4 _) trodAll_mk0
 .have h:=trodAll_cons_mk (hk W' J (λb=>decide (b <W.heap.size)) (λp hp=>by simpa using O.lt p (by simp[hp]))) (trodAll_cons_mk (b1 W' J (λb=>decide (b <W.heap.size)) (λp hp=>by simpa using O.lt p (by simp[hp]))) (trodAll_cons_mk (shut_int Tryz.underlying3 w2) (trodAll_cons_mk (shut_int Tryz.underlying3 w3) (trodAll_cons_mk (shut_int Tryz.underlying3 w4) (trodAll_cons_mk (shut_int Tryz.underlying3 w5) (trodAll_cons_mk (shut_int Tryz.underlying3 w6) trodAll_mk0))))));simp only[sk]at h;rw[Tryz.params6];exact h
 .rfl
noncomputable def Kc (os:Os):World:=
 {World.holding Tryz.prog os ⟨#[],#[],[]⟩with heap:=(World.holding Tryz.prog os ⟨#[],#[],[]⟩).heap.modify 0 fun
   | .cells _ t frozen=> .cells #[.int .i64 12,.int .i64 0] t frozen
   |o=>o}
def SA:Array Value:= #[.slice none 0 0,.slice none 0 0,.int .i64 0,.int .i64 0,.int .i64 0,.int .i64 0,.int .i64 0]
theorem VL(os:Os):laidMet Tryz.prog Rows.extractChecksRow.laid ((Kc os).forCall (λ_ _=>0) ⟨#[],SA,[]⟩).memory:=
 laidMet_of_run' 8 (by kernel_rfl) (by kernel_rfl)
theorem Up(os:Os){H:Type}(enc:TypeId×Value->H):∃G,DataW.whole enc Tryz.prog ((Kc os).forCall (λ_ _=>0) ⟨#[],SA,[]⟩).memory Tryz.f6.params.toList Rows.extractChecksSpec.vars false SA.toList 8=some ([.nil,.nil,.lit (.int .i64 0),.lit (.int .i64 0),.lit (.int .i64 0),.lit (.int .i64 0),.lit (.int .i64 0)],[],G):=
 ⟨[],by kernel_rfl⟩
theorem aK(os:Os)(G:os.Started)(H:Type)(enc:TypeId×Value->H)(F:Stop.Interp):
  ReturnsInHanded {} Tryz.checked os 6 .any ((OpenSpec.ofChange Rows.extractChecksSpec).preRow enc Tryz.prog Tryz.f6 Rows.extractChecksRow.domain false Rows.extractChecksRow.laid) (((OpenSpec.ofChange Rows.extractChecksSpec).at F).post enc Tryz.prog Tryz.f6 false true false false):=by
 obtain⟨O,hx⟩:=Up os enc;refine returnsInHanded_of_row (C:=Tryz.checked) (s:=OpenSpec.ofChange Rows.extractChecksSpec) own G (by kernel_rfl) Tryz.func6
  (witness_row_at (enc:=enc) (C:=Tryz.checked) false (Kc os) SA rfl (by kernel_rfl) (by kernel_rfl) (by kernel_rfl)
   (OpenSpec.preRow_of_cond 8 hx (by kernel_rfl) (λk hk=>by cases hk) (by kernel_rfl) (VL os))) ?_
 intro W base args ds U J N hW _ _ _ Z _ _;exact Vr H enc W base args ds U J N hW Z
theorem jS:Rows.ExtractChecksSaid:=
 OpenClaim.holds_of_cond 6 Tryz.f6 rfl rfl rfl rfl rfl rfl rfl ⟨rfl,rfl,rfl,rfl,rfl⟩ rfl rfl rfl rfl rfl (by kernel_rfl) Tryz.func6 bG
  (of_decide_eq_true (by kernel_rfl)) (by unfold Func.isWrapper;first|(rw[if_pos (by decide+kernel)];kernel_rfl)|(rw[if_neg (by decide+kernel)];exact⟨rfl,rfl⟩))
  (λos G H enc _ F=>by rw[OpenClaim.pre_eq_preRow];exact aK os G H enc F)
theorem P2(f:FuncId)(fn:Func)(O:Tryz.pinned.checked.prog.funcNamed "priorart/priorartlaw35.ExtractChecks" =some f)(G:Tryz.pinned.checked.prog.funcs[f]?=some fn):
  false=Tryz.pinned.checked.prog.looks []/\∀(j:Nat)t,fn.params[j]?=some t->Tryz.pinned.checked.prog.wantsStandIn t=false:=by
 obtain rfl:f=6:=tR ((show Tryz.prog.funcNamed "priorart/priorartlaw35.ExtractChecks" =some 6 by kernel_rfl).symm.trans O) |>.symm
 obtain rfl:fn=Tryz.f6:=(tR (Tryz.func6.symm.trans G)).symm;refine⟨by kernel_rfl,λj t N=>?_⟩;rw[Tryz.params6]at N;have J:t∈ #[22,22,3,3,3,3,3]:=Array.mem_of_getElem? N;simp at J;rcases J with rfl|rfl
 .exact(show Tryz.prog.wantsStandIn 22=false by kernel_rfl)
 .exact(show Tryz.prog.wantsStandIn 3=false by kernel_rfl)
end Go.Proofs.YtopldfpkgbkomaaGreatDoor.extractChecks
