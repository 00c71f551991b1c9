/- Laws, part 4. No condition. -/
import Derived.OpenShut
import Derived.ChangeSame
import Derived.ChangeArms
set_option linter.all false
set_option maxRecDepth 100000
set_option maxHeartbeats 4000000
noncomputable section
namespace Go.Va
open Go.ChangeShapes
section
variable {H:Type} {enc:TypeId×Value→H} {P:Program} {w:World} {base:Nat} {spare:Nat→Bool} {held:Bool} {fuel:Nat} {t e n:Nat} {cs:List Value} {ps:List MemPlace}
theorem flat_cells {k:Nat}:∀ {ls:List (List Int)} {cs:List Value},cs.length=ls.length*k→(∀zs∈ls,zs.length=k)→(∀(i:Nat) zs,ls[i]?=some zs→(cs.drop (i*k)).take k=zs.map (.int .i64))→cs=ls.flatten.map (.int .i64)
 |[],cs,hl,_,_=>by
  simp at hl;simp[hl]
 |zs::ls,cs,hl,hk,h=>by
  have h0:=h 0 zs rfl;simp only[Nat.zero_mul,List.drop_zero]at h0;have ih:=flat_cells (k:=k) (ls:=ls) (cs:=cs.drop k) (by rw[List.length_drop,hl,List.length_cons,Nat.succ_mul];omega) (λz hz=>hk z (List.mem_cons_of_mem _ hz)) (λi z hz=>by
   have:=h (i+1) z (by simpa using hz);rw[List.drop_drop];rw[Nat.succ_mul]at this
   rwa [Nat.add_comm])
  rw[List.flatten_cons,List.map_append,←h0,←ih,List.take_append_drop]
theorem flat1 (l:List Int):(l.map λz=>[z]).flatten=l:=by
 induction l with
 |nil=>rfl
 |cons z l ih=>rw[List.map_cons,List.flatten_cons,ih];rfl
theorem readI (ht:P.underlying t=some (.array n e)) (he:P.underlying e=some (.int .i64)) (hc:P.cellsOf e=1) (hct:P.cellsOf t=n) {ls:List Int} (hn:ls.length=n)
  (h:DataW.trod enc P w base spare held fuel t cs=some (.agg (ls.map λz=> .lit (.int .i64 z)),ps)):cs=ls.map (.int .i64):=by
 obtain⟨xs,m,_,hx,hl,hxn,hf⟩:=DataW.trod_array ht h;simp only[Prod.mk.injEq,DataW.agg.injEq]at hx;have e1:ls.map (.int .i64)=(ls.map λz=>[z]).flatten.map (Value.int .i64):=by rw[flat1]
 rw[e1];refine flat_cells (k:=1) (by rw[hl,hct,List.length_map,hn,Nat.mul_one]) (by simp) λi zs hz=>?_;rw[List.getElem?_map,Option.map_eq_some_iff]at hz;obtain⟨z,hz,rfl⟩:=hz;have hi:i <n:=by rw[←hn];exact(List.getElem?_eq_some_iff.1 hz).1
 have h1:=hf i hi;have h2:(xs.map (·.1))[i]?=some (.lit (.int .i64 z)):=by rw[←hx.1];simp[hz]
 rw[List.getElem?_map,Option.map_eq_some_iff]at h2;obtain⟨y,hy,hy1⟩:=h2;rw[hy,hc]at h1;obtain⟨a,ca,hya,_⟩:=DataW.trod_int he h1;rw[hya]at hy1;simp only[DataW.lit.injEq,Lit.int.injEq,true_and]at hy1;rw[ca,hy1];rfl
theorem readS {fs:Array Field} {k:Nat} (ht:P.underlying t=some (.array n e)) (he:P.underlying e=some (.struct fs)) (hc:P.cellsOf e=k) (hct:P.cellsOf t=n*k) (hfs:fs.size=k)
  (hfo:∀(j:Nat) f,fs[j]?=some f→f.offset=j∧P.underlying f.type=some (.int .i64)∧P.cellsOf f.type=1) {ls:List (List Int)} (hn:ls.length=n) (hk:∀zs∈ls,zs.length=k)
  (h:DataW.trod enc P w base spare held fuel t cs=some (.agg (ls.map λzs=> .agg (zs.map λz=> .lit (.int .i64 z))),ps)):cs=ls.flatten.map (.int .i64):=by
 obtain⟨xs,m,_,hx,hl,hxn,hf⟩:=DataW.trod_array ht h;simp only[Prod.mk.injEq,DataW.agg.injEq]at hx;refine flat_cells (k:=k) (by rw[hl,hct,hn]) hk λi zs hz=>?_;have hi:i <n:=by rw[←hn];exact(List.getElem?_eq_some_iff.1 hz).1
 have hzk:=hk zs (List.mem_of_getElem? hz);have h1:=hf i hi;have h2:(xs.map (·.1))[i]?=some (.agg (zs.map λz=> .lit (.int .i64 z))):=by rw[←hx.1];simp[hz]
 rw[List.getElem?_map,Option.map_eq_some_iff]at h2;obtain⟨y,hy,hy1⟩:=h2;rw[hy,hc]at h1;generalize (cs.drop (i*k)).take k=cs' at*;obtain⟨xs2,m2,_,hx2,hl2,hxn2,hf2⟩:=DataW.trod_struct he h1;subst hx2;simp only[DataW.agg.injEq]at hy1;have e1:zs.map (.int .i64)=(zs.map λz=>[z]).flatten.map (Value.int .i64):=by rw[flat1]
 rw[e1];refine flat_cells (k:=1) (by rw[hl2,hc,List.length_map,hzk,Nat.mul_one]) (by simp) λj z1 hz1=>?_;rw[List.getElem?_map,Option.map_eq_some_iff]at hz1;obtain⟨z,hz1,rfl⟩:=hz1;have hj:j <fs.size:=by rw[hfs,←hzk];exact(List.getElem?_eq_some_iff.1 hz1).1
 obtain⟨f,hff⟩:∃f,fs[j]?=some f:=⟨_,Array.getElem?_eq_getElem hj⟩;obtain⟨ho,hi1,hc1⟩:=hfo j f hff;have h3:=hf2 j f hff;have h4:(xs2.map (·.1))[j]?=some (.lit (.int .i64 z)):=by rw[hy1];simp[hz1]
 rw[List.getElem?_map,Option.map_eq_some_iff]at h4;obtain⟨y2,hy2,hy21⟩:=h4;rw[hy2,ho,hc1]at h3;obtain⟨a,ca,hya,_⟩:=DataW.trod_int hi1 h3;rw[hya]at hy21;simp only[DataW.lit.injEq,Lit.int.injEq,true_and]at hy21;rw[Nat.mul_one,ca,hy21];rfl
end
end Go.Va
