/- Laws, part 5. No condition. -/
import Derived.Test.YtdfcjloangkbhaaGreatDoorL03
set_option linter.all false
set_option maxRecDepth 100000
set_option maxHeartbeats 4000000
noncomputable section
namespace Go.Va
open Go.Proofs
attribute [simp] fnOf D.norm argsOf D.arg retDs get_set get_app V.cells resDs AR.d D.keep
abbrev gi (i:AI):GI:=⟨none,i⟩
def cKb:AC:= .seq (.reg [gi (.itr 1 6 (.t 5 false)),gi (.p 7 (.ext (.t 6 false) 0))] [0,5,7]) (.seq (.cond (.t 7 false) .skip (.exit 0)) (.block 1 (.seq (.reg [gi (.itr 2 8 (.t 5 false)),gi (.p 9 (.ext (.t 8 false) 0)),gi (.mv 3 (.t 9 false))] [0,3,5])
 (.seq (.reg [gi (.mv 10 (.t 0 false)),gi (.mv 11 (.t 3 false)),gi (.call (some 12) (.t 10 false) [.t 11 false]),gi (.p 13 (.not (.t 12 false)))] [0,5,13]) (.cond (.t 13 false) .ret .skip)))))
def cK:AC:= .seq (.reg [gi (.p 4 (.load (.t 1 false) 1 false)),gi (.itr 0 5 (.t 4 false))] [0,5]) (.block 0 (.loop cKb))
theorem k292:chkF Tryz.prog GLx 292 2 cK []=true:=by kernel_rfl
theorem k325:chkF Tryz.prog GLx 325 2 cK []=true:=by kernel_rfl
theorem awp_rangeK {P:Program} {GL:Globals} {q:Opd} {ps:List Nat} {asg body:AC} {Q:AExit→St→Prop} {s:St} (n:Nat) (hn:s.h.length=n) (fid:Nat) (caps rets:List D) (h1 h':List Row) (tag:Tag)
  (hq:fnOf (q.ev s.e)=some (fid,caps)) (hh:s.h++[recRow P GL .ready (cpE s.e) ps asg body]=h1) (hf:FSp P GL fid (.yld n::caps) h1 rets h')
  (hr:h'[n]?=some (recRow P GL tag (cpE s.e) ps asg body)) (he:rangeEnd Q ⟨s.e,h'.set n .dead⟩ tag):awp P GL (.rangeF q ps asg body) Q s:=by
 subst hn;rw[awp_rangeF];exact⟨fid,caps,rets,h',tag,hq,hh▸hf,hr,he⟩
section
variable {fid:Nat} (hk:chkF Tryz.prog GLx fid 2 cK []=true)
include hk
theorem pK0 {H:List Row} {y b:Nat} (hb:H[b]?=some (.cells [.v .nilm])):FSp Tryz.prog GLx fid [.yld y,.ref b 0] H [] (H++[itN]):=by
 refine fsp_of_awp hk rfl ?_;simp only[cK,awp_seq,awp_reg,awp_block,entryD];simp[hb];refine awp_loop_end ?_;simp only[cKb,awp_seq,awp_reg,awp_block,awp_cond];simp;refine .inl ?_;simp[awp_exit,resDs]
theorem pKn {H:List Row} {y b m ck:Nat} (hb:H[b]?=some (.cells [.mref m])) (hm:H[m]?=some (.map [] [] ck)):FSp Tryz.prog GLx fid [.yld y,.ref b 0] H [] (H++[itR m ck []]):=by
 refine fsp_of_awp hk rfl ?_;simp only[cK,awp_seq,awp_reg,awp_block,entryD];simp[hb,hm];refine awp_loop_end ?_;simp only[cKb,awp_seq,awp_reg,awp_block,awp_cond,awpOps_plain,awpI];refine .inr ⟨H.length,m,ck,[],[],[],rfl,by simp,get_old _ hm,?_,?_⟩
 ·intro _;simp[awp_exit,resDs]
 ·intro i y kv h;simp at h
theorem pK1 {H H':List Row} {y b m ck c:Nat} {k v:V} (hb:H[b]?=some (.cells [.mref m])) (hm:H[m]?=some (.map [(k,v)] [c] ck)) (hl:H'.length=H.length) (hm':H'[m]?=some (.map [(k,v)] [c] ck))
  (hy:YSp Tryz.prog GLx y [.v k] (H++[itR m ck [c]]) true (H'++[itR m ck [c]])):FSp Tryz.prog GLx fid [.yld y,.ref b 0] H [] (H'++[itR m ck [c]]):=by
 refine fsp_of_awp hk rfl ?_;have hmH:(H++[itR m ck []])[m]?=some (.map [(k,v)] [c] ck):=get_old _ hm;have hmH1:(H++[itR m ck [c]])[m]?=some (.map [(k,v)] [c] ck):=get_old _ hm;simp only[cK,awp_seq,awp_reg,awp_block,entryD];simp[hb,hm];refine awp_loop_one (s1:=⟨[(0,.yld y),(5,.ref H.length 0),(13,.v (.bool false))],H'++[itR m ck [c]]⟩) ?_ ?_
 ·simp only[cKb,awp_seq,awp_reg,awp_block,awp_cond,awpOps_plain,awpI];refine .inr ⟨H.length,m,ck,[],[(k,v)],[c],rfl,by simp,hmH,?_,?_⟩
  ·intro h;simp at h
  ·intro i y' kv h1 h2 _;have hi:i=0:=by
    have:=(List.getElem?_eq_some_iff.1 h1).1;simp at this;exact this
   subst hi;simp at h1 h2;subst h1;subst h2;simp[awp_skip];refine⟨m,ck,[],[(k,v)],[c],0,c,rfl,hmH1,rfl,k,⟨v,rfl⟩,.inr ?_⟩;simpa[argsOf,D.arg]using hy
 ·refine awp_loop_end ?_;simp only[cKb,awp_seq,awp_reg,awp_block,awp_cond,awpOps_plain,awpI];refine .inr ⟨H.length,m,ck,[c],[(k,v)],[c],rfl,by rw[←hl];simp,get_old _ hm',?_,?_⟩
  ·intro _;simp[awp_exit,resDs]
  ·intro i y' kv h1 _ h3;have hi:i=0:=by
    have:=(List.getElem?_eq_some_iff.1 h1).1;simp at this;exact this
   subst hi;simp at h1;subst h1;simp at h3
end
def KY (fid:Nat) (r:Nat) (h:List Row) (ks:List V):Prop:=(fid=292∨fid=325)∧
 ((ks=[]∧h[r]?=some (.cells [.v .nilm]))∨(ks=[]∧∃m ck,h[r]?=some (.cells [.mref m])∧h[m]?=some (.map [] [] ck))∨∃k v m c ck,ks=[k]∧h[r]?=some (.cells [.mref m])∧h[m]?=some (.map [(k,v)] [c] ck))
theorem pKY {fid r:Nat} {h:List Row} {ks:List V} (hK:KY fid r h ks) (B B' L:Row) (hy:∀k J,ks=[k]→YSp Tryz.prog GLx (h.length+1) [.v k] (h++B::L::J) true (h++B'::L::J)):
  ∃J,FSp Tryz.prog GLx fid [.yld (h.length+1),.ref r 0] (h++[B,L]) [] (h++(if ks=[] then B else B')::L::[J]):=by
 obtain⟨hf,hK⟩:=hK;have hk:chkF Tryz.prog GLx fid 2 cK []=true:=by
  rcases hf with rfl|rfl
  ·exact k292
  ·exact k325
 rcases hK with ⟨rfl,hb⟩|⟨rfl,m,ck,hb,hm⟩|⟨k,v,m,c,ck,rfl,hb,hm⟩
 ·exact⟨itN,by simpa using pK0 hk (y:=h.length+1) (get_old [B,L] hb)⟩
 ·exact⟨itR m ck [],by simpa using pKn hk (y:=h.length+1) (get_old [B,L] hb) (get_old [B,L] hm)⟩
 ·refine⟨itR m ck [c],?_⟩;have:=pK1 hk (y:=h.length+1) (H':=h++[B',L]) (get_old [B,L] hb) (get_old [B,L] hm) (by simp) (get_old [B',L] hm) (by simpa using hy k [itR m ck [c]] rfl);simpa using this
theorem yK346 (h J:List Row) (e0:Env) (hf:find e0 2= .ref h.length 0) (k:Int):
  YSp Tryz.prog GLx (h.length+1) [.v (.int .i64 k)] (h++ .cells [.own 3 1 []]::recRow Tryz.prog GLx .ready e0 [7] (lG 346 0) (lG 346 1000)::J) true
   (h++ .cells [.own 3 1 [.int .i64 k]]::recRow Tryz.prog GLx .ready e0 [7] (lG 346 0) (lG 346 1000)::J):=by
 refine ysp_of_awp (e0:=e0) (ps:=[7]) (asg:=lG 346 0) (body:=lG 346 1000) (by simp) rfl ?_;simp only[setPs,Zgl 346 0,Zgl 346 1000,awp_reg,awp_block,Zge 346 2,Zge 346 3];simp[hf,V.cells,headOK,roomy,putL,roundEnd]
theorem pK346 {fid r:Nat} {h:List Row} {ks:List Int} (hK:KY fid r h (ks.map (.int .i64))):
  FSp Tryz.prog GLx 346 [.nil 3 1,.func fid [.ref r 0]] h [.v (.list (ks.map (.int .i64)))] (h++[.dead,.dead,.dead]):=by
 obtain⟨J,hJ⟩:=pKY hK (.cells [.own 3 1 []]) (.cells [.own 3 1 (ks.map (.int .i64))]) (recRow Tryz.prog GLx .ready (cpE [(2,.ref h.length 0),(6,.func fid [.ref r 0])]) [7] (lG 346 0) (lG 346 1000)) (λk J hk=>by
  match ks,hk with
  |[k'],hk=>
   simp at hk;subst hk;exact yK346 h J _ rfl k')
 have e:(if ks.map (V.int IntKind.i64)=[] then Row.cells [.own 3 1 []] else .cells [.own 3 1 (ks.map (.int .i64))])= .cells [.own 3 1 (ks.map (.int .i64))]:=by
  split
  ·rename_i h;rw[h]
  ·rfl
 rw[e]at hJ;have hq:FSp Tryz.prog GLx 346 [.nil 3 1,.func fid [.ref r 0]] h [.v (.list (ks.map (.int .i64)))] (h++[.cells [.own 3 1 (ks.map (.int .i64))],.dead,J]):=by
  refine fsp_of_awp (Zkk 346) rfl ?_;simp only[Zga 346,awp_seq,awp_reg,awp_block,Zge 346 0,Zge 346 1,entryD];simp;refine awp_rangeK (h.length+1) (by simp) fid [.ref r 0] [] _ _ .ready rfl rfl (by simpa using hJ) (by simp) ?_;simp[rangeEnd,Zge 346 4];simp[awp_ret,Zgr 346]
 have:=hq.kill h.length;simpa[kill]using this
theorem pK291 {fid r:Nat} {h:List Row} {ks:List Int} (hK:KY fid r h (ks.map (.int .i64))):
  FSp Tryz.prog GLx 291 [.func fid [.ref r 0]] h [.v (.list (ks.map (.int .i64)))] (h++[.dead,.dead,.dead]):=by
 refine fsp_of_awp (Zkk 291) rfl ?_;simp only[Zga 291,awp_seq,awp_reg,Zge 291 0,Zge 291 1,entryD];simp;refine⟨_,_,pK346 hK,?_⟩;simp[awp_ret,Zgr 291]
def pRun (h:List Row):List GI→Env→Option Env
 |[],e=>some e
 |⟨none,.p d i⟩::r,e=>match i.val e h with
  |some x=>pRun h r ((d,x)::e)
  |none=>none
 |⟨none,.mv d x⟩::r,e=>pRun h r ((d,x.ev e)::x.clear e)
 |_::_,_=>none
theorem pRun_ok {P:Program} {GL:Globals} {h J:List Row}:∀ {ops:List GI} {e e':Env} {K:St→Prop},pRun h ops e=some e'→K ⟨e',h++J⟩→awpOps P GL ops K ⟨e,h++J⟩
 |[],e,e',K,hr,hK=>by
  simp only[pRun,Option.some.injEq]at hr;subst hr;exact hK
 |⟨none,.p d i⟩::r,e,e',K,hr,hK=>by
  simp only[pRun]at hr;split at hr
  ·rename_i x hx;rw[awpOps_plain];simp only[awpI,AI.step,PI.val_grow hx,Option.map_some];exact pRun_ok hr hK
  ·cases hr
 |⟨none,.mv d x⟩::r,e,e',K,hr,hK=>by
  simp only[pRun]at hr;rw[awpOps_plain];exact pRun_ok hr hK
section
variable (is:List GI) (clos:List (List Nat)) (H:List Row) (eS:Env) (base:List Nat) (PV:List (V×V))
def dstA (i:Nat):Option Nat:=(is.getD i default).i.dst
def rdA (i:Nat) (l:List Nat):Bool:=l.all λt=>base.contains t||((clos[i]?).getD []).any λj=>decide (j <is.length)&&dstA is j==some t
def midA (i:Nat):Bool:=decide (i≠0)&&decide (i+1≠is.length)
def intKey:V→Bool
 | .int .i64 _=>true
 |_=>false
def coreA (i:Nat) (ai:AI):Bool:=match ai with
 | .p d pi=>midA is i&&(match pi.val eS H with
  |some x=>D.beq x (find eS d)
  |none=>false)
 | .mv d x=>midA is i&&(x.wr.isEmpty&&D.beq (x.ev eS) (find eS d))
 | .mkm d=>decide (i=0)&&decide (i+1≠is.length)&&D.beq (.mref H.length) (find eS d)
 | .mput m k v st ks=>midA is i&&D.beq (m.ev eS) (.mref H.length)&&(!st&&ks==[0])&&((clos[i]?).getD []).contains 0&&((clos[is.length-1]?).getD []).contains i&&(match (k.ev eS).toV,(v.ev eS).toV with
  |some kv,some vv=>intKey kv&&PV.any λx=>V.beqs [x.1,x.2] [kv,vv]
  |_,_=>false)
 | .itr k d x=>decide (k=0)&&D.beq (x.ev eS) (.mref H.length)&&D.beq (find eS d) (.ref (H.length+1) 0)&&decide (i+1=is.length)&&decide (i≠0)&&((clos[i]?).getD []).contains 0
 |_=>false
def opA (i:Nat):Bool:=
 let x:=is.getD i default
 rdA is clos base i x.rd&&(match dstA is i with|some d=> !base.contains d&&(List.range is.length).all (λj=>decide (i=j)|| !(dstA is j==some d))|none=>true)&&
 (match x.g with
 |none=>coreA is clos H eS PV i x.i
 |some (t,want)=>match find eS t with
  | .v (.bool b)=>if b=want then coreA is clos H eS PV i x.i else midA is i&&(match dstA is i with|some d=>D.beq (find eS d) (.tup [])|none=>true)
  | .tup []=>midA is i&&(match dstA is i with|some d=>D.beq (find eS d) (.tup [])|none=>true)
  |_=>false)
def MOK (es:List (V×V)) (st:List Nat):Prop:=es.length=st.length∧∀kv∈es,intKey kv.1=true∧kv∈PV
structure LI (d:Nat→Bool) (s:St):Prop where
 base:∀t∈base,find s.e t=find eS t
 tmp:∀i <is.length,d i=true→∀t,dstA is i=some t→find s.e t=find eS t
 h0:d 0=false→s.h=H
 h1:d 0=true→d (is.length-1)=false→∃es st ck,s.h=H++[.map es st ck]∧MOK PV es st
 h2:d (is.length-1)=true→∃es st ck,s.h=H++[.map es st ck,itR H.length ck []]∧MOK PV es st
end
theorem mfind_int {k:Int}:∀ {es:List (V×V)},(∀kv∈es,intKey kv.1=true)→∃r,mfind false [0] (.int .i64 k) es=some r
 |[],_=>⟨none,rfl⟩
 |(x,y)::es,h=>by
  have hx:=h (x,y) (by simp);obtain⟨r,hr⟩:=mfind_int (k:=k) (es:=es) λkv hkv=>h kv (by simp[hkv]);cases x with
  |int kk n=>
   cases kk<;>simp[intKey]at hx
   rw[mfind];by_cases hkn:k=n
   ·exact⟨some 0,by simp[keyOK,V.cells,V.eqL,V.eq1,hkn]⟩
   ·have hkn:(k==n)=false:=by simpa using hkn
    exact⟨r.map (· +1),by simp[keyOK,V.cells,V.eqL,V.eq1,hkn,hr]⟩
  |_=>simp[intKey]at hx
theorem LI.rows {is:List GI} {H:List Row} {eS:Env} {base:List Nat} {PV:List (V×V)} {d:Nat→Bool} {s:St} (h:LI is H eS base PV d s):∃J,s.h=H++J:=by
 cases h0:d 0 with
 |false=>exact⟨[],by simp[h.h0 h0]⟩
 |true=>
  cases h1:d (is.length-1)with
  |false=>obtain⟨es,st,ck,e,_⟩:=h.h1 h0 h1;exact⟨_,e⟩
  |true=>obtain⟨es,st,ck,e,_⟩:=h.h2 h1;exact⟨_,e⟩
theorem LI.put {is:List GI} {H:List Row} {eS:Env} {base:List Nat} {PV:List (V×V)} {d:Nat→Bool} {s:St} (h:LI is H eS base PV d s) {i:Nat} (hm:midA is i=true) {t:Nat} {x:D}
  (hd:dstA is i=some t) (hb:base.contains t=false) (hu:∀j <is.length,i≠j→dstA is j≠some t) (hx:x=find eS t):LI is H eS base PV (did d i) ⟨(t,x)::s.e,s.h⟩:=by
 simp only[midA,Bool.and_eq_true,decide_eq_true_eq]at hm;have e0:did d i 0=d 0:=by simp[did,Ne.symm hm.1]
 have e1:did d i (is.length-1)=d (is.length-1):=by
  have:¬is.length-1=i:=by omega
  simp[did,this]
 refine⟨λt' ht'=>?_,λj hj hdj t' ht'=>?_,?_,?_,?_⟩
 ·have:t≠t':=by rintro rfl;simp at hb;exact hb ht'
  simp[find,this];exact h.base t' ht'
 ·simp only[find];split
  ·rename_i e;subst e;exact hx
  ·rename_i e;by_cases hij:j=i
   ·subst hij;rw[hd]at ht';exact absurd (Option.some.inj ht') e
   ·simp[did,hij]at hdj;exact h.tmp j hj hdj t' ht'
 ·rw[e0];exact h.h0
 ·rw[e0,e1];exact h.h1
 ·rw[e1];exact h.h2
theorem LI.skip {is:List GI} {H:List Row} {eS:Env} {base:List Nat} {PV:List (V×V)} {d:Nat→Bool} {s:St} (h:LI is H eS base PV d s) {i:Nat} (hm:midA is i=true) (hd:dstA is i=none):LI is H eS base PV (did d i) s:=by
 simp only[midA,Bool.and_eq_true,decide_eq_true_eq]at hm;have e0:did d i 0=d 0:=by simp[did,Ne.symm hm.1]
 have e1:did d i (is.length-1)=d (is.length-1):=by
  have:¬is.length-1=i:=by omega
  simp[did,this]
 refine⟨h.base,λj hj hdj t' ht'=>?_,?_,?_,?_⟩
 ·by_cases hij:j=i
  ·subst hij;rw[hd]at ht';cases ht'
  ·simp[did,hij]at hdj;exact h.tmp j hj hdj t' ht'
 ·rw[e0];exact h.h0
 ·rw[e0,e1];exact h.h1
 ·rw[e1];exact h.h2
section
variable {P:Program} {GL:Globals} {is:List GI} {clos:List (List Nat)} {H:List Row} {eS:Env} {base:List Nat} {PV:List (V×V)}
theorem LI.same {d:Nat→Bool} {s:St} (h:LI is H eS base PV d s) {i:Nat} (hdep:∀j∈(clos[i]?).getD [],d j=true) {l:List Nat} (hr:rdA is clos base i l=true):Same eS s.e l:=by
 intro t ht;have h1:=List.all_eq_true.1 hr t ht;rcases Bool.or_eq_true_iff.1 h1 with h2|h2
 ·exact h.base t (by simpa using h2)
 ·obtain⟨j,hj,h3⟩:=List.any_eq_true.1 h2;simp only[Bool.and_eq_true,decide_eq_true_eq,beq_iff_eq]at h3;exact h.tmp j h3.1 (hdep j hj) t h3.2
theorem LI.core {d:Nat→Bool} {s:St} (h:LI is H eS base PV d s) {i:Nat} (hi:i <is.length) (hdi:d i=false) (hdep:∀j∈(clos[i]?).getD [],d j=true) (hup:∀j <is.length,i∈(clos[j]?).getD []→d j=false)
  (hs:Same eS s.e (is.getD i default).i.rd) (hw:∀t,dstA is i=some t→base.contains t=false∧∀j <is.length,i≠j→dstA is j≠some t) (hc:coreA is clos H eS PV i (is.getD i default).i=true):
  awpI P GL (is.getD i default).i (λs1=>LI is H eS base PV (did d i) s1) s:=by
 have hdst:dstA is i=(is.getD i default).i.dst:=rfl;generalize (is.getD i default).i=ai at*;obtain⟨J,hJ⟩:=h.rows;cases ai<;>simp only[coreA,Bool.and_eq_true,Bool.false_eq_true]at hc
 case p t pi=>
  obtain⟨hm,hc⟩:=hc;split at hc
  ·rename_i x hx;have hv:pi.val s.e s.h=some x:=by
    rw[PI.val_congr (e:=eS) hs,hJ];exact PI.val_grow hx
   simp only[awpI,AI.step,hv,Option.map_some];obtain⟨h1,h2⟩:=hw t hdst;exact h.put hm hdst h1 h2 (D.beq_eq hc)
  ·cases hc
 case mv t x=>
  obtain⟨hm,hc1,hc2⟩:=hc;obtain⟨h1,h2⟩:=hw t hdst;have he:x.ev s.e=x.ev eS:=Same.ev hs;have hcl:x.clear s.e=s.e:=by
   cases x with
   |t n b=>cases b<;>simp[Opd.wr]at hc1 ⊢
   |c _=>rfl
   |g _ _=>rfl
  simp only[awpI,AI.step,hcl,he];exact h.put hm hdst h1 h2 (D.beq_eq hc2)
 case mkm t=>
  simp only[decide_eq_true_eq]at hc;obtain⟨⟨rfl,hn⟩,hc⟩:=hc;obtain⟨h1,h2⟩:=hw t hdst;have hH:=h.h0 hdi;have hl:d (is.length-1)=false:=by
   cases hl:d (is.length-1)with
   |false=>rfl
   |true=>
    obtain⟨es,st,ck,e,_⟩:=h.h2 hl;rw[hH]at e;have:=congrArg List.length e;simp at this
  simp only[awpI,AI.step,hH];refine⟨λt' ht'=>?_,λj hj hdj t' ht'=>?_,?_,?_,?_⟩
  ·have:t≠t':=by rintro rfl;simp at h1;exact h1 ht'
   simp[find,this];exact h.base t' ht'
  ·simp only[find];split
   ·rename_i e;subst e;exact D.beq_eq hc
   ·rename_i e;by_cases hij:j=0
    ·subst hij;rw[hdst]at ht';exact absurd (Option.some.inj ht') e
    ·simp[did,hij]at hdj;exact h.tmp j hj hdj t' ht'
  ·intro h3;simp[did]at h3
  ·intro _ _;exact⟨[],[],0,rfl,rfl,by simp⟩
  ·intro h3;have:¬is.length-1=0:=by omega
   simp[did,this,hl]at h3
 case mput m k v st ks=>
  simp only[Bool.not_eq_true',beq_iff_eq,List.contains_iff_mem]at hc;obtain⟨⟨⟨⟨⟨hm,hm2⟩,rfl,rfl⟩,h0⟩,hlast⟩,hc⟩:=hc;have hd0:=hdep 0 h0;have hd1:=hup (is.length-1) (by omega) hlast;obtain⟨es,st,ck,hh,hlen,hPV⟩:=h.h1 hd0 hd1;have em:m.ev s.e= .mref H.length:=by rw[Same.ev (e:=eS) (Same.left hs)];exact D.beq_eq hm2
  have ek:k.ev s.e=k.ev eS:=Same.ev (Same.left (Same.right hs));have ev:v.ev s.e=v.ev eS:=Same.ev (Same.right (Same.right hs));split at hc
  ·rename_i kv vv hk hv;simp only[Bool.and_eq_true]at hc;obtain⟨hik,hmem⟩:=hc;obtain⟨x,hx,hbx⟩:=List.any_eq_true.1 hmem;have hxe:=V.beqs_eq hbx;simp only[List.cons.injEq,and_true]at hxe;have hxm:(kv,vv)∈PV:=by rw[←hxe.1,←hxe.2];exact hx
   obtain⟨n,rfl⟩:∃n,kv= .int .i64 n:=by
    cases kv with
    |int kk n=>cases kk<;>simp[intKey]at hik;exact⟨n,rfl⟩
    |_=>simp[intKey]at hik
   obtain⟨r,hr⟩:=mfind_int (k:=n) (es:=es) λkv hkv=>(hPV kv hkv).1;have hkO:keyOK false [0] (.int .i64 n)=true:=by simp[keyOK,V.cells,V.eqL,V.eq1]
   have hrow:s.h[H.length]?=some (.map es st ck):=by rw[hh];simp
   have hset:∀R,s.h.set H.length R=H++[R]:=λR=>by rw[hh,List.set_append_right _ _ (Nat.le_refl _)];simp
   have fin:∀es' st' ck',MOK PV es' st'→LI is H eS base PV (did d i) ⟨s.e,H++[.map es' st' ck']⟩:=by
    intro es' st' ck' hok;have hm':=hm;simp only[midA,Bool.and_eq_true,decide_eq_true_eq]at hm';have e0:did d i 0=d 0:=by simp[did,Ne.symm hm'.1]
    have e1:did d i (is.length-1)=d (is.length-1):=by
     have:¬is.length-1=i:=by omega
     simp[did,this]
    have hsk:=h.skip hm (by rw[hdst];rfl);refine⟨hsk.base,hsk.tmp,?_,?_,?_⟩
    ·rw[e0,hd0];intro h;cases h
    ·intro _ _;exact⟨es',st',ck',rfl,hok⟩
    ·rw[e1,hd1];intro h;cases h
   simp only[awpI,AI.step,em,hrow,ek,ev,hk,hv,hkO,if_true,hr,hset];cases r with
   |none=>
    refine fin _ _ _ ⟨by simp[hlen],λy hy=>?_⟩;rcases List.mem_append.1 hy with hy|hy
    ·exact hPV y hy
    ·simp at hy;subst hy;exact⟨rfl,hxm⟩
   |some q=>
    refine fin _ _ _ ⟨by simp[hlen],λy hy=>?_⟩;rcases List.mem_or_eq_of_mem_set hy with hy|rfl
    ·exact hPV y hy
    ·exact⟨rfl,hxm⟩
  ·cases hc
 case itr k t x=>
  simp only[decide_eq_true_eq,List.contains_iff_mem]at hc;obtain⟨⟨⟨⟨⟨rfl,hx⟩,ht⟩,hn⟩,hne⟩,h0⟩:=hc;have hd0:=hdep 0 h0;have hil:is.length-1=i:=by omega
  obtain⟨es,st,ck,hh,hok⟩:=h.h1 hd0 (by rw[hil];exact hdi);have ex:x.ev s.e= .mref H.length:=by rw[Same.ev (e:=eS) hs];exact D.beq_eq hx
  have hrow:s.h[H.length]?=some (.map es st ck):=by rw[hh];simp
  obtain⟨h1,h2⟩:=hw t hdst;simp only[awpI,ex,hrow];refine⟨λt' ht'=>?_,λj hj hdj t' ht'=>?_,?_,?_,?_⟩
  ·have:t≠t':=by rintro rfl;simp at h1;exact h1 ht'
   simp[find,this];exact h.base t' ht'
  ·simp only[find];split
   ·rename_i e;subst e;rw[D.beq_eq ht,hh];simp
   ·rename_i e;by_cases hij:j=i
    ·subst hij;rw[hdst]at ht';exact absurd (Option.some.inj ht') e
    ·simp[did,hij]at hdj;exact h.tmp j hj hdj t' ht'
  ·intro h3;simp[did,Ne.symm hne,hd0]at h3
  ·intro _ h3;rw[hil]at h3;simp[did]at h3
  ·intro _;exact⟨es,st,ck,by rw[hh];simp,hok⟩
theorem litV {K:St→Prop} (hne:0 <is.length) (hop:(List.range is.length).all (opA is clos H eS base PV)=true) {e0:Env} (hb:∀t∈base,find e0 t=find eS t)
  (hK:∀e es st ck,(∀t∈base,find e t=find eS t)→(∀i <is.length,∀t,dstA is i=some t→find e t=find eS t)→MOK PV es st→K ⟨e,H++[.map es st ck,itR H.length ck []]⟩):
  AnyD P GL is clos K is.length (List.range is.length) ⟨e0,H⟩:=by
 refine anyD_all (LI is H eS base PV) ?_ ?_ ?_
 ·intro d i s hi hdi hdep hup hI;have ho:=List.all_eq_true.1 hop i (List.mem_range.2 hi);unfold opA at ho;simp only[Bool.and_eq_true]at ho;obtain⟨⟨hr,hw⟩,hc⟩:=ho;have hs:=hI.same hdep hr;have hw2:∀t,dstA is i=some t→base.contains t=false∧∀j <is.length,i≠j→dstA is j≠some t:=by
   intro t ht;rw[ht]at hw;simp only[Bool.and_eq_true,Bool.not_eq_true']at hw;refine⟨hw.1,λj hj hij=>?_⟩;have:=List.all_eq_true.1 hw.2 j (List.mem_range.2 hj);simpa[hij]using this
  have hdst:dstA is i=(is.getD i default).i.dst:=rfl;have hcore:=λhs hc=>hI.core (P:=P) (GL:=GL) hi hdi hdep hup hs hw2 hc;clear hw;unfold awpG;generalize is.getD i default=x at*;obtain⟨g,ai⟩:=x;have hskip:(midA is i&&(match dstA is i with|some d=>D.beq (find eS d) (.tup [])|none=>true))=true→LI is H eS base PV (did d i) ⟨setO s.e ai.dst (.tup []),s.h⟩:=by
   intro h;simp only[Bool.and_eq_true]at h;rw[←hdst];cases hd:dstA is i with
   |none=>exact hI.skip h.1 hd
   |some t=>
    have h2:=h.2;rw[hd]at h2;exact hI.put h.1 hd (hw2 t hd).1 (hw2 t hd).2 (D.beq_eq h2).symm
  cases g with
  |none=>exact hcore hs hc
  |some tw=>
   obtain⟨t,want⟩:=tw;have ht:find s.e t=find eS t:=hs t (by simp[GI.rd]);have hs':Same eS s.e ai.rd:=λn hn=>hs n (by simp[GI.rd,hn]);simp only at hc ⊢;rw[ht];split at hc
   ·rename_i b hb;rw[hb];simp only;by_cases hbw:b=want
    ·rw[if_pos hbw]at hc ⊢;exact hcore hs' hc
    ·rw[if_neg hbw]at hc ⊢;exact hskip hc
   ·rename_i hb;rw[hb];exact hskip hc
   ·cases hc
 ·intro d s hd hI;obtain⟨es,st,ck,hh,hok⟩:=hI.h2 (hd _ (by omega));obtain⟨e,h⟩:=s;simp only at hh;subst hh;exact hK e es st ck hI.base (λi hi t ht=>hI.tmp i hi (hd i hi) t ht) hok
 ·refine⟨hb,λi hi h=>?_,λ_=>rfl,λh=>?_,λh=>?_⟩
  ·have:=of_decide_eq_true h;omega
  ·have:=of_decide_eq_true h;omega
  ·have:=of_decide_eq_true h;omega
end
def tRun:List GI→St→Option St
 |[],s=>some s
 |x::r,s=>
  let go:Option St:=match x.i with
   | .itr _ d _=>some ⟨(d,.ref s.h.length 0)::s.e,s.h++[.dead]⟩
   |i=>i.step s
  match (match x.g with
   |none=>go
   |some (t,want)=>match find s.e t with
    | .v (.bool b)=>if b=want then go else some ⟨setO s.e x.i.dst (.tup []),s.h⟩
    | .tup []=>some ⟨setO s.e x.i.dst (.tup []),s.h⟩
    |_=>none)with
  |some s'=>tRun r s'
  |none=>none
section
variable (a:List V)
def bH:List Row:=[.cells (a.map .v),.cells ((a.drop 15).map .v)]
def bE0:Env:=[(1,.ref 0 0),(3,.ref 1 0),(4,.v (.int .i64 0))]
def bE:Env:=match tRun (oG 160 3) ⟨bE0,bH a⟩with
 |some s=>s.e
 |none=>[]
def bPV:List (V×V):=(oG 160 3).filterMap λx=>match x.i with
 | .mput _ k v _ _=>match (k.ev (bE a)).toV,(v.ev (bE a)).toV with
  |some k,some v=>some (k,v)
  |_,_=>none
 |_=>none
def bT:List V:=(bPV a).filterMap λx=>match x.2 with
 | .bool true=>some x.1
 |_=>none
def bL:List V:=(bT a).foldl (λL k=>L++L.filterMap λh=>V.bin .or h k) [.int .i64 0]
def bClos:List (List Nat):=match gA 160 with
 | .seq _ (.seq _ (.seq _ (.seq (.seq (.regV _ _ c) _) _)))=>c
 |_=>[]
def hasIn (L:List V) (x:V):Bool:=L.any λy=>V.beqs [y] [x]
def bareOK:Bool:=(List.range (oG 160 3).length).all (opA (oG 160 3) bClos (bH a) (bE a) [1,3,4] (bPV a))&&
 ((bPV a).all (λx=>match x.2 with| .bool _=>true|_=>false)&&([1,3,4].all λt=>D.beq (find bE0 t) (find (bE a) t))&&D.beq (find (bE a) 69) (.ref 3 0))&&
 (bL a).all λh=>(bT a).all (λk=>match V.bin .or h k with|some x=>hasIn (bL a) x|none=>false)&&
  (match pRun (bH a) (oG 160 8) [(1,.ref 0 0),(4,.v h),(69,.ref 3 0),(71,.v (.bool false))]with
  |some e=>D.beq (find e 2) (.v (.bool true))
  |none=>false)
end
theorem hasIn_mem {L:List V} {x:V} (h:hasIn L x=true):x∈L:=by
 obtain⟨y,hy,hb⟩:=List.any_eq_true.1 h;have:=V.beqs_eq hb;simp only[List.cons.injEq,and_true]at this;rw[←this];exact hy
theorem bare_loop (a:List V) (hb:bareOK a=true) (es:List (V×V)) (st:List Nat) (ck:Nat) (hok:MOK (bPV a) es st) (Q:AExit→St→Prop) (hQ:∀h seen,h∈bL a→Q (.exit 0) ⟨[(1,.ref 0 0),(4,.v h),(69,.ref 3 0),(71,.v (.bool false))],bH a++[.map es st ck,itR 2 ck seen]⟩):
  awp Tryz.prog GLx (.loop (lG 160 0)) Q ⟨[(1,.ref 0 0),(4,.v (.int .i64 0)),(69,.ref 3 0)],bH a++[.map es st ck,itR 2 ck []]⟩:=by
 unfold bareOK at hb;simp only[Bool.and_eq_true]at hb;obtain⟨⟨-,⟨hbool,-⟩,-⟩,hL⟩:=hb;have h0:V.int .i64 0∈bL a:=by
  unfold bL;generalize bT a=T;have:∀(T L:List V),V.int .i64 0∈L→V.int .i64 0∈T.foldl (λL k=>L++L.filterMap λh=>V.bin .or h k) L:=by
   intro T;induction T with
   |nil=>intro L h;exact h
   |cons k T ih=>intro L h;exact ih _ (List.mem_append_left _ h)
  exact this T _ (by simp)
 refine⟨λn s=>∃h seen e,h∈bL a∧s=⟨e,bH a++[.map es st ck,itR 2 ck seen]⟩∧(find e 1= .ref 0 0∧find e 4= .v h∧find e 69= .ref 3 0)∧n=(st.filter λy=> !seen.contains y).length,⟨_,_,[],_,h0,rfl,⟨rfl,rfl,rfl⟩,rfl⟩,?_⟩;rintro n s ⟨h,seen,e,hh,rfl,⟨e1,e4,e69⟩,rfl⟩;have hlen:(bH a).length=2:=rfl;have hr2:∀sn,(bH a++[.map es st ck,itR 2 ck sn])[2]?=some (.map es st ck):=λsn=>by simp[bH]
 have hr3:∀sn,(bH a++[.map es st ck,itR 2 ck sn])[3]?=some (itR 2 ck sn):=λsn=>by simp[bH]
 simp only[Zgl 160 0,awp_seq,awp_reg,awp_block,awp_cond,Zge 160 4,awpOps_plain,awpI];refine .inr ⟨3,2,ck,seen,es,st,by simp[e69],hr3 seen,hr2 seen,?_,?_⟩
 ·intro _;simp[awp_exit,e1,e4,e69];exact hQ _ _ hh
 ·intro i y kv hy hkv hns;have hset:(bH a++[.map es st ck,itR 2 ck seen]).set 3 (itR 2 ck (seen++[y]))=bH a++[.map es st ck,itR 2 ck (seen++[y])]:=by simp[bH]
  have hless:(st.filter λz=> !(seen++[y]).contains z).length <(st.filter λz=> !seen.contains z).length:=by
   have hm:=List.mem_of_getElem? hy;have e:st.filter (λz=> !(seen++[y]).contains z)=(st.filter λz=> !seen.contains z).filter λz=>decide (z≠y):=by
    rw[List.filter_filter]
    congr 1
    funext z
    by_cases h1:z=y<;>simp[h1]
   rw[e];refine List.length_filter_lt_length_iff_exists.2 ⟨y,?_,by simp⟩;rw[List.mem_filter];exact⟨hm,by simpa using hns⟩
  obtain⟨k,v⟩:=kv;obtain⟨hik,hmem⟩:=hok.2 (k,v) (List.mem_of_getElem? hkv);have hv:=List.all_eq_true.1 hbool _ hmem;obtain⟨b,rfl⟩:∃b,v= .bool b:=by
   cases v with
   |bool b=>exact⟨b,rfl⟩
   |_=>simp at hv
  rw[hset];simp[awp_skip,e1,e4,e69];simp only[Zge 160 5,awpOps_plain,awpI];refine⟨3,2,ck,seen,es,st,i,y,(k,.bool b),rfl,hr3 _,hr2 _,hy,hkv,?_⟩;simp[Zge 160 6];cases b with
  |false=>
   simp;refine⟨_,by simpa using hless,h,hh,seen++[y],?_⟩;simp
  |true=>
   have hk:=List.all_eq_true.1 hL h hh;simp only[Bool.and_eq_true]at hk;have hkT:k∈bT a:=List.mem_filterMap.2 ⟨_,hmem,rfl⟩;have hk2:=List.all_eq_true.1 hk.1 k hkT;split at hk2
   ·rename_i x hx;simp at hx;simp[Zge 160 7,hx];exact⟨_,by simpa using hless,x,hasIn_mem hk2,seen++[y],by simp⟩
   ·cases hk2
theorem bare_ok (a:List V) (ha:a.length=19) (hb:bareOK a=true):PSp Tryz.prog GLx 160 [.agg a] [.bool true]:=by
 have hlp:=bare_loop a hb;have hb':=hb;unfold bareOK at hb';simp only[Bool.and_eq_true]at hb';obtain⟨⟨hop,⟨-,hbase⟩,h69⟩,hL⟩:=hb';refine psp_of_awp (Zkk 160) rfl ?_;simp only[Zga 160,awp_seq,awp_reg,awp_block,Zge 160 0,Zge 160 1,Zge 160 2,entry];obtain⟨a0,a1,a2,a3,a4,a5,a6,a7,a8,a9,a10,a11,a12,a13,a14,a15,a16,a17,a18,he⟩:∃a0 a1 a2 a3 a4 a5 a6 a7 a8 a9 a10 a11 a12 a13 a14 a15 a16 a17 a18,a=[a0,a1,a2,a3,a4,a5,a6,a7,a8,a9,a10,a11,a12,a13,a14,a15,a16,a17,a18]:=by
  match a,ha with
  |[a0,a1,a2,a3,a4,a5,a6,a7,a8,a9,a10,a11,a12,a13,a14,a15,a16,a17,a18],_=>exact⟨_,_,_,_,_,_,_,_,_,_,_,_,_,_,_,_,_,_,_,rfl⟩
 have hH:[Row.cells [D.v a0,D.v a1,D.v a2,D.v a3,D.v a4,D.v a5,D.v a6,D.v a7,D.v a8,D.v a9,D.v a10,D.v a11,D.v a12,D.v a13,D.v a14,D.v a15,D.v a16,D.v a17,D.v a18],Row.cells [D.v a15,D.v a16,D.v a17,D.v a18]]=bH a:=by rw[he];rfl
 rw[he];simp[V.cells,putL];rw[hH];clear he;rw[awp_regV];refine litV (of_decide_eq_true (by kernel_rfl)) (by have h2:=hop;unfold bClos at h2;rw[Zga 160]at h2;exact h2) (λt ht=>D.beq_eq (List.all_eq_true.1 hbase t ht)) ?_;intro e es st ck hbs htmp hok;have e1:find e 1= .ref 0 0:=by rw[hbs 1 (by simp)];exact(D.beq_eq (List.all_eq_true.1 hbase 1 (by simp))).symm
 have e4:find e 4= .v (.int .i64 0):=by rw[hbs 4 (by simp)];exact(D.beq_eq (List.all_eq_true.1 hbase 4 (by simp))).symm
 have e69:find e 69= .ref 3 0:=by
  rw[htmp 71 (of_decide_eq_true (by kernel_rfl)) 69 (by kernel_rfl)];exact D.beq_eq h69
 have e3:(bH a).length=2:=rfl;simp[e1,e4,e69,e3];refine hlp es st ck hok _ ?_;intro h seen hh;have h1:=List.all_eq_true.1 hL h hh;simp only[Bool.and_eq_true]at h1;have h2:=h1.2;split at h2
 ·rename_i e' he';simp;refine pRun_ok he' ?_;simp[awp_ret,Zgr 160,D.beq_eq h2]
 ·cases h2
end Go.Va
