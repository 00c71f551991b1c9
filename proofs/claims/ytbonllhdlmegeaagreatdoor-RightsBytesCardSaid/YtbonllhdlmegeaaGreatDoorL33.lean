/- Laws, part 33. No condition. -/
import Derived.Test.YtbonllhdlmegeaaGreatDoorL11
set_option linter.all false
set_option maxRecDepth 100000
set_option maxHeartbeats 4000000
noncomputable section
namespace Go.Va
open Go.Proofs
theorem take_snocF {α:Type} {l:List α} {k:Nat} {x:α} (h:l[k]?=some x):l.take (k+1)=l.take k++[x]:=by rw[List.take_add_one,h];rfl
def tfs (i:Nat):List Bool:=(List.range 6).map λj=>decide (j <i)
def parI (i:Nat):List Int:=par6.getD i []
def fillB (i:Nat) (bs:List Bool):List Bool:=(parI i).foldl (λb p=>upP i b p.toNat) (bs.set (i*64+i) true)
theorem upP_len (i:Nat) (bs:List Bool) (p:Nat):(upP i bs p).length=bs.length:=inJ_len _ _ _ _
theorem fold_len (i:Nat):∀(ps:List Int) (bs:List Bool),(ps.foldl (λb p=>upP i b p.toNat) bs).length=bs.length
 |[],_=>rfl
 |p::ps,bs=>by rw[List.foldl_cons,fold_len i ps,upP_len]
theorem fillB_len (i:Nat) (bs:List Bool):(fillB i bs).length=bs.length:=by rw[fillB,fold_len,List.length_set]
theorem tfs_len (i:Nat):(tfs i).length=6:=by simp[tfs]
theorem tfs_get (i p:Nat) (hp:p <6):(tfs i)[p]?=some (decide (p <i)):=by simp[tfs,hp]
theorem tfs_set (i:Nat) (hi:i <6):(tfs i).set i true=tfs (i+1):=by
 have:∀i <6,(tfs i).set i true=tfs (i+1):=by decide
 exact this i hi
theorem put_map (l:List Bool) (i:Nat) (v:Bool) (hi:i <l.length):putL (l.map bv) i [bv v]=(l.set i v).map bv:=by
 rw[putL,List.map_set,List.set_eq_take_append_cons_drop,if_pos (by simpa using hi)];simp
theorem p211a (bs op:List Bool) (i p:Nat) (hp:p <i) (hi:i≤6):FSp Tryz.prog GLx 180 [.v (.int .i64 p),.ref 4 0,.ref 5 0,.ref 1 0,.ref 6 0] (rowsF bs (tfs i) op) [.v (.bool true)] (rowsF bs (tfs i) op):=by
 refine fsp_of_awp (Zkk 180) rfl ?_;have hl:=tfs_len i;have hp6:p <6:=by omega
 have hd:(tfs i)[p]?=some true:=by rw[tfs_get i p hp6];simp[hp]
 have hp5:p≤5:=by omega
 have hp6':(p:Int) <6:=by omega
 generalize tfs i=dn at*;have hde:∀h,dn[p]'h=true:=λh=>(List.getElem?_eq_some_iff.1 hd).2;simp only[Zga 180,awp_seq,awp_reg,awp_cond,Zge 180 0,Zge 180 1,entryD,rowsF];simp[hp6,hp6',hp5,hde,hl,Zge 180 2,awp_ret,Zgr 180]
set_option maxRecDepth 100000 in
set_option maxHeartbeats 1000000 in
theorem l211o (i:Nat) (hi:i <6) (ps:List Int) (dn dn' B0:List Bool) (hB0:B0.length=4096) (hps:∀p∈ps,0≤p∧p.toNat <i) (hpn:ps.length≤2)
  (ha:∀bs (p:Nat),p <i→FSp Tryz.prog GLx 180 [.v (.int .i64 p),.ref 4 0,.ref 5 0,.ref 1 0,.ref 6 0] (rowsF bs dn dn') [.v (.bool true)] (rowsF bs dn dn')):
  awp Tryz.prog GLx (.loop (lG 180 0)) (λe s=>e= .exit 0∧find s.e 0= .v (.int .i64 i)∧find s.e 1= .ref 4 0∧s.h=rowsF (ps.foldl (λb p=>upP i b p.toNat) B0) dn dn')
   ⟨[(0,.v (.int .i64 i)),(1,.ref 4 0),(3,.ref 1 0),(4,.ref 6 0),(41,.v (nums .i64 ps)),(42,.v (.int .i64 ps.length)),(43,.v (.int .i64 0))],rowsF B0 dn dn'⟩:=by
 have fl:∀k,((ps.take k).foldl (λb p=>upP i b p.toNat) B0).length=4096:=by
  intro k;rw[fold_len,hB0]
 refine awp_loop_nat0 ps.length (λk=>⟨[(0,.v (.int .i64 i)),(1,.ref 4 0),(3,.ref 1 0),(4,.ref 6 0),(41,.v (nums .i64 ps)),(42,.v (.int .i64 ps.length)),(43,.v (.int .i64 k))],rowsF ((ps.take k).foldl (λb p=>upP i b p.toNat) B0) dn dn'⟩) (by simp) ?_;intro k hk;have hBl:=fl k;simp only[Zgl 180 0,awp_seq,awp_reg,awp_block,awp_cond,Zge 180 6];simp[nums];by_cases hlt:k <ps.length
 ·obtain⟨p,hpk⟩:∃p,ps[k]?=some p:=⟨_,List.getElem?_eq_getElem hlt⟩;have hw:IntKind.i64.wrap ((k:Int)+1)=k+1:=wrap_i64 (by omega) (by omega);obtain⟨hp0,hpi⟩:=hps p (List.mem_of_getElem? hpk);obtain⟨q,rfl⟩:∃q:Nat,p=q:=⟨p.toNat,by omega⟩;have hqi:q <i:=by omega
  have hsuc:(ps.take (k+1)).foldl (λb p=>upP i b p.toNat) B0=upP i ((ps.take k).foldl (λb p=>upP i b p.toNat) B0) q:=by
   rw[take_snocF hpk,List.foldl_append,List.foldl_cons,List.foldl_nil,Int.toNat_natCast]
  rw[hsuc];generalize (ps.take k).foldl (λb p=>upP i b p.toNat) B0=B at*;have hc:=ha B q hqi;have hq64:(q:Int) <64:=by omega
  have hq63:q≤63:=by omega
  have hsl:((B.drop (q*64)).take 64).length=64:=by rw[List.length_take,List.length_drop];omega
  have q2:=l211 i hi B dn dn' ((B.drop (q*64)).take 64) hBl hsl (.v (nums .i64 ps)) (.v (.int .i64 ps.length)) (.v (.int .i64 k));have hup:upP i B q=inJ i ((B.drop (q*64)).take 64) 64 B:=by rw[upP]
  rw[←hup]at q2;generalize upP i B q=NB at*;clear hup;have hld:List.take 64 (List.drop (q*64) (List.map bv B))=((B.drop (q*64)).take 64).map bv:=by rw[List.map_take,List.map_drop]
  have hcp:∀l:List Bool,List.map (D.copy ∘ bv) l=l.map bv:=λl=>by simp[Function.comp_def,D.copy]
  have hle:1+q*64≤4033:=by omega
  have hdr:∀(x:D) (l:List D),List.drop (1+q*64) (x::l)=List.drop (q*64) l:=λx l=>by rw[Nat.add_comm];rfl
  rw[if_pos (by omega),awp_skip];simp only[Zge 180 7];simp[hpk,Zge 180 8,rowsF];simp only[rowsF]at hc;refine⟨_,_,hc,?_⟩;simp[awp_skip,Zge 180 10,txR,hq64,hBl,hle,hdr,hcp];simp only[rowsF,txR,nums]at q2;simp only[List.map_take,List.map_drop]at q2;refine awp_mono _ ?_ q2;rintro e ⟨se,sh⟩ ⟨rfl,f0,f1,f3,f4,f41,f42,f43,hh⟩;simp only at f0 f1 f3 f4 f41 f42 f43 hh;subst hh;simp[Zge 180 15,f0,f1,f3,f4,f41,f42,f43,hw,hlt]
 ·have:k=ps.length:=by omega
  subst this;rw[if_neg (by omega),awp_exit];simp
set_option maxRecDepth 100000 in
theorem p211 (bs:List Bool) (i:Nat) (hi:i <6) (hbs:bs.length=4096):FSp Tryz.prog GLx 180 [.v (.int .i64 i),.ref 4 0,.ref 5 0,.ref 1 0,.ref 6 0] (rowsF bs (tfs i) (tfs i)) [.v (.bool true)] (rowsF (fillB i bs) (tfs (i+1)) (tfs (i+1))):=by
 refine fsp_of_awp (Zkk 180) rfl ?_;have hl:=tfs_len i;have hd:(tfs i)[i]?=some false:=by rw[tfs_get i i hi];simp
 have hi5:i≤5:=by omega
 have hi6':(i:Int) <6:=by omega
 have hset:=put_map (tfs i) i true (by omega);rw[tfs_set i hi]at hset;have ha:=λbs p hp=>p211a bs (tfs (i+1)) i p hp (by omega);have hpar:par6[i]?=some (parI i):=by
  have:∀i <6,par6[i]?=some (parI i):=by decide
  exact this i hi
 have hps:∀p∈parI i,0≤p∧p.toNat <i:=by
  have:∀i <6,∀p∈parI i,0≤p∧p.toNat <i:=by decide
  exact this i hi
 have hpn:(parI i).length≤2:=by
  have:∀i <6,(parI i).length≤2:=by decide
  exact this i hi
 have hres:fillB i bs=(parI i).foldl (λb p=>upP i b p.toNat) (bs.set (i*64+i) true):=rfl;generalize fillB i bs=FB at*;generalize parI i=ps at*;generalize tfs (i+1)=dn' at*;generalize tfs i=dn at*;have r0:putL (parD::bs.map bv) (1+i*64+i) [bv true]=parD::(bs.set (i*64+i) true).map bv:=by
  rw[show 1+i*64+i=(i*64+i)+1 by omega,putL];have:=put_map bs (i*64+i) true (by omega);rw[putL]at this;simpa using this
 have hi64:i≤63:=by omega
 have hi64':(i:Int) <64:=by omega
 have hle:1+i*64+i+1≤bs.length+1:=by omega
 simp only[Zga 180,awp_seq,awp_reg,awp_cond,Zge 180 0,Zge 180 1,entryD,rowsF];simp[hi5,hi6',hd,hl,awp_skip,Zge 180 3];simp[hset,Zge 180 4,txR,hi64',r0,hle];have hpl:par6.length=6:=rfl;simp[Zge 180 5,parD,hpar,nums];have q:=l211o i hi ps dn dn' (bs.set (i*64+i) true) (by rw[List.length_set,hbs]) hps hpn ha;rw[←hres]at q;simp[rowsF,txR,parD,nums]at q;simp only[awp_block];refine awp_mono _ ?_ q;rintro e ⟨se,sh⟩ ⟨rfl,f0,f1,hh⟩;simp only at f0 f1 hh;subst hh;simp[Zge 180 16,f0,f1,hi6',hi5,hl,hset,Zge 180 17,awp_ret,Zgr 180]
def c123A:AC:=match la 132 with| .seq _ (.seq a _)=>a|_=> .skip
def c123T:AC:=match la 132 with| .seq _ (.seq _ b)=>b|_=> .skip
theorem c123_eq:(gA 132)= .seq (.reg (oG 132 0) [1]) (.seq c123A c123T):=(Zga 132 :)
def tr123:AT:=match c123A with| .regA _ _ _ t=>t|_=> .done
def cl123:List (List Nat):=match c123A with| .regA _ _ c _=>c|_=>[]
theorem c123A_eq:c123A= .regA (oG 132 1) [1,3,4] cl123 tr123:=rfl
def os123 (rest:List D):Option (List St):=evT (ev Tb Pr0 4) [] (oG 132 1) tr123 ⟨[(1,.ref 1 0)],[.cells (parD::rest),.cells [.ref 0 0]]⟩
theorem os_eq (rest:List D):os123 rest=(os123 []).map (List.map λo=>⟨o.e,o.h.set 0 (.cells (parD::rest))⟩):=by kernel_rfl
def F6:Row:= .cells ((tfs 0).map bv)
def exp123:St:=⟨[(1,.ref 1 0),(3,.ref 4 0),(4,.ref 5 0)],[.cells [parD],.cells [.ref 0 0],F6,F6,.cells [.sref 2 6],.cells [.sref 3 6]]⟩
def pi123 (o:St):List (Nat×Nat):=
 match find o.e 3,find o.e 4 with
 | .ref a _,.ref b _=>match o.h[a]?,o.h[b]? with
  |some (.cells [.sref u _]),some (.cells [.sref v _])=>[(a,4),(b,5),(u,2),(v,3)]
  |_,_=>[]
 |_,_=>[]
def chk123 (o:St):Bool:=
 decide (o.h.length=6)&&permOK 2 6 (pi123 o)&&noObj o.h&&decide (rnm (flip (pi123 o)) 0=0)&&((List.range 6).all λi=>decide (i=0)|| !decide (rnm (flip (pi123 o)) i=0))&&
  endEq [1,3,4] (renSt (pi123 o) o) exp123
theorem os_chk:(match os123 []with|some os=>os.all chk123|none=>false)=true:=by kernel_rfl
theorem ren_bv (π:List (Nat×Nat)) (bs:List Bool):Row.ren π (.cells (parD::bs.map bv))= .cells (parD::bs.map bv):=by
 simp[Row.ren,rens_map,parD,D.ren,Function.comp_def]
theorem renRows_set (π:List (Nat×Nat)) (h:List Row) (X:Row) (hX:X.ren π=X) (hl:h.length=6) (h0:rnm (flip π) 0=0) (hi:∀i <6,i≠0→rnm (flip π) i≠0):renRows π (h.set 0 X)=(renRows π h).set 0 X:=by
 refine List.ext_getElem? λi=>?_;simp only[renRows,List.length_set,hl,List.getElem?_map];rcases Nat.lt_or_ge i 6 with hi6|hi6
 ·rw[List.getElem?_range hi6];by_cases hz:i=0
  ·subst hz;rw[List.getElem?_set_self (by simp)];simp only[Option.map_some,h0];rw[List.getElem?_set_self (by omega)];simp[hX]
  ·rw[List.getElem?_set_ne (Ne.symm hz),List.getElem?_map,List.getElem?_range hi6];simp only[Option.map_some];rw[List.getElem?_set_ne (Ne.symm (hi i hi6 hz))]
 ·rw[List.getElem?_eq_none (by simpa using hi6),List.getElem?_eq_none (by simpa using hi6)];rfl
theorem a123 (bs:List Bool) (Q:AExit→St→Prop)
  (hQ:Q .normal ⟨[(1,.ref 1 0),(3,.ref 4 0),(4,.ref 5 0)],[txR bs,.cells [.ref 0 0],F6,F6,.cells [.sref 2 6],.cells [.sref 3 6]]⟩):
  awp Tryz.prog GLx c123A Q ⟨[(1,.ref 1 0)],[txR bs,.cells [.ref 0 0]]⟩:=by
 rw[c123A_eq,awp_regA];obtain⟨os,h0⟩:∃os,os123 []=some os:=by
  have h:=os_chk;cases ho:os123 []with
  |none=>rw[ho]at h;cases h
  |some os=>exact⟨os,rfl⟩
 have hchk:=os_chk;rw[h0]at hchk;have he:=os_eq (bs.map bv);rw[h0,Option.map_some]at he;obtain⟨-,hall⟩:=evT_sound (P:=Tryz.prog) (GL:=GLx) (ev_snd Tb_ok (λf args h x hx=>by cases hx) 4) tr123 he ⟨λr hr=>by simp[Lp.has]at hr,by simp⟩;refine hall _ λo ho=>?_;obtain⟨o0,ho0,rfl⟩:=List.mem_map.1 ho;have hc:=(List.all_eq_true.1 hchk) o0 ho0;simp only[chk123,Bool.and_eq_true,decide_eq_true_eq]at hc;obtain⟨⟨⟨⟨⟨c1,c2⟩,c3⟩,c4⟩,c5⟩,c6⟩:=hc;obtain⟨e1,e2⟩:=endEq_eq c6;have hi:∀i <6,i≠0→rnm (flip (pi123 o0)) i≠0:=by
  intro i hi hz;have:=(List.all_eq_true.1 c5) i (List.mem_range.2 hi);simpa[hz]using this
 have hr:=renRows_set (pi123 o0) o0.h (.cells (parD::bs.map bv)) (ren_bv _ _) c1 c4 hi;simp only[renSt]at e1 e2;rw[e2]at hr;refine ren_leaf (K:=λs2=>Q .normal ⟨normE s2.e [1,3,4],s2.h⟩) (pi123 o0) ?_ ?_ ?_
 ·simpa[c1,Lp.ins]using c2
 ·simp only[noObj,List.all_eq_true,Lp.ins]at c3 ⊢;intro r hr;rcases List.mem_or_eq_of_mem_set hr with hr|rfl
  ·exact c3 r hr
  ·rfl
 ·simp only[Lp.ins];rw[hr,e1];exact hQ
def fillN:Nat→List Bool→List Bool
 |0,bs=>bs
 |i+1,bs=>fillB i (fillN i bs)
theorem fillN_len (bs:List Bool):∀i,(fillN i bs).length=bs.length
 |0=>rfl
 |i+1=>by rw[fillN,fillB_len,fillN_len bs i]
theorem c123T_eq:c123T=(.seq (.reg (oG 132 2) [1,3,4,5]) (.seq (.reg (oG 132 3) [1,5]) (.seq (.seq (.reg (oG 132 4) [5,24,25]) (.block 0 (.loop (lG 132 0)))) (.seq (.reg (oG 132 10) [2]) .ret)))):=rfl
theorem l123 (bs:List Bool) (hbs:bs.length=4096):
  awp Tryz.prog GLx (.loop (lG 132 0)) (λe s=>e= .exit 0∧s.h=rowsF (fillN 6 bs) (tfs 6) (tfs 6))
   ⟨[(5,.ref 6 0),(24,.v (.int .i64 6)),(25,.v (.int .i64 0))],rowsF bs (tfs 0) (tfs 0)⟩:=by
 refine awp_loop_nat0 6 (λi=>⟨[(5,.ref 6 0),(24,.v (.int .i64 6)),(25,.v (.int .i64 i))],rowsF (fillN i bs) (tfs i) (tfs i)⟩) (by simp[fillN]) ?_;intro i hi;simp only[Zgl 132 0,awp_seq,awp_reg,awp_block,awp_cond,Zge 132 5];simp;by_cases hlt:i <6
 ·have hw:IntKind.i64.wrap ((i:Int)+1)=i+1:=wrap_i64 (by omega) (by omega);have p1:=p211 (fillN i bs) i hlt (by rw[fillN_len,hbs]);have hn:fillN (i+1) bs=fillB i (fillN i bs):=rfl;rw[hn];generalize fillB i (fillN i bs)=B2 at*;generalize fillN i bs=B at*;generalize tfs (i+1)=t2 at*;generalize tfs i=t1 at*;rw[if_pos (by omega),awp_skip];simp only[Zge 132 6];simp[Zge 132 7,rowsF];simp only[rowsF]at p1;refine⟨_,_,p1,?_⟩;simp[awp_skip,Zge 132 9,hw];omega
 ·have:i=6:=by omega
  subst this;rw[if_neg (by omega),awp_exit];simp
theorem p123 (bs:List Bool) (hbs:bs.length=4096):FSp Tryz.prog GLx 132 [.ref 0 0] [txR bs] [.v (.bool true)] (rowsF (fillN 6 bs) (tfs 6) (tfs 6)):=by
 refine fsp_of_awp (Zkk 132) rfl ?_;have q:=l123 bs hbs;generalize rowsF (fillN 6 bs) (tfs 6) (tfs 6)=HH at*;rw[c123_eq];simp only[awp_seq,awp_reg,Zge 132 0,entryD];simp;refine a123 bs _ ?_;rw[c123T_eq];simp only[awp_seq,awp_reg,awp_block,Zge 132 2];simp[Zge 132 3,putL,txR,parD];simp[Zge 132 4,par6];simp only[rowsF,txR,parD,F6]at q ⊢;refine awp_mono _ ?_ q;rintro e ⟨se,sh⟩ ⟨rfl,hh⟩;simp only at hh;subst hh;simp[Zge 132 10,awp_ret,Zgr 132]
end Go.Va
