/- Laws, part 38. No condition. -/
import Derived.Test.YtbonllhdlmegeaaGreatDoorL35
import Derived.Test.YtbonllhdlmegeaaGreatDoorL36
set_option linter.all false
set_option maxRecDepth 100000
set_option maxHeartbeats 4000000
noncomputable section
namespace Go.Va
open Go.Proofs
def t113h:AT:=match la 11 with| .seq _ (.seq _ (.seq _ (.seq (.regA _ _ _ t) _)))=>t|_=> .done
def cl113h:List (List Nat):=match la 11 with| .seq _ (.seq _ (.seq _ (.seq (.regA _ _ c _) _)))=>c|_=>[]
def c113T:AC:=match la 11 with| .seq _ (.seq _ (.seq _ (.seq _ t)))=>t|_=> .skip
theorem c113_eq:(gA 11)= .seq (.reg (oG 11 0) [1,2]) (.seq (.reg (oG 11 1) [1,2,4]) (.seq (.reg (oG 11 2) [1,2,4,5]) (.seq (.regA (oG 11 3) [1,2,4,5,6] cl113h t113h) c113T))):=(Zga 11 :)
def c113r3:List GI:=lo 11 3
theorem e113r3:oG 11 3=c113r3:=(Zge 11 3 :)
theorem t113h_chk:t113h.chk c113r3 cl113h (List.range 9)=true:=by kernel_rfl
def ns113h:List (Option Nat):=[some 14,some 15,some 16,some 17,some 18,some 19,some 20,some 6,none]
def cs113h:List (Option Nat):=[none,none,none,none,none,none,none,none,none]
def bn113h:List Nat:=[1,2,4,5]
theorem ok113h:okN ns113h bn113h=true:=by kernel_rfl
def hd113 (r:Rgt):D:= .agg [.v (.int .i64 r.file),.v (.int .i64 r.state),.v (.int .i64 r.force),.nil 72 5,.nil 80 4,.nil 3 1,.nil 82 3,.nil 83 4]
def vs113h (r:Rgt) (j:Nat):D:=
 match j with
 |0|2|4=> .ref 2 0
 |1=> .v (.int .i64 r.file)
 |3=> .v (.int .i64 r.state)
 |5=> .v (.int .i64 r.force)
 |6=>hd113 r
 |7=> .ref 4 0
 |_=> .any
def cnt113h (d:Nat→Bool):Nat:=if d 5 then 3 else (if d 3 then 2 else (if d 1 then 1 else 0))
def row113h (r:Rgt) (d:Nat→Bool):List Row:=
 if d 7 then (if d 8 then [.cells [.v (.int .i64 r.file),.v (.int .i64 r.state),.v (.int .i64 r.force),.own 72 5 [],.own 80 4 [],.own 3 1 [],.own 82 3 [],.own 83 4 []]]
  else [.cells [.v (.int .i64 0),.v (.int .i64 0),.v (.int .i64 0),.own 72 5 [],.own 80 4 [],.own 3 1 [],.own 82 3 [],.own 83 4 []]]) else []
def bv113h (j:Nat):D:=
 match j with
 |1=> .ref 0 0
 |2=> .ref 1 0
 |4=> .ref 3 0
 |5=> .func 42 [.ref 3 0,.ref 0 0]
 |_=> .any
theorem c113T_eq:c113T=(.seq (.reg (oG 11 4) [1,2,4,5,6,7,8]) (.seq (.seq (.reg (oG 11 5) [1,2,4,5,6,7,28]) (.cond (.t 28 false) (.seq (.reg (oG 11 6) [2,3]) .ret) .skip)) (.seq (.reg (oG 11 7) [1,2,4,5,6]) (.seq (.seq (.reg (oG 11 8) [1,2,4,5,6,33,34]) (.block 0 (.loop (lG 11 0)))) (.seq (.reg (oG 11 12) [1,2,4,5,6]) (.seq (.seq (.reg (oG 11 13) [1,2,4,5,6,56,57]) (.block 2 (.loop (lG 11 1)))) (.seq (.seq (.reg (oG 11 17) [1,2,4,6,74,75]) (.block 4 (.loop (lG 11 2)))) (.seq (.seq (.reg (oG 11 21) [1,2,6,94]) (.cond (.t 94 false) (.seq (.reg (oG 11 22) [2,3]) .ret) .skip)) (.seq (.seq (.reg (oG 11 23) [1,2,6,9,10]) (.seq (.reg (oG 11 24) [2,6,109]) (.cond (.t 109 false) (.seq (.reg (oG 11 25) [2,3]) .ret) .skip))) (.seq (.reg (oG 11 26) [2,3]) .ret)))))))))):=rfl
theorem encDat_pos (x:Dat):1≤(encDat x).length:=by
 have:=uvarF_pos 9 (zigI x.cl);simp only[encDat,List.length_append,encI,uvar];omega
theorem encOwn_pos (x:Own):1≤(encOwn x).length:=by
 have:=uvarF_pos 9 (zigI x.party);simp only[encOwn,List.length_append,encI,uvar];omega
theorem encLic_pos (x:Lic):1≤(encLic x).length:=by
 have:=uvarF_pos 9 (zigI x.fr);simp only[encLic,List.length_append,encI,uvar];omega
theorem flat_pos {α:Type} {f:α→List Int} (hf:∀x,1≤(f x).length):∀l:List α,l.length≤(l.flatMap f).length
 |[]=>by simp
 |x::l=>by
  have:=hf x;have:=flat_pos hf l;simp only[List.flatMap_cons,List.length_append,List.length_cons];omega
def dCl:Nat→RS→Option (List Clm×RS)
 |0,s=>some ([],s)
 |n+1,s=>(dFm (rRaw (rInts s).2).1).bind λf=>(dCl n (rRaw (rInts s).2).2).map λy=>(⟨(rInts s).1,f⟩::y.1,y.2)
def dClms (b:List Int):Option (List Clm):=
 let n:=rInt (b,0)
 if n.1 <0∨32 <n.1 then none else (dCl n.1.toNat n.2).bind λy=>if rEnd y.2≠0 then none else if clmsE y.1=0∧encClms y.1=b then some y.1 else none
def dR (b:List Int):Option Rgt:=
 let c:=rRaw (rdS (b,0) 3)
 (dClms c.1).bind λcl=>
  let ds:=recs 4 rdDat (manyI b.length c.2).toNat (rInt c.2).2
  let bad:=rInts ds.2
  let os:=recs 3 rdOwn (manyI b.length bad.2).toNat (rInt bad.2).2
  let ls:=recs 4 rdLic (manyI b.length os.2).toNat (rInt os.2).2
  if rEnd ls.2≠0 then none else
   let r:Rgt:=⟨rdV (b,0) 0,rdV (b,0) 1,rdV (b,0) 2,cl,ds.1,bad.1,os.1,ls.1⟩
   if formedR r=true∧encR r=b then some r else none
theorem dCl_of:∀(l:List Clm) (rest:List Int),(∀c∈l,c.ok∧formE c.body=0∧(encF c.body).length≤2^60)→dCl l.length (l.flatMap encClm++rest,0)=some (l,(rest,0))
 |[],rest,_=>rfl
 |c::l,rest,h=>by
  obtain⟨h1,h2,h3⟩:=h c (by simp);have h4:=h1.2.1;have e:(c::l).flatMap encClm++rest=encInts c.refs++(encRaw (encF c.body)++(l.flatMap encClm++rest)):=by simp[encClm]
  rw[e,List.length_cons,dCl,rInts_of h1.1 (by omega),rRaw_of h3,dFm_of h1.2.2 h2,dCl_of l rest λy hy=>h y (by simp[hy])];rfl
theorem dClms_of {l:List Clm} (hl:∀c∈l,c.ok) (hz:clmsE l=0) (hb:(encClms l).length≤2^60):dClms (encClms l)=some l:=by
 have hall:=clmsE_all hz;have h32:l.length≤32:=by
  unfold clmsE at hz;split at hz
  ·cases hz
  ·omega
 have h:=dCl_of l [] λc hc=>⟨hl c hc,hall c hc,Nat.le_trans (encF_len_mem hc) hb⟩;rw[List.append_nil]at h;unfold dClms;have e:rInt (encClms l,0)=((l.length:Int),(l.flatMap encClm,0)):=rInt_of (by unfold i64;omega) _;simp only[e];rw[if_neg (by omega),Int.toNat_natCast,h];simp only[Option.bind_some];rw[if_neg (by simp[rEnd]),if_pos ⟨hz,trivial⟩]
theorem dCl_ok:∀(n:Nat) (s:RS) (y:List Clm×RS),s.B→s.1.length≤2^40→dCl n s=some y→(∀c∈y.1,c.ok∧(encClm c).length≤11*s.1.length+20)∧y.2.1 <:+ s.1∧y.1.length=n
 |0,s,y,_,_,h=>by
  simp only[dCl,Option.some.injEq]at h;subst h;exact⟨λc hc=>(List.not_mem_nil hc).elim,List.suffix_refl _,rfl⟩
 |n+1,s,y,hB,hl,h=>by
  rw[dCl]at h;obtain⟨i1,i2⟩:=rInts_ok s hB;have bs:=hB.suf (rInts_suf s);have hr:=rRaw_len (rInts s).2;have hs:=(rInts_suf s).length_le;have hs2:=(rRaw_suf (rInts s).2).length_le;obtain⟨f,hf,h⟩:=Option.bind_eq_some_iff.1 h;obtain⟨y',hy,rfl⟩:=Option.map_eq_some_iff.1 h;obtain⟨f1,f2,f3⟩:=dFm_ok (rRaw_B bs) hf;obtain⟨k1,k2,k3⟩:=dCl_ok n _ y' (bs.suf (rRaw_suf _)) (by omega) hy;refine⟨λc hc=>?_,k2.trans ((rRaw_suf _).trans (rInts_suf s)),by simp[k3]⟩;rcases List.mem_cons.1 hc with rfl|hc
  ·refine⟨⟨i2,by simp only;omega,f1⟩,?_⟩;have g1:=flat_encI_len (rInts s).1;have g2:=uvar_len ((rInts s).1.length:Int);have g3:=uvar_len ((encF f).length:Int);simp only[encClm,encInts,encRaw,List.length_append];rw[f3]at g3 ⊢;omega
  ·obtain⟨q1,q2⟩:=k1 c hc;exact⟨q1,by omega⟩
theorem flat_leq {α:Type} {f:α→List Int} {m:Nat}:∀l:List α,(∀x∈l,(f x).length≤m)→(l.flatMap f).length≤m*l.length
 |[],_=>by simp
 |x::l,h=>by
  have h1:=h x (by simp);have h2:=flat_leq l λy hy=>h y (by simp[hy]);simp only[List.flatMap_cons,List.length_append,List.length_cons,Nat.mul_add];omega
theorem dClms_ok {b:List Int} {l:List Clm} (hB:∀x∈b,0≤x∧x <256) (hl:b.length≤2^30) (h:dClms b=some l):(∀c∈l,c.ok)∧clmsE l=0∧encClms l=b∧l.length≤32:=by
 unfold dClms at h;have hs:=(rInt_suf (b,0)).length_le;simp only at h;split at h
 ·cases h
 ·rename_i hn;obtain⟨y,hy,h⟩:=Option.bind_eq_some_iff.1 h;obtain⟨k1,k2,k3⟩:=dCl_ok _ _ y (RS.B.suf (s:=(b,0)) hB (rInt_suf (b,0))) (by simp only at hs;omega) hy;split at h
  ·cases h
  ·split at h
   ·rename_i hc;simp only[Option.some.injEq]at h;subst h;exact⟨λc hc=>(k1 c hc).1,hc.1,hc.2,by omega⟩
   ·cases h
theorem formed_clmsE {r:Rgt} (h:formedR r=true):clmsE r.claims=0:=by
 unfold formedR at h;simp only[Bool.and_eq_true,beq_iff_eq]at h;exact h.1.1.1.1.1.1.2
theorem isB.encR (r:Rgt) (h:r.ok):isB (Go.Va.encR r):=by
 have h1:=h.lc;have h2:=h.ld;have h3:=h.lb;have h4:=h.lo;have h5:=h.ll;have h6:=h.enc;unfold Go.Va.encR;refine isB.app (isB.app (isB.app (isB.app (isB.app (isB.app (isB.app (isB.app (isB.app (isB.app ?_ ?_) ?_) ?_) ?_) ?_) ?_) ?_) ?_) ?_) ?_
 ·exact isB.encI h.file
 ·exact isB.encI h.state
 ·exact isB.encI h.force
 ·exact isB.encRaw (isB.encClms h.claims (by omega) (by omega)) (by omega)
 ·exact isB.encI (by unfold i64;omega)
 ·exact isB.flat λx hx=>((isB.encI (h.dates x hx).1).app (isB.encI (h.dates x hx).2.1)).app (isB.encI (h.dates x hx).2.2.1) |>.app (isB.encI (h.dates x hx).2.2.2)
 ·exact isB.encInts h.bad (by omega)
 ·exact isB.encI (by unfold i64;omega)
 ·exact isB.flat λx hx=>((isB.encI (h.owners x hx).1).app (isB.encI (h.owners x hx).2.1)).app (isB.encI (h.owners x hx).2.2)
 ·exact isB.encI (by unfold i64;omega)
 ·exact isB.flat λx hx=>((isB.encI (h.lics x hx).1).app (isB.encI (h.lics x hx).2.1)).app (isB.encI (h.lics x hx).2.2.1) |>.app (isB.encI (h.lics x hx).2.2.2)
theorem dR_of {r:Rgt} (hr:r.ok) (hf:formedR r=true) (hb:(encR r).length≤2^50):dR (encR r)=some r:=by
 have hb':=hb;simp only[encR,encRaw,encInts,List.length_append]at hb';have hdl:=flat_pos encDat_pos r.dates;have hol:=flat_pos encOwn_pos r.owners;have hll:=flat_pos encLic_pos r.lics;have h1:=hr.ld;have h2:=hr.lo;have h3:=hr.ll;have h4:=hr.lb;have h5:=hr.enc;obtain⟨L,hL⟩:∃L,(encR r).length=L:=⟨_,rfl⟩;have hLe:=hL;simp only[encR,encRaw,encInts,List.length_append]at hLe;have hE:encR r=encI r.file++(encI r.state++(encI r.force++(encRaw (encClms r.claims)++(encI r.dates.length++(r.dates.flatMap encDat++(encInts r.bad++(encI r.owners.length++(r.owners.flatMap encOwn++(encI r.lics.length++(r.lics.flatMap encLic++[])))))))))):=by simp[encR]
 have z:∀n:Nat,n≤2^30→i64 (n:Int):=λn hn=>by unfold i64;omega
 obtain⟨e1,e2,e3,e5⟩:=rd3_of hr.file hr.state hr.force _ (congrArg (λl=>((l,0):RS)) hE);unfold dR;rw[hL];simp only[e1,e2,e3,e5,rRaw_of (xs:=encClms r.claims) (by omega),dClms_of hr.claims (formed_clmsE hf) (by omega),rInt_of (z _ h1),manyI_of (L:=L) (z _ h1) _ (by omega) (by omega),Int.toNat_natCast,
  recs_of rdDat_of r.dates _ hr.dates,Option.bind_some,rInts_of hr.bad (by omega),rInt_of (z _ h2),manyI_of (L:=L) (z _ h2) _ (by omega) (by omega),recs_of rdOwn_of r.owners _ hr.owners,
  rInt_of (z _ h3),manyI_of (L:=L) (z _ h3) _ (by omega) (by omega),recs_of rdLic_of r.lics _ hr.lics]
 rw[if_neg (by simp[rEnd]),if_pos ⟨hf,trivial⟩]
theorem dR_fit {b:List Int} (hB:∀x∈b,0≤x∧x <256) (hl:b.length≤2^30) {cl:List Clm} (hcl:dClms (rRaw (rdS (b,0) 3)).1=some cl) {c:List Int×RS} (hc:rRaw (rdS (b,0) 3)=c) {N1:Nat} (n1:manyI b.length c.2=N1) {ds:List Dat×RS} (hds:recs 4 rdDat N1 (rInt c.2).2=ds)
  {bad:List Int×RS} (hbad:rInts ds.2=bad) {N2:Nat} (n2:manyI b.length bad.2=N2) {os:List Own×RS} (hos:recs 3 rdOwn N2 (rInt bad.2).2=os) {N3:Nat} (n3:manyI b.length os.2=N3) {ls:List Lic×RS} (hls:recs 4 rdLic N3 (rInt os.2).2=ls):
  (Rgt.mk (rdV (b,0) 0) (rdV (b,0) 1) (rdV (b,0) 2) cl ds.1 bad.1 os.1 ls.1).ok:=by
 have b0:RS.B (b,0):=hB;have b3:=rdS_B b0 3;have l3:=(rdS_suf (b,0) 3).length_le;have c1:=rRaw_B b3;have c2:=rRaw_len (rdS (b,0) 3);have b4:=b3.suf (rRaw_suf (rdS (b,0) 3));have l4:=(rRaw_suf (rdS (b,0) 3)).length_le;rw[hc]at hcl c1 c2 b4 l4;simp only at l3;obtain⟨k1,k2,k3,k4⟩:=dClms_ok c1 (by omega) hcl;have m1:=manyI_b b.length c.2;have b5:=b4.suf (rInt_suf c.2);have l5:=(rInt_suf c.2).length_le;have d1:=recs_len 4 rdDat N1 (rInt c.2).2;have d2:=recs_all (k:=4) (λs hs=>rdDat_ok hs) N1 (rInt c.2).2 b5;have b6:=b5.suf (recs_suf 4 rdDat N1 (rInt c.2).2);have l6:=(recs_suf 4 rdDat N1 (rInt c.2).2).length_le;rw[hds]at d1 d2 b6 l6;have g1:=rInts_ok ds.2 b6;have b7:=b6.suf (rInts_suf ds.2);rw[hbad]at g1 b7;have m2:=manyI_b b.length bad.2;have b8:=b7.suf (rInt_suf bad.2);have o1:=recs_len 3 rdOwn N2 (rInt bad.2).2;have o2:=recs_all (k:=3) (λs hs=>rdOwn_ok hs) N2 (rInt bad.2).2 b8;have b9:=b8.suf (recs_suf 3 rdOwn N2 (rInt bad.2).2);rw[hos]at o1 o2 b9;have m3:=manyI_b b.length os.2;have b10:=b9.suf (rInt_suf os.2);have h1:=recs_len 4 rdLic N3 (rInt os.2).2;have h2:=recs_all (k:=4) (λs hs=>rdLic_ok hs) N3 (rInt os.2).2 b10;rw[hls]at h1 h2;exact⟨rdV_i64 b0 0,rdV_i64 b0 1,rdV_i64 b0 2,k1,d2,g1.2,o2,h2,by simp only;omega,by simp only;omega,by simp only;omega,by simp only;omega,by simp only;omega,by simp only;rw[k3];omega⟩
theorem manyI_nat (L:Nat) (s:RS):manyI L s=((manyI L s).toNat:Int):=by have:=manyI_b L s;omega
theorem dR_ok {b:List Int} {r:Rgt} (hB:∀x∈b,0≤x∧x <256) (hl:b.length≤2^30) (h:dR b=some r):r.ok∧formedR r=true∧encR r=b:=by
 unfold dR at h;obtain⟨cl,hcl,h⟩:=Option.bind_eq_some_iff.1 h;have hf:=dR_fit hB hl hcl rfl (manyI_nat _ _) rfl rfl (manyI_nat _ _) rfl (manyI_nat _ _) rfl;simp only at h;split at h
 ·cases h
 ·split at h
  ·rename_i hd;simp only[Option.some.injEq]at h;subst h;exact⟨hf,hd.1,hd.2⟩
  ·cases h
theorem encF_small {f:F} (h:f.rd):(encF f).length≤3000*f.size:=by
 unfold encF;refine flat_leq f.nodes λg hg=>?_;have h1:=(h g hg).2;have e1:=encI_len g.op;have e2:=encI_len g.n;have e3:=encI_len (g.ins.length:Int);have e4:=encI_len (g.kids.length:Int);have e5:=flat_leq (f:=encIvl) (m:=90) g.ins λx _=>by
  have h1:=flat_encI_len [x.ln,x.ld,x.hn,x.hd,b01 x.lo,b01 x.ho,b01 x.li,b01 x.hi];have h2:=uvar_len (([x.ln,x.ld,x.hn,x.hd,b01 x.lo,b01 x.ho,b01 x.li,b01 x.hi].length:Nat):Int);simp only[encIvl,encInts,List.length_append];simp only[List.length_cons,List.length_nil]at h1;omega
 simp only[encNode,List.length_append];omega
def noF:F:= .mk 0 0 [] []
def optF:Option F→List V
 |some f=>[f.V,.int .i64 0]
 |none=>[noF.V,.int .i64 2]
theorem p282e (b:List Int) (hB:∀x∈b,0≤x∧x <256) (hl:b.length≤2^43):PSp Tryz.prog GLx 88 [nums .u8 b] (optF (dFm b)):=by
 refine psp_of_awp (Zkk 88) rfl ?_;obtain⟨k1,-,k3⟩:=dF_ok 97 (b,0) 96 hB;have hR:=readsE 97 (b,0) 96 [.cells [.v (.int .i64 0),.v (.int .i64 0),.own 190 8 [],.own 70 4 []],rdr b,.cells [.v (.int .i64 96)]] 1 2 (by simp) (by simp) (by decide) (by
  intro row hrow;simp only[List.mem_cons,List.not_mem_nil,or_false]at hrow;rcases hrow with rfl|rfl|rfl<;>rfl) hB (by simp only;omega) (by decide) (by decide) (by decide) rfl rfl
 obtain⟨G,hG⟩:∃G,optF (dFm b)=G:=⟨_,rfl⟩;rw[hG];unfold dFm at hG;generalize dF 97 (b,0) 96=x at*;obtain⟨f,s,l⟩:=x;simp only at k1 k3 hR hG;have q116:=λ(X1 X3 X4:Row)=>p116e s [X1,s.row,X3,X4] 1 rfl;have q1:0≤l→_:=λh=>(p232 f ⟨λg hg=>(k1 g hg).1,by have:=k3 h;omega⟩ (by have:=encF_small k1;have:=k3 h;omega)).fsp;have q2:0≤l→_:=λh=>(p283g (encF f) b (by have:=encF_small k1;have:=k3 h;omega)).fsp;obtain⟨c0,c1,c2,c3,hV⟩:∃a b c d,f.V= .agg [a,b,c,d]:=by
  cases f;exact⟨_,_,_,_,F.V_eq _ _ _ _⟩
 have hz:noF.V= .agg [.int .i64 0,.int .i64 0,.list [],.list []]:=by simp[noF,F.V_eq]
 simp only[optF,hV,hz]at hR q1 hG;simp at hR;generalize encF f=E at*;generalize formE f=e at*;simp only[Zga 88,awp_seq,awp_reg,awp_cond,Zge 88 0,Zge 88 1,entry];simp;refine⟨_,_,(p44 b (by omega) _),?_⟩;simp only[Zge 88 2];simp[putL];simp only[Zge 88 3];simp;refine⟨_,_,hR,?_⟩;simp[putL,D.toRow];simp only[Zge 88 4];by_cases h0:l <0
 ·simp[h0]at hG;subst hG;simp[h0];simp only[Zge 88 5];simp[putL,awp_ret,Zgr 88,resVs,D.vs?,D.v?]
 ·have q1:=q1 (by omega);have q2:=q2 (by omega);simp[h0];refine⟨_,_,(q116 _ _ _),?_⟩;by_cases he:rEnd s=0
  ·simp[he,awp_skip];simp only[Zge 88 6];simp[D.vs?,D.v?];refine⟨_,_,q1 _,?_⟩;simp only[Zge 88 7];by_cases hf:e=0
   ·subst hf;simp[D.v?];refine⟨_,_,q2 _,?_⟩;by_cases hb:E=b
    ·simp[h0,he,hb,hV]at hG;subst hG;simp[hb];simp only[Zge 88 9];simp[putL,D.toRow,D.vs?,D.v?,awp_ret,Zgr 88,resVs]
    ·simp[h0,he,hb]at hG;subst hG;simp[hb];simp only[Zge 88 8];simp[putL,awp_ret,Zgr 88,resVs,D.vs?,D.v?]
   ·simp[h0,he,hf]at hG;subst hG;simp[hf];simp only[Zge 88 8];simp[putL,awp_ret,Zgr 88,resVs,D.vs?,D.v?]
  ·simp[he]at hG;subst hG;simp[he];simp only[Zge 88 5];simp[putL,awp_ret,Zgr 88,resVs,D.vs?,D.v?]
def optC:Option (List Clm)→List V
 |some l=>[.list (l.map Clm.V),.int .i64 0]
 |none=>[.list [],.int .i64 2]
theorem d205e (N:Nat) (hN:N≤32) (b:V):∀(k:Nat) (s:RS) (l:List Clm) (J:List Row),l.length+k=N→s.B→s.1.length≤2^43→
  awp Tryz.prog GLx (.loop (lG 43 0)) (λe st=>(∀y,dCl k s=some y→e= .exit 0∧find st.e 0= .v b∧find st.e 4= .ref 0 0∧find st.e 5= .v (.int .i64 N)∧find st.e 6= .own 72 5 ((l++y.1).map Clm.V)∧∃J,st.h=y.2.row::J)∧
    (dCl k s=none→e= .ret∧find st.e 2= .own 72 5 []∧find st.e 3= .v (.int .i64 2)))
   ⟨[(0,.v b),(4,.ref 0 0),(5,.v (.int .i64 N)),(6,.own 72 5 (l.map Clm.V)),(7,.v (.int .i64 l.length))],s.row::J⟩:=by
 intro k;induction k with
 |zero=>
  intro s l J hl hB hsl;refine awp_loop_end ?_;simp only[Zgl 43 0,awp_seq,awp_reg,awp_block,awp_cond,Zge 43 5];have h1:¬((l.length:Int) <N):=by omega
  simp[h1,awp_exit,dCl]
 |succ k ih=>
  intro s l J hl hB hsl;have h1:l.length <N:=by omega
  have hN2:(N:Int)≤32:=by omega
  have q1:=λJ=>p114e s hB (by omega) (s.row::J) 0 rfl;have b1:=hB.suf (rInts_suf s);have l1:=(rInts_suf s).length_le;have q2:=λJ=>p112e (rInts s).2 b1 (by omega) ((rInts s).2.row::J) 0 rfl;have b2:=b1.suf (rRaw_suf (rInts s).2);have l2:=(rRaw_suf (rInts s).2).length_le;have l3:=rRaw_len (rInts s).2;have q3:=(p282e (rRaw (rInts s).2).1 (rRaw_B b1) (by omega)).fsp;have ih:=λl' J' h=>ih (rRaw (rInts s).2).2 l' J' h b2 (by omega);have hw:IntKind.i64.wrap ((l.length:Int)+1)=l.length+1:=wrap_i64 (by omega) (by omega);have hroom:roomy (l.length+1) 88=true:=by simp[roomy];omega
  rw[dCl];simp only[List.set_cons_zero]at q1 q2;generalize (rInts s).1=refs at*;generalize (rInts s).2=s1 at*;generalize (rRaw s1).1=raw at*;generalize (rRaw s1).2=s2 at*;generalize dFm raw=F at*;cases F with
  |none=>
   refine awp_loop_end ?_;simp only[optF,noF,F.V_eq]at q3;simp at q3;simp only[Zgl 43 0,awp_seq,awp_reg,awp_block,awp_cond,Zge 43 5];simp[h1,hN2,awp_skip];simp only[Zge 43 7];simp;refine⟨_,_,(q1 _),?_⟩;simp[putL,D.toRow];simp only[Zge 43 8];simp;refine⟨_,_,(q2 _),?_⟩;simp;refine⟨_,_,q3 _,?_⟩;simp[putL,D.toRow];simp only[Zge 43 9];simp;simp only[Zge 43 10];simp[awp_ret]
  |some f=>
   obtain⟨op,n,ins,kids⟩:=f;have ih:=λJ'=>ih (l++[⟨refs,.mk op n ins kids⟩]) J' (by simp;omega);simp only[optF,F.V_eq]at q3;simp at q3;simp only[List.append_assoc,List.singleton_append,List.map_append,List.map_cons,List.map_nil,List.length_append,List.length_cons,List.length_nil,Nat.zero_add,Int.natCast_add,Clm.V,F.op,F.n,F.ins,F.kids]at ih;refine awp_loop_one (s1:=⟨[(0,.v b),(4,.ref 0 0),(5,.v (.int .i64 N)),(6,.own 72 5 (l.map Clm.V++[.agg [nums .i64 refs,.int .i64 op,.int .i64 n,.list (ins.map Ivl.V),.list (kids.map F.V)]])),(7,.v (.int .i64 (l.length+1)))],s2.row::(J++[.cells [.v (nums .i64 refs),.v (.int .i64 op),.v (.int .i64 n),.v (.list (ins.map Ivl.V)),.v (.list (kids.map F.V))],.cells [.v (.int .i64 op),.v (.int .i64 n),.v (.list (ins.map Ivl.V)),.v (.list (kids.map F.V))]])⟩) ?_ ?_
   ·simp only[Zgl 43 0,awp_seq,awp_reg,awp_block,awp_cond,Zge 43 5];simp[h1,hN2,awp_skip];simp only[Zge 43 7];simp;refine⟨_,_,(q1 _),?_⟩;simp[putL,D.toRow];simp only[Zge 43 8];simp;refine⟨_,_,(q2 _),?_⟩;simp;refine⟨_,_,q3 _,?_⟩;simp[putL,D.toRow];simp only[Zge 43 9];simp;simp only[Zge 43 11];simp[putL,D.toRow];simp only[Zge 43 12];simp[D.vs?,D.v?,hroom];simp only[Zge 43 6];simp[hw,nums]
   ·refine awp_mono _ ?_ (ih _);rintro e st ⟨g1,g2⟩;refine⟨λy hy=>?_,λhy=>?_⟩
    ·obtain⟨y',hy',rfl⟩:=Option.map_eq_some_iff.1 hy;simpa[Clm.V,F.op,F.n,F.ins,F.kids]using g1 y' hy'
    ·exact g2 (Option.map_eq_none_iff.1 hy)
theorem d205n (N:Int) (hN:N <0∨32 <N) (b:V) (s:RS):
  awp Tryz.prog GLx (.loop (lG 43 0)) (λe st=>e= .exit 0∧find st.e 0= .v b∧find st.e 4= .ref 0 0∧find st.e 5= .v (.int .i64 N)∧find st.e 6= .own 72 5 []∧st.h=[s.row])
   ⟨[(0,.v b),(4,.ref 0 0),(5,.v (.int .i64 N)),(6,.own 72 5 []),(7,.v (.int .i64 0))],[s.row]⟩:=by
 refine awp_loop_end ?_;simp only[Zgl 43 0,awp_seq,awp_reg,awp_block,awp_cond,Zge 43 5];by_cases h1:0 <N
 ·have h2:¬N≤32:=by omega
  simp[h1,h2,awp_exit]
 ·simp[h1,awp_exit]
theorem p205e (b:List Int) (hB:∀x∈b,0≤x∧x <256) (hl:b.length≤2^30):PSp Tryz.prog GLx 43 [nums .u8 b] (optC (dClms b)):=by
 refine psp_of_awp (Zkk 43) rfl ?_;have b0:RS.B (b,0):=hB;have q0:=p45e (b,0) b0 [RS.row (b,0)] 0 rfl;have b1:=b0.suf (rInt_suf (b,0));have l1:=(rInt_suf (b,0)).length_le;obtain⟨G,hG⟩:∃G,optC (dClms b)=G:=⟨_,rfl⟩;rw[hG];unfold dClms at hG;have hr:RS.row (b,0)=rdr b:=rfl;simp only[List.set_cons_zero,hr]at q0 l1 hG;obtain⟨bv,hbv⟩:∃bv,nums .u8 b=bv:=⟨_,rfl⟩;have q44:=p44 b (by omega) [];have q283:=λxs (h:xs.length≤2^45)=>(p283g xs b h).fsp;rw[hbv]at q44 q283 ⊢;have hd:=λ(N:Nat) (hN:N≤32) (hk:(rInt (b,0)).1=N)=>d205e N hN bv N (rInt (b,0)).2 [] [] (by simp) b1 (by omega);have hok:=λ(N:Nat) y=>dCl_ok N (rInt (b,0)).2 y b1 (by omega);generalize rInt (b,0)=n at*;simp only[Zga 43,awp_seq,awp_reg,awp_block,awp_cond,Zge 43 0,Zge 43 1,entry];simp;refine⟨_,_,q44,?_⟩;simp only[Zge 43 2];simp;refine⟨_,_,q0,?_⟩;simp only[Zge 43 3];simp;simp only[Zge 43 4];simp;by_cases hN:n.1 <0∨32 <n.1
 ·rw[if_pos hN]at hG;simp only[optC]at hG;subst hG;refine awp_mono _ ?_ (d205n n.1 hN bv n.2);rintro e ⟨se,sh⟩ ⟨rfl,f0,f4,f5,f6,hh⟩;simp only at f0 f4 f5 f6 hh;subst hh;have q:=p116e n.2 [n.2.row] 0 rfl;simp;simp only[Zge 43 13];simp[f4];refine⟨_,_,q,?_⟩;by_cases he:rEnd n.2=0
  ·have hne:¬(0:Int)=n.1:=by omega
   simp[he,hne,f5,f6];simp only[Zge 43 14];simp[awp_ret,Zgr 43,resVs]
  ·simp[he];simp only[Zge 43 14];simp[awp_ret,Zgr 43,resVs]
 ·rw[if_neg hN]at hG;obtain⟨N,hNN⟩:∃N:Nat,n.1=N:=⟨n.1.toNat,by omega⟩;have hd:=hd N (by omega) hNN;have hok:=hok N;rw[hNN]at hG ⊢;rw[Int.toNat_natCast]at hG;simp only[List.map_nil,List.length_nil,Int.natCast_zero,List.nil_append]at hd;refine awp_mono _ ?_ hd;rintro e ⟨se,sh⟩ ⟨g1,g2⟩;cases hy:dCl N n.2 with
  |none=>
   obtain⟨rfl,f2,f3⟩:=g2 hy;rw[hy]at hG;simp[optC]at hG;subst hG;simp only at f2 f3;simp[f2,f3,Zgr 43,resVs]
  |some y=>
   obtain⟨rfl,f0,f4,f5,f6,J,hh⟩:=g1 y hy;simp only at f0 f4 f5 f6 hh;subst hh;obtain⟨o1,o2,o3⟩:=hok y hy;rw[hy]at hG;simp only[Option.bind_some]at hG;obtain⟨l,s⟩:=y;simp only at o1 o2 o3 hG f6;have q:=p116e s (s.row::J) 0 rfl;have henc:(encClms l).length≤2^39:=by
    have h1:=flat_leq (m:=11*n.2.1.length+20) l λc hc=>(o1 c hc).2;have h2:=encI_len (l.length:Int);have h3:(11*n.2.1.length+20)*l.length≤(11*n.2.1.length+20)*32:=Nat.mul_le_mul_left _ (by omega);unfold encClms;rw[List.length_append];omega
   have q1:=(p130 l (λc hc=>(o1 c hc).1) (by omega) henc).fsp;have q2:=q283 (encClms l) (by omega);generalize encClms l=E at*;generalize clmsE l=e at*;simp;simp only[Zge 43 13];simp[f4];refine⟨_,_,q,?_⟩;by_cases he:rEnd s=0
   ·have hlen:(l.length:Int)=N:=by omega
    simp[he,hlen,f0,f5,f6,awp_skip];simp only[Zge 43 15];simp;refine⟨_,_,q1 _,?_⟩;simp;simp only[Zge 43 16];by_cases hf:e=0
    ·subst hf;simp;refine⟨_,_,q2 _,?_⟩;by_cases hb:E=b
     ·simp[he,hb,optC]at hG;subst hG;simp[hb];simp only[Zge 43 18];simp[awp_ret,Zgr 43,resVs]
     ·simp[he,hb,optC]at hG;subst hG;simp[hb];simp only[Zge 43 17];simp[awp_ret,Zgr 43,resVs]
    ·simp[he,hf,optC]at hG;subst hG;simp[hf];simp only[Zge 43 17];simp[awp_ret,Zgr 43,resVs]
   ·simp[he,optC]at hG;subst hG;simp[he];simp only[Zge 43 14];simp[awp_ret,Zgr 43,resVs]
def rdHd (s:RS):Rgt:=⟨rdV s 0,rdV s 1,rdV s 2,[],[],[],[],[]⟩
def rowsEa (C0 C1:Row) (f st fo cl bad ow li:D) (s:RS) (ds:List V) (d:Nat→Bool):List Row:=
 [C0,C1,(rdS s (cnt113a d)).row,.cells [.ref 2 0],.cells [f,st,fo,cl,cell113a (rdDat s) ds d,bad,ow,li]]
theorem l113ae (C0 C1:Row) (f st fo cl bad ow li:D) (s:RS) (hB:s.B) (ds:List V) (hds:ds.length≤2^30) (n k:Int) {K:St→Prop}
  (hK:∀e,(∀k'∈bn113a,find e k'=bv113 n k k')→K ⟨e,rowsEa C0 C1 f st fo cl bad ow li s ds (λ_=>true)⟩) (se:Env) (hse:∀k'∈bn113a,find se k'=bv113 n k k'):
  t113a.ok Tryz.prog GLx (oG 11 10) K ⟨se,rowsEa C0 C1 f st fo cl bad ow li s ds (λj=>decide (16≤j))⟩:=by
 rw[e113r10];refine atok_all (λd zz=>EnvD ns113a cs113a bn113a (vs113a (rdDat s) ds) (bv113 n k) d zz.e∧zz.h=rowsEa C0 C1 f st fo cl bad ow li s ds d) t113a_chk ?_ ?_ ?_
 ·rintro d i ⟨e,h⟩ hi hdi hdep hup ⟨hE,hh⟩;simp only at hE hh;subst hh;have b4:find e 4= .ref 3 0:=hE.2 4 (by simp[bn113a]);have b6:find e 6= .ref 4 0:=hE.2 6 (by simp[bn113a]);have ld:∀(i k':Nat),(i=2∧k'=38∨i=4∧k'=40∨i=7∧k'=43∨i=9∧k'=45)→d i=false→c113r10.getD i default=⟨none,.p k' (.load (.t 4 false) 1 false)⟩→∃s1,gstepJ Tryz.prog GLx (c113r10.getD i default) ⟨e,rowsEa C0 C1 f st fo cl bad ow li s ds d⟩ s1∧EnvD ns113a cs113a bn113a (vs113a (rdDat s) ds) (bv113 n k) (did d i) s1.e∧s1.h=rowsEa C0 C1 f st fo cl bad ow li s ds (did d i):=by
   intro i k' hik hdi hx;refine⟨⟨(k',.ref 2 0)::e,_⟩,pureStep hx (by simp[PI.val,Opd.ev,b4,rowsEa,D.part,D.copy]),hE.push ok113a i k' ?_ ?_,?_⟩
   ·rcases hik with ⟨rfl,rfl⟩|⟨rfl,rfl⟩|⟨rfl,rfl⟩|⟨rfl,rfl⟩<;>rfl
   ·rcases hik with ⟨rfl,rfl⟩|⟨rfl,rfl⟩|⟨rfl,rfl⟩|⟨rfl,rfl⟩<;>rfl
   ·rcases hik with ⟨rfl,rfl⟩|⟨rfl,rfl⟩|⟨rfl,rfl⟩|⟨rfl,rfl⟩<;>simp[rowsEa,cnt113a,cell113a,did]
  match i,hi with
  |0,_=>
   exact⟨_,pureStep (v:= .ref 4 4) rfl (by simp[PI.val,Opd.ev,b6]),hE.push ok113a 0 36 rfl rfl,by simp[rowsEa,cnt113a,cell113a,did]⟩
  |1,_=>
   have v0:find e 36= .ref 4 4:=hE.1 0 36 rfl (hdep 0 (by decide)) (by intro c hc;simp[cs113a]at hc);have d15:d 15=false:=hup 15 (by decide) (by decide);refine⟨_,stepStep (s1:=⟨(37,.own 80 4 ds)::e,rowsEa C0 C1 f st fo cl bad ow li s ds (did d 1)⟩) rfl ?_,hE.push ok113a 1 37 rfl rfl,rfl⟩;simp[AI.step,Opd.ev,v0,rowsEa,cell113a,d15,hdi,did,cnt113a]
  |2,_=>exact ld 2 38 (by decide) hdi rfl
  |4,_=>exact ld 4 40 (by decide) hdi rfl
  |7,_=>exact ld 7 43 (by decide) hdi rfl
  |9,_=>exact ld 9 45 (by decide) hdi rfl
  |3,_=>
   have v2:find e 38= .ref 2 0:=hE.1 2 38 rfl (hdep 2 (by decide)) (by intro c hc;simp[cs113a]at hc);have d5:d 5=false:=hup 5 (by decide) (by decide);have d8:d 8=false:=hup 8 (by decide) (by decide);have d10:d 10=false:=hup 10 (by decide) (by decide);have hF:FSp Tryz.prog GLx 13 [.ref 2 0] (rowsEa C0 C1 f st fo cl bad ow li s ds d) [.v (.int .i64 (rdDat s).cl)] ((rowsEa C0 C1 f st fo cl bad ow li s ds d).set 2 (rdS s 1).row):=p45e (rdS s 0) (rdS_B hB 0) _ 2 (by simp[rowsEa,cnt113a,hdi,d5,d8,d10]);exact⟨_,callStep (k:=39) (r:= .v (.int .i64 (rdDat s).cl)) rfl (by simpa[argsOf,D.arg,Opd.ev,v2]using hF),hE.push ok113a 3 39 rfl rfl,by simp[rowsEa,cnt113a,cell113a,did,hdi,d5,d8,d10]⟩
  |5,_=>
   have v4:find e 40= .ref 2 0:=hE.1 4 40 rfl (hdep 4 (by decide)) (by intro c hc;simp[cs113a]at hc);have d8:d 8=false:=hup 8 (by decide) (by decide);have d10:d 10=false:=hup 10 (by decide) (by decide);have d3:d 3=true:=hdep 3 (by decide);have hF:FSp Tryz.prog GLx 13 [.ref 2 0] (rowsEa C0 C1 f st fo cl bad ow li s ds d) [.v (.int .i64 (rdDat s).ix)] ((rowsEa C0 C1 f st fo cl bad ow li s ds d).set 2 (rdS s 2).row):=p45e (rdS s 1) (rdS_B hB 1) _ 2 (by simp[rowsEa,cnt113a,hdi,d8,d10,d3]);exact⟨_,callStep (k:=41) (r:= .v (.int .i64 (rdDat s).ix)) rfl (by simpa[argsOf,D.arg,Opd.ev,v4]using hF),hE.push ok113a 5 41 rfl rfl,by simp[rowsEa,cnt113a,cell113a,did,hdi,d8,d10,d3]⟩
  |8,_=>
   have v7:find e 43= .ref 2 0:=hE.1 7 43 rfl (hdep 7 (by decide)) (by intro c hc;simp[cs113a]at hc);have d10:d 10=false:=hup 10 (by decide) (by decide);have d3:d 3=true:=hdep 3 (by decide);have d5:d 5=true:=hdep 5 (by decide);have hF:FSp Tryz.prog GLx 13 [.ref 2 0] (rowsEa C0 C1 f st fo cl bad ow li s ds d) [.v (.int .i64 (rdDat s).day)] ((rowsEa C0 C1 f st fo cl bad ow li s ds d).set 2 (rdS s 3).row):=p45e (rdS s 2) (rdS_B hB 2) _ 2 (by simp[rowsEa,cnt113a,hdi,d10,d5]);exact⟨_,callStep (k:=44) (r:= .v (.int .i64 (rdDat s).day)) rfl (by simpa[argsOf,D.arg,Opd.ev,v7]using hF),hE.push ok113a 8 44 rfl rfl,by simp[rowsEa,cnt113a,cell113a,did,hdi,d10,d5]⟩
  |10,_=>
   have v9:find e 45= .ref 2 0:=hE.1 9 45 rfl (hdep 9 (by decide)) (by intro c hc;simp[cs113a]at hc);have d3:d 3=true:=hdep 3 (by decide);have d5:d 5=true:=hdep 5 (by decide);have d8:d 8=true:=hdep 8 (by decide);have hF:FSp Tryz.prog GLx 13 [.ref 2 0] (rowsEa C0 C1 f st fo cl bad ow li s ds d) [.v (.int .i64 (rdDat s).file)] ((rowsEa C0 C1 f st fo cl bad ow li s ds d).set 2 (rdS s 4).row):=p45e (rdS s 3) (rdS_B hB 3) _ 2 (by simp[rowsEa,cnt113a,hdi,d8]);exact⟨_,callStep (k:=46) (r:= .v (.int .i64 (rdDat s).file)) rfl (by simpa[argsOf,D.arg,Opd.ev,v9]using hF),hE.push ok113a 10 46 rfl rfl,by simp[rowsEa,cnt113a,cell113a,did,hdi,d8]⟩
  |6,_=>
   have v3:find e 39= .v (.int .i64 (rdDat s).cl):=hE.1 3 39 rfl (hdep 3 (by decide)) (by intro c hc;simp[cs113a]at hc);have v5:find e 41= .v (.int .i64 (rdDat s).ix):=hE.1 5 41 rfl (hdep 5 (by decide)) (by intro c hc;simp[cs113a]at hc);exact⟨_,pureStep (v:= .agg [.v (.int .i64 (rdDat s).cl),.v (.int .i64 (rdDat s).ix)]) rfl (by simp[PI.val,fillD,Opd.ev,v3,v5,D.cells?,D.copy,putL]),hE.push ok113a 6 42 rfl rfl,by simp[rowsEa,cnt113a,cell113a,did]⟩
  |11,_=>
   have v6:find e 42= .agg [.v (.int .i64 (rdDat s).cl),.v (.int .i64 (rdDat s).ix)]:=hE.1 6 42 rfl (hdep 6 (by decide)) (by intro c hc;simp[cs113a]at hc);have v8:find e 44= .v (.int .i64 (rdDat s).day):=hE.1 8 44 rfl (hdep 8 (by decide)) (by intro c hc;simp[cs113a]at hc);have v10:find e 46= .v (.int .i64 (rdDat s).file):=hE.1 10 46 rfl (hdep 10 (by decide)) (by intro c hc;simp[cs113a]at hc);exact⟨_,pureStep (v:= .agg [.v (.int .i64 (rdDat s).cl),.v (.int .i64 (rdDat s).ix),.v (.int .i64 (rdDat s).day),.v (.int .i64 (rdDat s).file)]) rfl (by simp[PI.val,fillD,Opd.ev,v6,v8,v10,D.cells?,D.copy,putL]),hE.push ok113a 11 47 rfl rfl,by simp[rowsEa,cnt113a,cell113a,did]⟩
  |12,_=>
   have v11:find e 47= .agg [.v (.int .i64 (rdDat s).cl),.v (.int .i64 (rdDat s).ix),.v (.int .i64 (rdDat s).day),.v (.int .i64 (rdDat s).file)]:=hE.1 11 47 rfl (hdep 11 (by decide)) (by intro c hc;simp[cs113a]at hc);refine⟨_,stepStep (s1:=⟨(48,.own 80 4 [(rdDat s).V])::e,rowsEa C0 C1 f st fo cl bad ow li s ds d⟩) rfl ?_,hE.push ok113a 12 48 rfl rfl,?_⟩
   ·simp[AI.step,toVs,D.toV,Opd.ev,v11,Dat.V,D.vs?,D.v?,D.copy,V.cells]
   ·simp[rowsEa,cnt113a,cell113a,did]
  |13,_=>
   have v1:find e 37= .own 80 4 ds:=hE.1 1 37 rfl (hdep 1 (by decide)) (by intro c hc;simp[cs113a]at hc;subst hc;exact hdi);have v12:find e 48= .own 80 4 [(rdDat s).V]:=hE.1 12 48 rfl (hdep 12 (by decide)) (by intro c hc;simp[cs113a]at hc);have hroom:roomy (ds.length+1) 32=true:=by simp[roomy];omega
   refine⟨_,stepStep (s1:=⟨(49,.own 80 4 (ds++[(rdDat s).V]))::(37,.v (.list ds))::e,rowsEa C0 C1 f st fo cl bad ow li s ds d⟩) rfl ?_,hE.pushW ok113a 13 49 1 37 rfl rfl rfl rfl,?_⟩
   ·simp[AI.step,Opd.ev,Opd.clear,v1,v12,ownOf,D.toV,D.copy,Dat.V,V.cells,hroom,D.v?]
   ·simp[rowsEa,cnt113a,cell113a,did]
  |14,_=>
   exact⟨_,pureStep (v:= .ref 4 4) rfl (by simp[PI.val,Opd.ev,b6]),hE.push ok113a 14 50 rfl rfl,by simp[rowsEa,cnt113a,cell113a,did]⟩
  |15,_=>
   have v13:find e 49= .own 80 4 (ds++[(rdDat s).V]):=hE.1 13 49 rfl (hdep 13 (by decide)) (by intro c hc;simp[cs113a]at hc;subst hc;exact hdi);have v14:find e 50= .ref 4 4:=hE.1 14 50 rfl (hdep 14 (by decide)) (by intro c hc;simp[cs113a]at hc);refine⟨_,stepStep (s1:=⟨(49,.any)::e,rowsEa C0 C1 f st fo cl bad ow li s ds (did d 15)⟩) rfl ?_,hE.last ok113a 15 13 49 rfl rfl rfl,rfl⟩;simp[AI.step,Opd.ev,v13,v14,rowsEa,cell113a,did,cnt113a,D.copy]
  |i+16,hi=>omega
 ·rintro d ⟨e,h⟩ hall ⟨hE,hh⟩;simp only at hE hh;subst hh;have e1:rowsEa C0 C1 f st fo cl bad ow li s ds d=rowsEa C0 C1 f st fo cl bad ow li s ds (λ_=>true):=by
   simp[rowsEa,cnt113a,cell113a,hall 10 (by decide),hall 15 (by decide)]
  rw[e1];exact hK e hE.2
 ·refine⟨⟨λj k' hj hd=>?_,hse⟩,rfl⟩;simp only[decide_eq_true_eq]at hd;have:ns113a[j]?=none:=List.getElem?_eq_none (by simpa[ns113a]using hd);rw[this]at hj;cases hj
def rowsEb (C0 C1:Row) (f st fo cl y1 y2 y3:D) (s:RS) (ds:List V) (d:Nat→Bool):List Row:=
 [C0,C1,(rdS s (cnt113b d)).row,.cells [.ref 2 0],.cells [f,st,fo,cl,y1,y2,cell113b (rdOwn s) ds d,y3]]
theorem l113be (C0 C1:Row) (f st fo cl y1 y2 y3:D) (s:RS) (hB:s.B) (ds:List V) (hds:ds.length≤2^30) (n k:Int) {K:St→Prop}
  (hK:∀e,(∀k'∈bn113b,find e k'=bv113b n k k')→K ⟨e,rowsEb C0 C1 f st fo cl y1 y2 y3 s ds (λ_=>true)⟩) (se:Env) (hse:∀k'∈bn113b,find se k'=bv113b n k k'):
  t113b.ok Tryz.prog GLx (oG 11 15) K ⟨se,rowsEb C0 C1 f st fo cl y1 y2 y3 s ds (λj=>decide (14≤j))⟩:=by
 rw[e113r15];refine atok_all (λd zz=>EnvD ns113b cs113b bn113b (vs113b (rdOwn s) ds) (bv113b n k) d zz.e∧zz.h=rowsEb C0 C1 f st fo cl y1 y2 y3 s ds d) t113b_chk ?_ ?_ ?_
 ·rintro d i ⟨e,h⟩ hi hdi hdep hup ⟨hE,hh⟩;simp only at hE hh;subst hh;have b4:find e 4= .ref 3 0:=hE.2 4 (by simp[bn113b]);have b6:find e 6= .ref 4 0:=hE.2 6 (by simp[bn113b])
  match i,hi with
  |0,_=>
   exact⟨_,pureStep (v:= .ref 4 6) rfl (by simp[PI.val,Opd.ev,b6]),hE.push ok113b 0 59 rfl rfl,by simp[rowsEb,cnt113b,cell113b,did]⟩
  |1,_=>
   have v0:find e 59= .ref 4 6:=hE.1 0 59 rfl (hdep 0 (by decide)) (by intro c hc;simp[cs113b]at hc);have d13:d 13=false:=hup 13 (by decide) (by decide);refine⟨_,stepStep (s1:=⟨(60,.own 82 3 ds)::e,rowsEb C0 C1 f st fo cl y1 y2 y3 s ds (did d 1)⟩) rfl ?_,hE.push ok113b 1 60 rfl rfl,rfl⟩;simp[AI.step,Opd.ev,v0,rowsEb,cnt113b,cell113b,did,d13,hdi]
  |2,_=>
   exact⟨_,pureStep (v:= .ref 2 0) rfl (by simp[PI.val,Opd.ev,b4,rowsEb,D.part,D.copy]),hE.push ok113b 2 61 rfl rfl,by simp[rowsEb,cnt113b,cell113b,did]⟩
  |3,_=>
   have v2:find e 61= .ref 2 0:=hE.1 2 61 rfl (hdep 2 (by decide)) (by intro c hc;simp[cs113b]at hc);have d5:d 5=false:=hup 5 (by decide) (by decide);have d7:d 7=false:=hup 7 (by decide) (by decide);have hF:FSp Tryz.prog GLx 13 [.ref 2 0] (rowsEb C0 C1 f st fo cl y1 y2 y3 s ds d) [.v (.int .i64 (rdOwn s).party)] ((rowsEb C0 C1 f st fo cl y1 y2 y3 s ds d).set 2 (rdS s 1).row):=p45e (rdS s 0) (rdS_B hB 0) _ 2 (by simp[rowsEb,cnt113b,hdi,d5,d7]);exact⟨_,callStep (k:=62) (r:= .v (.int .i64 (rdOwn s).party)) rfl (by simpa[argsOf,D.arg,Opd.ev,v2]using hF),hE.push ok113b 3 62 rfl rfl,by simp[rowsEb,cnt113b,cell113b,did,hdi,d5,d7]⟩
  |4,_=>
   exact⟨_,pureStep (v:= .ref 2 0) rfl (by simp[PI.val,Opd.ev,b4,rowsEb,D.part,D.copy]),hE.push ok113b 4 63 rfl rfl,by simp[rowsEb,cnt113b,cell113b,did]⟩
  |5,_=>
   have v4:find e 63= .ref 2 0:=hE.1 4 63 rfl (hdep 4 (by decide)) (by intro c hc;simp[cs113b]at hc);have d7:d 7=false:=hup 7 (by decide) (by decide);have d3:d 3=true:=hdep 3 (by decide);have hF:FSp Tryz.prog GLx 13 [.ref 2 0] (rowsEb C0 C1 f st fo cl y1 y2 y3 s ds d) [.v (.int .i64 (rdOwn s).num)] ((rowsEb C0 C1 f st fo cl y1 y2 y3 s ds d).set 2 (rdS s 2).row):=p45e (rdS s 1) (rdS_B hB 1) _ 2 (by simp[rowsEb,cnt113b,hdi,d7,d3]);exact⟨_,callStep (k:=64) (r:= .v (.int .i64 (rdOwn s).num)) rfl (by simpa[argsOf,D.arg,Opd.ev,v4]using hF),hE.push ok113b 5 64 rfl rfl,by simp[rowsEb,cnt113b,cell113b,did,hdi,d7,d3]⟩
  |6,_=>
   exact⟨_,pureStep (v:= .ref 2 0) rfl (by simp[PI.val,Opd.ev,b4,rowsEb,D.part,D.copy]),hE.push ok113b 6 65 rfl rfl,by simp[rowsEb,cnt113b,cell113b,did]⟩
  |7,_=>
   have v6:find e 65= .ref 2 0:=hE.1 6 65 rfl (hdep 6 (by decide)) (by intro c hc;simp[cs113b]at hc);have d3:d 3=true:=hdep 3 (by decide);have d5:d 5=true:=hdep 5 (by decide);have hF:FSp Tryz.prog GLx 13 [.ref 2 0] (rowsEb C0 C1 f st fo cl y1 y2 y3 s ds d) [.v (.int .i64 (rdOwn s).den)] ((rowsEb C0 C1 f st fo cl y1 y2 y3 s ds d).set 2 (rdS s 3).row):=p45e (rdS s 2) (rdS_B hB 2) _ 2 (by simp[rowsEb,cnt113b,hdi,d5]);exact⟨_,callStep (k:=66) (r:= .v (.int .i64 (rdOwn s).den)) rfl (by simpa[argsOf,D.arg,Opd.ev,v6]using hF),hE.push ok113b 7 66 rfl rfl,by simp[rowsEb,cnt113b,cell113b,did,hdi,d5]⟩
  |8,_=>
   have v5:find e 64= .v (.int .i64 (rdOwn s).num):=hE.1 5 64 rfl (hdep 5 (by decide)) (by intro c hc;simp[cs113b]at hc);have v7:find e 66= .v (.int .i64 (rdOwn s).den):=hE.1 7 66 rfl (hdep 7 (by decide)) (by intro c hc;simp[cs113b]at hc);exact⟨_,pureStep (v:= .agg [.v (.int .i64 (rdOwn s).num),.v (.int .i64 (rdOwn s).den)]) rfl (by simp[PI.val,fillD,Opd.ev,v5,v7,D.cells?,D.copy,putL]),hE.push ok113b 8 67 rfl rfl,by simp[rowsEb,cnt113b,cell113b,did]⟩
  |9,_=>
   have v3:find e 62= .v (.int .i64 (rdOwn s).party):=hE.1 3 62 rfl (hdep 3 (by decide)) (by intro c hc;simp[cs113b]at hc);have v8:find e 67= .agg [.v (.int .i64 (rdOwn s).num),.v (.int .i64 (rdOwn s).den)]:=hE.1 8 67 rfl (hdep 8 (by decide)) (by intro c hc;simp[cs113b]at hc);exact⟨_,pureStep (v:= .agg [.v (.int .i64 (rdOwn s).party),.v (.int .i64 (rdOwn s).num),.v (.int .i64 (rdOwn s).den)]) rfl (by simp[PI.val,fillD,Opd.ev,v3,v8,D.cells?,D.copy,putL]),hE.push ok113b 9 68 rfl rfl,by simp[rowsEb,cnt113b,cell113b,did]⟩
  |10,_=>
   have v9:find e 68= .agg [.v (.int .i64 (rdOwn s).party),.v (.int .i64 (rdOwn s).num),.v (.int .i64 (rdOwn s).den)]:=hE.1 9 68 rfl (hdep 9 (by decide)) (by intro c hc;simp[cs113b]at hc);refine⟨_,stepStep (s1:=⟨(69,.own 82 3 [(rdOwn s).V])::e,rowsEb C0 C1 f st fo cl y1 y2 y3 s ds d⟩) rfl ?_,hE.push ok113b 10 69 rfl rfl,?_⟩
   ·simp[AI.step,toVs,D.toV,Opd.ev,v9,Own.V,D.vs?,D.v?,D.copy,V.cells]
   ·simp[rowsEb,cnt113b,cell113b,did]
  |11,_=>
   have v1:find e 60= .own 82 3 ds:=hE.1 1 60 rfl (hdep 1 (by decide)) (by intro c hc;simp[cs113b]at hc;subst hc;exact hdi);have v10:find e 69= .own 82 3 [(rdOwn s).V]:=hE.1 10 69 rfl (hdep 10 (by decide)) (by intro c hc;simp[cs113b]at hc);have hroom:roomy (ds.length+1) 24=true:=by simp[roomy];omega
   refine⟨_,stepStep (s1:=⟨(70,.own 82 3 (ds++[(rdOwn s).V]))::(60,.v (.list ds))::e,rowsEb C0 C1 f st fo cl y1 y2 y3 s ds d⟩) rfl ?_,hE.pushW ok113b 11 70 1 60 rfl rfl rfl rfl,?_⟩
   ·simp[AI.step,Opd.ev,Opd.clear,v1,v10,ownOf,D.toV,D.copy,Own.V,V.cells,hroom,D.v?]
   ·simp[rowsEb,cnt113b,cell113b,did]
  |12,_=>
   exact⟨_,pureStep (v:= .ref 4 6) rfl (by simp[PI.val,Opd.ev,b6]),hE.push ok113b 12 71 rfl rfl,by simp[rowsEb,cnt113b,cell113b,did]⟩
  |13,_=>
   have v11:find e 70= .own 82 3 (ds++[(rdOwn s).V]):=hE.1 11 70 rfl (hdep 11 (by decide)) (by intro c hc;simp[cs113b]at hc;subst hc;exact hdi);have v12:find e 71= .ref 4 6:=hE.1 12 71 rfl (hdep 12 (by decide)) (by intro c hc;simp[cs113b]at hc);refine⟨_,stepStep (s1:=⟨(70,.any)::e,rowsEb C0 C1 f st fo cl y1 y2 y3 s ds (did d 13)⟩) rfl ?_,hE.last ok113b 13 11 70 rfl rfl rfl,rfl⟩;simp[AI.step,Opd.ev,v11,v12,rowsEb,cnt113b,cell113b,did,D.copy]
  |i+14,hi=>omega
 ·rintro d ⟨e,h⟩ hall ⟨hE,hh⟩;simp only at hE hh;subst hh;have e1:rowsEb C0 C1 f st fo cl y1 y2 y3 s ds d=rowsEb C0 C1 f st fo cl y1 y2 y3 s ds (λ_=>true):=by
   simp[rowsEb,cnt113b,cell113b,hall 7 (by decide),hall 13 (by decide)]
  rw[e1];exact hK e hE.2
 ·refine⟨⟨λj k' hj hd=>?_,hse⟩,rfl⟩;simp only[decide_eq_true_eq]at hd;have:ns113b[j]?=none:=List.getElem?_eq_none (by simpa[ns113b]using hd);rw[this]at hj;cases hj
def rowsEc (C0 C1:Row) (f st fo cl y1 y2 y3:D) (s:RS) (ds:List V) (d:Nat→Bool):List Row:=
 [C0,C1,(rdS s (cnt113c d)).row,.cells [.ref 2 0],.cells [f,st,fo,cl,y1,y2,y3,cell113c (rdLic s) ds d]]
theorem l113ce (C0 C1:Row) (f st fo cl y1 y2 y3:D) (s:RS) (hB:s.B) (ds:List V) (hds:ds.length≤2^30) (n k:Int) {K:St→Prop}
  (hK:∀e,(∀k'∈bn113c,find e k'=bv113c n k k')→K ⟨e,rowsEc C0 C1 f st fo cl y1 y2 y3 s ds (λ_=>true)⟩) (se:Env) (hse:∀k'∈bn113c,find se k'=bv113c n k k'):
  t113c.ok Tryz.prog GLx (oG 11 19) K ⟨se,rowsEc C0 C1 f st fo cl y1 y2 y3 s ds (λj=>decide (15≤j))⟩:=by
 rw[e113r19];refine atok_all (λd zz=>EnvD ns113c cs113c bn113c (vs113c (rdLic s) ds) (bv113c n k) d zz.e∧zz.h=rowsEc C0 C1 f st fo cl y1 y2 y3 s ds d) t113c_chk ?_ ?_ ?_
 ·rintro d i ⟨e,h⟩ hi hdi hdep hup ⟨hE,hh⟩;simp only at hE hh;subst hh;have b4:find e 4= .ref 3 0:=hE.2 4 (by simp[bn113c]);have b6:find e 6= .ref 4 0:=hE.2 6 (by simp[bn113c])
  match i,hi with
  |0,_=>
   exact⟨_,pureStep (v:= .ref 4 7) rfl (by simp[PI.val,Opd.ev,b6]),hE.push ok113c 0 77 rfl rfl,by simp[rowsEc,cnt113c,cell113c,did]⟩
  |1,_=>
   have v0:find e 77= .ref 4 7:=hE.1 0 77 rfl (hdep 0 (by decide)) (by intro c hc;simp[cs113c]at hc);have d14:d 14=false:=hup 14 (by decide) (by decide);refine⟨_,stepStep (s1:=⟨(78,.own 83 4 ds)::e,rowsEc C0 C1 f st fo cl y1 y2 y3 s ds (did d 1)⟩) rfl ?_,hE.push ok113c 1 78 rfl rfl,rfl⟩;simp[AI.step,Opd.ev,v0,rowsEc,cnt113c,cell113c,did,d14,hdi]
  |2,_=>
   exact⟨_,pureStep (v:= .ref 2 0) rfl (by simp[PI.val,Opd.ev,b4,rowsEc,D.part,D.copy]),hE.push ok113c 2 79 rfl rfl,by simp[rowsEc,cnt113c,cell113c,did]⟩
  |3,_=>
   have v2:find e 79= .ref 2 0:=hE.1 2 79 rfl (hdep 2 (by decide)) (by intro c hc;simp[cs113c]at hc);have d5:d 5=false:=hup 5 (by decide) (by decide);have d7:d 7=false:=hup 7 (by decide) (by decide);have d9:d 9=false:=hup 9 (by decide) (by decide);have hF:FSp Tryz.prog GLx 13 [.ref 2 0] (rowsEc C0 C1 f st fo cl y1 y2 y3 s ds d) [.v (.int .i64 (rdLic s).fr)] ((rowsEc C0 C1 f st fo cl y1 y2 y3 s ds d).set 2 (rdS s 1).row):=p45e (rdS s 0) (rdS_B hB 0) _ 2 (by simp[rowsEc,cnt113c,hdi,d5,d7,d9]);exact⟨_,callStep (k:=80) (r:= .v (.int .i64 (rdLic s).fr)) rfl (by simpa[argsOf,D.arg,Opd.ev,v2]using hF),hE.push ok113c 3 80 rfl rfl,by simp[rowsEc,cnt113c,cell113c,did,hdi,d5,d7,d9]⟩
  |4,_=>
   exact⟨_,pureStep (v:= .ref 2 0) rfl (by simp[PI.val,Opd.ev,b4,rowsEc,D.part,D.copy]),hE.push ok113c 4 81 rfl rfl,by simp[rowsEc,cnt113c,cell113c,did]⟩
  |5,_=>
   have v4:find e 81= .ref 2 0:=hE.1 4 81 rfl (hdep 4 (by decide)) (by intro c hc;simp[cs113c]at hc);have d7:d 7=false:=hup 7 (by decide) (by decide);have d9:d 9=false:=hup 9 (by decide) (by decide);have d3:d 3=true:=hdep 3 (by decide);have hF:FSp Tryz.prog GLx 13 [.ref 2 0] (rowsEc C0 C1 f st fo cl y1 y2 y3 s ds d) [.v (.int .i64 (rdLic s).to)] ((rowsEc C0 C1 f st fo cl y1 y2 y3 s ds d).set 2 (rdS s 2).row):=p45e (rdS s 1) (rdS_B hB 1) _ 2 (by simp[rowsEc,cnt113c,hdi,d7,d9,d3]);exact⟨_,callStep (k:=82) (r:= .v (.int .i64 (rdLic s).to)) rfl (by simpa[argsOf,D.arg,Opd.ev,v4]using hF),hE.push ok113c 5 82 rfl rfl,by simp[rowsEc,cnt113c,cell113c,did,hdi,d7,d9,d3]⟩
  |6,_=>
   exact⟨_,pureStep (v:= .ref 2 0) rfl (by simp[PI.val,Opd.ev,b4,rowsEc,D.part,D.copy]),hE.push ok113c 6 83 rfl rfl,by simp[rowsEc,cnt113c,cell113c,did]⟩
  |7,_=>
   have v6:find e 83= .ref 2 0:=hE.1 6 83 rfl (hdep 6 (by decide)) (by intro c hc;simp[cs113c]at hc);have d9:d 9=false:=hup 9 (by decide) (by decide);have d3:d 3=true:=hdep 3 (by decide);have d5:d 5=true:=hdep 5 (by decide);have hF:FSp Tryz.prog GLx 13 [.ref 2 0] (rowsEc C0 C1 f st fo cl y1 y2 y3 s ds d) [.v (.int .i64 (rdLic s).fst)] ((rowsEc C0 C1 f st fo cl y1 y2 y3 s ds d).set 2 (rdS s 3).row):=p45e (rdS s 2) (rdS_B hB 2) _ 2 (by simp[rowsEc,cnt113c,hdi,d9,d5]);exact⟨_,callStep (k:=84) (r:= .v (.int .i64 (rdLic s).fst)) rfl (by simpa[argsOf,D.arg,Opd.ev,v6]using hF),hE.push ok113c 7 84 rfl rfl,by simp[rowsEc,cnt113c,cell113c,did,hdi,d9,d5]⟩
  |8,_=>
   exact⟨_,pureStep (v:= .ref 2 0) rfl (by simp[PI.val,Opd.ev,b4,rowsEc,D.part,D.copy]),hE.push ok113c 8 85 rfl rfl,by simp[rowsEc,cnt113c,cell113c,did]⟩
  |9,_=>
   have v8:find e 85= .ref 2 0:=hE.1 8 85 rfl (hdep 8 (by decide)) (by intro c hc;simp[cs113c]at hc);have d3:d 3=true:=hdep 3 (by decide);have d5:d 5=true:=hdep 5 (by decide);have d7:d 7=true:=hdep 7 (by decide);have hF:FSp Tryz.prog GLx 13 [.ref 2 0] (rowsEc C0 C1 f st fo cl y1 y2 y3 s ds d) [.v (.int .i64 (rdLic s).lst)] ((rowsEc C0 C1 f st fo cl y1 y2 y3 s ds d).set 2 (rdS s 4).row):=p45e (rdS s 3) (rdS_B hB 3) _ 2 (by simp[rowsEc,cnt113c,hdi,d7]);exact⟨_,callStep (k:=86) (r:= .v (.int .i64 (rdLic s).lst)) rfl (by simpa[argsOf,D.arg,Opd.ev,v8]using hF),hE.push ok113c 9 86 rfl rfl,by simp[rowsEc,cnt113c,cell113c,did,hdi,d7]⟩
  |10,_=>
   have v3:find e 80= .v (.int .i64 (rdLic s).fr):=hE.1 3 80 rfl (hdep 3 (by decide)) (by intro c hc;simp[cs113c]at hc);have v5:find e 82= .v (.int .i64 (rdLic s).to):=hE.1 5 82 rfl (hdep 5 (by decide)) (by intro c hc;simp[cs113c]at hc);have v7:find e 84= .v (.int .i64 (rdLic s).fst):=hE.1 7 84 rfl (hdep 7 (by decide)) (by intro c hc;simp[cs113c]at hc);have v9:find e 86= .v (.int .i64 (rdLic s).lst):=hE.1 9 86 rfl (hdep 9 (by decide)) (by intro c hc;simp[cs113c]at hc);exact⟨_,pureStep (v:= .agg [.v (.int .i64 (rdLic s).fr),.v (.int .i64 (rdLic s).to),.v (.int .i64 (rdLic s).fst),.v (.int .i64 (rdLic s).lst)]) rfl (by simp[PI.val,fillD,Opd.ev,v3,v5,v7,v9,D.cells?,D.copy,putL]),hE.push ok113c 10 87 rfl rfl,by simp[rowsEc,cnt113c,cell113c,did]⟩
  |11,_=>
   have v10:find e 87= .agg [.v (.int .i64 (rdLic s).fr),.v (.int .i64 (rdLic s).to),.v (.int .i64 (rdLic s).fst),.v (.int .i64 (rdLic s).lst)]:=hE.1 10 87 rfl (hdep 10 (by decide)) (by intro c hc;simp[cs113c]at hc);refine⟨_,stepStep (s1:=⟨(88,.own 83 4 [(rdLic s).V])::e,rowsEc C0 C1 f st fo cl y1 y2 y3 s ds d⟩) rfl ?_,hE.push ok113c 11 88 rfl rfl,?_⟩
   ·simp[AI.step,toVs,D.toV,Opd.ev,v10,Lic.V,D.vs?,D.v?,D.copy,V.cells]
   ·simp[rowsEc,cnt113c,cell113c,did]
  |12,_=>
   have v1:find e 78= .own 83 4 ds:=hE.1 1 78 rfl (hdep 1 (by decide)) (by intro c hc;simp[cs113c]at hc;subst hc;exact hdi);have v11:find e 88= .own 83 4 [(rdLic s).V]:=hE.1 11 88 rfl (hdep 11 (by decide)) (by intro c hc;simp[cs113c]at hc);have hroom:roomy (ds.length+1) 32=true:=by simp[roomy];omega
   refine⟨_,stepStep (s1:=⟨(89,.own 83 4 (ds++[(rdLic s).V]))::(78,.v (.list ds))::e,rowsEc C0 C1 f st fo cl y1 y2 y3 s ds d⟩) rfl ?_,hE.pushW ok113c 12 89 1 78 rfl rfl rfl rfl,?_⟩
   ·simp[AI.step,Opd.ev,Opd.clear,v1,v11,ownOf,D.toV,D.copy,Lic.V,V.cells,hroom,D.v?]
   ·simp[rowsEc,cnt113c,cell113c,did]
  |13,_=>
   exact⟨_,pureStep (v:= .ref 4 7) rfl (by simp[PI.val,Opd.ev,b6]),hE.push ok113c 13 90 rfl rfl,by simp[rowsEc,cnt113c,cell113c,did]⟩
  |14,_=>
   have v12:find e 89= .own 83 4 (ds++[(rdLic s).V]):=hE.1 12 89 rfl (hdep 12 (by decide)) (by intro c hc;simp[cs113c]at hc;subst hc;exact hdi);have v13:find e 90= .ref 4 7:=hE.1 13 90 rfl (hdep 13 (by decide)) (by intro c hc;simp[cs113c]at hc);refine⟨_,stepStep (s1:=⟨(89,.any)::e,rowsEc C0 C1 f st fo cl y1 y2 y3 s ds (did d 14)⟩) rfl ?_,hE.last ok113c 14 12 89 rfl rfl rfl,rfl⟩;simp[AI.step,Opd.ev,v12,v13,rowsEc,cnt113c,cell113c,did,D.copy]
  |i+15,hi=>omega
 ·rintro d ⟨e,h⟩ hall ⟨hE,hh⟩;simp only at hE hh;subst hh;have e1:rowsEc C0 C1 f st fo cl y1 y2 y3 s ds d=rowsEc C0 C1 f st fo cl y1 y2 y3 s ds (λ_=>true):=by
   simp[rowsEc,cnt113c,cell113c,hall 9 (by decide),hall 14 (by decide)]
  rw[e1];exact hK e hE.2
 ·refine⟨⟨λj k' hj hd=>?_,hse⟩,rfl⟩;simp only[decide_eq_true_eq]at hd;have:ns113c[j]?=none:=List.getElem?_eq_none (by simpa[ns113c]using hd);rw[this]at hj;cases hj
def rowsEh (C0 C1:Row) (s:RS) (d:Nat→Bool):List Row:=[C0,C1,(rdS s (cnt113h d)).row,.cells [.ref 2 0]]++row113h (rdHd s) d
theorem l113he (C0 C1:Row) (s:RS) (hB:s.B) {K:St→Prop}
  (hK:∀e,(∀k'∈bn113h,find e k'=bv113h k')→find e 6= .ref 4 0→K ⟨e,rowsEh C0 C1 s (λ_=>true)⟩) (se:Env) (hse:∀k'∈bn113h,find se k'=bv113h k'):
  t113h.ok Tryz.prog GLx (oG 11 3) K ⟨se,rowsEh C0 C1 s (λj=>decide (9≤j))⟩:=by
 rw[e113r3];refine atok_all (λd zz=>EnvD ns113h cs113h bn113h (vs113h (rdHd s)) bv113h d zz.e∧zz.h=rowsEh C0 C1 s d) t113h_chk ?_ ?_ ?_
 ·rintro d i ⟨e,h⟩ hi hdi hdep hup ⟨hE,hh⟩;simp only at hE hh;subst hh;have b4:find e 4= .ref 3 0:=hE.2 4 (by simp[bn113h])
  match i,hi with
  |0,_=>
   exact⟨_,pureStep (v:= .ref 2 0) rfl (by simp[PI.val,Opd.ev,b4,rowsEh,D.part,D.copy]),hE.push ok113h 0 14 rfl rfl,by simp[rowsEh,cnt113h,row113h,did]⟩
  |2,_=>
   exact⟨_,pureStep (v:= .ref 2 0) rfl (by simp[PI.val,Opd.ev,b4,rowsEh,D.part,D.copy]),hE.push ok113h 2 16 rfl rfl,by simp[rowsEh,cnt113h,row113h,did]⟩
  |4,_=>
   exact⟨_,pureStep (v:= .ref 2 0) rfl (by simp[PI.val,Opd.ev,b4,rowsEh,D.part,D.copy]),hE.push ok113h 4 18 rfl rfl,by simp[rowsEh,cnt113h,row113h,did]⟩
  |1,_=>
   have v0:find e 14= .ref 2 0:=hE.1 0 14 rfl (hdep 0 (by decide)) (by intro c hc;simp[cs113h]at hc);have d3:d 3=false:=hup 3 (by decide) (by decide);have d5:d 5=false:=hup 5 (by decide) (by decide);have hF:FSp Tryz.prog GLx 13 [.ref 2 0] (rowsEh C0 C1 s d) [.v (.int .i64 (rdHd s).file)] ((rowsEh C0 C1 s d).set 2 (rdS s 1).row):=p45e (rdS s 0) (rdS_B hB 0) _ 2 (by simp[rowsEh,cnt113h,hdi,d3,d5]);exact⟨_,callStep (k:=15) (r:= .v (.int .i64 (rdHd s).file)) rfl (by simpa[argsOf,D.arg,Opd.ev,v0]using hF),hE.push ok113h 1 15 rfl rfl,by simp[rowsEh,cnt113h,row113h,did,hdi,d3,d5]⟩
  |3,_=>
   have v2:find e 16= .ref 2 0:=hE.1 2 16 rfl (hdep 2 (by decide)) (by intro c hc;simp[cs113h]at hc);have d5:d 5=false:=hup 5 (by decide) (by decide);have d1:d 1=true:=hdep 1 (by decide);have hF:FSp Tryz.prog GLx 13 [.ref 2 0] (rowsEh C0 C1 s d) [.v (.int .i64 (rdHd s).state)] ((rowsEh C0 C1 s d).set 2 (rdS s 2).row):=p45e (rdS s 1) (rdS_B hB 1) _ 2 (by simp[rowsEh,cnt113h,hdi,d5,d1]);exact⟨_,callStep (k:=17) (r:= .v (.int .i64 (rdHd s).state)) rfl (by simpa[argsOf,D.arg,Opd.ev,v2]using hF),hE.push ok113h 3 17 rfl rfl,by simp[rowsEh,cnt113h,row113h,did,hdi,d5,d1]⟩
  |5,_=>
   have v4:find e 18= .ref 2 0:=hE.1 4 18 rfl (hdep 4 (by decide)) (by intro c hc;simp[cs113h]at hc);have d1:d 1=true:=hdep 1 (by decide);have d3:d 3=true:=hdep 3 (by decide);have hF:FSp Tryz.prog GLx 13 [.ref 2 0] (rowsEh C0 C1 s d) [.v (.int .i64 (rdHd s).force)] ((rowsEh C0 C1 s d).set 2 (rdS s 3).row):=p45e (rdS s 2) (rdS_B hB 2) _ 2 (by simp[rowsEh,cnt113h,hdi,d3]);exact⟨_,callStep (k:=19) (r:= .v (.int .i64 (rdHd s).force)) rfl (by simpa[argsOf,D.arg,Opd.ev,v4]using hF),hE.push ok113h 5 19 rfl rfl,by simp[rowsEh,cnt113h,row113h,did,hdi,d3]⟩
  |6,_=>
   have v1:find e 15= .v (.int .i64 (rdHd s).file):=hE.1 1 15 rfl (hdep 1 (by decide)) (by intro c hc;simp[cs113h]at hc);have v3:find e 17= .v (.int .i64 (rdHd s).state):=hE.1 3 17 rfl (hdep 3 (by decide)) (by intro c hc;simp[cs113h]at hc);have v5:find e 19= .v (.int .i64 (rdHd s).force):=hE.1 5 19 rfl (hdep 5 (by decide)) (by intro c hc;simp[cs113h]at hc);exact⟨_,pureStep (v:=hd113 (rdHd s)) rfl (by simp[PI.val,fillD,Opd.ev,v1,v3,v5,D.cells?,D.copy,putL,hd113]),hE.push ok113h 6 20 rfl rfl,by simp[rowsEh,cnt113h,row113h,did]⟩
  |7,_=>
   have d8:d 8=false:=hup 8 (by decide) (by decide);refine⟨_,stepStep (s1:=⟨(6,.ref 4 0)::e,rowsEh C0 C1 s (did d 7)⟩) rfl ?_,hE.push ok113h 7 6 rfl rfl,rfl⟩;simp[AI.step,rowsEh,cnt113h,row113h,did,hdi,d8]
  |8,_=>
   have v6:find e 20=hd113 (rdHd s):=hE.1 6 20 rfl (hdep 6 (by decide)) (by intro c hc;simp[cs113h]at hc);have v7:find e 6= .ref 4 0:=hE.1 7 6 rfl (hdep 7 (by decide)) (by intro c hc;simp[cs113h]at hc);have d7:d 7=true:=hdep 7 (by decide);refine⟨_,stepStep (s1:=⟨e,rowsEh C0 C1 s (did d 8)⟩) rfl ?_,hE.step ok113h 8 (λk hk=>by simp[ns113h]at hk) (λk _ _=>rfl),rfl⟩;simp[AI.step,Opd.ev,v6,v7,rowsEh,cnt113h,row113h,did,hdi,d7,hd113,D.copy,D.cells?,putL,D.toRow]
  |i+9,hi=>omega
 ·rintro d ⟨e,h⟩ hall ⟨hE,hh⟩;simp only at hE hh;subst hh;have e1:rowsEh C0 C1 s d=rowsEh C0 C1 s (λ_=>true):=by
   simp[rowsEh,cnt113h,row113h,hall 5 (by decide),hall 7 (by decide),hall 8 (by decide)]
  rw[e1];exact hK e hE.2 (hE.1 7 6 rfl (hall 7 (by decide)) (by intro c hc;simp[cs113h]at hc))
 ·refine⟨⟨λj k' hj hd=>?_,hse⟩,rfl⟩;simp only[decide_eq_true_eq]at hd;have:ns113h[j]?=none:=List.getElem?_eq_none (by simpa[ns113h]using hd);rw[this]at hj;cases hj
theorem d113ae (C0 C1:Row) (f st fo cl y1 y2 y3:D) (s:RS) (hB:s.B) (n:Nat) (hn:n≤2^30):
  awp Tryz.prog GLx (.loop (lG 11 0)) (λe zz=>e= .exit 0∧zz=⟨[(1,.ref 0 0),(2,.ref 1 0),(4,.ref 3 0),(5,.func 42 [.ref 3 0,.ref 0 0]),(6,.ref 4 0),(33,.v (.int .i64 n)),(34,.v (.int .i64 n)),(35,.v (.bool false))],[C0,C1,(recs 4 rdDat n s).2.row,.cells [.ref 2 0],.cells [f,st,fo,cl,.own 80 4 ((recs 4 rdDat n s).1.map Dat.V),y1,y2,y3]]⟩)
   ⟨[(1,.ref 0 0),(2,.ref 1 0),(4,.ref 3 0),(5,.func 42 [.ref 3 0,.ref 0 0]),(6,.ref 4 0),(33,.v (.int .i64 n)),(34,.v (.int .i64 0))],[C0,C1,s.row,.cells [.ref 2 0],.cells [f,st,fo,cl,.own 80 4 [],y1,y2,y3]]⟩:=by
 refine awp_loop_nat0 n (λk=>⟨[(1,.ref 0 0),(2,.ref 1 0),(4,.ref 3 0),(5,.func 42 [.ref 3 0,.ref 0 0]),(6,.ref 4 0),(33,.v (.int .i64 n)),(34,.v (.int .i64 k))],[C0,C1,(recs 4 rdDat k s).2.row,.cells [.ref 2 0],.cells [f,st,fo,cl,.own 80 4 ((recs 4 rdDat k s).1.map Dat.V),y1,y2,y3]]⟩) (by simp[recs]) ?_;intro k hk;rw[c113l0_eq];simp only[awp_seq,awp_reg,awp_block,awp_cond,Zge 11 9];by_cases h1:k <n
 ·have hw:IntKind.i64.wrap ((k:Int)+1)=k+1:=wrap_i64 (by omega) (by omega);have hL:=recs_len 4 rdDat k s;have hS:=hB.suf (recs_suf 4 rdDat k s);have hA:=recs_add 4 rdDat k s;generalize recs 4 rdDat k s=R at*;simp[h1,awp_skip];rw[awp_regA];refine atok_mono _ (λs hs=>⟨s,.inl rfl,hs⟩) ?_;refine l113ae C0 C1 f st fo cl y1 y2 y3 R.2 hS (R.1.map Dat.V) (by simp;omega) n k (λe he=>?_) _ (by
   intro k' hk';simp only[bn113a,List.mem_cons,List.not_mem_nil,or_false]at hk';rcases hk' with rfl|rfl|rfl|rfl|rfl|rfl|rfl<;>rfl)
  have q:∀k'∈bn113a,find e k'=bv113 n k k':=he;simp only[bn113a,List.forall_mem_cons,List.not_mem_nil,false_implies,implies_true,and_true]at q;obtain⟨q0,q1,q2,q3,q4,q5,q6⟩:=q;simp only[q0,q1,q2,q3,q4,q5,q6,normE,findF_eq,Zge 11 11];simp[bv113,hw,rowsEa,cnt113a,cell113a,hA]
 ·have:k=n:=by omega
  subst this;simp[awp_exit]
theorem d113be (C0 C1:Row) (f st fo cl y1 y2 y3:D) (s:RS) (hB:s.B) (n:Nat) (hn:n≤2^30):
  awp Tryz.prog GLx (.loop (lG 11 1)) (λe zz=>e= .exit 2∧zz=⟨[(1,.ref 0 0),(2,.ref 1 0),(4,.ref 3 0),(5,.func 42 [.ref 3 0,.ref 0 0]),(6,.ref 4 0),(56,.v (.int .i64 n)),(57,.v (.int .i64 n)),(58,.v (.bool false))],[C0,C1,(recs 3 rdOwn n s).2.row,.cells [.ref 2 0],.cells [f,st,fo,cl,y1,y2,.own 82 3 ((recs 3 rdOwn n s).1.map Own.V),y3]]⟩)
   ⟨[(1,.ref 0 0),(2,.ref 1 0),(4,.ref 3 0),(5,.func 42 [.ref 3 0,.ref 0 0]),(6,.ref 4 0),(56,.v (.int .i64 n)),(57,.v (.int .i64 0))],[C0,C1,s.row,.cells [.ref 2 0],.cells [f,st,fo,cl,y1,y2,.own 82 3 [],y3]]⟩:=by
 refine awp_loop_nat0 n (λk=>⟨[(1,.ref 0 0),(2,.ref 1 0),(4,.ref 3 0),(5,.func 42 [.ref 3 0,.ref 0 0]),(6,.ref 4 0),(56,.v (.int .i64 n)),(57,.v (.int .i64 k))],[C0,C1,(recs 3 rdOwn k s).2.row,.cells [.ref 2 0],.cells [f,st,fo,cl,y1,y2,.own 82 3 ((recs 3 rdOwn k s).1.map Own.V),y3]]⟩) (by simp[recs]) ?_;intro k hk;rw[c113l1_eq];simp only[awp_seq,awp_reg,awp_block,awp_cond,Zge 11 14];by_cases h1:k <n
 ·have hw:IntKind.i64.wrap ((k:Int)+1)=k+1:=wrap_i64 (by omega) (by omega);have hL:=recs_len 3 rdOwn k s;have hS:=hB.suf (recs_suf 3 rdOwn k s);have hA:=recs_add 3 rdOwn k s;generalize recs 3 rdOwn k s=R at*;simp[h1,awp_skip];rw[awp_regA];refine atok_mono _ (λs hs=>⟨s,.inl rfl,hs⟩) ?_;refine l113be C0 C1 f st fo cl y1 y2 y3 R.2 hS (R.1.map Own.V) (by simp;omega) n k (λe he=>?_) _ (by
   intro k' hk';simp only[bn113b,List.mem_cons,List.not_mem_nil,or_false]at hk';rcases hk' with rfl|rfl|rfl|rfl|rfl|rfl|rfl<;>rfl)
  have q:∀k'∈bn113b,find e k'=bv113b n k k':=he;simp only[bn113b,List.forall_mem_cons,List.not_mem_nil,false_implies,implies_true,and_true]at q;obtain⟨q0,q1,q2,q3,q4,q5,q6⟩:=q;simp only[q0,q1,q2,q3,q4,q5,q6,normE,findF_eq,Zge 11 16];simp[bv113b,hw,rowsEb,cnt113b,cell113b,hA]
 ·have:k=n:=by omega
  subst this;simp[awp_exit]
theorem d113ce (C0 C1:Row) (f st fo cl y1 y2 y3:D) (s:RS) (hB:s.B) (n:Nat) (hn:n≤2^30):
  awp Tryz.prog GLx (.loop (lG 11 2)) (λe zz=>e= .exit 4∧zz=⟨[(1,.ref 0 0),(2,.ref 1 0),(4,.ref 3 0),(6,.ref 4 0),(74,.v (.int .i64 n)),(75,.v (.int .i64 n)),(76,.v (.bool false))],[C0,C1,(recs 4 rdLic n s).2.row,.cells [.ref 2 0],.cells [f,st,fo,cl,y1,y2,y3,.own 83 4 ((recs 4 rdLic n s).1.map Lic.V)]]⟩)
   ⟨[(1,.ref 0 0),(2,.ref 1 0),(4,.ref 3 0),(6,.ref 4 0),(74,.v (.int .i64 n)),(75,.v (.int .i64 0))],[C0,C1,s.row,.cells [.ref 2 0],.cells [f,st,fo,cl,y1,y2,y3,.own 83 4 []]]⟩:=by
 refine awp_loop_nat0 n (λk=>⟨[(1,.ref 0 0),(2,.ref 1 0),(4,.ref 3 0),(6,.ref 4 0),(74,.v (.int .i64 n)),(75,.v (.int .i64 k))],[C0,C1,(recs 4 rdLic k s).2.row,.cells [.ref 2 0],.cells [f,st,fo,cl,y1,y2,y3,.own 83 4 ((recs 4 rdLic k s).1.map Lic.V)]]⟩) (by simp[recs]) ?_;intro k hk;rw[c113l2_eq];simp only[awp_seq,awp_reg,awp_block,awp_cond,Zge 11 18];by_cases h1:k <n
 ·have hw:IntKind.i64.wrap ((k:Int)+1)=k+1:=wrap_i64 (by omega) (by omega);have hL:=recs_len 4 rdLic k s;have hS:=hB.suf (recs_suf 4 rdLic k s);have hA:=recs_add 4 rdLic k s;generalize recs 4 rdLic k s=R at*;simp[h1,awp_skip];rw[awp_regA];refine atok_mono _ (λs hs=>⟨s,.inl rfl,hs⟩) ?_;refine l113ce C0 C1 f st fo cl y1 y2 y3 R.2 hS (R.1.map Lic.V) (by simp;omega) n k (λe he=>?_) _ (by
   intro k' hk';simp only[bn113c,List.mem_cons,List.not_mem_nil,or_false]at hk';rcases hk' with rfl|rfl|rfl|rfl|rfl|rfl<;>rfl)
  have q:∀k'∈bn113c,find e k'=bv113c n k k':=he;simp only[bn113c,List.forall_mem_cons,List.not_mem_nil,false_implies,implies_true,and_true]at q;obtain⟨q0,q1,q2,q3,q4,q5⟩:=q;simp only[q0,q1,q2,q3,q4,q5,normE,findF_eq,Zge 11 20];simp[bv113c,hw,rowsEc,cnt113c,cell113c,hA]
 ·have:k=n:=by omega
  subst this;simp[awp_exit]
theorem byte_inj:∀ {xs ys:List Int},(∀x∈xs,0≤x∧x <256)→(∀x∈ys,0≤x∧x <256)→(xs.map (λn=>UInt8.ofNat n.toNat)=ys.map (λn=>UInt8.ofNat n.toNat)↔xs=ys)
 |[],[],_,_=>by simp
 |[],_::_,_,_=>by simp
 |_::_,[],_,_=>by simp
 |x::xs,y::ys,hx,hy=>by
  have h1:=hx x (by simp);have h2:=hy y (by simp);have ih:=byte_inj (xs:=xs) (ys:=ys) (λz hz=>hx z (by simp[hz])) (λz hz=>hy z (by simp[hz]));simp only[List.map_cons,List.cons.injEq,ih]
  constructor
  ·rintro⟨h3,h4⟩;refine⟨?_,h4⟩;have h5:=congrArg UInt8.toNat h3;rw[UInt8.toNat_ofNat_of_lt' (by simp[UInt8.size];omega),UInt8.toNat_ofNat_of_lt' (by simp[UInt8.size];omega)]at h5;omega
  ·rintro⟨rfl,h4⟩;exact⟨rfl,h4⟩
def noR:Rgt:=⟨0,0,0,[],[],[],[],[]⟩
def optR:Option Rgt→List V
 |some r=>[r.V,.int .i64 0]
 |none=>[noR.V,.int .i64 2]
theorem p113e (b:List Int) (hB:∀x∈b,0≤x∧x <256) (hl:b.length≤2^30):PSp Tryz.prog GLx 11 [nums .u8 b] (optR (dR b)):=by
 refine psp_of_awp (Zkk 11) rfl ?_;have b0:RS.B (b,0):=hB;obtain⟨G,hG⟩:∃G,optR (dR b)=G:=⟨_,rfl⟩;have hok:=λ(cl:List Clm) (hcl:dClms (rRaw (rdS (b,0) 3)).1=some cl) c hc N1 n1 ds hds bad hbad N2 n2 os hos N3 n3 ls hls=>dR_fit hB hl hcl (c:=c) hc (N1:=N1) n1 (ds:=ds) hds (bad:=bad) hbad (N2:=N2) n2 (os:=os) hos (N3:=N3) n3 (ls:=ls) hls;rw[hG];have hd:=hG;unfold dR at hd;simp only at hd;have b3:=rdS_B b0 3;have l3:=(rdS_suf (b,0) 3).length_le;simp only at l3;have i0:=rdV_i64 b0 0;have i1:=rdV_i64 b0 1;have i2:=rdV_i64 b0 2;obtain⟨C0,hC0⟩:∃C,C=Row.cells [.v (nums .u8 b)]:=⟨_,rfl⟩;obtain⟨C1,hC1⟩:∃C,C=Row.cells [.v (.int .i64 0),.v (.int .i64 0),.v (.int .i64 0),.own 72 5 [],.own 80 4 [],.own 3 1 [],.own 82 3 [],.own 83 4 []]:=⟨_,rfl⟩;have hrow:([C0,C1,rdr b,.cells [.ref 2 0]]:List Row)=rowsEh C0 C1 (b,0) (λj=>decide (9≤j)):=rfl;have hrow2:rowsEh C0 C1 (b,0) (λ_=>true)=[C0,C1,(rdS (b,0) 3).row,.cells [.ref 2 0],.cells [.v (.int .i64 (rdV (b,0) 0)),.v (.int .i64 (rdV (b,0) 1)),.v (.int .i64 (rdV (b,0) 2)),.own 72 5 [],.own 80 4 [],.own 3 1 [],.own 82 3 [],.own 83 4 []]]:=rfl;simp only[c113_eq,awp_seq,awp_reg,Zge 11 0,Zge 11 1,Zge 11 2,entry];simp;refine⟨_,_,(p44 b (by omega) _),?_⟩;simp[putL];rw[awp_regA];refine atok_mono _ (λs hs=>⟨s,.inl rfl,hs⟩) ?_;rw[←hC0,←hC1,hrow];refine l113he C0 C1 (b,0) b0 (λe he h6=>?_) _ (by
  intro k' hk';simp only[bn113h,List.mem_cons,List.not_mem_nil,or_false]at hk';rcases hk' with rfl|rfl|rfl|rfl<;>rfl)
 simp only[bn113h,List.forall_mem_cons,List.not_mem_nil,false_implies,implies_true,and_true,bv113h]at he;obtain⟨f1,f2,f4,f5⟩:=he;simp only[normE,findF_eq,f1,f2,f4,f5,h6];rw[hrow2,c113T_eq];generalize rdV (b,0) 0=v0 at*;generalize rdV (b,0) 1=v1 at*;generalize rdV (b,0) 2=v2 at*;generalize rdS (b,0) 3=s3 at*;have q112:=λJ=>p112e s3 b3 (by omega) ([C0,C1,s3.row,.cells [.ref 2 0]]++J) 2 rfl;have b4:=b3.suf (rRaw_suf s3);have l4:=(rRaw_suf s3).length_le;have q205:=(p205e (rRaw s3).1 (rRaw_B b3) (by have:=rRaw_len s3;omega)).fsp;have hcc:rRaw s3=((rRaw s3).1,(rRaw s3).2):=rfl;generalize hraw:(rRaw s3).1=raw at*;generalize hs4:(rRaw s3).2=s4 at*;simp only[awp_seq,awp_reg,awp_block,awp_cond,Zge 11 4];simp;refine⟨_,_,(q112 [_]),?_⟩;simp
 replace hok:=λcl hcl=>hok cl hcl (raw,s4) hcc
 cases hcl:dClms raw with
 |none=>
  rw[hcl]at q205 hd;simp[optC]at q205;simp[optR,noR,Rgt.V,Rgt.cs,nums]at hd;subst hd;refine⟨_,_,q205 _,?_⟩;simp;simp only[Zge 11 5];simp;simp only[Zge 11 6];simp[hC1,putL,D.vs?,D.v?,awp_ret,Zgr 11,resVs]
 |some cl=>
  rw[hcl]at q205 hd;simp[optC]at q205;simp only[Option.bind_some]at hd;refine⟨_,_,q205 _,?_⟩;simp;simp only[Zge 11 5];simp[awp_skip];simp only[Zge 11 7];simp[putL,D.toRow];simp only[Zge 11 8];simp;have m:=λh s hB a c d=>p204e h 3 0 2 (b.map (.int .u8)) s hB a c d (by decide);simp only[List.length_map]at m;obtain⟨N1,hN1⟩:∃N:Nat,manyI b.length s4=N:=⟨(manyI b.length s4).toNat,by have:=manyI_b b.length s4;omega⟩;have n1:=manyI_b b.length s4;have b5:=b4.suf (rInt_suf s4);have l5:=(rInt_suf s4).length_le
  replace hok:=hok cl hcl
  have m1:=m [C0,C1,s4.row,.cells [.ref 2 0],.cells [.v (.int .i64 v0),.v (.int .i64 v1),.v (.int .i64 v2),.v (.list (cl.map Clm.V)),.own 80 4 [],.own 3 1 [],.own 82 3 [],.own 83 4 []]] s4 b4 rfl (by rw[hC0];rfl) rfl
  replace hok:=hok N1 hN1
  rw[hN1]at m1 n1 hd;rw[Int.toNat_natCast]at hd;simp only[List.set_cons_succ,List.set_cons_zero]at m1;refine⟨_,_,m1,?_⟩;simp only at hok;generalize (rInt s4).2=s5 at*;have hD:=d113ae C0 C1 (.v (.int .i64 v0)) (.v (.int .i64 v1)) (.v (.int .i64 v2)) (.v (.list (cl.map Clm.V))) (.own 3 1 []) (.own 82 3 []) (.own 83 4 []) s5 b5 N1 (by omega);have b6:=b5.suf (recs_suf 4 rdDat N1 s5);have l6:=(recs_suf 4 rdDat N1 s5).length_le
  replace hok:=hok (recs 4 rdDat N1 s5) rfl (rInts (recs 4 rdDat N1 s5).2) rfl
  generalize recs 4 rdDat N1 s5=ds at*;refine awp_to hD ?_;simp only[Zge 11 12];simp;have q114:=λX=>p114e ds.2 b6 (by omega) [C0,C1,ds.2.row,.cells [.ref 2 0],X] 2 rfl;have b7:=b6.suf (rInts_suf ds.2);have l7:=(rInts_suf ds.2).length_le;simp only[List.set_cons_succ,List.set_cons_zero]at q114;generalize rInts ds.2=bad at*;refine⟨_,_,(q114 _),?_⟩;simp;simp only[Zge 11 13];simp;obtain⟨N2,hN2⟩:∃N:Nat,manyI b.length bad.2=N:=⟨(manyI b.length bad.2).toNat,by have:=manyI_b b.length bad.2;omega⟩;have n2:=manyI_b b.length bad.2;have b8:=b7.suf (rInt_suf bad.2);have l8:=(rInt_suf bad.2).length_le;have m2:=m [C0,C1,bad.2.row,.cells [.ref 2 0],.cells [.v (.int .i64 v0),.v (.int .i64 v1),.v (.int .i64 v2),.v (.list (cl.map Clm.V)),.own 80 4 (ds.1.map Dat.V),.own 3 1 (bad.1.map (.int .i64)),.own 82 3 [],.own 83 4 []]] bad.2 b7 rfl (by rw[hC0];rfl) rfl
  replace hok:=hok N2 hN2 (recs 3 rdOwn N2 (rInt bad.2).2) rfl
  rw[hN2]at m2 n2 hd;rw[Int.toNat_natCast]at hd;simp only[List.set_cons_succ,List.set_cons_zero]at m2;refine⟨_,_,m2,?_⟩;have hO:=d113be C0 C1 (.v (.int .i64 v0)) (.v (.int .i64 v1)) (.v (.int .i64 v2)) (.v (.list (cl.map Clm.V))) (.own 80 4 (ds.1.map Dat.V)) (.own 3 1 (bad.1.map (.int .i64))) (.own 83 4 []) (rInt bad.2).2 b8 N2 (by omega);have b9:=b8.suf (recs_suf 3 rdOwn N2 (rInt bad.2).2);have l9:=(recs_suf 3 rdOwn N2 (rInt bad.2).2).length_le;generalize recs 3 rdOwn N2 (rInt bad.2).2=os at*;generalize (rInt bad.2).2=s8 at*;refine awp_to hO ?_;simp only[Zge 11 17];simp;obtain⟨N3,hN3⟩:∃N:Nat,manyI b.length os.2=N:=⟨(manyI b.length os.2).toNat,by have:=manyI_b b.length os.2;omega⟩;have n3:=manyI_b b.length os.2;have b10:=b9.suf (rInt_suf os.2);have l10:=(rInt_suf os.2).length_le;have m3:=m [C0,C1,os.2.row,.cells [.ref 2 0],.cells [.v (.int .i64 v0),.v (.int .i64 v1),.v (.int .i64 v2),.v (.list (cl.map Clm.V)),.own 80 4 (ds.1.map Dat.V),.own 3 1 (bad.1.map (.int .i64)),.own 82 3 (os.1.map Own.V),.own 83 4 []]] os.2 b9 rfl (by rw[hC0];rfl) rfl
  replace hok:=hok N3 hN3 (recs 4 rdLic N3 (rInt os.2).2) rfl
  rw[hN3]at m3 n3 hd;rw[Int.toNat_natCast]at hd;simp only[List.set_cons_succ,List.set_cons_zero]at m3;refine⟨_,_,m3,?_⟩;have hL:=d113ce C0 C1 (.v (.int .i64 v0)) (.v (.int .i64 v1)) (.v (.int .i64 v2)) (.v (.list (cl.map Clm.V))) (.own 80 4 (ds.1.map Dat.V)) (.own 3 1 (bad.1.map (.int .i64))) (.own 82 3 (os.1.map Own.V)) (rInt os.2).2 b10 N3 (by omega);generalize recs 4 rdLic N3 (rInt os.2).2=ls at*;generalize (rInt os.2).2=s10 at*;refine awp_to hL ?_;simp only[Zge 11 21];simp;have hend:=λX=>p116e ls.2 [C0,C1,ls.2.row,.cells [.ref 2 0],X] 2 rfl;refine⟨_,_,(hend _),?_⟩;by_cases hz:rEnd ls.2=0
  ·obtain⟨r,hr⟩:∃r:Rgt,r=⟨v0,v1,v2,cl,ds.1,bad.1,os.1,ls.1⟩:=⟨_,rfl⟩;rw[←hr]at hok hd;have q51:=(p51 r hok).fsp;have hV:r.V= .agg [.int .i64 v0,.int .i64 v1,.int .i64 v2,.list (cl.map Clm.V),.list (ds.1.map Dat.V),.list (bad.1.map (.int .i64)),.list (os.1.map Own.V),.list (ls.1.map Lic.V)]:=by rw[hr];rfl
   rw[hV]at q51;have hBE:formedR r=true→∀x∈encR r,0≤x∧x <256:=λ_=>isB.encR r hok;generalize encR r=E at*;generalize formedR r=fm at*;simp[hz];simp only[Zge 11 23];simp[D.vs?,D.v?];refine⟨_,_,q51 _,?_⟩;simp;simp only[Zge 11 24];cases fm with
   |true=>
    have s1:=bytesOf_nums E (hBE rfl);have s2:=bytesOf_nums b hB;have s3:=byte_inj (hBE rfl) hB;simp[hC0,nums,s1,s2,s3];by_cases hb:E=b
    ·simp[hz,hb,optR,hV]at hd;subst hd;simp[hb];simp only[Zge 11 26];simp[hC1,putL,D.toRow,D.vs?,D.v?,awp_ret,Zgr 11,resVs]
    ·simp[hz,hb,optR,noR,Rgt.V,Rgt.cs,nums]at hd;subst hd;simp[hb];simp only[Zge 11 25];simp[hC1,putL,D.vs?,D.v?,awp_ret,Zgr 11,resVs]
   |false=>
    simp[hz,optR,noR,Rgt.V,Rgt.cs,nums]at hd;subst hd;simp;simp only[Zge 11 25];simp[hC1,putL,D.vs?,D.v?,awp_ret,Zgr 11,resVs]
  ·simp[hz,optR,noR,Rgt.V,Rgt.cs,nums]at hd;subst hd;simp[hz];simp only[Zge 11 22];simp[hC1,putL,D.vs?,D.v?,awp_ret,Zgr 11,resVs]
end Go.Va
