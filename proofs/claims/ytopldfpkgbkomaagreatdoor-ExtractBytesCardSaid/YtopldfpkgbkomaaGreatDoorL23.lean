/- Laws that ExtractBytes leans on, part 23. No condition of its own. -/
import Derived.Test.YtopldfpkgbkomaaGreatDoorL19
import Derived.Test.YtopldfpkgbkomaaGreatDoorL20
set_option linter.all false
set_option maxRecDepth 100000
set_option maxHeartbeats 4000000
noncomputable section
namespace Go.Va
open Go.Proofs
def Tz:AT:=match la 113 with| .seq _ (.seq _ (.seq _ (.seq (.regA _ _ _ t) _)))=>t|_=> .done
def Vf:List (List Nat):=match la 113 with| .seq _ (.seq _ (.seq _ (.seq (.regA _ _ c _) _)))=>c|_=>[]
def ZB:AC:=match la 113 with| .seq _ (.seq _ (.seq _ (.seq _ t)))=>t|_=> .skip
theorem Xm:(gA 113)= .seq (.reg (oG 113 0) [1,2]) (.seq (.reg (oG 113 1) [1,2,4]) (.seq (.reg (oG 113 2) [1,2,4,5]) (.seq (.regA (oG 113 3) [1,2,4,5,6] Vf Tz) ZB))):=(At 113 :)
def Vy:List GI:=lo 113 3
theorem af:oG 113 3=Vy:=(AA 113 3 :)
theorem SY:Tz.chk Vy Vf (List.range 9)=true:=by kernel_rfl
def Li:List (Option Nat):=[some 14,some 15,some 16,some 17,some 18,some 19,some 20,some 6,none]
def F2:List (Option Nat):=[none,none,none,none,none,none,none,none,none]
def Iy:List Nat:=[1,2,4,5]
theorem Gk:Uh Li Iy=true:=by kernel_rfl
def Pd (r:Rgt):D:= .agg [.v (.int .i64 r.file),.v (.int .i64 r.state),.v (.int .i64 r.force),.nil 130 5,.nil 88 4,.nil 3 1,.nil 246 3,.nil 247 4]
def ZK (r:Rgt) (j:Nat):D:=
 match j with
 |0|2|4=> .ref 2 0
 |1=> .v (.int .i64 r.file)
 |3=> .v (.int .i64 r.state)
 |5=> .v (.int .i64 r.force)
 |6=>Pd r
 |7=> .ref 4 0
 |_=> .any
def DU (d:Nat→Bool):Nat:=if d 5 then 3 else (if d 3 then 2 else (if d 1 then 1 else 0))
def EC (r:Rgt) (d:Nat→Bool):List Row:=
 if d 7 then (if d 8 then [.cells [.v (.int .i64 r.file),.v (.int .i64 r.state),.v (.int .i64 r.force),.own 130 5 [],.own 88 4 [],.own 3 1 [],.own 246 3 [],.own 247 4 []]]
  else [.cells [.v (.int .i64 0),.v (.int .i64 0),.v (.int .i64 0),.own 130 5 [],.own 88 4 [],.own 3 1 [],.own 246 3 [],.own 247 4 []]]) else []
def OK (j:Nat):D:=
 match j with
 |1=> .ref 0 0
 |2=> .ref 1 0
 |4=> .ref 3 0
 |5=> .func 204 [.ref 3 0,.ref 0 0]
 |_=> .any
open Go.Proofs
theorem Vz:ZB=(.seq (.reg (oG 113 4) [1,2,4,5,6,7,8]) (.seq (.seq (.reg (oG 113 5) [1,2,4,5,6,7,28]) (.cond (.t 28 false) (.seq (.reg (oG 113 6) [2,3]) .ret) .skip)) (.seq (.reg (oG 113 7) [1,2,4,5,6]) (.seq (.seq (.reg (oG 113 8) [1,2,4,5,6,33,34]) (.block 0 (.loop (lG 113 0)))) (.seq (.reg (oG 113 12) [1,2,4,5,6]) (.seq (.seq (.reg (oG 113 13) [1,2,4,5,6,56,57]) (.block 2 (.loop (lG 113 1)))) (.seq (.seq (.reg (oG 113 17) [1,2,4,6,74,75]) (.block 4 (.loop (lG 113 2)))) (.seq (.seq (.reg (oG 113 21) [1,2,6,94]) (.cond (.t 94 false) (.seq (.reg (oG 113 22) [2,3]) .ret) .skip)) (.seq (.seq (.reg (oG 113 23) [1,2,6,9,10]) (.seq (.reg (oG 113 24) [2,6,109]) (.cond (.t 109 false) (.seq (.reg (oG 113 25) [2,3]) .ret) .skip))) (.seq (.reg (oG 113 26) [2,3]) .ret)))))))))):=rfl
theorem Q0 (x:Dat):1≤(CE x).length:=by
 have:=D3 9 (Fy x.cl);simp only[CE,qG,AN,CY];omega
theorem Qy (x:Own):1≤(CB x).length:=by
 have:=D3 9 (Fy x.party);simp only[CB,qG,AN,CY];omega
theorem Qz (x:Lic):1≤(CC x).length:=by
 have:=D3 9 (Fy x.fr);simp only[CC,qG,AN,CY];omega
theorem GR {α:Type} {f:α→List Int} (hf:∀x,1≤(f x).length):∀l:List α,l.length≤(l.flatMap f).length
 |[]=>by simp
 |x::l=>by
  have:=hf x;have:=GR hf l;simp only[qN,qG,qT];omega
def Tl:Nat→RS→Option (List Clm×RS)
 |0,s=>some ([],s)
 |n+1,s=>(Xb (Bl (Am s).2).1).bind λf=>(Tl n (Bl (Am s).2).2).map λy=>(⟨(Am s).1,f⟩::y.1,y.2)
def Hz (b:List Int):Option (List Clm):=
 let n:=Ad (b,0)
 if n.1 <0∨32 <n.1 then none else (Tl n.1.toNat n.2).bind λy=>if Fk y.2≠0 then none else if CV y.1=0∧A8 y.1=b then some y.1 else none
def dR (b:List Int):Option Rgt:=
 let c:=Bl (Bv (b,0) 3)
 (Hz c.1).bind λcl=>
  let ds:=BX 4 BP (CI b.length c.2).toNat (Ad c.2).2
  let bad:=Am ds.2
  let os:=BX 3 Bf (CI b.length bad.2).toNat (Ad bad.2).2
  let ls:=BX 4 Bp (CI b.length os.2).toNat (Ad os.2).2
  if Fk ls.2≠0 then none else
   let r:Rgt:=⟨Cb (b,0) 0,Cb (b,0) 1,Cb (b,0) 2,cl,ds.1,bad.1,os.1,ls.1⟩
   if Ag r=true∧Bg r=b then some r else none
theorem Vb:∀(l:List Clm) (rest:List Int),(∀c∈l,c.ok∧Bt c.body=0∧(By c.body).length≤2^60)→Tl l.length (l.flatMap BT++rest,0)=some (l,(rest,0))
 |[],rest,_=>rfl
 |c::l,rest,h=>by
  obtain⟨h1,h2,h3⟩:=h c (by simp);have h4:=h1.2.1;have e:(c::l).flatMap BT++rest=Ah c.refs++(AY (By c.body)++(l.flatMap BT++rest)):=by simp[BT]
  rw[e,qT,Tl,Hc h1.1 (by omega),IJ h3,au h1.2.2 h2,Vb l rest λy hy=>h y (by simp[hy])];rfl
theorem VZ {l:List Clm} (hl:∀c∈l,c.ok) (hz:CV l=0) (hb:(A8 l).length≤2^60):Hz (A8 l)=some l:=by
 have hall:=NP hz;have h32:l.length≤32:=by
  unfold CV at hz;split at hz
  ·cases hz
  ·omega
 have h:=Vb l [] λc hc=>⟨hl c hc,hall c hc,qo (OF hc) hb⟩;rw[sI]at h;unfold Hz;have e:Ad (A8 l,0)=((l.length:Int),(l.flatMap BT,0)):=BC (by unfold i64;omega) _;simp only[e];rw[if_neg (by omega),qt,h];simp only[qp];rw[if_neg (by simp[Fk]),if_pos ⟨hz,trivial⟩]
theorem Q4:∀(n:Nat) (s:RS) (y:List Clm×RS),s.B→s.1.length≤2^40→Tl n s=some y→(∀c∈y.1,c.ok∧(BT c).length≤11*s.1.length+20)∧y.2.1 <:+ s.1∧y.1.length=n
 |0,s,y,_,_,h=>by
  simp only[Tl,qF]at h;subst h;exact⟨λc hc=>(qn hc).elim,List.suffix_refl _,rfl⟩
 |n+1,s,y,hB,hl,h=>by
  rw[Tl]at h;obtain⟨i1,i2⟩:=GJ s hB;have bs:=hB.suf (BN s);have hr:=DZ (Am s).2;have hs:=(BN s).length_le;have hs2:=(CL (Am s).2).length_le;obtain⟨f,hf,h⟩:=sK.1 h;obtain⟨y',hy,rfl⟩:=qQ.1 h;obtain⟨f1,f2,f3⟩:=ar (FU bs) hf;obtain⟨k1,k2,k3⟩:=Q4 n _ y' (bs.suf (CL _)) (by omega) hy;refine⟨λc hc=>?_,k2.trans ((CL _).trans (BN s)),by simp[k3]⟩;rcases qL.1 hc with rfl|hc
  ·refine⟨⟨i2,by simp only;omega,f1⟩,?_⟩;have g1:=Au (Am s).1;have g2:=Aw ((Am s).1.length:Int);have g3:=Aw ((By f).length:Int);simp only[BT,Ah,AY,qG];rw[f3]at g3 ⊢;omega
  ·obtain⟨q1,q2⟩:=k1 c hc;exact⟨q1,by omega⟩
theorem EJ {α:Type} {f:α→List Int} {m:Nat}:∀l:List α,(∀x∈l,(f x).length≤m)→(l.flatMap f).length≤m*l.length
 |[],_=>by simp
 |x::l,h=>by
  have h1:=h x (by simp);have h2:=EJ l λy hy=>h y (by simp[hy]);simp only[qN,qG,qT,Nat.mul_add];omega
theorem VY {b:List Int} {l:List Clm} (hB:∀x∈b,0≤x∧x <256) (hl:b.length≤2^30) (h:Hz b=some l):(∀c∈l,c.ok)∧CV l=0∧A8 l=b∧l.length≤32:=by
 unfold Hz at h;have hs:=(Af (b,0)).length_le;simp only at h;split at h
 ·cases h
 ·rename_i hn;obtain⟨y,hy,h⟩:=sK.1 h;obtain⟨k1,k2,k3⟩:=Q4 _ _ y (RS.B.suf (s:=(b,0)) hB (Af (b,0))) (by simp only at hs;omega) hy;split at h
  ·cases h
  ·split at h
   ·rename_i hc;simp only[qF]at h;subst h;exact⟨λc hc=>(k1 c hc).1,hc.1,hc.2,by omega⟩
   ·cases h
theorem Ht {r:Rgt} (h:Ag r=true):CV r.claims=0:=by
 unfold Ag at h;simp only[qI,beq_iff_eq]at h;exact h.1.1.1.1.1.1.2
theorem isB.encR (r:Rgt) (h:r.ok):isB (Go.Va.Bg r):=by
 have h1:=h.lc;have h2:=h.ld;have h3:=h.lb;have h4:=h.lo;have h5:=h.ll;have h6:=h.enc;unfold Go.Va.Bg;refine isB.app (isB.app (isB.app (isB.app (isB.app (isB.app (isB.app (isB.app (isB.app (isB.app ?_ ?_) ?_) ?_) ?_) ?_) ?_) ?_) ?_) ?_) ?_
 ·exact isB.encI h.file
 ·exact isB.encI h.state
 ·exact isB.encI h.force
 ·exact isB.encRaw (isB.encClms h.claims (by omega) (by omega)) (by omega)
 ·exact isB.encI (by unfold i64;omega)
 ·exact isB.flat λx hx=>((isB.encI (h.dates x hx).1).app (isB.encI (h.dates x hx).2.1)).app (isB.encI (h.dates x hx).2.2.1) |>.app (isB.encI (h.dates x hx).2.2.2)
 ·exact isB.encInts h.bad (by omega)
 ·exact isB.encI (by unfold i64;omega)
 ·exact isB.flat λx hx=>((isB.encI (h.owners x hx).1).app (isB.encI (h.owners x hx).2.1)).app (isB.encI (h.owners x hx).2.2)
 ·exact isB.encI (by unfold i64;omega)
 ·exact isB.flat λx hx=>((isB.encI (h.lics x hx).1).app (isB.encI (h.lics x hx).2.1)).app (isB.encI (h.lics x hx).2.2.1) |>.app (isB.encI (h.lics x hx).2.2.2)
theorem gM {r:Rgt} (hr:r.ok) (hf:Ag r=true) (hb:(Bg r).length≤2^50):dR (Bg r)=some r:=by
 have hb':=hb;simp only[Bg,AY,Ah,qG]at hb';have hdl:=GR Q0 r.dates;have hol:=GR Qy r.owners;have hll:=GR Qz r.lics;have h1:=hr.ld;have h2:=hr.lo;have h3:=hr.ll;have h4:=hr.lb;have h5:=hr.enc;obtain⟨L,hL⟩:∃L,(Bg r).length=L:=⟨_,rfl⟩;have hLe:=hL;simp only[Bg,AY,Ah,qG]at hLe;have hE:Bg r=AN r.file++(AN r.state++(AN r.force++(AY (A8 r.claims)++(AN r.dates.length++(r.dates.flatMap CE++(Ah r.bad++(AN r.owners.length++(r.owners.flatMap CB++(AN r.lics.length++(r.lics.flatMap CC++[])))))))))):=by simp[Bg]
 have z:∀n:Nat,n≤2^30→i64 (n:Int):=λn hn=>by unfold i64;omega
 obtain⟨e1,e2,e3,e5⟩:=Qe hr.file hr.state hr.force _ (congrArg (λl=>((l,0):RS)) hE);unfold dR;rw[hL];simp only[e1,e2,e3,e5,IJ (xs:=A8 r.claims) (by omega),VZ hr.claims (Ht hf) (by omega),BC (z _ h1),Hl (L:=L) (z _ h1) _ (by omega) (by omega),qt,
  II UR r.dates _ hr.dates,qp,Hc hr.bad (by omega),BC (z _ h2),Hl (L:=L) (z _ h2) _ (by omega) (by omega),II UN r.owners _ hr.owners,
  BC (z _ h3),Hl (L:=L) (z _ h3) _ (by omega) (by omega),II UP r.lics _ hr.lics]
 rw[if_neg (by simp[Fk]),if_pos ⟨hf,trivial⟩]
theorem VU {b:List Int} (hB:∀x∈b,0≤x∧x <256) (hl:b.length≤2^30) {cl:List Clm} (hcl:Hz (Bl (Bv (b,0) 3)).1=some cl) {c:List Int×RS} (hc:Bl (Bv (b,0) 3)=c) {N1:Nat} (n1:CI b.length c.2=N1) {ds:List Dat×RS} (hds:BX 4 BP N1 (Ad c.2).2=ds)
  {bad:List Int×RS} (hbad:Am ds.2=bad) {N2:Nat} (n2:CI b.length bad.2=N2) {os:List Own×RS} (hos:BX 3 Bf N2 (Ad bad.2).2=os) {N3:Nat} (n3:CI b.length os.2=N3) {ls:List Lic×RS} (hls:BX 4 Bp N3 (Ad os.2).2=ls):
  (Rgt.mk (Cb (b,0) 0) (Cb (b,0) 1) (Cb (b,0) 2) cl ds.1 bad.1 os.1 ls.1).ok:=by
 have b0:RS.B (b,0):=hB;have b3:=Ct b0 3;have l3:=(Gc (b,0) 3).length_le;have c1:=FU b3;have c2:=DZ (Bv (b,0) 3);have b4:=b3.suf (CL (Bv (b,0) 3));have l4:=(CL (Bv (b,0) 3)).length_le;rw[hc]at hcl c1 c2 b4 l4;simp only at l3;obtain⟨k1,k2,k3,k4⟩:=VY c1 (by omega) hcl;have m1:=DT b.length c.2;have b5:=b4.suf (Af c.2);have l5:=(Af c.2).length_le;have d1:=DY 4 BP N1 (Ad c.2).2;have d2:=GF (k:=4) (λs hs=>UQ hs) N1 (Ad c.2).2 b5;have b6:=b5.suf (Bk 4 BP N1 (Ad c.2).2);have l6:=(Bk 4 BP N1 (Ad c.2).2).length_le;rw[hds]at d1 d2 b6 l6;have g1:=GJ ds.2 b6;have b7:=b6.suf (BN ds.2);rw[hbad]at g1 b7;have m2:=DT b.length bad.2;have b8:=b7.suf (Af bad.2);have o1:=DY 3 Bf N2 (Ad bad.2).2;have o2:=GF (k:=3) (λs hs=>UM hs) N2 (Ad bad.2).2 b8;have b9:=b8.suf (Bk 3 Bf N2 (Ad bad.2).2);rw[hos]at o1 o2 b9;have m3:=DT b.length os.2;have b10:=b9.suf (Af os.2);have h1:=DY 4 Bp N3 (Ad os.2).2;have h2:=GF (k:=4) (λs hs=>UO hs) N3 (Ad os.2).2 b10;rw[hls]at h1 h2;exact⟨Be b0 0,Be b0 1,Be b0 2,k1,d2,g1.2,o2,h2,by simp only;omega,by simp only;omega,by simp only;omega,by simp only;omega,by simp only;omega,by simp only;rw[k3];omega⟩
theorem J5 (L:Nat) (s:RS):CI L s=((CI L s).toNat:Int):=by have:=DT L s;omega
theorem gL {b:List Int} {r:Rgt} (hB:∀x∈b,0≤x∧x <256) (hl:b.length≤2^30) (h:dR b=some r):r.ok∧Ag r=true∧Bg r=b:=by
 unfold dR at h;obtain⟨cl,hcl,h⟩:=sK.1 h;have hf:=VU hB hl hcl rfl (J5 _ _) rfl rfl (J5 _ _) rfl (J5 _ _) rfl;simp only at h;split at h
 ·cases h
 ·split at h
  ·rename_i hd;simp only[qF]at h;subst h;exact⟨hf,hd.1,hd.2⟩
  ·cases h
section
def Ju (s:RS):Rgt:=⟨Cb s 0,Cb s 1,Cb s 2,[],[],[],[],[]⟩
def BO (C0 C1:Row) (f st fo cl bad ow li:D) (s:RS) (ds:List V) (d:Nat→Bool):List Row:=
 [C0,C1,(Bv s (Cd d)).row,.cells [.ref 2 0],.cells [f,st,fo,cl,Cg (BP s) ds d,bad,ow,li]]
variable {K:St→Prop}
theorem Z8 (C0 C1:Row) (f st fo cl bad ow li:D) (s:RS) (hB:s.B) (ds:List V) (hds:ds.length≤2^30) (n k:Int)
  (hK:∀e,(∀k'∈F4,AF e k'=NQ n k k')→K ⟨e,BO C0 C1 f st fo cl bad ow li s ds (λ_=>true)⟩) (se:CH) (hse:∀k'∈F4,AF se k'=NQ n k k'):
  T4.ok Tryz.prog An (oG 113 10) K ⟨se,BO C0 C1 f st fo cl bad ow li s ds (λj=>decide (16≤j))⟩:=by
 rw[XZ];refine GU (λd zz=>EnvD Lj Dd F4 (Tn (BP s) ds) (NQ n k) d zz.e∧zz.h=BO C0 C1 f st fo cl bad ow li s ds d) Sb ?_ ?_ ?_
 ·rintro d i ⟨e,h⟩ hi hdi hdep hup ⟨hE,hh⟩;simp only at hE hh;subst hh;have b4:AF e 4= .ref 3 0:=hE.2 4 (by simp[F4]);have b6:AF e 6= .ref 4 0:=hE.2 6 (by simp[F4]);have ld:∀(i k':Nat),(i=2∧k'=38∨i=4∧k'=40∨i=7∧k'=43∨i=9∧k'=45)→d i=false→LB.getD i default=⟨none,.p k' (.load (.t 4 false) 1 false)⟩→∃s1,BW Tryz.prog An (LB.getD i default) ⟨e,BO C0 C1 f st fo cl bad ow li s ds d⟩ s1∧EnvD Lj Dd F4 (Tn (BP s) ds) (NQ n k) (Cj d i) s1.e∧s1.h=BO C0 C1 f st fo cl bad ow li s ds (Cj d i):=by
   intro i k' hik hdi hx;refine⟨⟨(k',.ref 2 0)::e,_⟩,Ay hx (by simp[PI.val,Opd.ev,b4,BO,D.part,D.copy]),hE.push EZ i k' ?_ ?_,?_⟩
   ·rcases hik with ⟨rfl,rfl⟩|⟨rfl,rfl⟩|⟨rfl,rfl⟩|⟨rfl,rfl⟩<;>rfl
   ·rcases hik with ⟨rfl,rfl⟩|⟨rfl,rfl⟩|⟨rfl,rfl⟩|⟨rfl,rfl⟩<;>rfl
   ·rcases hik with ⟨rfl,rfl⟩|⟨rfl,rfl⟩|⟨rfl,rfl⟩|⟨rfl,rfl⟩<;>simp[BO,Cd,Cg,Cj]
  match i,hi with
  |0,_=>
   exact⟨_,Ay (v:= .ref 4 4) rfl (by simp[PI.val,Opd.ev,b6]),hE.push EZ 0 36 rfl rfl,by simp[BO,Cd,Cg,Cj]⟩
  |1,_=>
   have v0:AF e 36= .ref 4 4:=hE.1 0 36 rfl (hdep 0 (by decide)) (by intro c hc;simp[Dd]at hc);have d15:d 15=false:=hup 15 (by decide) (by decide);refine⟨_,Bs (s1:=⟨(37,.own 88 4 ds)::e,BO C0 C1 f st fo cl bad ow li s ds (Cj d 1)⟩) rfl ?_,hE.push EZ 1 37 rfl rfl,rfl⟩;simp[AI.step,Opd.ev,v0,BO,Cg,d15,hdi,Cj,Cd]
  |2,_=>exact ld 2 38 (by decide) hdi rfl
  |4,_=>exact ld 4 40 (by decide) hdi rfl
  |7,_=>exact ld 7 43 (by decide) hdi rfl
  |9,_=>exact ld 9 45 (by decide) hdi rfl
  |3,_=>
   have v2:AF e 38= .ref 2 0:=hE.1 2 38 rfl (hdep 2 (by decide)) (by intro c hc;simp[Dd]at hc);have d5:d 5=false:=hup 5 (by decide) (by decide);have d8:d 8=false:=hup 8 (by decide) (by decide);have d10:d 10=false:=hup 10 (by decide) (by decide);have hF:FX 45 [.ref 2 0] (BO C0 C1 f st fo cl bad ow li s ds d) [.v (.int .i64 (BP s).cl)] ((BO C0 C1 f st fo cl bad ow li s ds d).set 2 (Bv s 1).row):=DW (Bv s 0) (Ct hB 0) _ 2 (by simp[BO,Cd,hdi,d5,d8,d10]);exact⟨_,Bu (k:=39) (r:= .v (.int .i64 (BP s).cl)) rfl (by simpa[Ar,D.arg,Opd.ev,v2]using hF),hE.push EZ 3 39 rfl rfl,by simp[BO,Cd,Cg,Cj,hdi,d5,d8,d10]⟩
  |5,_=>
   have v4:AF e 40= .ref 2 0:=hE.1 4 40 rfl (hdep 4 (by decide)) (by intro c hc;simp[Dd]at hc);have d8:d 8=false:=hup 8 (by decide) (by decide);have d10:d 10=false:=hup 10 (by decide) (by decide);have d3:d 3=true:=hdep 3 (by decide);have hF:FX 45 [.ref 2 0] (BO C0 C1 f st fo cl bad ow li s ds d) [.v (.int .i64 (BP s).ix)] ((BO C0 C1 f st fo cl bad ow li s ds d).set 2 (Bv s 2).row):=DW (Bv s 1) (Ct hB 1) _ 2 (by simp[BO,Cd,hdi,d8,d10,d3]);exact⟨_,Bu (k:=41) (r:= .v (.int .i64 (BP s).ix)) rfl (by simpa[Ar,D.arg,Opd.ev,v4]using hF),hE.push EZ 5 41 rfl rfl,by simp[BO,Cd,Cg,Cj,hdi,d8,d10,d3]⟩
  |8,_=>
   have v7:AF e 43= .ref 2 0:=hE.1 7 43 rfl (hdep 7 (by decide)) (by intro c hc;simp[Dd]at hc);have d10:d 10=false:=hup 10 (by decide) (by decide);have d3:d 3=true:=hdep 3 (by decide);have d5:d 5=true:=hdep 5 (by decide);have hF:FX 45 [.ref 2 0] (BO C0 C1 f st fo cl bad ow li s ds d) [.v (.int .i64 (BP s).day)] ((BO C0 C1 f st fo cl bad ow li s ds d).set 2 (Bv s 3).row):=DW (Bv s 2) (Ct hB 2) _ 2 (by simp[BO,Cd,hdi,d10,d5]);exact⟨_,Bu (k:=44) (r:= .v (.int .i64 (BP s).day)) rfl (by simpa[Ar,D.arg,Opd.ev,v7]using hF),hE.push EZ 8 44 rfl rfl,by simp[BO,Cd,Cg,Cj,hdi,d10,d5]⟩
  |10,_=>
   have v9:AF e 45= .ref 2 0:=hE.1 9 45 rfl (hdep 9 (by decide)) (by intro c hc;simp[Dd]at hc);have d3:d 3=true:=hdep 3 (by decide);have d5:d 5=true:=hdep 5 (by decide);have d8:d 8=true:=hdep 8 (by decide);have hF:FX 45 [.ref 2 0] (BO C0 C1 f st fo cl bad ow li s ds d) [.v (.int .i64 (BP s).file)] ((BO C0 C1 f st fo cl bad ow li s ds d).set 2 (Bv s 4).row):=DW (Bv s 3) (Ct hB 3) _ 2 (by simp[BO,Cd,hdi,d8]);exact⟨_,Bu (k:=46) (r:= .v (.int .i64 (BP s).file)) rfl (by simpa[Ar,D.arg,Opd.ev,v9]using hF),hE.push EZ 10 46 rfl rfl,by simp[BO,Cd,Cg,Cj,hdi,d8]⟩
  |6,_=>
   have v3:AF e 39= .v (.int .i64 (BP s).cl):=hE.1 3 39 rfl (hdep 3 (by decide)) (by intro c hc;simp[Dd]at hc);have v5:AF e 41= .v (.int .i64 (BP s).ix):=hE.1 5 41 rfl (hdep 5 (by decide)) (by intro c hc;simp[Dd]at hc);exact⟨_,Ay (v:= .agg [.v (.int .i64 (BP s).cl),.v (.int .i64 (BP s).ix)]) rfl (by simp[PI.val,Et,Opd.ev,v3,v5,D.cells?,D.copy,AS]),hE.push EZ 6 42 rfl rfl,by simp[BO,Cd,Cg,Cj]⟩
  |11,_=>
   have v6:AF e 42= .agg [.v (.int .i64 (BP s).cl),.v (.int .i64 (BP s).ix)]:=hE.1 6 42 rfl (hdep 6 (by decide)) (by intro c hc;simp[Dd]at hc);have v8:AF e 44= .v (.int .i64 (BP s).day):=hE.1 8 44 rfl (hdep 8 (by decide)) (by intro c hc;simp[Dd]at hc);have v10:AF e 46= .v (.int .i64 (BP s).file):=hE.1 10 46 rfl (hdep 10 (by decide)) (by intro c hc;simp[Dd]at hc);exact⟨_,Ay (v:= .agg [.v (.int .i64 (BP s).cl),.v (.int .i64 (BP s).ix),.v (.int .i64 (BP s).day),.v (.int .i64 (BP s).file)]) rfl (by simp[PI.val,Et,Opd.ev,v6,v8,v10,D.cells?,D.copy,AS]),hE.push EZ 11 47 rfl rfl,by simp[BO,Cd,Cg,Cj]⟩
  |12,_=>
   have v11:AF e 47= .agg [.v (.int .i64 (BP s).cl),.v (.int .i64 (BP s).ix),.v (.int .i64 (BP s).day),.v (.int .i64 (BP s).file)]:=hE.1 11 47 rfl (hdep 11 (by decide)) (by intro c hc;simp[Dd]at hc);refine⟨_,Bs (s1:=⟨(48,.own 88 4 [(BP s).V])::e,BO C0 C1 f st fo cl bad ow li s ds d⟩) rfl ?_,hE.push EZ 12 48 rfl rfl,?_⟩
   ·simp[AI.step,IV,D.toV,Opd.ev,v11,Dat.V,D.vs?,D.v?,D.copy,V.cells]
   ·simp[BO,Cd,Cg,Cj]
  |13,_=>
   have v1:AF e 37= .own 88 4 ds:=hE.1 1 37 rfl (hdep 1 (by decide)) (by intro c hc;simp[Dd]at hc;subst hc;exact hdi);have v12:AF e 48= .own 88 4 [(BP s).V]:=hE.1 12 48 rfl (hdep 12 (by decide)) (by intro c hc;simp[Dd]at hc);have hroom:AK (ds.length+1) 32=true:=by simp[AK];omega
   refine⟨_,Bs (s1:=⟨(49,.own 88 4 (ds++[(BP s).V]))::(37,.v (.list ds))::e,BO C0 C1 f st fo cl bad ow li s ds d⟩) rfl ?_,hE.pushW EZ 13 49 1 37 rfl rfl rfl rfl,?_⟩
   ·simp[AI.step,Opd.ev,Opd.clear,v1,v12,EG,D.toV,D.copy,Dat.V,V.cells,hroom,D.v?]
   ·simp[BO,Cd,Cg,Cj]
  |14,_=>
   exact⟨_,Ay (v:= .ref 4 4) rfl (by simp[PI.val,Opd.ev,b6]),hE.push EZ 14 50 rfl rfl,by simp[BO,Cd,Cg,Cj]⟩
  |15,_=>
   have v13:AF e 49= .own 88 4 (ds++[(BP s).V]):=hE.1 13 49 rfl (hdep 13 (by decide)) (by intro c hc;simp[Dd]at hc;subst hc;exact hdi);have v14:AF e 50= .ref 4 4:=hE.1 14 50 rfl (hdep 14 (by decide)) (by intro c hc;simp[Dd]at hc);refine⟨_,Bs (s1:=⟨(49,.any)::e,BO C0 C1 f st fo cl bad ow li s ds (Cj d 15)⟩) rfl ?_,hE.last EZ 15 13 49 rfl rfl rfl,rfl⟩;simp[AI.step,Opd.ev,v13,v14,BO,Cg,Cj,Cd,D.copy]
  |i+16,hi=>omega
 ·rintro d ⟨e,h⟩ hall ⟨hE,hh⟩;simp only at hE hh;subst hh;have e1:BO C0 C1 f st fo cl bad ow li s ds d=BO C0 C1 f st fo cl bad ow li s ds (λ_=>true):=by
   simp[BO,Cd,Cg,hall 10 (by decide),hall 15 (by decide)]
  rw[e1];exact hK e hE.2
 ·refine⟨⟨λj k' hj hd=>?_,hse⟩,rfl⟩;simp only[decide_eq_true_eq]at hd;have:Lj[j]?=none:=rG (by simpa[Lj]using hd);rw[this]at hj;cases hj
def BS (C0 C1:Row) (f st fo cl y1 y2 y3:D) (s:RS) (ds:List V) (d:Nat→Bool):List Row:=
 [C0,C1,(Bv s (Cc d)).row,.cells [.ref 2 0],.cells [f,st,fo,cl,y1,y2,Ca (Bf s) ds d,y3]]
theorem Z7 (C0 C1:Row) (f st fo cl y1 y2 y3:D) (s:RS) (hB:s.B) (ds:List V) (hds:ds.length≤2^30) (n k:Int)
  (hK:∀e,(∀k'∈G1,AF e k'=MB n k k')→K ⟨e,BS C0 C1 f st fo cl y1 y2 y3 s ds (λ_=>true)⟩) (se:CH) (hse:∀k'∈G1,AF se k'=MB n k k'):
  T2.ok Tryz.prog An (oG 113 15) K ⟨se,BS C0 C1 f st fo cl y1 y2 y3 s ds (λj=>decide (14≤j))⟩:=by
 rw[XY];refine GU (λd zz=>EnvD No EO G1 (ZM (Bf s) ds) (MB n k) d zz.e∧zz.h=BS C0 C1 f st fo cl y1 y2 y3 s ds d) Sa ?_ ?_ ?_
 ·rintro d i ⟨e,h⟩ hi hdi hdep hup ⟨hE,hh⟩;simp only at hE hh;subst hh;have b4:AF e 4= .ref 3 0:=hE.2 4 (by simp[G1]);have b6:AF e 6= .ref 4 0:=hE.2 6 (by simp[G1])
  match i,hi with
  |0,_=>
   exact⟨_,Ay (v:= .ref 4 6) rfl (by simp[PI.val,Opd.ev,b6]),hE.push EH 0 59 rfl rfl,by simp[BS,Cc,Ca,Cj]⟩
  |1,_=>
   have v0:AF e 59= .ref 4 6:=hE.1 0 59 rfl (hdep 0 (by decide)) (by intro c hc;simp[EO]at hc);have d13:d 13=false:=hup 13 (by decide) (by decide);refine⟨_,Bs (s1:=⟨(60,.own 246 3 ds)::e,BS C0 C1 f st fo cl y1 y2 y3 s ds (Cj d 1)⟩) rfl ?_,hE.push EH 1 60 rfl rfl,rfl⟩;simp[AI.step,Opd.ev,v0,BS,Cc,Ca,Cj,d13,hdi]
  |2,_=>
   exact⟨_,Ay (v:= .ref 2 0) rfl (by simp[PI.val,Opd.ev,b4,BS,D.part,D.copy]),hE.push EH 2 61 rfl rfl,by simp[BS,Cc,Ca,Cj]⟩
  |3,_=>
   have v2:AF e 61= .ref 2 0:=hE.1 2 61 rfl (hdep 2 (by decide)) (by intro c hc;simp[EO]at hc);have d5:d 5=false:=hup 5 (by decide) (by decide);have d7:d 7=false:=hup 7 (by decide) (by decide);have hF:FX 45 [.ref 2 0] (BS C0 C1 f st fo cl y1 y2 y3 s ds d) [.v (.int .i64 (Bf s).party)] ((BS C0 C1 f st fo cl y1 y2 y3 s ds d).set 2 (Bv s 1).row):=DW (Bv s 0) (Ct hB 0) _ 2 (by simp[BS,Cc,hdi,d5,d7]);exact⟨_,Bu (k:=62) (r:= .v (.int .i64 (Bf s).party)) rfl (by simpa[Ar,D.arg,Opd.ev,v2]using hF),hE.push EH 3 62 rfl rfl,by simp[BS,Cc,Ca,Cj,hdi,d5,d7]⟩
  |4,_=>
   exact⟨_,Ay (v:= .ref 2 0) rfl (by simp[PI.val,Opd.ev,b4,BS,D.part,D.copy]),hE.push EH 4 63 rfl rfl,by simp[BS,Cc,Ca,Cj]⟩
  |5,_=>
   have v4:AF e 63= .ref 2 0:=hE.1 4 63 rfl (hdep 4 (by decide)) (by intro c hc;simp[EO]at hc);have d7:d 7=false:=hup 7 (by decide) (by decide);have d3:d 3=true:=hdep 3 (by decide);have hF:FX 45 [.ref 2 0] (BS C0 C1 f st fo cl y1 y2 y3 s ds d) [.v (.int .i64 (Bf s).num)] ((BS C0 C1 f st fo cl y1 y2 y3 s ds d).set 2 (Bv s 2).row):=DW (Bv s 1) (Ct hB 1) _ 2 (by simp[BS,Cc,hdi,d7,d3]);exact⟨_,Bu (k:=64) (r:= .v (.int .i64 (Bf s).num)) rfl (by simpa[Ar,D.arg,Opd.ev,v4]using hF),hE.push EH 5 64 rfl rfl,by simp[BS,Cc,Ca,Cj,hdi,d7,d3]⟩
  |6,_=>
   exact⟨_,Ay (v:= .ref 2 0) rfl (by simp[PI.val,Opd.ev,b4,BS,D.part,D.copy]),hE.push EH 6 65 rfl rfl,by simp[BS,Cc,Ca,Cj]⟩
  |7,_=>
   have v6:AF e 65= .ref 2 0:=hE.1 6 65 rfl (hdep 6 (by decide)) (by intro c hc;simp[EO]at hc);have d3:d 3=true:=hdep 3 (by decide);have d5:d 5=true:=hdep 5 (by decide);have hF:FX 45 [.ref 2 0] (BS C0 C1 f st fo cl y1 y2 y3 s ds d) [.v (.int .i64 (Bf s).den)] ((BS C0 C1 f st fo cl y1 y2 y3 s ds d).set 2 (Bv s 3).row):=DW (Bv s 2) (Ct hB 2) _ 2 (by simp[BS,Cc,hdi,d5]);exact⟨_,Bu (k:=66) (r:= .v (.int .i64 (Bf s).den)) rfl (by simpa[Ar,D.arg,Opd.ev,v6]using hF),hE.push EH 7 66 rfl rfl,by simp[BS,Cc,Ca,Cj,hdi,d5]⟩
  |8,_=>
   have v5:AF e 64= .v (.int .i64 (Bf s).num):=hE.1 5 64 rfl (hdep 5 (by decide)) (by intro c hc;simp[EO]at hc);have v7:AF e 66= .v (.int .i64 (Bf s).den):=hE.1 7 66 rfl (hdep 7 (by decide)) (by intro c hc;simp[EO]at hc);exact⟨_,Ay (v:= .agg [.v (.int .i64 (Bf s).num),.v (.int .i64 (Bf s).den)]) rfl (by simp[PI.val,Et,Opd.ev,v5,v7,D.cells?,D.copy,AS]),hE.push EH 8 67 rfl rfl,by simp[BS,Cc,Ca,Cj]⟩
  |9,_=>
   have v3:AF e 62= .v (.int .i64 (Bf s).party):=hE.1 3 62 rfl (hdep 3 (by decide)) (by intro c hc;simp[EO]at hc);have v8:AF e 67= .agg [.v (.int .i64 (Bf s).num),.v (.int .i64 (Bf s).den)]:=hE.1 8 67 rfl (hdep 8 (by decide)) (by intro c hc;simp[EO]at hc);exact⟨_,Ay (v:= .agg [.v (.int .i64 (Bf s).party),.v (.int .i64 (Bf s).num),.v (.int .i64 (Bf s).den)]) rfl (by simp[PI.val,Et,Opd.ev,v3,v8,D.cells?,D.copy,AS]),hE.push EH 9 68 rfl rfl,by simp[BS,Cc,Ca,Cj]⟩
  |10,_=>
   have v9:AF e 68= .agg [.v (.int .i64 (Bf s).party),.v (.int .i64 (Bf s).num),.v (.int .i64 (Bf s).den)]:=hE.1 9 68 rfl (hdep 9 (by decide)) (by intro c hc;simp[EO]at hc);refine⟨_,Bs (s1:=⟨(69,.own 246 3 [(Bf s).V])::e,BS C0 C1 f st fo cl y1 y2 y3 s ds d⟩) rfl ?_,hE.push EH 10 69 rfl rfl,?_⟩
   ·simp[AI.step,IV,D.toV,Opd.ev,v9,Own.V,D.vs?,D.v?,D.copy,V.cells]
   ·simp[BS,Cc,Ca,Cj]
  |11,_=>
   have v1:AF e 60= .own 246 3 ds:=hE.1 1 60 rfl (hdep 1 (by decide)) (by intro c hc;simp[EO]at hc;subst hc;exact hdi);have v10:AF e 69= .own 246 3 [(Bf s).V]:=hE.1 10 69 rfl (hdep 10 (by decide)) (by intro c hc;simp[EO]at hc);have hroom:AK (ds.length+1) 24=true:=by simp[AK];omega
   refine⟨_,Bs (s1:=⟨(70,.own 246 3 (ds++[(Bf s).V]))::(60,.v (.list ds))::e,BS C0 C1 f st fo cl y1 y2 y3 s ds d⟩) rfl ?_,hE.pushW EH 11 70 1 60 rfl rfl rfl rfl,?_⟩
   ·simp[AI.step,Opd.ev,Opd.clear,v1,v10,EG,D.toV,D.copy,Own.V,V.cells,hroom,D.v?]
   ·simp[BS,Cc,Ca,Cj]
  |12,_=>
   exact⟨_,Ay (v:= .ref 4 6) rfl (by simp[PI.val,Opd.ev,b6]),hE.push EH 12 71 rfl rfl,by simp[BS,Cc,Ca,Cj]⟩
  |13,_=>
   have v11:AF e 70= .own 246 3 (ds++[(Bf s).V]):=hE.1 11 70 rfl (hdep 11 (by decide)) (by intro c hc;simp[EO]at hc;subst hc;exact hdi);have v12:AF e 71= .ref 4 6:=hE.1 12 71 rfl (hdep 12 (by decide)) (by intro c hc;simp[EO]at hc);refine⟨_,Bs (s1:=⟨(70,.any)::e,BS C0 C1 f st fo cl y1 y2 y3 s ds (Cj d 13)⟩) rfl ?_,hE.last EH 13 11 70 rfl rfl rfl,rfl⟩;simp[AI.step,Opd.ev,v11,v12,BS,Cc,Ca,Cj,D.copy]
  |i+14,hi=>omega
 ·rintro d ⟨e,h⟩ hall ⟨hE,hh⟩;simp only at hE hh;subst hh;have e1:BS C0 C1 f st fo cl y1 y2 y3 s ds d=BS C0 C1 f st fo cl y1 y2 y3 s ds (λ_=>true):=by
   simp[BS,Cc,Ca,hall 7 (by decide),hall 13 (by decide)]
  rw[e1];exact hK e hE.2
 ·refine⟨⟨λj k' hj hd=>?_,hse⟩,rfl⟩;simp only[decide_eq_true_eq]at hd;have:No[j]?=none:=rG (by simpa[No]using hd);rw[this]at hj;cases hj
def BE (C0 C1:Row) (f st fo cl y1 y2 y3:D) (s:RS) (ds:List V) (d:Nat→Bool):List Row:=
 [C0,C1,(Bv s (CK d)).row,.cells [.ref 2 0],.cells [f,st,fo,cl,y1,y2,y3,CN (Bp s) ds d]]
theorem Z6 (C0 C1:Row) (f st fo cl y1 y2 y3:D) (s:RS) (hB:s.B) (ds:List V) (hds:ds.length≤2^30) (n k:Int)
  (hK:∀e,(∀k'∈G0,AF e k'=MA n k k')→K ⟨e,BE C0 C1 f st fo cl y1 y2 y3 s ds (λ_=>true)⟩) (se:CH) (hse:∀k'∈G0,AF se k'=MA n k k'):
  T1.ok Tryz.prog An (oG 113 19) K ⟨se,BE C0 C1 f st fo cl y1 y2 y3 s ds (λj=>decide (15≤j))⟩:=by
 rw[XX];refine GU (λd zz=>EnvD Nn D2 G0 (ZL (Bp s) ds) (MA n k) d zz.e∧zz.h=BE C0 C1 f st fo cl y1 y2 y3 s ds d) SZ ?_ ?_ ?_
 ·rintro d i ⟨e,h⟩ hi hdi hdep hup ⟨hE,hh⟩;simp only at hE hh;subst hh;have b4:AF e 4= .ref 3 0:=hE.2 4 (by simp[G0]);have b6:AF e 6= .ref 4 0:=hE.2 6 (by simp[G0])
  match i,hi with
  |0,_=>
   exact⟨_,Ay (v:= .ref 4 7) rfl (by simp[PI.val,Opd.ev,b6]),hE.push Dy 0 77 rfl rfl,by simp[BE,CK,CN,Cj]⟩
  |1,_=>
   have v0:AF e 77= .ref 4 7:=hE.1 0 77 rfl (hdep 0 (by decide)) (by intro c hc;simp[D2]at hc);have d14:d 14=false:=hup 14 (by decide) (by decide);refine⟨_,Bs (s1:=⟨(78,.own 247 4 ds)::e,BE C0 C1 f st fo cl y1 y2 y3 s ds (Cj d 1)⟩) rfl ?_,hE.push Dy 1 78 rfl rfl,rfl⟩;simp[AI.step,Opd.ev,v0,BE,CK,CN,Cj,d14,hdi]
  |2,_=>
   exact⟨_,Ay (v:= .ref 2 0) rfl (by simp[PI.val,Opd.ev,b4,BE,D.part,D.copy]),hE.push Dy 2 79 rfl rfl,by simp[BE,CK,CN,Cj]⟩
  |3,_=>
   have v2:AF e 79= .ref 2 0:=hE.1 2 79 rfl (hdep 2 (by decide)) (by intro c hc;simp[D2]at hc);have d5:d 5=false:=hup 5 (by decide) (by decide);have d7:d 7=false:=hup 7 (by decide) (by decide);have d9:d 9=false:=hup 9 (by decide) (by decide);have hF:FX 45 [.ref 2 0] (BE C0 C1 f st fo cl y1 y2 y3 s ds d) [.v (.int .i64 (Bp s).fr)] ((BE C0 C1 f st fo cl y1 y2 y3 s ds d).set 2 (Bv s 1).row):=DW (Bv s 0) (Ct hB 0) _ 2 (by simp[BE,CK,hdi,d5,d7,d9]);exact⟨_,Bu (k:=80) (r:= .v (.int .i64 (Bp s).fr)) rfl (by simpa[Ar,D.arg,Opd.ev,v2]using hF),hE.push Dy 3 80 rfl rfl,by simp[BE,CK,CN,Cj,hdi,d5,d7,d9]⟩
  |4,_=>
   exact⟨_,Ay (v:= .ref 2 0) rfl (by simp[PI.val,Opd.ev,b4,BE,D.part,D.copy]),hE.push Dy 4 81 rfl rfl,by simp[BE,CK,CN,Cj]⟩
  |5,_=>
   have v4:AF e 81= .ref 2 0:=hE.1 4 81 rfl (hdep 4 (by decide)) (by intro c hc;simp[D2]at hc);have d7:d 7=false:=hup 7 (by decide) (by decide);have d9:d 9=false:=hup 9 (by decide) (by decide);have d3:d 3=true:=hdep 3 (by decide);have hF:FX 45 [.ref 2 0] (BE C0 C1 f st fo cl y1 y2 y3 s ds d) [.v (.int .i64 (Bp s).to)] ((BE C0 C1 f st fo cl y1 y2 y3 s ds d).set 2 (Bv s 2).row):=DW (Bv s 1) (Ct hB 1) _ 2 (by simp[BE,CK,hdi,d7,d9,d3]);exact⟨_,Bu (k:=82) (r:= .v (.int .i64 (Bp s).to)) rfl (by simpa[Ar,D.arg,Opd.ev,v4]using hF),hE.push Dy 5 82 rfl rfl,by simp[BE,CK,CN,Cj,hdi,d7,d9,d3]⟩
  |6,_=>
   exact⟨_,Ay (v:= .ref 2 0) rfl (by simp[PI.val,Opd.ev,b4,BE,D.part,D.copy]),hE.push Dy 6 83 rfl rfl,by simp[BE,CK,CN,Cj]⟩
  |7,_=>
   have v6:AF e 83= .ref 2 0:=hE.1 6 83 rfl (hdep 6 (by decide)) (by intro c hc;simp[D2]at hc);have d9:d 9=false:=hup 9 (by decide) (by decide);have d3:d 3=true:=hdep 3 (by decide);have d5:d 5=true:=hdep 5 (by decide);have hF:FX 45 [.ref 2 0] (BE C0 C1 f st fo cl y1 y2 y3 s ds d) [.v (.int .i64 (Bp s).fst)] ((BE C0 C1 f st fo cl y1 y2 y3 s ds d).set 2 (Bv s 3).row):=DW (Bv s 2) (Ct hB 2) _ 2 (by simp[BE,CK,hdi,d9,d5]);exact⟨_,Bu (k:=84) (r:= .v (.int .i64 (Bp s).fst)) rfl (by simpa[Ar,D.arg,Opd.ev,v6]using hF),hE.push Dy 7 84 rfl rfl,by simp[BE,CK,CN,Cj,hdi,d9,d5]⟩
  |8,_=>
   exact⟨_,Ay (v:= .ref 2 0) rfl (by simp[PI.val,Opd.ev,b4,BE,D.part,D.copy]),hE.push Dy 8 85 rfl rfl,by simp[BE,CK,CN,Cj]⟩
  |9,_=>
   have v8:AF e 85= .ref 2 0:=hE.1 8 85 rfl (hdep 8 (by decide)) (by intro c hc;simp[D2]at hc);have d3:d 3=true:=hdep 3 (by decide);have d5:d 5=true:=hdep 5 (by decide);have d7:d 7=true:=hdep 7 (by decide);have hF:FX 45 [.ref 2 0] (BE C0 C1 f st fo cl y1 y2 y3 s ds d) [.v (.int .i64 (Bp s).lst)] ((BE C0 C1 f st fo cl y1 y2 y3 s ds d).set 2 (Bv s 4).row):=DW (Bv s 3) (Ct hB 3) _ 2 (by simp[BE,CK,hdi,d7]);exact⟨_,Bu (k:=86) (r:= .v (.int .i64 (Bp s).lst)) rfl (by simpa[Ar,D.arg,Opd.ev,v8]using hF),hE.push Dy 9 86 rfl rfl,by simp[BE,CK,CN,Cj,hdi,d7]⟩
  |10,_=>
   have v3:AF e 80= .v (.int .i64 (Bp s).fr):=hE.1 3 80 rfl (hdep 3 (by decide)) (by intro c hc;simp[D2]at hc);have v5:AF e 82= .v (.int .i64 (Bp s).to):=hE.1 5 82 rfl (hdep 5 (by decide)) (by intro c hc;simp[D2]at hc);have v7:AF e 84= .v (.int .i64 (Bp s).fst):=hE.1 7 84 rfl (hdep 7 (by decide)) (by intro c hc;simp[D2]at hc);have v9:AF e 86= .v (.int .i64 (Bp s).lst):=hE.1 9 86 rfl (hdep 9 (by decide)) (by intro c hc;simp[D2]at hc);exact⟨_,Ay (v:= .agg [.v (.int .i64 (Bp s).fr),.v (.int .i64 (Bp s).to),.v (.int .i64 (Bp s).fst),.v (.int .i64 (Bp s).lst)]) rfl (by simp[PI.val,Et,Opd.ev,v3,v5,v7,v9,D.cells?,D.copy,AS]),hE.push Dy 10 87 rfl rfl,by simp[BE,CK,CN,Cj]⟩
  |11,_=>
   have v10:AF e 87= .agg [.v (.int .i64 (Bp s).fr),.v (.int .i64 (Bp s).to),.v (.int .i64 (Bp s).fst),.v (.int .i64 (Bp s).lst)]:=hE.1 10 87 rfl (hdep 10 (by decide)) (by intro c hc;simp[D2]at hc);refine⟨_,Bs (s1:=⟨(88,.own 247 4 [(Bp s).V])::e,BE C0 C1 f st fo cl y1 y2 y3 s ds d⟩) rfl ?_,hE.push Dy 11 88 rfl rfl,?_⟩
   ·simp[AI.step,IV,D.toV,Opd.ev,v10,Lic.V,D.vs?,D.v?,D.copy,V.cells]
   ·simp[BE,CK,CN,Cj]
  |12,_=>
   have v1:AF e 78= .own 247 4 ds:=hE.1 1 78 rfl (hdep 1 (by decide)) (by intro c hc;simp[D2]at hc;subst hc;exact hdi);have v11:AF e 88= .own 247 4 [(Bp s).V]:=hE.1 11 88 rfl (hdep 11 (by decide)) (by intro c hc;simp[D2]at hc);have hroom:AK (ds.length+1) 32=true:=by simp[AK];omega
   refine⟨_,Bs (s1:=⟨(89,.own 247 4 (ds++[(Bp s).V]))::(78,.v (.list ds))::e,BE C0 C1 f st fo cl y1 y2 y3 s ds d⟩) rfl ?_,hE.pushW Dy 12 89 1 78 rfl rfl rfl rfl,?_⟩
   ·simp[AI.step,Opd.ev,Opd.clear,v1,v11,EG,D.toV,D.copy,Lic.V,V.cells,hroom,D.v?]
   ·simp[BE,CK,CN,Cj]
  |13,_=>
   exact⟨_,Ay (v:= .ref 4 7) rfl (by simp[PI.val,Opd.ev,b6]),hE.push Dy 13 90 rfl rfl,by simp[BE,CK,CN,Cj]⟩
  |14,_=>
   have v12:AF e 89= .own 247 4 (ds++[(Bp s).V]):=hE.1 12 89 rfl (hdep 12 (by decide)) (by intro c hc;simp[D2]at hc;subst hc;exact hdi);have v13:AF e 90= .ref 4 7:=hE.1 13 90 rfl (hdep 13 (by decide)) (by intro c hc;simp[D2]at hc);refine⟨_,Bs (s1:=⟨(89,.any)::e,BE C0 C1 f st fo cl y1 y2 y3 s ds (Cj d 14)⟩) rfl ?_,hE.last Dy 14 12 89 rfl rfl rfl,rfl⟩;simp[AI.step,Opd.ev,v12,v13,BE,CK,CN,Cj,D.copy]
  |i+15,hi=>omega
 ·rintro d ⟨e,h⟩ hall ⟨hE,hh⟩;simp only at hE hh;subst hh;have e1:BE C0 C1 f st fo cl y1 y2 y3 s ds d=BE C0 C1 f st fo cl y1 y2 y3 s ds (λ_=>true):=by
   simp[BE,CK,CN,hall 9 (by decide),hall 14 (by decide)]
  rw[e1];exact hK e hE.2
 ·refine⟨⟨λj k' hj hd=>?_,hse⟩,rfl⟩;simp only[decide_eq_true_eq]at hd;have:Nn[j]?=none:=rG (by simpa[Nn]using hd);rw[this]at hj;cases hj
def Br (C0 C1:Row) (s:RS) (d:Nat→Bool):List Row:=[C0,C1,(Bv s (DU d)).row,.cells [.ref 2 0]]++EC (Ju s) d
theorem Z5 (C0 C1:Row) (s:RS) (hB:s.B)
  (hK:∀e,(∀k'∈Iy,AF e k'=OK k')→AF e 6= .ref 4 0→K ⟨e,Br C0 C1 s (λ_=>true)⟩) (se:CH) (hse:∀k'∈Iy,AF se k'=OK k'):
  Tz.ok Tryz.prog An (oG 113 3) K ⟨se,Br C0 C1 s (λj=>decide (9≤j))⟩:=by
 rw[af];refine GU (λd zz=>EnvD Li F2 Iy (ZK (Ju s)) OK d zz.e∧zz.h=Br C0 C1 s d) SY ?_ ?_ ?_
 ·rintro d i ⟨e,h⟩ hi hdi hdep hup ⟨hE,hh⟩;simp only at hE hh;subst hh;have b4:AF e 4= .ref 3 0:=hE.2 4 (by simp[Iy])
  match i,hi with
  |0,_=>
   exact⟨_,Ay (v:= .ref 2 0) rfl (by simp[PI.val,Opd.ev,b4,Br,D.part,D.copy]),hE.push Gk 0 14 rfl rfl,by simp[Br,DU,EC,Cj]⟩
  |2,_=>
   exact⟨_,Ay (v:= .ref 2 0) rfl (by simp[PI.val,Opd.ev,b4,Br,D.part,D.copy]),hE.push Gk 2 16 rfl rfl,by simp[Br,DU,EC,Cj]⟩
  |4,_=>
   exact⟨_,Ay (v:= .ref 2 0) rfl (by simp[PI.val,Opd.ev,b4,Br,D.part,D.copy]),hE.push Gk 4 18 rfl rfl,by simp[Br,DU,EC,Cj]⟩
  |1,_=>
   have v0:AF e 14= .ref 2 0:=hE.1 0 14 rfl (hdep 0 (by decide)) (by intro c hc;simp[F2]at hc);have d3:d 3=false:=hup 3 (by decide) (by decide);have d5:d 5=false:=hup 5 (by decide) (by decide);have hF:FX 45 [.ref 2 0] (Br C0 C1 s d) [.v (.int .i64 (Ju s).file)] ((Br C0 C1 s d).set 2 (Bv s 1).row):=DW (Bv s 0) (Ct hB 0) _ 2 (by simp[Br,DU,hdi,d3,d5]);exact⟨_,Bu (k:=15) (r:= .v (.int .i64 (Ju s).file)) rfl (by simpa[Ar,D.arg,Opd.ev,v0]using hF),hE.push Gk 1 15 rfl rfl,by simp[Br,DU,EC,Cj,hdi,d3,d5]⟩
  |3,_=>
   have v2:AF e 16= .ref 2 0:=hE.1 2 16 rfl (hdep 2 (by decide)) (by intro c hc;simp[F2]at hc);have d5:d 5=false:=hup 5 (by decide) (by decide);have d1:d 1=true:=hdep 1 (by decide);have hF:FX 45 [.ref 2 0] (Br C0 C1 s d) [.v (.int .i64 (Ju s).state)] ((Br C0 C1 s d).set 2 (Bv s 2).row):=DW (Bv s 1) (Ct hB 1) _ 2 (by simp[Br,DU,hdi,d5,d1]);exact⟨_,Bu (k:=17) (r:= .v (.int .i64 (Ju s).state)) rfl (by simpa[Ar,D.arg,Opd.ev,v2]using hF),hE.push Gk 3 17 rfl rfl,by simp[Br,DU,EC,Cj,hdi,d5,d1]⟩
  |5,_=>
   have v4:AF e 18= .ref 2 0:=hE.1 4 18 rfl (hdep 4 (by decide)) (by intro c hc;simp[F2]at hc);have d1:d 1=true:=hdep 1 (by decide);have d3:d 3=true:=hdep 3 (by decide);have hF:FX 45 [.ref 2 0] (Br C0 C1 s d) [.v (.int .i64 (Ju s).force)] ((Br C0 C1 s d).set 2 (Bv s 3).row):=DW (Bv s 2) (Ct hB 2) _ 2 (by simp[Br,DU,hdi,d3]);exact⟨_,Bu (k:=19) (r:= .v (.int .i64 (Ju s).force)) rfl (by simpa[Ar,D.arg,Opd.ev,v4]using hF),hE.push Gk 5 19 rfl rfl,by simp[Br,DU,EC,Cj,hdi,d3]⟩
  |6,_=>
   have v1:AF e 15= .v (.int .i64 (Ju s).file):=hE.1 1 15 rfl (hdep 1 (by decide)) (by intro c hc;simp[F2]at hc);have v3:AF e 17= .v (.int .i64 (Ju s).state):=hE.1 3 17 rfl (hdep 3 (by decide)) (by intro c hc;simp[F2]at hc);have v5:AF e 19= .v (.int .i64 (Ju s).force):=hE.1 5 19 rfl (hdep 5 (by decide)) (by intro c hc;simp[F2]at hc);exact⟨_,Ay (v:=Pd (Ju s)) rfl (by simp[PI.val,Et,Opd.ev,v1,v3,v5,D.cells?,D.copy,AS,Pd]),hE.push Gk 6 20 rfl rfl,by simp[Br,DU,EC,Cj]⟩
  |7,_=>
   have d8:d 8=false:=hup 8 (by decide) (by decide);refine⟨_,Bs (s1:=⟨(6,.ref 4 0)::e,Br C0 C1 s (Cj d 7)⟩) rfl ?_,hE.push Gk 7 6 rfl rfl,rfl⟩;simp[AI.step,Br,DU,EC,Cj,hdi,d8]
  |8,_=>
   have v6:AF e 20=Pd (Ju s):=hE.1 6 20 rfl (hdep 6 (by decide)) (by intro c hc;simp[F2]at hc);have v7:AF e 6= .ref 4 0:=hE.1 7 6 rfl (hdep 7 (by decide)) (by intro c hc;simp[F2]at hc);have d7:d 7=true:=hdep 7 (by decide);refine⟨_,Bs (s1:=⟨e,Br C0 C1 s (Cj d 8)⟩) rfl ?_,hE.step Gk 8 (λk hk=>by simp[Li]at hk) (λk _ _=>rfl),rfl⟩;simp[AI.step,Opd.ev,v6,v7,Br,DU,EC,Cj,hdi,d7,Pd,D.copy,D.cells?,AS,D.toRow]
  |i+9,hi=>omega
 ·rintro d ⟨e,h⟩ hall ⟨hE,hh⟩;simp only at hE hh;subst hh;have e1:Br C0 C1 s d=Br C0 C1 s (λ_=>true):=by
   simp[Br,DU,EC,hall 5 (by decide),hall 7 (by decide),hall 8 (by decide)]
  rw[e1];exact hK e hE.2 (hE.1 7 6 rfl (hall 7 (by decide)) (by intro c hc;simp[F2]at hc))
 ·refine⟨⟨λj k' hj hd=>?_,hse⟩,rfl⟩;simp only[decide_eq_true_eq]at hd;have:Li[j]?=none:=rG (by simpa[Li]using hd);rw[this]at hj;cases hj
theorem bA (C0 C1:Row) (f st fo cl y1 y2 y3:D) (s:RS) (hB:s.B) (n:Nat) (hn:n≤2^30):
  awp Tryz.prog An (.loop (lG 113 0)) (λe zz=>e= .exit 0∧zz=⟨[(1,.ref 0 0),(2,.ref 1 0),(4,.ref 3 0),(5,.func 204 [.ref 3 0,.ref 0 0]),(6,.ref 4 0),(33,.v (.int .i64 n)),(34,.v (.int .i64 n)),(35,.v (.bool false))],[C0,C1,(BX 4 BP n s).2.row,.cells [.ref 2 0],.cells [f,st,fo,cl,.own 88 4 ((BX 4 BP n s).1.map Dat.V),y1,y2,y3]]⟩)
   ⟨[(1,.ref 0 0),(2,.ref 1 0),(4,.ref 3 0),(5,.func 204 [.ref 3 0,.ref 0 0]),(6,.ref 4 0),(33,.v (.int .i64 n)),(34,.v (.int .i64 0))],[C0,C1,s.row,.cells [.ref 2 0],.cells [f,st,fo,cl,.own 88 4 [],y1,y2,y3]]⟩:=by
 refine AM n (λk=>⟨[(1,.ref 0 0),(2,.ref 1 0),(4,.ref 3 0),(5,.func 204 [.ref 3 0,.ref 0 0]),(6,.ref 4 0),(33,.v (.int .i64 n)),(34,.v (.int .i64 k))],[C0,C1,(BX 4 BP k s).2.row,.cells [.ref 2 0],.cells [f,st,fo,cl,.own 88 4 ((BX 4 BP k s).1.map Dat.V),y1,y2,y3]]⟩) (by simp[BX]) ?_;intro k hk;rw[TU];simp only[Zw,AA 113 9];by_cases h1:k <n
 ·have hw:=Bo k;have hL:=DY 4 BP k s;have hS:=hB.suf (Bk 4 BP k s);have hA:=GG 4 BP k s;generalize BX 4 BP k s=R at*;simp[h1,AB];rw[CO];refine CT _ (λs hs=>⟨s,.inl rfl,hs⟩) ?_;refine Z8 C0 C1 f st fo cl y1 y2 y3 R.2 hS (R.1.map Dat.V) (by simp;omega) n k (λe he=>?_) _ (by
   intro k' hk';simp only[F4,qL,qn,or_false]at hk';rcases hk' with rfl|rfl|rfl|rfl|rfl|rfl|rfl<;>rfl)
  have q:∀k'∈F4,AF e k'=NQ n k k':=he;simp only[F4,tO,qn,false_implies,implies_true,and_true]at q;obtain⟨q0,q1,q2,q3,q4,q5,q6⟩:=q;simp only[q0,q1,q2,q3,q4,q5,q6,Bm,AA 113 11];simp[NQ,hw,BO,Cd,Cg,hA]
 ·have:k=n:=by omega
  subst this;simp[AJ]
theorem a9 (C0 C1:Row) (f st fo cl y1 y2 y3:D) (s:RS) (hB:s.B) (n:Nat) (hn:n≤2^30):
  awp Tryz.prog An (.loop (lG 113 1)) (λe zz=>e= .exit 2∧zz=⟨[(1,.ref 0 0),(2,.ref 1 0),(4,.ref 3 0),(5,.func 204 [.ref 3 0,.ref 0 0]),(6,.ref 4 0),(56,.v (.int .i64 n)),(57,.v (.int .i64 n)),(58,.v (.bool false))],[C0,C1,(BX 3 Bf n s).2.row,.cells [.ref 2 0],.cells [f,st,fo,cl,y1,y2,.own 246 3 ((BX 3 Bf n s).1.map Own.V),y3]]⟩)
   ⟨[(1,.ref 0 0),(2,.ref 1 0),(4,.ref 3 0),(5,.func 204 [.ref 3 0,.ref 0 0]),(6,.ref 4 0),(56,.v (.int .i64 n)),(57,.v (.int .i64 0))],[C0,C1,s.row,.cells [.ref 2 0],.cells [f,st,fo,cl,y1,y2,.own 246 3 [],y3]]⟩:=by
 refine AM n (λk=>⟨[(1,.ref 0 0),(2,.ref 1 0),(4,.ref 3 0),(5,.func 204 [.ref 3 0,.ref 0 0]),(6,.ref 4 0),(56,.v (.int .i64 n)),(57,.v (.int .i64 k))],[C0,C1,(BX 3 Bf k s).2.row,.cells [.ref 2 0],.cells [f,st,fo,cl,y1,y2,.own 246 3 ((BX 3 Bf k s).1.map Own.V),y3]]⟩) (by simp[BX]) ?_;intro k hk;rw[TT];simp only[Zw,AA 113 14];by_cases h1:k <n
 ·have hw:=Bo k;have hL:=DY 3 Bf k s;have hS:=hB.suf (Bk 3 Bf k s);have hA:=GG 3 Bf k s;generalize BX 3 Bf k s=R at*;simp[h1,AB];rw[CO];refine CT _ (λs hs=>⟨s,.inl rfl,hs⟩) ?_;refine Z7 C0 C1 f st fo cl y1 y2 y3 R.2 hS (R.1.map Own.V) (by simp;omega) n k (λe he=>?_) _ (by
   intro k' hk';simp only[G1,qL,qn,or_false]at hk';rcases hk' with rfl|rfl|rfl|rfl|rfl|rfl|rfl<;>rfl)
  have q:∀k'∈G1,AF e k'=MB n k k':=he;simp only[G1,tO,qn,false_implies,implies_true,and_true]at q;obtain⟨q0,q1,q2,q3,q4,q5,q6⟩:=q;simp only[q0,q1,q2,q3,q4,q5,q6,Bm,AA 113 16];simp[MB,hw,BS,Cc,Ca,hA]
 ·have:k=n:=by omega
  subst this;simp[AJ]
theorem a8 (C0 C1:Row) (f st fo cl y1 y2 y3:D) (s:RS) (hB:s.B) (n:Nat) (hn:n≤2^30):
  awp Tryz.prog An (.loop (lG 113 2)) (λe zz=>e= .exit 4∧zz=⟨[(1,.ref 0 0),(2,.ref 1 0),(4,.ref 3 0),(6,.ref 4 0),(74,.v (.int .i64 n)),(75,.v (.int .i64 n)),(76,.v (.bool false))],[C0,C1,(BX 4 Bp n s).2.row,.cells [.ref 2 0],.cells [f,st,fo,cl,y1,y2,y3,.own 247 4 ((BX 4 Bp n s).1.map Lic.V)]]⟩)
   ⟨[(1,.ref 0 0),(2,.ref 1 0),(4,.ref 3 0),(6,.ref 4 0),(74,.v (.int .i64 n)),(75,.v (.int .i64 0))],[C0,C1,s.row,.cells [.ref 2 0],.cells [f,st,fo,cl,y1,y2,y3,.own 247 4 []]]⟩:=by
 refine AM n (λk=>⟨[(1,.ref 0 0),(2,.ref 1 0),(4,.ref 3 0),(6,.ref 4 0),(74,.v (.int .i64 n)),(75,.v (.int .i64 k))],[C0,C1,(BX 4 Bp k s).2.row,.cells [.ref 2 0],.cells [f,st,fo,cl,y1,y2,y3,.own 247 4 ((BX 4 Bp k s).1.map Lic.V)]]⟩) (by simp[BX]) ?_;intro k hk;rw[TS];simp only[Zw,AA 113 18];by_cases h1:k <n
 ·have hw:=Bo k;have hL:=DY 4 Bp k s;have hS:=hB.suf (Bk 4 Bp k s);have hA:=GG 4 Bp k s;generalize BX 4 Bp k s=R at*;simp[h1,AB];rw[CO];refine CT _ (λs hs=>⟨s,.inl rfl,hs⟩) ?_;refine Z6 C0 C1 f st fo cl y1 y2 y3 R.2 hS (R.1.map Lic.V) (by simp;omega) n k (λe he=>?_) _ (by
   intro k' hk';simp only[G0,qL,qn,or_false]at hk';rcases hk' with rfl|rfl|rfl|rfl|rfl|rfl<;>rfl)
  have q:∀k'∈G0,AF e k'=MA n k k':=he;simp only[G0,tO,qn,false_implies,implies_true,and_true]at q;obtain⟨q0,q1,q2,q3,q4,q5⟩:=q;simp only[q0,q1,q2,q3,q4,q5,Bm,AA 113 20];simp[MA,hw,BE,CK,CN,hA]
 ·have:k=n:=by omega
  subst this;simp[AJ]
end
end Go.Va
