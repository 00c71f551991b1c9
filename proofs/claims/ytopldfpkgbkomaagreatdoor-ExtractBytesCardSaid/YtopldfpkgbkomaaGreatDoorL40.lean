/- Laws that ExtractBytes leans on, part 40. No condition of its own. -/
import Derived.Test.YtopldfpkgbkomaaGreatDoorL30
import Derived.Test.YtopldfpkgbkomaaGreatDoorL38
set_option linter.all false
set_option maxRecDepth 100000
set_option maxHeartbeats 4000000
noncomputable section
namespace Go.Va
open Go.Proofs
def In (a b:Int) (rs:List Rgt):List Rgt:=rs.filter λr=>decide (a≤r.file∧r.file≤b)
def Kt (kind f p d:Int) (a4 a5 a6:D) (rs:List Rgt):Row:= .cells [.v (.int .i64 kind),.v (.int .i64 f),.v (.int .i64 p),.v (.int .i64 d),a4,a5,a6,.own 32 8 (rs.map Rgt.V),.own 186 2 [],.own 3 1 [],.own 47 1 [],.own 47 1 [],.own 5 1 []]
def Fz:Row:= .cells [.v (.int .i64 0),.v (.int .i64 0),.v (.int .i64 0),.v (.int .i64 0),.own 3 1 [],.own 171 3 [],.own 58 3 [],.own 32 8 [],.own 186 2 [],.own 3 1 [],.own 47 1 [],.own 47 1 [],.own 5 1 []]
theorem pu (h:List Row) (g m:Nat) (pa:V) (rs:List Rgt) (hg:h[g]?=some (.cells [.v pa,.own 32 8 (rs.map Rgt.V),.ref m 0])) (hn:rs.length≤2^20) (kind f p d a b:Int) (a4 a5 a6:D) (R7 R8:Row) (Q:AExit→St→Prop)
  (hQ:∀e,AF e 0= .ref g 0→AF e 8= .ref (h.length+1) 0→AF e 10= .ref (h.length+2) 0→AF e 14= .v (.int .i64 a)→AF e 15= .v (.int .i64 b)→Q (.exit 1) ⟨e,h++[R7,R8,Kt kind f p d a4 a5 a6 (In a b rs)]⟩):
  awp Tryz.prog An (.loop (lG 28 0)) Q ⟨[(0,.ref g 0),(8,.ref (h.length+1) 0),(10,.ref (h.length+2) 0),(14,.v (.int .i64 a)),(15,.v (.int .i64 b)),(16,.v (.int .i64 (0:Nat)))],h++[R7,R8,Kt kind f p d a4 a5 a6 []]⟩:=by
 have hg':=λZ=>Az Z hg;refine AM rs.length (λk=>⟨[(0,.ref g 0),(8,.ref (h.length+1) 0),(10,.ref (h.length+2) 0),(14,.v (.int .i64 a)),(15,.v (.int .i64 b)),(16,.v (.int .i64 k))],h++[R7,R8,Kt kind f p d a4 a5 a6 (In a b (rs.take k))]⟩) (by simp[In]) ?_;intro k hk;simp only[Zw,BA 28 0,AA 28 19];simp[hg'];by_cases h1:k <rs.length
 ·obtain⟨r,hr⟩:∃r,rs[k]?=some r:=⟨_,qH h1⟩;have hw:=Bo k;have hfl:In a b (rs.take (k+1))=In a b (rs.take k)++if a≤r.file∧r.file≤b then [r] else []:=by
   unfold In;rw[qc,hr,su]
   congr 1
   by_cases h2:a≤r.file∧r.file≤b<;>simp[h2]
  have hlen:=rT (λr:Rgt=>decide (a≤r.file∧r.file≤b)) (rs.take k);rw[qv]at hlen;have hlen2:(In a b (rs.take k)).length≤rs.length:=by unfold In;omega
  rw[hfl];generalize In a b (rs.take k)=L at*;have hroom:AK (L.length+1) 144=true:=by simp[AK];omega
  obtain⟨rf,rst,rfo,rcl,rda,rba,row,rli⟩:=r;simp only at*;simp[h1,AB];simp only[AA 28 21];simp[hg',hr,Rgt.V,Rgt.cs];by_cases c1:a≤rf
  ·by_cases c2:rf≤b
   ·simp[c1,c2];simp only[AW,AA 28 22,Kt];simp[hg',hr,Rgt.V,Rgt.cs,hroom];simp[AA 28 20,hw,AH]
   ·simp[c1,c2];simp[AA 28 20,hw]
  ·have c3:rf <a:=by omega
   simp[c1,c3];simp[AA 28 20,hw]
 ·have hk2:k=rs.length:=by omega
  subst hk2;rw[if_neg (by omega),AJ,qm];exact hQ _ rfl rfl rfl rfl rfl
def Ql:Th:= .mk [] [] []
def cN (t:Th) (a4 a5 a6:D):Prop:=(a4= .own 3 1 []∧a5= .own 171 3 []∧a6= .own 58 3 []∧t=Ql)∨(a4= .v (AH .i64 t.cs)∧a5= .v (.list (t.vs.map Val.V))∧a6= .v (.list (t.ps.map Th.V)))
def Xk:AC:=(.seq (.reg (oG 28 14) [0,8,10,13]) (.seq (.seq (.reg (oG 28 15) [0,8,10,13,63]) (.cond (.t 63 false) (.seq (.reg (oG 28 16) [8,9]) .ret) .skip)) (.seq (.reg (oG 28 17) [0,8,10,14,15]) (.seq (.seq (.reg (oG 28 18) [0,8,10,14,15,16]) (.block 1 (.loop (lG 28 0)))) (.seq (.reg (oG 28 23) [0,8,10]) (.seq (.regD (oG 28 24) [8,10,17,18,19] [[],[0],[0,1],[0,1,2],[],[0,1,2,3,4],[0,1,2,3,4,5],[0,1,2,3,4,5,6],[0,1,2,3,4,5,6],[0,1,2,3,4,5,6],[0,1,2,3,4,5,6,7],[0,1,2,3,4,5,6,7,8,10],[0,1,2,3,4,5,6,7,8,9,10,11]]) (.seq (.seq (.reg (oG 28 25) [8,10,17,18,19,133]) (.cond (.t 133 false) (.seq (.reg (oG 28 26) [8,9]) .ret) .skip)) (.seq (.reg (oG 28 27) [8,10,18]) (.seq (.reg (oG 28 28) [8,10]) (.seq (.reg (oG 28 29) [8,9]) .ret))))))))))
def Hk:Ext:=Ee 0 0 0 0 (.mk [] [] [])
def QP (E:Int) (x:Ext):Ext:=if E=0 then x else Hk
def YA (h:List Row) (X:V) (E:Int):AExit→St→Prop:=λe s=>(match e with| .exit _=>False|_=>True)∧DS s (gR 28)=some [.v X,.v (.int .i64 E)]∧∃J,s.h=h++J
theorem t28 (h:List Row) (hl:Low h) (g m:Nat) (pa:V) (rs:List Rgt) (hg:h[g]?=some (.cells [.v pa,.own 32 8 (rs.map Rgt.V),.ref m 0])) (hn:rs.length≤2^20) (ps:List (Int×List Int)) (hm:h[m]?=some (IX ps)) (hpn:ps.length≤2^40) (hok:∀p∈ps,Sm p)
  (kind f p d:Int) (t0:Th) (a4 a5 a6:D) (hT:cN t0 a4 a5 a6)
  (E1:Int) (q74:PX 74 [(Ee kind f p d t0).V] [.int .i64 E1]) (a b:Int) (ha:a=if kind=0 then f else 0) (hb:b=if kind=0 then f else 4095) (hab:E1=0→a≤b) (cl:List (Int×Int)) (fs:List Int) (E3:Int) (L R S:List Int) (hL:HA (FF ps) a (FE a b 12 0)=L) (hR:G7 (FF ps) a (FE a b 12 0)=R) (hS:EV (FF ps) (FE a b 12 0)=S) (E':Int) (hE':E'=if E1=0 then E3 else E1)
  (q77:E1=0→PX 77 [pa,(Ext.mk kind f p d t0 (In a b rs) [] [] L R S).V] [.list (cl.map Bh),AH .i64 fs,.int .i64 E3]) (R7:Row) (hR7:∀n,Row.low n R7=true):
  ∀e0:CH,AF e0 0= .ref g 0→AF e0 8= .ref (h.length+1) 0→AF e0 10= .ref (h.length+2) 0→awp Tryz.prog An Xk (YA h (QP E' ⟨kind,f,p,d,t0,In a b rs,cl,fs,L,R,S⟩).V E') ⟨e0,h++[R7,Fz,Kt kind f p d a4 a5 a6 []]⟩:=by
 intro e0 g0 g8 g10;have hg':=λZ=>Az Z hg;have q75:=(pF (Ee kind f p d t0)).fsp;have q74:=q74.fsp;have hloop:=λQ=>pu h g m pa rs hg hn kind f p d a b a4 a5 a6 R7 Fz Q;have hlow:Low (h++[R7,Fz,Kt kind f p d a4 a5 a6 (In a b rs)]):=hl.lows (by
  intro row hrow n;have hlo:D.lt n a4=true∧D.lt n a5=true∧D.lt n a6=true:=by
   rcases hT with ⟨rfl,rfl,rfl,_⟩|⟨rfl,rfl,rfl⟩<;>exact⟨rfl,rfl,rfl⟩
  obtain⟨l4,l5,l6⟩:=hlo;simp only[qL,qn,or_false]at hrow;rcases hrow with rfl|rfl|rfl
  ·exact hR7 n
  ·rfl
  ·simp[Kt,Row.low,D.lts,D.lt,l4,l5,l6])
 have q76:=λh=>pE _ hlow m ps (Az _ hm) hpn hok a b h;have e1:(Ee kind f p d t0).kind=kind:=rfl;have e2:(Ee kind f p d t0).file=f:=rfl;rw[e1,e2,←ha,←hb]at q75;have v74:(Ee kind f p d t0).V= .agg [.int .i64 kind,.int .i64 f,.int .i64 p,.int .i64 d,AH .i64 t0.cs,.list (t0.vs.map Val.V),.list (t0.ps.map Th.V),.list [],.list [],.list [],.list [],.list [],.list []]:=rfl;have vN:Hk.V= .agg [.int .i64 0,.int .i64 0,.int .i64 0,.int .i64 0,.list [],.list [],.list [],.list [],.list [],.list [],.list [],.list [],.list []]:=rfl;rw[v74]at q74 q75;have eN:(QP E' ⟨kind,f,p,d,t0,In a b rs,cl,fs,L,R,S⟩).V=if E'=0 then (Ext.mk kind f p d t0 (In a b rs) cl fs L R S).V else Hk.V:=by unfold QP;split<;>rfl
 rw[eN,vN];clear eN ha hb e1 e2 v74 vN;unfold YA;simp only[Zb]at q76;simp only[Ext.V,Ext.cs]at q77 ⊢;rw[hL,hR,hS]at q76;clear hL hR hS;generalize In a b rs=rs' at*;rcases hT with ⟨rfl,rfl,rfl,rfl⟩|⟨rfl,rfl,rfl⟩
 ·simp only[Ql]at*;simp only[Kt,Fz,Th.cs,Th.vs,Th.ps,AH]at*;simp at q74 q75;simp only[Zw,Xk,AA 28 14];simp[g0,g8,g10];refine⟨_,_,q74 _,?_⟩;simp only[AA 28 15];by_cases hE:E1=0
  ·have q76:=q76 (hab hE);have q77:=(q77 hE).fsp;subst hE;rw[if_pos rfl]at hE';subst E';simp at q77 hloop;simp[AB,AA 28 17];refine⟨_,_,q75 _,?_⟩;simp[AA 28 18];refine hloop _ ?_;intro e f0 f8 f10 f14 f15;simp only[AA 28 23];simp[f0,f10,f14,f15,hg'];refine⟨_,_,q76,?_⟩;simp[AS];simp only[AW,AA 28 24];simp[f0,f8,f10,hg'];refine⟨_,_,⟨rfl,rfl⟩,_,q77,?_⟩;simp only[AA 28 25];by_cases hE3:E3=0
   ·subst hE3;simp[AA 28 27,AS];simp[AA 28 28,AS];simp[AA 28 29,AS,AD,AX 28,D.one?,D.vs?,D.v?]
   ·simp[hE3,AA 28 26,AS,AD,AX 28,D.one?,D.vs?,D.v?]
  ·rw[if_neg hE]at hE';subst E';simp[hE,AA 28 16,AS,AD,AX 28,D.one?,D.vs?,D.v?]
 ·obtain⟨tc,tv,tp⟩:=t0;simp only[Kt,Fz,Th.cs,Th.vs,Th.ps,AH]at*;simp at q74 q75;simp only[Zw,Xk,AA 28 14];simp[g0,g8,g10];refine⟨_,_,q74 _,?_⟩;simp only[AA 28 15];by_cases hE:E1=0
  ·have q76:=q76 (hab hE);have q77:=(q77 hE).fsp;subst hE;rw[if_pos rfl]at hE';subst E';simp at q77 hloop;simp[AB,AA 28 17];refine⟨_,_,q75 _,?_⟩;simp[AA 28 18];refine hloop _ ?_;intro e f0 f8 f10 f14 f15;simp only[AA 28 23];simp[f0,f10,f14,f15,hg'];refine⟨_,_,q76,?_⟩;simp[AS];simp only[AW,AA 28 24];simp[f0,f8,f10,hg'];refine⟨_,_,⟨rfl,rfl⟩,_,q77,?_⟩;simp only[AA 28 25];by_cases hE3:E3=0
   ·subst hE3;simp[AA 28 27,AS];simp[AA 28 28,AS];simp[AA 28 29,AS,AD,AX 28,D.one?,D.vs?,D.v?]
   ·simp[hE3,AA 28 26,AS,AD,AX 28,D.one?,D.vs?,D.v?]
  ·rw[if_neg hE]at hE';subst E';simp[hE,AA 28 16,AS,AD,AX 28,D.one?,D.vs?,D.v?]
theorem Q8:(gA 28)= .seq (.reg (oG 28 0) [0,1,2,7,8]) (.seq (.reg (oG 28 1) [0,1,2,7,8,10]) (.seq (.seq (.reg (oG 28 2) [0,1,2,7,8,10,22]) (.block 0 (.seq (.reg (oG 28 3) [0,1,2,7,8,10,22,23]) (.cond (.t 23 false) (.reg (oG 28 4) [0,1,7,8,10]) (.seq (.reg (oG 28 5) [0,1,2,7,8,10,22,27]) (.cond (.t 27 false) (.reg (oG 28 6) [0,1,7,8,10]) (.seq (.reg (oG 28 7) [0,1,2,7,8,10,31]) (.cond (.t 31 false) (.reg (oG 28 8) [0,1,7,8,10]) .skip))))))))
  (.seq (.seq (.reg (oG 28 9) [0,7,8,10,40]) (.cond (.t 40 false) (.seq (.reg (oG 28 10) [0,7,8,10]) (.seq (.regD (oG 28 11) [0,8,10,12] [[],[0],[0,1],[0,1,2],[],[4],[4,5],[4,5,6],[],[0,1,2,3,4,5,6,7,8],[0,1,2,3,4,5,6,7,8,9],[0,1,2,3,4,5,6,7,8,9,10],[0,1,2,3,4,5,6,7,8,9,10],[0,1,2,3,4,5,6,7,8,9,10,11],[0,1,2,3,4,5,6,7,8,9,10,11,12,13]]) (.seq (.reg (oG 28 12) [0,8,10,12,57]) (.cond (.t 57 false) (.seq (.reg (oG 28 13) [8,9]) .ret) .skip)))) .skip)) Xk))):=rfl
def QN (ps:List (Int×List Int)) (a b:Int):List Int:=HA (FF ps) a (FE a b 12 0)
def QM (ps:List (Int×List Int)) (a b:Int):List Int:=G7 (FF ps) a (FE a b 12 0)
def O4 (ps:List (Int×List Int)) (a b:Int):List Int:=EV (FF ps) (FE a b 12 0)
def Oj (n:Int):Int:=if n <0∨4095 <n then 5 else 0
def O7 (n:Int):Int:=if n <1∨4095 <n then 1 else 0
def VP (n:Int):Int:=if n <0∨131072 <n then 5 else 0
section
variable {h:List Row} (hl:Low h) {g m:Nat} {pa:V} {rs:List Rgt} (hg:h[g]?=some (.cells [.v pa,.own 32 8 (rs.map Rgt.V),.ref m 0])) (hn:rs.length≤2^20) {ps:List (Int×List Int)} (hm:h[m]?=some (IX ps)) (hpn:ps.length≤2^40) (hok:∀p∈ps,Sm p) (n:Int) (t:Th)
include hl hg hn hm hpn hok
theorem ju:FX 28 [.ref g 0,.v (.int .i64 0),.v (.int .i64 n),.v t.V] h [.v (QP (Oj n) ⟨0,n,0,0,Ql,In n n rs,[],[],QN ps n n,QM ps n n,O4 ps n n⟩).V,.v (.int .i64 (Oj n))] h:=by
 refine CW (KN 28) rfl (qM _) hl (by simp[D.lt]) ?_;have ht:=t28 h hl g m pa rs hg hn ps hm hpn hok 0 n 0 0 Ql (.own 3 1 []) (.own 171 3 []) (.own 58 3 []) (.inl ⟨rfl,rfl,rfl,rfl⟩) (Oj n) (jL n) n n rfl rfl (λ_=>Int.le_refl _) [] [] 0 (QN ps n n) (QM ps n n) (O4 ps n n) rfl rfl rfl (Oj n) (by split<;>simp_all) (λ_=>jH pa _ rfl) (.cells t.cells) (λk=>R2 k t)
 change awp _ _ _ (YA h (QP (Oj n) ⟨0,n,0,0,Ql,In n n rs,[],[],QN ps n n,QM ps n n,O4 ps n n⟩).V (Oj n)) _;rw[Q8];generalize YA h _ _=Q at*;obtain⟨cs,vs,tp⟩:=t;simp only[Kt,Fz,Th.cells,Th.V_eq,Th.cs,Th.vs,Th.ps,AH]at*;simp only[Zw,AA 28 0,Ab];simp[AA 28 1,AS,AA 28 2,AA 28 3,AA 28 4,AA 28 9,AB];simp at ht;exact ht _ rfl rfl rfl
theorem jv (ho:∀r∈rs,r.owners.length <2^40):FX 28 [.ref g 0,.v (.int .i64 2),.v (.int .i64 n),.v t.V] h [.v (QP (O7 n) ⟨2,0,n,0,Ql,In 0 4095 rs,[],E8 n (In 0 4095 rs),QN ps 0 4095,QM ps 0 4095,O4 ps 0 4095⟩).V,.v (.int .i64 (O7 n))] h:=by
 refine CW (KN 28) rfl (qM _) hl (by simp[D.lt]) ?_;have ht:=t28 h hl g m pa rs hg hn ps hm hpn hok 2 0 n 0 Ql (.own 3 1 []) (.own 171 3 []) (.own 58 3 []) (.inl ⟨rfl,rfl,rfl,rfl⟩) (O7 n) (jM n) 0 4095 rfl rfl (λ_=>by decide) [] (E8 n (In 0 4095 rs)) 0 (QN ps 0 4095) (QM ps 0 4095) (O4 ps 0 4095) rfl rfl rfl (O7 n) (by split<;>simp_all)
  (λ_=>jI pa _ rfl (qo (rT _ _) hn) λr hr=>ho r (r9.1 hr).1) (.cells t.cells) (λk=>R2 k t)
 change awp _ _ _ (YA h (QP (O7 n) ⟨2,0,n,0,Ql,In 0 4095 rs,[],E8 n (In 0 4095 rs),QN ps 0 4095,QM ps 0 4095,O4 ps 0 4095⟩).V (O7 n)) _;rw[Q8];generalize YA h _ _=Q at*;obtain⟨cs,vs,tp⟩:=t;simp only[Kt,Fz,Th.cells,Th.V_eq,Th.cs,Th.vs,Th.ps,AH]at*;simp only[Zw,AA 28 0,Ab];simp[AA 28 1,AS,AA 28 2,AA 28 3,AA 28 5,AA 28 6,AA 28 9,AB];simp at ht;exact ht _ rfl rfl rfl
theorem dS (kind d:Int) (hk:kind=1∧d=0∨kind=3∧d=n) (L:List (Int×Int)) (E:Int) (q73:PX 73 [pa,.list (rs.map Rgt.V),t.V] [.list (L.map Bh),.int .i64 E]) (cl:List (Int×Int)) (E2:Int) (h2:E2=if E≠0 then E else if kind=1 then 0 else VP n)
  (q77:E2=0→PX 77 [pa,(Ext.mk kind 0 0 d t (In 0 4095 rs) [] [] (QN ps 0 4095) (QM ps 0 4095) (O4 ps 0 4095)).V] [.list (cl.map Bh),AH .i64 [],.int .i64 0]):
  FX 28 [.ref g 0,.v (.int .i64 kind),.v (.int .i64 n),.v t.V] h [.v (QP E2 ⟨kind,0,0,d,t,In 0 4095 rs,cl,[],QN ps 0 4095,QM ps 0 4095,O4 ps 0 4095⟩).V,.v (.int .i64 E2)] h:=by
 refine CW (KN 28) rfl (qM _) hl (by simp[D.lt]) ?_;have q74:PX 74 [(Ee kind 0 0 d t).V] [.int .i64 (if kind=1 then 0 else VP n)]:=by
  rcases hk with ⟨rfl,rfl⟩|⟨rfl,rfl⟩
  ·exact jO t
  ·exact jN d t
 have k0:¬kind=0:=by omega
 have k2:¬kind=2:=by omega
 have ht:=t28 h hl g m pa rs hg hn ps hm hpn hok kind 0 0 d t (.v (AH .i64 t.cs)) (.v (.list (t.vs.map Val.V))) (.v (.list (t.ps.map Th.V))) (.inr ⟨rfl,rfl,rfl⟩) _ q74 0 4095 (by rw[if_neg k0]) (by rw[if_neg k0]) (λ_=>by decide) cl [] 0 (QN ps 0 4095) (QM ps 0 4095) (O4 ps 0 4095) rfl rfl rfl E2;have hg':=λZ=>Az Z hg;change awp _ _ _ (YA h (QP E2 ⟨kind,0,0,d,t,In 0 4095 rs,cl,[],QN ps 0 4095,QM ps 0 4095,O4 ps 0 4095⟩).V E2) _;rw[Q8];have vN:Hk.V= .agg [.int .i64 0,.int .i64 0,.int .i64 0,.int .i64 0,.list [],.list [],.list [],.list [],.list [],.list [],.list [],.list [],.list []]:=rfl;by_cases hE:E=0
 ·subst hE;rw[if_neg (by simp)]at h2;have ht2:=ht (by rw[h2];split<;>simp_all) (λh=>q77 (h2.trans h)) (.cells t.cells) (λk=>R2 k t)
  clear ht;generalize YA h _ _=Q at*;clear q77 q74;obtain⟨cs,vs,tp⟩:=t;simp only[Kt,Fz,Th.cells,Th.V_eq,Th.cs,Th.vs,Th.ps,AH]at*;simp only[Zw,AA 28 0,Ab];rcases hk with ⟨rfl,rfl⟩|⟨rfl,rfl⟩
  ·simp[AA 28 1,AS,AA 28 2,AA 28 3,AA 28 5,AA 28 7,AA 28 9,AB,AA 28 10];simp only[AW,AA 28 11];simp[hg'];refine⟨_,_,⟨rfl,rfl⟩,_,q73,?_⟩;simp[AA 28 12];simp at ht2;exact ht2 _ rfl rfl rfl
  ·simp[AA 28 1,AS,AA 28 2,AA 28 3,AA 28 5,AA 28 7,AA 28 8,AA 28 9,AB,AA 28 10];simp only[AW,AA 28 11];simp[hg'];refine⟨_,_,⟨rfl,rfl⟩,_,q73,?_⟩;simp[AA 28 12];simp at ht2;exact ht2 _ rfl rfl rfl
 ·rw[if_pos hE]at h2;subst h2;clear ht q77 q74;unfold QP;rw[if_neg hE,vN];unfold YA;obtain⟨cs,vs,tp⟩:=t;simp only[Th.V_eq,AH]at*
  try simp at q73
  simp only[Zw,AA 28 0,Ab];rcases hk with ⟨rfl,rfl⟩|⟨rfl,rfl⟩
  ·simp[AA 28 1,AS,AA 28 2,AA 28 3,AA 28 5,AA 28 7,AA 28 9,AB,AA 28 10];simp only[AW,AA 28 11];simp[hg'];refine⟨_,_,⟨rfl,rfl⟩,_,q73,?_⟩;simp[AA 28 12,hE,AA 28 13,AS,AD,AX 28,D.one?,D.vs?,D.v?]
  ·simp[AA 28 1,AS,AA 28 2,AA 28 3,AA 28 5,AA 28 7,AA 28 8,AA 28 9,AB,AA 28 10];simp only[AW,AA 28 11];simp[hg'];refine⟨_,_,⟨rfl,rfl⟩,_,q73,?_⟩;simp[AA 28 12,hE,AA 28 13,AS,AD,AX 28,D.one?,D.vs?,D.v?]
end
end Go.Va
