/- Laws that ExtractAnswers leans on, part 33. No condition of its own. -/
import Derived.Test.YtopldfpkgbkomaaGreatDoorL32
set_option linter.all false
set_option maxRecDepth 100000
set_option maxHeartbeats 4000000
noncomputable section
namespace Go.Va
open Go.Proofs
def H4 (l:List Int):List (Int×List Int):=KO (Aj l)
def S4 (l:List Int):List Rgt:=Ht (Aj l)
def G8 (l:List Int):List Row:=HR (G6 (Aj l)) (.v (.list JN)) (Aj l)
def MA (l:List Int) (t:Th):Int:=Ru JN.length t (S4 l)
def Lj (l:List Int) (t:Th):List (Int×Int):=UK JN.length I6 t (S4 l)
def bO (l:List Int) (t:Th) (d:Int) (c:Int×Int):Bool:=T7 I6 t (IB (S4 l) c.1) c.2 d
def ID (l:List Int) (kind n:Int) (t:Th):Int:=if kind=0 then JU n else if kind=1 then MA l t else if kind=2 then Hu n else if MA l t≠0 then MA l t else L4 n
def El (l:List Int) (kind n:Int) (t:Th):Ext:=JZ (ID l kind n t) (
 if kind=0 then ⟨0,n,0,0,Lv,GE n n (S4 l),[],[],Nn (H4 l) n n,Nm (H4 l) n n,M3 (H4 l) n n⟩
 else if kind=1 then ⟨1,0,0,0,t,S4 l,Lj l t,[],[],[],[]⟩
 else if kind=2 then ⟨2,0,n,0,Lv,S4 l,[],CY n (S4 l),[],[],[]⟩
 else ⟨3,0,0,n,t,S4 l,(Lj l t).filter (bO l t n),[],[],[],[]⟩)
section
variable (l:List Int)
theorem M2 (ps:List (Int×List Int)):Nn ps 0 4095=[]∧Nm ps 0 4095=[]∧M3 ps 0 4095=[]:=by
 have e:Cr 0 4095 12 0=[]:=Sr 0;simp[Nn,Nm,M3,e,EB,D9,Cn]
theorem FM {r:Rgt} (h:r∈S4 l):r∈Aj l:=Mv l h
theorem UL:∀r∈S4 l,0≤r.file∧r.file≤4095:=λ_ hr=>HF (EE (FM l hr)).choose_spec.2
theorem GW:GE 0 4095 (S4 l)=S4 l:=VJ (UL l)
theorem Ej:(S4 l).length≤4:=UX l
theorem Qy:∀r∈S4 l,r.fine JN.length:=λr hr=>(DF (FM l hr)).fine (by have:=(BN (FM l hr)).lb;omega)
theorem XK:DV (H4 l)=DV ((Aj l).map G2):=by
 have:=PW (l:=Aj l) (Aj l).length (oN _) (Gz l)
 rwa [od]at this
theorem Xz:HW (DV (H4 l)) (Qk (Aj l)):=by
 rw[XK];have:=NN (l:=Aj l) (Aj l).length (oN _) (Gz l)
 rwa [od]at this
theorem Ul:(H4 l).length≤4:=by
 have:=Ka (Aj l) (Aj l).length (oN _);rw[od]at this;have h2:=EF l;unfold H4;omega
theorem M0:∀p∈H4 l,PY p:=by
 intro p hp;have:=(In (Aj l) (Aj l).length (oN _) p);rw[od]at this;obtain⟨r,hr,rfl⟩:=oP.1 (this.1 hp);exact⟨NY (BN hr) (by decide),Hm (BN hr) (by decide)⟩
theorem Y8:(G6 (Aj l)).length=6:=rfl
theorem W0:G8 l=G6 (Aj l)++[G0 (H4 l),.cells [.v (.list JN),.own 32 8 ((S4 l).map Rgt.V),.ref 6 0]]:=by
 unfold G8 HR H4 S4;rw[←SQ (Dj l)];rfl
theorem Y7:Low (G8 l):=QE (UP _) _ _
theorem PE (Z:List Row):G8 l++Z=G6 (Aj l)++([G0 (H4 l),.cells [.v (.list JN),.own 32 8 ((S4 l).map Rgt.V),.ref 6 0]]++Z):=by rw[W0,oR]
theorem ZS:∀a b:Int,0≤a→a <JN.length→0≤b→b <JN.length→PX 311 [.list JN,.int .i64 a,.int .i64 b] [.bool (I6 a b)]:=fP
variable {t:Th} (ht:t.ok) (hs:t.size≤2^40)
theorem P2:(Lj l t).length≤2^20:=by
 have h1:=KL I6 t 3 (S4 l) λr hr=>(DF (FM l hr)).n;have h2:=Ej l;unfold Lj UK;split
 ·omega
 ·simp
theorem Ti {c:Int×Int} (hc:c∈Lj l t):(Hb t=0∧t.kinds 6=true)∧∃r∈S4 l,r.file=c.1∧0≤c.2∧c.2 <r.claims.length:=by
 unfold Lj UK at hc;split at hc
 ·rename_i hE;refine⟨?_,O8 hc⟩;unfold Ru at hE;by_cases h1:Hb t=0
  ·refine⟨h1,?_⟩;rw[if_neg (by simp[h1])]at hE;cases hk:t.kinds 6 with
   |true=>rfl
   |false=>
    have hk':t.kinds JN.length=false:=hk;rw[hk']at hE;simp only[Bool.false_or]at hE;split at hE
    ·rename_i hall;exfalso;unfold A5 at hc;obtain⟨r,hr,hcr⟩:=pP.1 hc;have:=List.isEmpty_iff.1 (oY.1 hall r hr);unfold Bt at hcr;rw[this]at hcr;cases hcr
    ·cases hE
  ·rw[if_pos h1]at hE;exact absurd hE h1
 ·cases hc
include ht
theorem WM (Z:List Row) (hZ:Low (G8 l++Z)):FX 185 [.ref 0 0,.v (.list ((S4 l).map Rgt.V)),.v t.V] (G8 l++Z) [.own 76 2 ((Lj l t).map Bn),.v (.int .i64 (MA l t))] (G8 l++Z):=
 Z6 (ps:=JN) (bs:=Rq) (by rw[Kb];decide) Qu _ 0 (by rw[PE];rfl) hZ t ht (S4 l) (Qy l) (by have:=Ej l;omega) (λr hr=>by have:=(DF (FM l hr)).n;omega) (KN l)
include hs
theorem Uj:PX 73 [.list JN,.list ((S4 l).map Rgt.V),t.V] [.list ((Lj l t).map Bn),.int .i64 (MA l t)]:=
 mt (by rw[Kb];decide) ZS t ht hs (S4 l) (by have:=Ej l;omega) (Qy l)
end
section
variable {J:List Row}
section
variable (l:List Int)
theorem QR (a b:Int) (hab:UQ a b) (Z:List Row) (hZ:Low (G8 l++Z)):
  FX 137 [.ref 4 0,.v (.int .i64 a),.v (.int .i64 b)] (G8 l++Z) [.own 193 2 ((GE a b (S4 l)).map λr=>V.agg [.int .i64 r.file,AH .u8 (Be r)]),.v (.agg [AH .u64 (Nn (H4 l) a b),AH .u64 (Nm (H4 l) a b),AH .u8 (M3 (H4 l) a b)]),.v (.int .i64 0)] (G8 l++Z):=by
 have hp:=Dj l;have hE:=NI (Aj l) hp;have q:=aF (G8 l++Z) hZ 4 2 3 (Hi (Aj l)) (Qk (Aj l)) (DV (H4 l)) a b hab (by rw[PE];rfl) (by rw[PE];rfl) (by rw[PE];rfl) (Xz l) (by rw[hE,oi];have:=EF l;omega) (by
  intro x hx;rw[hE]at hx;obtain⟨r,hr,rfl⟩:=oP.1 hx;exact⟨HF (EE hr).choose_spec.2,Hm (BN hr) (by decide)⟩)
 rw[Sl hp]at q;exact q
theorem ZU (a b:Int):∀r∈GE a b (S4 l),PX 113 [AH .u8 (Be r)] [r.V,.int .i64 0]:=λr hr=>N7 l r (qC.1 hr).1
theorem Qi (a b:Int):(GE a b (S4 l)).length≤2^20:=by
 have h1:=pG (λr:Rgt=>decide (a≤r.file∧r.file≤b)) (S4 l);have h2:=Ej l;unfold GE;omega
theorem UO (Z:List Row):(G8 l++Z)[5]?=some (.cells [.ref 0 0,.mref 1,.ref 4 0]):=by rw[PE];rfl
theorem Vw (Z:List Row):(G8 l++Z)[7]?=some (.cells [.v (.list JN),.own 32 8 ((S4 l).map Rgt.V),.ref 6 0]):=by rw[PE];rfl
theorem Vx (Z:List Row):(G8 l++Z)[6]?=some (G0 (H4 l)):=by rw[PE];rfl
theorem II {Z:List Row} (hZ:Low (G8 l++Z)) (hJ:Lows J):Low (G8 l++(Z++J)):=Xr hZ hJ
variable (n:Int) (Z:List Row) (hZ:Low (G8 l++Z))
include hZ
theorem dz:FX 61 [.ref 5 0,KW 0 n 0 0 (.nil 3 1) (.nil 171 3) (.nil 58 3)] (G8 l++Z) [.v (JZ (JU n) ⟨0,n,0,0,Lv,GE n n (S4 l),[],[],Nn (H4 l) n n,Nm (H4 l) n n,M3 (H4 l) n n⟩).V,.v (.int .i64 (JU n))] (G8 l++Z):=by
 by_cases hk:UQ n n
 ·have e:JU n=0:=by unfold JU;rw[if_neg (by unfold UQ at hk;omega)]
  have q:=Sm (G8 l++Z) hZ 0 n 0 0 Lv (.inl ⟨rfl,rfl,rfl,rfl⟩) 5 4 1 0 (UO l Z) n n rfl rfl (GE n n (S4 l)) (Qi l n n) (Nn (H4 l) n n) (Nm (H4 l) n n) (M3 (H4 l) n n) 0 (λh=>absurd rfl h)
   (λZ' hZ'=>by rw[oR];exact QR l n n hk _ (II l hZ hZ')) (ZU l n n) [] [] 0 (.own 76 2 []) (.inr rfl) (λ_ Z' hZ'=>eK _ (hZ.lows hZ') (.ref 0 0) _ rfl ⟨rfl,by simp[D.lt,W0,Y8];omega⟩)
  rw[e];exact q
 ·have e:JU n=5:=by unfold JU;rw[if_pos (by unfold UQ at hk;omega)]
  have q:=Sm (G8 l++Z) hZ 0 n 0 0 Lv (.inl ⟨rfl,rfl,rfl,rfl⟩) 5 4 1 0 (UO l Z) n n rfl rfl [] (by simp) [] [] [] 5 (λ_=>rfl)
   (λZ' hZ'=>by rw[oR];exact aG _ (II l hZ hZ') 4 n n hk) (λr hr=>by cases hr) [] [] 0 (.own 76 2 []) (.inr rfl) (λh=>by cases h)
  rw[e];exact q
theorem eD:FX 61 [.ref 5 0,KW 2 0 n 0 (.nil 3 1) (.nil 171 3) (.nil 58 3)] (G8 l++Z) [.v (Ext.mk 2 0 n 0 Lv (S4 l) [] (CY n (S4 l)) [] [] []).V,.v (.int .i64 0)] (G8 l++Z):=by
 obtain⟨e1,e2,e3⟩:=M2 (H4 l);have h137:=QR l 0 4095 (by decide);rw[GW,e1,e2,e3]at h137;exact Sm (G8 l++Z) hZ 2 0 n 0 Lv (.inl ⟨rfl,rfl,rfl,rfl⟩) 5 4 1 0 (UO l Z) 0 4095 rfl rfl (S4 l) (by have:=Ej l;omega) [] [] [] 0 (λh=>absurd rfl h)
  (λZ' hZ'=>by rw[oR];exact h137 _ (II l hZ hZ')) (N7 l) [] (CY n (S4 l)) 0 (.own 76 2 []) (.inr rfl)
  (λ_ Z' hZ'=>eM _ (hZ.lows hZ') 0 n 0 Lv (S4 l) (by have:=Ej l;omega) (λr hr=>by have:=(BN (FM l hr)).lo;omega) [] [])
variable {t:Th} (ht:t.ok)
include ht
theorem WL:FX 61 [.ref 5 0,Rr 1 0 t] (G8 l++Z) [.v (JZ (MA l t) ⟨1,0,0,0,t,S4 l,Lj l t,[],[],[],[]⟩).V,.v (.int .i64 (MA l t))] (G8 l++Z):=by
 obtain⟨e1,e2,e3⟩:=M2 (H4 l);have h137:=QR l 0 4095 (by decide);rw[GW,e1,e2,e3]at h137;exact Sm (G8 l++Z) hZ 1 0 0 0 t (.inr ⟨rfl,rfl,rfl⟩) 5 4 1 0 (UO l Z) 0 4095 rfl rfl (S4 l) (by have:=Ej l;omega) [] [] [] 0 (λh=>absurd rfl h)
  (λZ' hZ'=>by rw[oR];exact h137 _ (II l hZ hZ')) (N7 l) (Lj l t) [] (MA l t) _ (.inl rfl)
  (λ_ Z' hZ'=>eO _ (hZ.lows hZ') 0 _ _ _ (.inl rfl) λZ2 hZ2=>by rw[oR,oR];exact WM l ht _ (II l hZ (hZ'.both hZ2)))
theorem ZR (hE:MA l t=0):FX 61 [.ref 5 0,Rr 3 n t] (G8 l++Z) [.v (Ext.mk 3 0 0 n t (S4 l) ((Lj l t).filter (bO l t n)) [] [] [] []).V,.v (.int .i64 0)] (G8 l++Z):=by
 obtain⟨e1,e2,e3⟩:=M2 (H4 l);have h137:=QR l 0 4095 (by decide);rw[GW,e1,e2,e3]at h137;refine Sm (G8 l++Z) hZ 3 0 0 n t (.inr ⟨rfl,rfl,rfl⟩) 5 4 1 0 (UO l Z) 0 4095 rfl rfl (S4 l) (by have:=Ej l;omega) [] [] [] 0 (λh=>absurd rfl h)
  (λZ' hZ'=>by rw[oR];exact h137 _ (II l hZ hZ')) (N7 l) ((Lj l t).filter (bO l t n)) [] 0 _ (.inr rfl)
  (λ_ Z' hZ'=>ZV _ 0 n t (S4 l) (Lj l t) (P2 l) (hZ.lows hZ') (bO l t n) (λZ2 hZ2=>?_) (λc hc Z2 hZ2=>?_))
 ·have:=WM l ht _ (II l hZ (hZ'.both hZ2));rw[hE]at this;rw[oR,oR];exact this
 ·obtain⟨f,i⟩:=c;obtain⟨⟨h1,h2⟩,r,hr,hrf,h0,hi⟩:=Ti l hc;simp only at hrf h0 hi;subst hrf;have hm:=FM l hr;have hfind:=Jh (Mw (Dj l)) hr;have hfr:IB (S4 l) r.file=r:=DI (Mw (Dj l)) hr;have hlz:Lows (.cells ((GJ 3 n t (S4 l) []).map .v)::Z2):=by
   intro row hrow n;rcases oO.1 hrow with rfl|hrow
   ·exact NE n _ _ _ _ _
   ·exact hZ2 row hrow n
  have q:=ir (c0:=[]) (ps:=JN) (bs:=Rq) (by rw[Kb];decide) Qu (G8 l++Z++Z'++ .cells ((GJ 3 n t (S4 l) []).map .v)::Z2) 0 (by rw[oR,oR,PE];rfl) ((hZ.lows hZ').lows hlz) t ht h1 h2 3 n (S4 l) (by have:=Ej l;omega) r r.file i hfind
   (by have:=(BN hm).ld;omega) (Y5 l r hm i h0 hi) (eE l r hm i h0 hi)
  unfold bO;rw[hfr];exact q
end
end
theorem VG:∀f:F,∀g∈f.nodes,g.kids.length≤f.size:=by
 refine F.ind λop n ins kids ih g hg=>?_;rw[F.nodes_eq]at hg;rw[F.size_eq];rcases oO.1 hg with rfl|hg
 ·have:=F.kids_len kids;simp only[F.kids];omega
 ·obtain⟨k,hk,hg⟩:=pP.1 hg;have h1:=ih k hk g hg;have h2:=F.kid_size hk;omega
theorem XE {r:Rgt} (h:r.tiny 3):r.sm where
 h1:=by have:=h.lc;omega
 h2:=λc hc=>⟨by have:=(h.claims c hc).lr;omega,λg hg=>⟨by have:=((h.claims c hc).body.one g hg).2;omega,by have:=VG _ g hg;have:=(h.claims c hc).body.size;omega⟩⟩
 h3:=by have:=h.ld;omega
 h4:=by have:=h.lb;omega
 h5:=by have:=h.lo;omega
 h6:=by have:=h.ll;omega
section
variable (l:List Int) (n:Int) {t:Th} (ht:t.ok)
theorem Pc:Lv.ok:= .mk (by decide) (by decide) (by decide) (by simp) (by simp)
theorem Xh:Es.sm:=⟨Pc,by simp[Es,Dx],by simp[Es,Dx],by simp[Es,Dx],by simp[Es,Dx],by simp[Es,Dx],by simp[Es,Dx],by simp[Es,Dx]⟩
theorem Xe {E:Int} {x:Ext} (h:x.sm):(JZ E x).sm:=by
 unfold JZ;split
 ·exact h
 ·exact Xh
theorem IC {α β:Type} (f:α→Option β) (m:Nat) {l:List α} (h:l.length≤m):(l.filterMap f).length≤m:=pA (qG f l) h
include ht
theorem UE (kind:Int):(El l kind n t).sm∧∀r∈(El l kind n t).rs,r.tiny 3:=by
 have hs:∀r∈S4 l,r.sm:=λr hr=>XE (BN (FM l hr));have ht3:∀r∈S4 l,r.tiny 3:=λr hr=>BN (FM l hr);have hl4:=Ej l;have hcl:=P2 l (t:=t);have hB:=E9 n n 12 0;have hf:∀pa,(CY pa (S4 l)).length≤4:=λpa=>by
  unfold CY;rw[oi];exact pA (pG _ _) hl4
 have hor:∀(E:Int) (x:Ext),(∀r∈x.rs,r.tiny 3)→∀r∈(JZ E x).rs,r.tiny 3:=λE x hx r hr=>by
  unfold JZ at hr;split at hr
  ·exact hx r hr
  ·simp[Es,Dx]at hr
 unfold El;refine⟨Xe ?_,hor _ _ ?_⟩
 ·split
  ·exact⟨Pc,λr hr=>hs r (qC.1 hr).1,pA (Qi l n n) (by decide),by simp,by simp,IC _ _ (by omega),IC _ _ (by omega),by simp[M3,Cn];omega⟩
  ·split
   ·exact⟨ht,hs,by simp;omega,by simp;omega,by simp,by simp,by simp,by simp⟩
   ·split
    ·exact⟨Pc,hs,by simp;omega,by simp,by have:=hf n;simp;omega,by simp,by simp,by simp⟩
    ·refine⟨ht,hs,by simp;omega,?_,by simp,by simp,by simp,by simp⟩;have:=pG (bO l t n) (Lj l t);simp only;omega
 ·split
  ·exact λr hr=>ht3 r (qC.1 hr).1
  ·split
   ·exact ht3
   ·split<;>exact ht3
variable (Z:List Row) (hZ:Low (G8 l++Z))
include hZ
theorem mc (hsm:t.small) {kind:Int} (hk:kind=0∨kind=1∨kind=2∨kind=3):FX 27 [.ref 5 0,.v (.int .i64 kind),.v (.int .i64 n),.v t.V] (G8 l++Z) [.v (El l kind n t).V,.v (.int .i64 (ID l kind n t))] (G8 l++Z):=by
 have z0:=λZ' (hZ':Lows Z')=>II l hZ hZ';refine gD (X:=(El l kind n t).cs) hZ rfl kind n t hk ?_ ?_ ?_ ?_
 ·rintro rfl Z' hZ';rw[oR];exact m9 (X:=(El l 0 n t).cs) (z0 Z' hZ') rfl n λZ2 hZ2=>by rw[oR];exact dz l n _ (II l (z0 Z' hZ') hZ2)
 ·rintro rfl Z' hZ';rw[oR];exact Zy (X:=(El l 1 n t).cs) (z0 Z' hZ') rfl t hsm λZ2 hZ2=>by rw[oR];exact WL l _ (II l (z0 Z' hZ') hZ2) ht
 ·rintro rfl Z' hZ';rw[oR];have e:ID l 2 n t=Hu n:=rfl;rw[e];by_cases hp:Hu n=0
  ·have eX:El l 2 n t=⟨2,0,n,0,Lv,S4 l,[],CY n (S4 l),[],[],[]⟩:=by
    show JZ (Hu n) _=_;unfold JZ;rw[if_pos hp];rfl
   rw[eX,hp];exact eg (X:=(Ext.mk 2 0 n 0 Lv (S4 l) [] (CY n (S4 l)) [] [] []).cs) (z0 Z' hZ') rfl n hp λZ2 hZ2=>by rw[oR];exact eD l n _ (II l (z0 Z' hZ') hZ2)
  ·have eX:El l 2 n t=Es:=by
    show JZ (Hu n) _=_;unfold JZ;rw[if_neg hp]
   rw[eX];exact eh (z0 Z' hZ') n hp
 ·rintro rfl Z' hZ';rw[oR];refine gz (Y:=(El l 3 n t).cs) (z0 Z' hZ') t hsm n (X1:=(El l 1 n t).cs) (E1:=MA l t) (λZ2 hZ2=>?_) rfl (λh1 h2 Z2 hZ2=>?_) rfl rfl (λh=>?_)
  ·rw[oR];exact Zy (X:=(El l 1 n t).cs) (II l (z0 Z' hZ') hZ2) rfl t hsm λZ3 hZ3=>by rw[oR];exact WL l _ (II l (II l (z0 Z' hZ') hZ2) hZ3) ht
  ·rw[oR];have e:ID l 3 n t=0:=by show (if MA l t≠0 then MA l t else L4 n)=0;rw[if_neg (by simpa using h1),h2]
   have eX:El l 3 n t=⟨3,0,0,n,t,S4 l,(Lj l t).filter (bO l t n),[],[],[],[]⟩:=by
    show JZ (ID l 3 n t) _=_;unfold JZ;rw[if_pos e];rfl
   rw[eX,e];exact ZR l n _ (II l (z0 Z' hZ') hZ2) ht h1
  ·show (JZ (ID l 3 n t) _).V=_;unfold JZ;rw[if_neg h]
omit hZ
theorem ZT (hs:t.size≤2^40) {c:Int×Int} (hc:c∈Lj l t):∃j r,(S4 l)[j]?=some r∧r.file=c.1∧(∀k q,k <j→(S4 l)[k]?=some q→q.file≠c.1)∧j <2^40∧PX 166 [.list JN,r.V,.int .i64 c.2,t.V,.int .i64 n] [.bool (bO l t n c),.int .i64 0]:=by
 obtain⟨f,i⟩:=c;obtain⟨⟨h1,h2⟩,r,hr,hrf,h0,hi⟩:=Ti l hc;simp only at hrf h0 hi ⊢;subst hrf;obtain⟨j,hj⟩:=qW.1 hr;have hm:=FM l hr;have hpw:=Mw (Dj l);have hfr:IB (S4 l) r.file=r:=DI hpw hr;have hjl:=(oM.1 hj).1;have hl4:=Ej l;refine⟨j,r,hj,rfl,λk q hk hq=>?_,by omega,?_⟩
 ·obtain⟨a1,a2⟩:=oM.1 hq;obtain⟨b1,b2⟩:=oM.1 hj;have:=List.pairwise_iff_getElem.1 hpw k j a1 b1 hk;rw[←a2,←b2];exact this
 ·obtain⟨i',rfl⟩:∃i':Nat,i=i':=⟨i.toNat,by omega⟩;have hcs:=DF hm;have hal:=hcs.alts i' (by omega);have ht3:=BN hm;unfold bO;rw[hfr];exact jE (by rw[Kb];decide) ZS r hcs.altOK (λc hc=>(hcs.tiny c hc).ok) hcs.z (by have:=ht3.ld;omega) i' (by omega) t ht hs (λf hf=>⟨(hal.2 f hf).1,b8 hal hf h1 h2⟩) hal.1 n
include hZ
theorem ma (hs:t.size≤2^40) {kind:Int} (hk:kind=0∨kind=1∨kind=2∨kind=3):FX 28 [.ref 7 0,.v (.int .i64 kind),.v (.int .i64 n),.v t.V] (G8 l++Z) [.v (El l kind n t).V,.v (.int .i64 (ID l kind n t))] (G8 l++Z):=by
 have hl4:=Ej l;have hpn:=Ul l;obtain⟨e1,e2,e3⟩:=M2 (H4 l);rcases hk with rfl|rfl|rfl|rfl
 ·exact fq hZ (Vw l Z) (by omega) (Vx l Z) (by omega) (M0 l) n t
 ·have q:=Zj hZ (Vw l Z) (by omega) (Vx l Z) (by omega) (M0 l) n t 1 0 (.inl ⟨rfl,rfl⟩) (Lj l t) (MA l t) (Uj l ht hs) (Lj l t) (MA l t) (by split<;>simp_all) (λhE=>by
   have:=eY JN (Ext.mk 1 0 0 0 t (GE 0 4095 (S4 l)) [] [] (Nn (H4 l) 0 4095) (Nm (H4 l) 0 4095) (M3 (H4 l) 0 4095)) (Lj l t) (MA l t) (.inl rfl) (by simp only[GW];exact Uj l ht hs);rw[hE]at this;exact this)
  rw[GW,e1,e2,e3]at q;exact q
 ·have q:=fu hZ (Vw l Z) (by omega) (Vx l Z) (by omega) (M0 l) n t (λr hr=>by have:=(BN (FM l hr)).lo;omega);rw[GW,e1,e2,e3]at q;exact q
 ·have q:=Zj hZ (Vw l Z) (by omega) (Vx l Z) (by omega) (M0 l) n t 3 n (.inr ⟨rfl,rfl⟩) (Lj l t) (MA l t) (Uj l ht hs) ((Lj l t).filter (bO l t n)) (ID l 3 n t) rfl (λhE=>by
   have h0:MA l t=0:=by
    by_cases h:MA l t=0
    ·exact h
    ·have:ID l 3 n t=MA l t:=by show (if MA l t≠0 then MA l t else L4 n)=_;rw[if_pos h]
     rw[this]at hE;exact hE
   refine eW JN (Ext.mk 3 0 0 n t (GE 0 4095 (S4 l)) [] [] (Nn (H4 l) 0 4095) (Nm (H4 l) 0 4095) (M3 (H4 l) 0 4095)) rfl (Lj l t) (P2 l) ?_ (bO l t n) ?_
   ·simp only[GW];rw[←h0];exact Uj l ht hs
   ·simp only[GW];exact λc hc=>ZT l n ht hs hc)
  rw[GW,e1,e2,e3]at q;exact q
end
structure Th.fit (t:Th):Prop where
 ok:t.ok
 small:t.small
 size:t.size≤2^40
section
variable (l:List Int) (N:List Int) (hN:N.length=4) (T:List Th) (hT:T.length=2) (hf:∀t∈T,t.fit)
def lQ:AC:=ll 5 2
def dZ:AC:=lQ.R.L.L
def dY:AC:=dZ.R
def lR:AC:=dY.R
def L3 (N:List Int) (T:List Th) (es:List (Nat×D)):CB:=(15,.ref 5 0)::(17,.ref 7 0)::(20,.own 58 3 (T.map Th.V))::(21,.own 3 1 (N.map (.int .i64)))::es
include hN hT hf
theorem ni (kind:Nat) (hk:kind <4) (i:Nat) (hi:i <2) (J:List Row) (hJ:Lows J) (Q:AExit→St→Prop)
  (hQ:∀e J,Lows J→AG e 15= .ref 5 0→AG e 17= .ref 7 0→AG e 20= .own 58 3 (T.map Th.V)→AG e 21= .own 3 1 (N.map (.int .i64))→AG e 22= .v (.int .i64 kind)→AG e 23= .v (.int .i64 i)→Q (.exit 4) ⟨e,G8 l++J⟩):
  awp Tryz.prog Ah (.loop (lG 5 2)) Q ⟨L3 N T [(22,.v (.int .i64 kind)),(23,.v (.int .i64 i)),(24,.v (.int .i64 (0:Nat)))],G8 l++J⟩:=by
 refine AY 4 (λk s=>∃J,Lows J∧s=⟨L3 N T [(22,.v (.int .i64 kind)),(23,.v (.int .i64 i)),(24,.v (.int .i64 k))],G8 l++J⟩) ⟨J,hJ,rfl⟩ ?_;rintro k s hk4 ⟨J,hJ,rfl⟩;rw[show (lG 5 2)= .seq (.seq (.reg (oG 5 17) _) (.cond _ .skip (.exit 4))) (.seq (.block 5 dZ) (.reg (oG 5 18) _)) from(A8 5 2 :)];simp only[Zw,AA 5 17,L3];by_cases h1:k <4
 ·obtain⟨n,hn⟩:∃n,N[k]?=some n:=⟨_,oI (by omega)⟩;obtain⟨t,ht⟩:∃t,T[i]?=some t:=⟨_,oI (by omega)⟩;have hft:=hf t (oK ht);have hkc:(kind:Int)=0∨(kind:Int)=1∨(kind:Int)=2∨(kind:Int)=3:=by omega
  have w1:=Bb k;obtain⟨hsm,ht3⟩:=UE l n hft.ok (kind:Int);have hlZ:=λZ (hZ:Lows Z)=>(Y7 l).lows (hJ.both hZ);have p27:=λZ (hZ:Lows Z)=>mc l n hft.ok (J++Z) (hlZ Z hZ) hft.small hkc;have p28:=λZ (hZ:Lows Z)=>ma l n hft.ok (J++Z) (hlZ Z hZ) hft.size hkc;have p29':=nM _ hsm;have p30':=nK _ hsm.lr hsm.cl (λr hr=>pM nw r ((ht3 r hr).ok (by decide)));obtain⟨x0,x1,x2,x3,x4,x5,x6,x7,x8,x9,x10,x11,x12,hx⟩:=IJ (X:=(El l kind n t).cs) rfl;have hV:(El l kind n t).V= .agg [x0,x1,x2,x3,x4,x5,x6,x7,x8,x9,x10,x11,x12]:=by show V.agg _=_;rw[hx]
  rw[hV]at p27 p28 p29' p30';generalize ID l kind n t=E at*;clear hV hx hsm ht3;have e0:∀Z,G8 l++(J++Z)=(G8 l++J)++Z:=λZ=>(oR ..).symm;simp only[e0]at p27 p28;obtain⟨H,hH⟩:∃H,G8 l++J=H:=⟨_,rfl⟩;rw[hH]at p27 p28 ⊢;have a1:=p27 [] Lows.nil;have a2:=p27 [Ed] (OP Fn);have lX:∀m,Row.low m (.cells [.v x0,.v x1,.v x2,.v x3,.v x4,.v x5,.v x6,.v x7,.v x8,.v x9,.v x10,.v x11,.v x12])=true:=λm=>by simp[Row.low,D.lts,D.lt]
  have b1:=p28 _ (OP lX);have b2:=p28 _ (OO lX (λm=>show Row.low m Fb=true from rfl));have hfin:∃J',Lows J'∧H++[.cells [.v x0,.v x1,.v x2,.v x3,.v x4,.v x5,.v x6,.v x7,.v x8,.v x9,.v x10,.v x11,.v x12],.cells [.v x0,.v x1,.v x2,.v x3,.v x4,.v x5,.v x6,.v x7,.v x8,.v x9,.v x10,.v x11,.v x12]]=G8 l++J':=⟨_,hJ.both (OO lX lX),by rw[←hH,oR]⟩;obtain⟨⟨tc,tv,tp⟩,rfl⟩:∃t',t'=t:=⟨t,rfl⟩;simp only[Th.V_eq,AH,Ed,Fb]at a1 a2 b1 b2;simp at a1;have hTi:(T.map Th.V)[i]?=some (.agg [.list (tc.map (.int .i64)),.list (tv.map Val.V),.list (tp.map Th.V)]):=by rw[oX,ht];simp[Th.V_eq,AH]
  have hNk:(N.map (V.int .i64))[k]?=some (.int .i64 n):=by rw[oX,hn];rfl
  obtain⟨K,hK⟩:∃K:AExit→St→Prop,K=(λe s=>e= .normal∧AG s.e 15= .ref 5 0∧AG s.e 17= .ref 7 0∧AG s.e 20= .own 58 3 (T.map Th.V)∧AG s.e 21= .own 3 1 (N.map (.int .i64))∧AG s.e 22= .v (.int .i64 kind)∧AG s.e 23= .v (.int .i64 i)∧AG s.e 24= .v (.int .i64 k)∧∃J',Lows J'∧s.h=G8 l++J'):=⟨_,rfl⟩;have tail:∀e,AG e 15= .ref 5 0→AG e 17= .ref 7 0→AG e 20= .own 58 3 (T.map Th.V)→AG e 21= .own 3 1 (N.map (.int .i64))→AG e 22= .v (.int .i64 kind)→AG e 23= .v (.int .i64 i)→AG e 24= .v (.int .i64 k)→AG e 25= .ref H.length 0→AG e 26= .v (.int .i64 E)→
    AG e 27= .ref (H.length+1) 0→AG e 28= .v (.int .i64 E)→awp Tryz.prog Ah lR K ⟨e,H++[.cells [.v x0,.v x1,.v x2,.v x3,.v x4,.v x5,.v x6,.v x7,.v x8,.v x9,.v x10,.v x11,.v x12],.cells [.v x0,.v x1,.v x2,.v x3,.v x4,.v x5,.v x6,.v x7,.v x8,.v x9,.v x10,.v x11,.v x12]]⟩:=by
   intro e f15 f17 f20 f21 f22 f23 f24 f25 f26 f27 f28;rw[hK,show lR= .seq (.regD (oG 5 21) _ _) (.cond _ _ .skip) from rfl];simp only[AE,AS,AK,AA 5 21];simp[f25,f26,f27,f28];refine⟨_,_,⟨rfl,rfl⟩,_,p30',?_⟩;simp;refine⟨_,_,⟨rfl,rfl⟩,_,p29',?_⟩;simp[AD];exact⟨f15,f17,f20,f21,f22,f23,f24,hfin⟩
  have mid:∀e,AG e 15= .ref 5 0→AG e 17= .ref 7 0→AG e 20= .own 58 3 (T.map Th.V)→AG e 21= .own 3 1 (N.map (.int .i64))→AG e 22= .v (.int .i64 kind)→AG e 23= .v (.int .i64 i)→AG e 24= .v (.int .i64 k)→AG e 25= .ref H.length 0→AG e 26= .v (.int .i64 E)→awp Tryz.prog Ah dY K ⟨e,H++[.cells [.v x0,.v x1,.v x2,.v x3,.v x4,.v x5,.v x6,.v x7,.v x8,.v x9,.v x10,.v x11,.v x12]]⟩:=by
   intro e f15 f17 f20 f21 f22 f23 f24 f25 f26;generalize hT':T.map Th.V=TV at*;generalize hN':N.map (V.int .i64)=NV at*;rw[show dY= .seq (.regA (oG 5 20) _ _ _) lR from rfl,AE,Bf];refine Bg _ (λs hs=>⟨s,.inl rfl,hs⟩) ?_;simp only[AA 5 20];simp[f17,f20,f21,f22,f23,f24,hTi,hNk]
   constructor
   ·refine⟨_,_,b1,?_⟩;simp[AO];exact tail _ f15 f17 f20 f21 f22 f23 f24 f25 f26 rfl rfl
   ·refine⟨_,_,b2,?_⟩;simp[AO];exact tail _ f15 f17 f20 f21 f22 f23 f24 f25 f26 rfl rfl
  have fst:∀e,AG e 15= .ref 5 0→AG e 17= .ref 7 0→AG e 20= .own 58 3 (T.map Th.V)→AG e 21= .own 3 1 (N.map (.int .i64))→AG e 22= .v (.int .i64 kind)→AG e 23= .v (.int .i64 i)→AG e 24= .v (.int .i64 k)→awp Tryz.prog Ah dZ K ⟨e,H⟩:=by
   intro e f15 f17 f20 f21 f22 f23 f24;generalize hT':T.map Th.V=TV at*;generalize hN':N.map (V.int .i64)=NV at*;rw[show dZ= .seq (.regA (oG 5 19) _ _ _) dY from rfl,AE,Bf];refine Bg _ (λs hs=>⟨s,.inl rfl,hs⟩) ?_;simp only[AA 5 19];simp[f15,f20,f21,f22,f23,f24,hTi,hNk]
   constructor
   ·refine⟨_,_,a1,?_⟩;simp[AO];exact mid _ f15 f17 f20 f21 f22 f23 f24 rfl rfl
   ·refine⟨_,_,a2,?_⟩;simp[AO];exact mid _ f15 f17 f20 f21 f22 f23 f24 rfl rfl
  have h1':(k:Int) <4:=by omega
  simp[h1,h1',AD];have fst':=fst [(15,.ref 5 0),(17,.ref 7 0),(20,.own 58 3 (T.map Th.V)),(21,.own 3 1 (N.map (.int .i64))),(22,.v (.int .i64 kind)),(23,.v (.int .i64 i)),(24,.v (.int .i64 k)),(84,.v (.bool true))] rfl rfl rfl rfl rfl rfl rfl;refine Ad _ ?_ fst';rw[hK];rintro e ⟨se,sh⟩ ⟨rfl,f15,f17,f20,f21,f22,f23,f24,J',hJ',hh⟩;simp only at f15 f17 f20 f21 f22 f23 f24 hh;subst hh;simp[AA 5 18,f15,f17,f20,f21,f22,f23,f24,w1];exact hJ'
 ·obtain rfl:k=4:=by omega
  simp[AJ];exact hQ _ J hJ rfl rfl rfl rfl rfl rfl
theorem nj (kind:Nat) (hk:kind <4) (J:List Row) (hJ:Lows J) (Q:AExit→St→Prop)
  (hQ:∀e J,Lows J→AG e 15= .ref 5 0→AG e 17= .ref 7 0→AG e 20= .own 58 3 (T.map Th.V)→AG e 21= .own 3 1 (N.map (.int .i64))→AG e 22= .v (.int .i64 kind)→Q (.exit 2) ⟨e,G8 l++J⟩):
  awp Tryz.prog Ah (.loop (lG 5 1)) Q ⟨L3 N T [(22,.v (.int .i64 kind)),(23,.v (.int .i64 (0:Nat)))],G8 l++J⟩:=by
 refine AY 2 (λk s=>∃J,Lows J∧s=⟨L3 N T [(22,.v (.int .i64 kind)),(23,.v (.int .i64 k))],G8 l++J⟩) ⟨J,hJ,rfl⟩ ?_;rintro k s hk4 ⟨J,hJ,rfl⟩;have hin:=λh Q=>ni l N hN T hT hf kind hk k h J hJ Q;simp only[Zw,A8 5 1,AA 5 14,L3]at hin ⊢;generalize T.map Th.V=TV at*;generalize N.map (V.int .i64)=NV at*;by_cases h1:k <2
 ·have h1':(k:Int) <2:=by omega
  have w1:=Bb k;simp[h1',AD,AA 5 16];refine hin h1 _ ?_;intro e J' hJ' f15 f17 f20 f21 f22 f23;simp[AA 5 15,f15,f17,f20,f21,f22,f23,w1,h1];exact hJ'
 ·obtain rfl:k=2:=by omega
  simp[AJ];exact hQ _ J hJ rfl rfl rfl rfl rfl
theorem nk (J:List Row) (hJ:Lows J) (Q:AExit→St→Prop) (hQ:∀e J,Q (.exit 0) ⟨e,J⟩):
  awp Tryz.prog Ah (.loop (lG 5 0)) Q ⟨L3 N T [(22,.v (.int .i64 (0:Nat)))],G8 l++J⟩:=by
 refine AY 4 (λk s=>∃J,Lows J∧s=⟨L3 N T [(22,.v (.int .i64 k))],G8 l++J⟩) ⟨J,hJ,rfl⟩ ?_;rintro k s hk4 ⟨J,hJ,rfl⟩;have hin:=λh Q=>nj l N hN T hT hf k h J hJ Q;simp only[Zw,A8 5 0,AA 5 11,L3]at hin ⊢;generalize T.map Th.V=TV at*;generalize N.map (V.int .i64)=NV at*;by_cases h1:k <4
 ·have h1':(k:Int) <4:=by omega
  have w1:=Bb k;simp[h1',AD,AA 5 13];refine hin h1 _ ?_;intro e J' hJ' f15 f17 f20 f21 f22;simp[AA 5 12,f15,f17,f20,f21,f22,w1,h1];exact hJ'
 ·obtain rfl:k=4:=by omega
  simp[AJ];exact hQ _ _
end
theorem QH (l:List Int):∀d at_,(Gm l d at_).1.wee
 |0,at_=>by
  obtain⟨c1,c2,c3⟩:=JD (Ae l at_ 1048576);obtain⟨v1,v2,v3,v4⟩:=IZ l (at_+1);rw[Gm];exact .mk (by omega) (by omega) (by simp) v4 (by simp)
 |d+1,at_=>by
  obtain⟨c1,c2,c3⟩:=JD (Ae l at_ 1048576);obtain⟨v1,v2,v3,v4⟩:=IZ l (at_+1);have hp:=F8 (Gm l d) l.length Th.wee (QH l d) (Ae l ((at_+4:Nat):Int) 4).toNat (at_+5);have hn:=F7 (Gm l d) l.length (Ae l ((at_+4:Nat):Int) 4).toNat (at_+5);have h3:=OK l ((at_+4:Nat):Int);rw[Gm];exact .mk (by omega) (by omega) (by omega) v4 hp
theorem JO (l2:List Int):(Fz l2).wee:=QH l2 2 0
theorem Ks (l2:List Int):(Fz l2).size≤2^39:=by
 have h:=UT l2 0;unfold Hb at h;split at h
 ·rename_i hl;rw[Qc]at hl;have:=(of_decide_eq_true hl).2;unfold Fz;omega
 ·cases h
theorem Q1 (l2:List Int):(Fz l2).fit:=⟨(JO l2).fit.1,(JO l2).fit.2,by have:=Ks l2;omega⟩
theorem Th.agg3 (t:Th):∃x0 x1 x2,t.V= .agg [x0,x1,x2]:=by
 obtain⟨c,v,p⟩:=t;exact⟨_,_,_,Th.V_eq c v p⟩
theorem eG (l:List Int):FX 13 [.ref 0 0,.v (.list ((Aj l).map Rgt.V))] [Dn JN Rq] [.ref 5 0,.v (.int .i64 0)] (G6 (Aj l)):=by
 have q:=mD [Dn JN Rq] 0 (by simp) (by
  intro row hrow;rw[oS.1 hrow];simp only[Dn,Row.low];refine Et λd hd=>?_;rcases oO.1 hd with rfl|hd
  ·rfl
  ·obtain⟨b,_,rfl⟩:=oP.1 hd;rfl) (m:=3) (by decide) (Aj l) (λr hr=>BN hr) (by have:=EF l;omega)
 rw[Jx,if_pos rfl,if_pos rfl]at q;exact q
theorem eF (l:List Int):FX 15 [.v E7,.v (.list ((Aj l).map Rgt.V))] (G6 (Aj l)) [.ref 7 0,.v (.int .i64 0)] (G8 l):=by
 have q:=jQ (G6 (Aj l)) (UP _) (m:=3) (by decide) JN (Aj l) (λr hr=>BN hr) (by have:=EF l;omega);rw[Jx,if_pos rfl,if_pos rfl]at q;exact q
theorem jp (l l2:List Int) (h20:PX 20 [] [.bool true]) (hl2:∀n∈l2,i64 n) (n a h b:Int) (ha:i64 a) (hh:i64 h) (hb:i64 b):
  PX 5 [AH .i64 l,AH .i64 l2,.int .i64 n,.int .i64 a,.int .i64 h,.int .i64 b] [.bool true]:=by
 refine BJ 5 ?_;obtain⟨t2,ok2,sm2,sz2,q26⟩:=nN (JO l2) a h b ha hh hb;have ft:=Q1 l2;have b1:=EQ n 60 (by decide);have w1:IntKind.i64.wrap (36000+An n 60)=36000+An n 60:=AL;have q9:FX 9 [] [] [.ref 0 0] [Dn JN Rq]:=me;have q10:=(dS l).fsp;have q14:=(mC (Aj l) (λr hr=>(BN hr).ok (by decide)) (by have:=EF l;omega)).fsp;have q13:=eG l;have q16:=dR.fsp;have q15:=eF l;have q21:=(nP l2 hl2).fsp;have q11a:=(Pb n 10 (by decide)).fsp;have q11b:=(Pb n 60 (by decide)).fsp;have q20:=h20.fsp;have hloop:=λJ hJ Q=>nk l [n,7,An n 10,36000+An n 60] rfl [Fz l2,t2] rfl (by
  intro t ht;simp only[oO,o7,or_false]at ht;rcases ht with rfl|rfl
  ·exact ft
  ·exact⟨ok2,sm2,by have:=ft.size;have h40:(Fz l2).size≤2^39:=Ks l2;omega⟩) J hJ Q
 clear ok2 sm2 sz2 ft;obtain⟨x0,x1,x2,hx⟩:=(Fz l2).agg3;obtain⟨y0,y1,y2,hy⟩:=t2.agg3;simp only[L3,oV,pf]at hloop;rw[hx]at q21 q26;rw[hy]at q26;rw[hx,hy]at hloop;clear hx hy;generalize (Aj l).map Rgt.V=RV at*;generalize E7=PV at*;generalize G6 (Aj l)=H6 at*;generalize Dn JN Rq=T0 at*;generalize G8 l=H8 at*;generalize An n 10=n10 at*;generalize An n 60=n60 at*;rw[Ai 5];simp only[AH,AX,oV,pf]at*;generalize (.list (l.map (.int .i64)):V)=L1 at*;generalize (.list (l2.map (.int .i64)):V)=L2 at*;simp only[AE,AF,AA 5 0];simp;simp only[AA 5 1];simp;refine⟨_,_,q9,?_⟩;simp only[AA 5 2];simp;refine⟨_,_,q10 _,?_⟩;simp only[AA 5 3];simp;refine⟨_,_,q14 _,?_⟩;simp;refine⟨_,_,q13,?_⟩;simp only[AA 5 4];simp;refine⟨_,_,q16 _,?_⟩;simp;refine⟨_,_,q15,?_⟩;simp only[AE,AF,AK,AA 5 5];simp[AD];simp only[AA 5 7];simp;refine⟨_,_,q21 _,?_⟩;simp[AO];simp only[AS,AA 5 8];simp;refine⟨_,_,⟨rfl,rfl⟩,_,q26,?_⟩;simp;simp only[AA 5 9];simp;refine⟨_,_,q11a _,?_⟩;simp;refine⟨_,_,q11b _,?_⟩;simp[w1];simp only[AM,AA 5 10];simp;refine hloop _ (OP λm=>by simp[Row.low,D.lts,D.lt]) _ ?_;intro e J;simp only[AA 5 23];simp;refine⟨_,_,q20 _,?_⟩;simp[AB,AW 5]
end Go.Va
