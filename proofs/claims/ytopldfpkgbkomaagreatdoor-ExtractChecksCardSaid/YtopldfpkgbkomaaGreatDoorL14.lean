/- Laws, part 14. No condition. -/
import Derived.Test.YtopldfpkgbkomaaGreatDoorL12
import Derived.Test.YtopldfpkgbkomaaGreatDoorL13
set_option linter.all false
set_option maxRecDepth 100000
set_option maxHeartbeats 4000000
noncomputable section
namespace Go.Va
open Go.Proofs
def KJ(l:List Int):List (Int×List Int):=Wa (Ae l)
def S4(l:List Int):List Rgt:=Hg (Ae l)
def Q3(l:List Int)(t:Th):Int:=ip HU.length t (S4 l)
def PM(l:List Int)(t:Th):List (Int×Int):=io HU.length I6 t (S4 l)
def bO(l:List Int)(t:Th)(d:Int)(c:Int×Int):Bool:=UA I6 t (IG (S4 l) c.1) c.2 d
def KD(l:List Int)(kind n:Int)(t:Th):Int:=if kind=0 then OT n else if kind=1 then Q3 l t else if kind=2 then LW n else if Q3 l t≠0 then Q3 l t else PJ n
def Cy(l:List Int)(kind n:Int)(t:Th):Ext:=NA (KD l kind n t) (
 if kind=0 then ⟨0,n,0,0,Nm,Q1 n n (S4 l),[],[],Wc (KJ l) n n,Wb (KJ l) n n,Uz (KJ l) n n⟩
 else if kind=1 then ⟨1,0,0,0,t,S4 l,PM l t,[],[],[],[]⟩
 else if kind=2 then ⟨2,0,n,0,Nm,S4 l,[],Cl n (S4 l),[],[],[]⟩
 else ⟨3,0,0,n,t,S4 l,(PM l t).filter (bO l t n),[],[],[],[]⟩)
section
variable (l:List Int)
def OY(ps:List (Int×List Int)):Wc ps 0 4095=[]/\Wb ps 0 4095=[]/\Uz ps 0 4095=[]:=by have e:BA 0 4095 12 0=[]:=U9 0;simp[Wc,Wb,Uz,e,ER,EM,DH]
def FW{r:Rgt}(h:r∈S4 l):r∈Ae l:=SI l h
def WW:∀r∈S4 l,0<=r.file/\r.file<=4095:=λ_ G=>IF (D7 (FW l G)).choose_spec.2
def Pa:Q1 0 4095 (S4 l)=S4 l:=XZ (WW l)
def HS:(S4 l).length<=4:=Wj l
def Ly:∀r∈S4 l,r.fine HU.length:=λr G=>(Ej (FW l G)).fine (by have:=(CS (FW l G)).lb;omega)
def RH:Jk (KJ l)=Jk ((Ae l).map Fm):=by
 have:=Uv (l:=Ae l) (Ae l).length (ri _) (Hy l)
 rwa [sE]at this
def aU:IV (Jk (KJ l)) (RX (Ae l)):=by
 rw[RH];have:=O4 (l:=Ae l) (Ae l).length (ri _) (Hy l)
 rwa [sE]at this
theorem cB:(G6 (Ae l)).length=6:=rfl
def co:∀a b:Int,0<=a->a <HU.length->0<=b->b <HU.length->PX 311 [HU,a,b] [.bool (I6 a b)]:=kR
variable {t:Th} (ht:t.ok) (hs:t.size<=2^40)
def Vu:(PM l t).length<=2^20:=by
 have J:=LU I6 t 3 (S4 l) λr G=>(Ej (FW l G)).n;have h2:=HS l;unfold PM io;split
 .omega
 .simp
theorem Vt{c:Int×Int}(hc:c∈PM l t):(IZ t=0/\t.kinds 6=true)/\∃r∈S4 l,r.file=c.1/\0<=c.2/\c.2 <r.claims.length:=by
 unfold PM io at hc;split at hc
 .rename_i G;refine⟨?_,LT hc⟩;unfold ip at G;by_cases O:IZ t=0
  .refine⟨O,?_⟩;rw[if_neg (by simp[O])]at G;cases hk:t.kinds 6 with
   |true=>rfl
   |false=>
    have U:t.kinds HU.length=false:=hk;rw[U]at G;simp only[Bool.false_or]at G;split at G
    .rename_i N;exfalso;unfold BX at hc;obtain⟨r,W,J⟩:=sj.1 hc;have:=List.isEmpty_iff.1 (ry.1 N r W);unfold CJ at J;rw[this]at J;cases J
    .cases G
  .rw[if_pos O]at G;exact absurd G O
 .cases hc
include ht
include hs
end
section
def Rg{l:List Int}(h:BF l=0):∀e∈l,e=0:=by
 unfold BF at h;cases hf:l.find? (λe=>decide (e≠0))with
 |none=>
  intro e G;have:=tb.1 hf e G;simpa using this
 |some x=>
  rw[hf]at h;have h2:=List.find?_some hf;simp at h2 h;exact absurd h h2
variable {nc:Int}
theorem bt{I:Int->Int->Bool}{t:Th}{rs:List Rgt}{c:Int×Int}(hc:c∈Lx nc I t rs):(IZ t=0/\t.kinds nc=true)/\∃r∈rs,r.file=c.1/\0<=c.2/\c.2 <r.claims.length:=by
 unfold Lx at hc;split at hc
 .rename_i J;refine⟨?_,LT hc⟩;unfold BX at hc;obtain⟨r,W,N⟩:=sj.1 hc;unfold CJ at N;obtain⟨i,hi,rfl⟩:=rl.1 N;have U:=(sx.1 hi).1;unfold OE at J;by_cases O:IZ t=0
  .refine⟨O,?_⟩;rw[if_neg (by simp[O])]at J;have h2:=Rg J (Cq nc (Ak r.claims i) t) (sj.2 ⟨r,W,rl.2 ⟨i,U,rfl⟩⟩);unfold Cq at h2;split at h2
   .rename_i G;exact absurd h2 G
   .split at h2
    .rename_i G;exact absurd h2 G
    .split at h2
     .rename_i G;simp only[rX]at G;exact G.2
     .cases h2
  .rw[if_pos O]at J;exact absurd J O
 .cases hc
structure Ext.sane (x:Ext):Prop where
 t:x.t.ok
 ts:x.t.size<=2^40
 n:x.rs.length<=4
 cs:∀r∈x.rs,CsQ r.claims
 ti:∀r∈x.rs,r.tiny 1000
 pw:x.rs.Pairwise λa b=>a.file≠b.file
def Kw(x:Ext):Int:=if x.kind=1\/x.kind=3 then OE 6 x.t x.rs else 0
def bX(x:Ext)(c:Int×Int):Bool:=UA I6 x.t (IG x.rs c.1) c.2 x.day
def HP(x:Ext):List (Int×Int):=if x.kind=1 then Lx 6 I6 x.t x.rs else if x.kind=3 then (Lx 6 I6 x.t x.rs).filter (bX x) else []
def He(x:Ext):List Int:=if x.kind=2 then Cl x.party x.rs else []
def Ext.sane.fair{x:Ext}(h:x.sane):∀r∈x.rs,r.fair:=λr G=>(h.cs r G).fair (by have:=(h.ti r G).lb;omega)
def PV{I:Int->Int->Bool}{t:Th}{rs:List Rgt}(G:rs.length<=4)(h:∀r∈rs,r.claims.length<=32):(Lx nc I t rs).length<=128:=by
 unfold Lx;split
 .have:=HQ I t rs h;omega
 .simp
def ZM{x:Ext}(h:x.sane){c:Int×Int}(hc:c∈Lx 6 I6 x.t x.rs):(IZ x.t=0/\x.t.kinds 6=true)/\∃(j:Nat)(r:Rgt)(i:Nat),x.rs[j]?=some r/\c=(r.file,(i:Int))/\i <r.claims.length/\IG x.rs c.1=r/\x.rs.find? (λq=>q.file==c.1)=some r/\(∀(k:Nat)(q:Rgt),k <j->x.rs[k]?=some q->q.file≠c.1):=by obtain⟨h1,r,G,N,h0,hi⟩:=bt hc;obtain⟨c1,J⟩:=c;simp only at N h0 hi ⊢;subst N;obtain⟨j,O⟩:=tK.1 G;obtain⟨i,rfl⟩:∃i:Nat,J=i:=⟨J.toNat,AE⟩;refine⟨h1,j,r,i,O,rfl,AE,En h.pw G,Gl h.pw G,λk q hk hq=>?_⟩;obtain⟨U,W⟩:=rZ.1 hq;obtain⟨Z,b2⟩:=rZ.1 O;have:=List.pairwise_iff_getElem.1 h.pw k j U Z hk;rw[<-W,<-b2];exact this
def ja{x:Ext}(h:x.sane):PX 73 [HU,(x.rs.map Rgt.V:V),x.t.V] [.list ((Lx 6 I6 x.t x.rs).map BY),((OE 6 x.t x.rs:Int):V)]:=
 jq (by rw[Ig];decide) co x.t h.t h.ts x.rs (by have:=h.n;omega) h.fair
theorem jn(x:Ext)(h:x.sane)(G:x.kind=0\/x.kind=1\/x.kind=2\/x.kind=3):PX 77 [HU,x.V] [.list ((HP x).map BY),AM .i64 (He x),((Kw x:Int):V)]:=by
 have hq:=ja h;have a6:=PV (nc:=6) (I:=I6) (t:=x.t) h.n λr W=>(h.fair r W).len;have hn:=h.n;rcases G with G|G|G|G
 .have N:HP x=[]:=by unfold HP;rw[G];rfl
  have e2:He x=[]:=by unfold He;rw[G];rfl
  have O:Kw x=0:=by unfold Kw;rw[G];rfl
  rw[N,e2,O];exact jl _ x G
 .have N:HP x=Lx 6 I6 x.t x.rs:=by unfold HP;rw[if_pos G]
  have e2:He x=[]:=by unfold He;rw[G];rfl
  have O:Kw x=OE 6 x.t x.rs:=by unfold Kw;rw[if_pos (.inl G)]
  rw[N,e2,O];exact dD HU x _ _ (.inl G) hq
 .have N:HP x=[]:=by unfold HP;rw[G];rfl
  have e2:He x=Cl x.party x.rs:=by unfold He;rw[if_pos G]
  have O:Kw x=0:=by unfold Kw;rw[G];rfl
  rw[N,e2,O];exact jm _ x G AE λr W=>by have:=(h.ti r W).lo;omega
 .have N:HP x=(Lx 6 I6 x.t x.rs).filter (bX x):=by unfold HP;rw[Bj,if_pos G]
  have e2:He x=[]:=by unfold He;rw[G];rfl
  have O:Kw x=OE 6 x.t x.rs:=by unfold Kw;rw[if_pos (.inr G)]
  rw[N,e2,O];by_cases hE:OE 6 x.t x.rs=0
  .rw[hE]at hq ⊢;refine jo HU x G _ AE hq (bX x) λc hc=>?_;obtain⟨⟨h1,h2⟩,j,r,i,hj,Z,hi,a1,_,a2⟩:=ZM h hc;have W:=rY hj;have J:=h.cs r W;have U:=J.alts i hi;have a7:=(rZ.1 hj).1;refine⟨j,r,hj,by rw[Z],a2,AE,?_⟩;unfold bX;rw[a1,Z];exact mt (by rw[Ig];decide) co r J.altOK (λc hc=>(J.tiny c hc).ok) J.z (by have:=(h.ti r W).ld;omega) i hi x.t h.t h.ts (λf hf=>⟨(U.2 f hf).1,gj U hf h1 h2⟩) U.1 x.day
  .have e4:Lx 6 I6 x.t x.rs=[]:=by unfold Lx;rw[if_neg hE]
   rw[e4]at hq ⊢;exact dD HU x [] _ (.inr ⟨G,hE⟩) hq
variable {H:List Row}
def cq{x:Ext}(h:x.sane)(G:H[0]?=some (Dw HU OD))(J:Low H):FX 185 [.R 0 0,(x.rs.map Rgt.V:D),.v x.t.V] H [.W 76 2 ((Lx 6 I6 x.t x.rs).map BY),((OE 6 x.t x.rs:Int):D)] H:=
 Yf (ps:=HU) (bs:=OD) (by rw[Ig];decide) Lv H 0 G J x.t h.t x.rs h.fair (by have:=h.n;omega)
theorem jf(x:Ext)(h:x.sane)(G:x.kind=0\/x.kind=1\/x.kind=2\/x.kind=3)(h0:H[0]?=some (Dw HU OD))(W:Low H):
  ∃dc,(dc= .v (.list ((HP x).map BY))\/dc= .W 76 2 ((HP x).map BY))/\FX 90 [.R 0 0,.v x.V] H [dc,.W 3 1 ((He x).map (.int .i64)),((Kw x:Int):D)] H:=by
 have hq:=λZ(hZ:Lows Z)=>cq h (H:=H++Z) (AU Z h0) (W.lows hZ);have a8:=PV (nc:=6) (I:=I6) (t:=x.t) h.n λr hr=>(h.fair r hr).len;have hn:=h.n;rcases G with G|G|G|G
 .have O:HP x=[]:=by unfold HP;rw[G];rfl
  have e2:He x=[]:=by unfold He;rw[G];rfl
  have U:Kw x=0:=by unfold Kw;rw[G];rfl
  rw[O,e2,U];have b0:=(rZ.1 h0).1;exact⟨_,.inr rfl,cw H W (.R 0 0) x G ⟨rfl,by simp[D.lt];omega⟩⟩
 .have O:HP x=Lx 6 I6 x.t x.rs:=by unfold HP;rw[if_pos G]
  have e2:He x=[]:=by unfold He;rw[G];rfl
  have U:Kw x=OE 6 x.t x.rs:=by unfold Kw;rw[if_pos (.inl G)]
  rw[O,e2,U];exact⟨_,.inl rfl,Zm H W 0 x _ _ (.inl G) hq⟩
 .have O:HP x=[]:=by unfold HP;rw[G];rfl
  have e2:He x=Cl x.party x.rs:=by unfold He;rw[if_pos G]
  have U:Kw x=0:=by unfold Kw;rw[G];rfl
  rw[O,e2,U];exact⟨_,.inr rfl,Yd H W 0 x G AE λr hr=>by have:=(h.ti r hr).lo;omega⟩
 .have O:HP x=(Lx 6 I6 x.t x.rs).filter (bX x):=by unfold HP;rw[Bj,if_pos G]
  have e2:He x=[]:=by unfold He;rw[G];rfl
  have U:Kw x=OE 6 x.t x.rs:=by unfold Kw;rw[if_pos (.inr G)]
  rw[O,e2,U];by_cases hE:OE 6 x.t x.rs=0
  .rw[hE]at hq ⊢;refine⟨_,.inr rfl,U3 H 0 x G _ AE W (bX x) hq λc hc Z hZ=>?_⟩;obtain⟨⟨h1,h2⟩,j,r,i,hj,a6,hi,a7,a1,b1⟩:=ZM h hc;have hr:=rY hj;have N:=h.cs r hr;have a2:=N.alts i hi;unfold bX;rw[a7];rw[a6]at a1 ⊢;exact Ye (ps:=HU) (bs:=OD) (by rw[Ig];decide) Lv _ 0 (AU _ h0) (W.lows λrow J n=>by
    rcases rj.1 J with rfl|J
    .exact GD n _
    .exact hZ row J n) x h.t h1 h2 AE r r.file i a1 (by have:=(h.ti r hr).ld;omega) a2 (pu r.claims N.altOK (λc hc=>(N.tiny c hc).ok) N.z i hi)
  .have e4:Lx 6 I6 x.t x.rs=[]:=by unfold Lx;rw[if_neg hE]
   rw[e4]at hq ⊢;exact⟨_,.inl rfl,Zm H W 0 x [] _ (.inr ⟨G,hE⟩) hq⟩
end
section
variable {nc:Int}
def WL{t:Th}{rs:List Rgt}(h:∀r∈rs,r.fine nc):OE nc t rs=ip nc t rs:=by
 unfold OE ip;by_cases G:IZ t=0
 .rw[if_neg (by simp[G]),if_neg (by simp[G])];have J:∀e∈rs.flatMap (FF nc t),e=if t.kinds nc then 0 else 7:=by
   intro e N;obtain⟨r,U,N⟩:=sj.1 N;unfold FF at N;obtain⟨i,hi,rfl⟩:=rl.1 N;have W:=Jj hi;cases hk:t.kinds nc with
   |true=>rw[(h r U).hld W G hk];rfl
   |false=>rw[(h r U).hld7 W G hk];rfl
  have O:rs.flatMap (FF nc t)=[]↔(rs.all λr=>(Dz r).isEmpty)=true:=by rw[List.flatMap_eq_nil_iff,ry];simp[FF]
  cases U:rs.flatMap (FF nc t)with
  |nil=>
   rw[O.1 U];simp[BF]
  |cons e l=>
   have N:=J e (by rw[U];simp);have Z:(rs.all λr=>(Dz r).isEmpty)=false:=by rw[Bool.eq_false_iff];intro h2;rw[O.2 h2]at U;cases U
   rw[Z];cases hk:t.kinds nc with
   |true=>
    rw[hk]at J;have:BF (e::l)=0:=by unfold BF;rw[tb.2 λx hx=>by rw[J x (by rw[U];exact hx)];simp];rfl
    rw[this];rfl
   |false=>
    rw[hk]at N;simp at N;subst N;simp[BF]
 .rw[if_pos (by simpa using G),if_pos (by simpa using G)]
def WK{I:Int->Int->Bool}{t:Th}{rs:List Rgt}(h:∀r∈rs,r.fine nc):Lx nc I t rs=io nc I t rs:=by unfold Lx io;rw[WL h]
end
def HY(k:Int)(h:Hd)(x:Ext):Int:=
 if UG k h≠0 then UG k h else if H4 x≠0 then H4 x else if x.rs.all Ao=false then 1
 else if DW h.map x.lo x.hi x.rs x.L x.R x.S≠0 then DW h.map x.lo x.hi x.rs x.L x.R x.S
 else if Kw x≠0 then Kw x else if HP x=x.cl/\He x=x.fs then 0 else 10
def S9{a b:Int}{l:List Rgt}(Z:l.Pairwise λx y=>x.file <y.file)(h2:∀r∈l,(a<=r.file/\r.file<=b)/\(A7 r).length<=65536):Dr a b l=false:=by
 refine KO λk hk=>?_;obtain⟨r,G⟩:∃r,l[k]?=some r:=⟨_,rW hk⟩;have h3:=h2 r (rY G);have h4:EP l r k=false:=by
  cases k with
  |zero=>rfl
  |succ j=>
   obtain⟨q,J⟩:∃q,l[j]?=some q:=⟨_,rW AE⟩;obtain⟨N,O⟩:=rZ.1 G;obtain⟨U,W⟩:=rZ.1 J;have:=List.pairwise_iff_getElem.1 Z j (j+1) U N AE;rw[O,W]at this;simp only[EP,J];exact decide_eq_false AE
 rw[Ct,G];simp only[h4,Bool.false_or,Bool.or_eq_false_iff,decide_eq_false_iff_not];omega
def Ud{l:List Rgt}(J:l.Pairwise λa b=>a.file≠b.file):(Hg l).Pairwise λa b=>a.file <b.file:=by have G:(EK (l.map Rgt.file)).Pairwise λa b=>decide (a<=b)=true:=List.pairwise_mergeSort (λa b c G h2=>by simp at *;omega) (λa b=>by simp;omega) _;rw[<-TG J,List.pairwise_map]at G;refine(G.and (Lf J)).imp ?_;rintro a b ⟨h2,N⟩;simp at h2;omega
section
variable (l:List Int)
def fC(k:Int):Jk (KJ l) k=((S4 l).find? λr=>r.file==k).map λr=>CX r.file (A7 r):=by rw[RH,<-Ot (DT l),RT];rfl
def ir:(S4 l).Pairwise λa b=>a.file <b.file:=Ud (DT l)
def S6:∀r∈S4 l,Ao r=true:=λr G=>(D7 (FW l G)).choose_spec.2
def iu:∀r∈S4 l,(A7 r).length<=65536:=λr G=>Qh (CS (FW l G))
def Wp:F7 l=(bH (Jk (KJ l)) 12 0).getD 0:=by rw[Wo,RH,Ot (DT l)]
def Nf{a b:Int}(J:a<=b):DW (F7 l) a b (Q1 a b (S4 l)) (Wc (KJ l) a b) (Wb (KJ l) a b) (Uz (KJ l) a b)=0:=by
 have U:Dr a b (Q1 a b (S4 l))=false:=S9 ((ir l).filter _) λr Z=>by obtain⟨G,h2⟩:=sx.1 Z;exact⟨by simpa using h2,iu l r G⟩
 obtain⟨s,G,h2,W⟩:=WV (lf:=Jk (KJ l)) J U λk N O=>by
  rw[fC]
  congr 1
  unfold Q1;rw[List.find?_filter]
  congr 1
  funext r
  by_cases h:r.file=k
  .subst h;simp[N,O]
  .simp[h]
 unfold DW Wc Wb Uz;rw[U,G];simp only[rz,if_false];rw[h2,W,<-Wp];simp
def I2:DW (F7 l) 0 4095 (S4 l) [] [] []=0:=by have h:=Nf l (a:=0) (b:=4095) Ah;obtain⟨G,e2,J⟩:=OY (KJ l);rw[Pa,G,e2,J]at h;exact h
def Lr{k:Int}{h:Hd}{x:Ext}(N:UG k h=0)(O:H4 x=0)(J:x.rs.all Ao=true)(U:DW h.map x.lo x.hi x.rs x.L x.R x.S=0)(G:Kw x=0)(hc:HP x=x.cl)(W:He x=x.fs):HY k h x=0:=by unfold HY;rw[if_neg (by simp[N]),if_neg (by simp[O]),if_neg (by rw[J];decide),if_neg (by simp[U]),if_neg (by simp[G]),if_pos ⟨hc,W⟩]
theorem Vz{t:Th}(kd n:Int)(hk:kd=0\/kd=1\/kd=2\/kd=3)(U:KD l kd n t=0)(k:Int)(h:Hd)(hh:UG k h=0)(hm:h.map=F7 l):HY k h (Cy l kd n t)=0:=by
 have W:OE 6 t (S4 l)=Q3 l t:=WL (Ly l);have Z:Lx 6 I6 t (S4 l)=PM l t:=WK (Ly l);have J:(S4 l).all Ao=true:=ry.2 (S6 l);have hX:∀X:Ext,NA (KD l kd n t) X=X:=λX=>by unfold NA;rw[if_pos U]
 rcases hk with rfl|rfl|rfl|rfl
 .have G:OT n=0:=U;unfold OT at G;split at G
  .cases G
  .rename_i hn;have N:Cy l 0 n t=⟨0,n,0,0,Nm,Q1 n n (S4 l),[],[],Wc (KJ l) n n,Wb (KJ l) n n,Uz (KJ l) n n⟩:=by unfold Cy;rw[hX];rfl
   rw[N];exact Lr hh (by simp[H4,PU,Jc,Nm,Th.cs,Th.vs,Th.ps];omega) (ry.2 λr G=>S6 l r (sx.1 G).1) (by rw[hm];exact Nf l (Int.le_refl n)) (by simp[Kw]) (by simp[HP]) (by simp[He])
 .have G:Q3 l t=0:=U;have N:Cy l 1 n t=⟨1,0,0,0,t,S4 l,PM l t,[],[],[],[]⟩:=by unfold Cy;rw[hX];rfl
  rw[N];exact Lr hh (by simp[H4,PU]) J (by rw[hm];exact I2 l) (by simp[Kw,W,G]) (by simp[HP,Z]) (by simp[He])
 .have G:LW n=0:=U;unfold LW at G;split at G
  .cases G
  .rename_i hn;have N:Cy l 2 n t=⟨2,0,n,0,Nm,S4 l,[],Cl n (S4 l),[],[],[]⟩:=by unfold Cy;rw[hX];rfl
   rw[N];exact Lr hh (by simp[H4,PU,Jc,Nm,Th.cs,Th.vs,Th.ps];omega) J (by rw[hm];exact I2 l) (by simp[Kw]) (by simp[HP]) (by simp[He])
 .have G:(if Q3 l t≠0 then Q3 l t else PJ n)=0:=U;split at G
  .rename_i O;exact absurd G O
  .rename_i O;have O:Q3 l t=0:=by simpa using O
   unfold PJ at G;split at G
   .cases G
   .rename_i hn;have N:Cy l 3 n t=⟨3,0,0,n,t,S4 l,(PM l t).filter (bO l t n),[],[],[],[]⟩:=by unfold Cy;rw[hX];rfl
    have hb:bX ⟨3,0,0,n,t,S4 l,(PM l t).filter (bO l t n),[],[],[],[]⟩=bO l t n:=rfl;rw[N];exact Lr hh (by simp[H4,PU];omega) J (by rw[hm];exact I2 l) (by simp[Kw,W,O]) (by unfold HP;rw[hb];simp[Z]) (by simp[He])
end
structure Ext.chk (x:Ext):Prop where
 t:x.t.ok
 n:x.rs.length<=4
 ok:∀r∈x.rs,r.ok
 B:∀r∈x.rs,isB (A7 r)/\(A7 r).length<=2^39
 S:x.S.length<=2^40
 S0:∀c∈x.S,0<=c
 cl:x.cl.length<=2^40
 fs:x.fs.length<=2^40
 sane:x.rs.all Ao=true->(x.rs.Pairwise λa b=>a.file≠b.file)->x.sane
def Nd{G a b:Int}{rs:List Rgt}{L R S:List Int}(h:DW G a b rs L R S=0):rs.Pairwise λa b=>a.file≠b.file:=by
 unfold DW at h;cases hw:Dr a b rs with
 |true=>rw[hw]at h;simp at h
 |false=>exact(KK hw).1.imp λh=>AE
def S2{x:Ext}(h:x.sane):(HP x).length<=128:=by
 have G:=PV (nc:=6) (I:=I6) (t:=x.t) h.n λr J=>(h.fair r J).len;unfold HP;split
 .exact G
 .split
  .exact sS (sZ _ _) G
  .simp
def S1{x:Ext}(h:x.sane):(He x).length<=4:=by
 unfold He;split
 .unfold Cl;rw[sD];exact sS (sZ _ _) h.n
 .simp
def oK(h:List Row)(x:D)(rs:List Rgt)(hn:rs.length<=2^20)(b0:∀r∈rs,r.ok)(A B:Row)(Q:AExit->St->Prop)(hQ:rs.all Ao=true->∀e J,Lows J->AK e 0=x->AK e 6= .R h.length 0->AK e 7= .R (h.length+1) 0->AK e 11= .W 193 2 (rs.map GA)->Q (.exit 0) ⟨e,h++(A::B::J)⟩)(hR:rs.all Ao=false->∀e J,AK e 8=((1:Int):D)->Q .ret ⟨e,h++J⟩):
  AX (.loop (lG 34 0)) Q ⟨[(0,x),(6,.R h.length 0),(7,.R (h.length+1) 0),(11,.W 193 2 []),(36,(rs.map Rgt.V:D)),(37,(rs.length:D)),(38,((0:Nat):D))],h++(A::B::[])⟩:=by
 refine Ag rs.length (λk s=>(∀r∈rs.take k,Ao r=true)/\∃J,Lows J/\s=⟨[(0,x),(6,.R h.length 0),(7,.R (h.length+1) 0),(11,.W 193 2 ((rs.take k).map GA)),(36,(rs.map Rgt.V:D)),(37,(rs.length:D)),(38,(k:D))],h++(A::B::J)⟩)
  ⟨Ac,[],Lows.nil,Ac⟩ ?_
 rintro k s hk ⟨hI,J,hJ,rfl⟩;simp only[Zw,BG 34 0,AB 34 11];simp;by_cases O:k <rs.length
 .obtain⟨r,U⟩:∃r,rs[k]?=some r:=⟨_,rW O⟩;have w1:=Bt k;have W:(rs.map GA).take (k+1)=(rs.map GA).take k++[GA r]:=by rw[rx,rk,U];rfl
  have a1:Ao r=true->∀q∈rs.take (k+1),Ao q=true:=λh q N=>by
   rw[rx,U]at N;rcases rp.1 N with N|N
   .exact hI q N
   .have e:q=r:=by simpa using N
    rw[e];exact h
  have a8:Ao r=false->rs.all Ao=false:=λh=>List.all_eq_false.2 ⟨r,rY U,by simp[h]⟩;have a7:∀n,Row.low n (.cells (r.cs.map .v))=true:=λn=>by simp only[Row.low];exact Ji _
  have Z:=(ju r (b0 r (rY U))).fsp;have a2:=hJ.app a7;have hm:min k rs.length=k:=AE;have G:AV (k+1) 32=true:=by simp[AV];omega
  have b1:GA r= .agg [(r.file:V),AM .u8 (A7 r)]:=rfl;rw[W,b1];generalize Ao r=FR at*;obtain⟨file,state,force,claims,dates,bad,owners,lics⟩:=r;generalize A7 ⟨file,state,force,claims,dates,bad,owners,lics⟩=E at*;rw[CF,AD];simp only[AB 34 12];simp[U,Rgt.V,Rgt.cs,AM,AQ];simp only[AB 34 13];cases FR with
  |true=>
   simp only[Rgt.V,Rgt.cs,AM]at*;simp at Z;simp;refine⟨_,_,Z _,?_⟩;simp;simp[AB 34 14,AD];simp only[AB 34 16];simp[hm,G,AQ];simp[AB 34 17,w1,O];exact⟨a1 Ac,a2⟩
  |false=>
   simp only[Rgt.V,Rgt.cs,AM]at*;simp at Z;simp;refine⟨_,_,Z _,?_⟩;simp;simp[AB 34 14,AB 34 15,AA];exact hR (a8 Ac) _ _ rfl
 .have a6:k=rs.length:=AE;subst a6;rw[Bj,AN];rw[sE]at hI;exact hQ (ry.2 hI) _ _ hJ rfl rfl rfl (by rw[sN Ac];rfl)
def dK(k:Int)(hd:Hd)(x:Ext)(hx:x.chk)(h:List Row)(hl:Low h)(h0:h[0]?=some (Dw HU OD)):
  FX 34 [.R 0 0,.v (.int .u64 k),.v hd.V,.v x.V] h [((HY k hd x:Int):D)] h:=by
 refine At (D6 34) rfl (ri _) hl (by simp[D.lt]) ?_;obtain⟨C,G⟩:∃C,HY k hd x=C:=⟨_,rfl⟩;rw[G];unfold HY at G;have q1:=(ji k hd).fsp;have q2:=(jh x hx.t).fsp;have q3:PX 88 [x.V] [(x.lo:V),(x.hi:V)]:=cz x;have q3:=q3.fsp;have O:=λA B Q=>oK h (.R 0 0) x.rs (by have:=hx.n;omega) hx.ok A B Q;have a6:=U1 (x:=x);have b9:=λhk Z hZ=>jg x.rs (by have:=hx.n;omega) hx.B x.lo x.hi hk x.L x.R x.S hx.S (h++Z) (hl.lows hZ) hd.map;have W:x.rs.all Ao=true->DW hd.map x.lo x.hi x.rs x.L x.R x.S=0->x.sane:=λh1 h2=>hx.sane h1 (Nd h2);have q4:=λU=>(qV (HP x) x.cl (by have:=S2 (x:=x) U;omega)).fsp;have q5:=λU=>(qU (He x) x.fs (by have:=S1 (x:=x) U;omega)).fsp;have c0:=λU hk Z(hZ:Lows Z)=>jf x U hk (H:=h++Z) (AU Z h0) (hl.lows hZ);have lX:∀n,Row.low n (.cells (x.cs.map .v))=true:=λn=>GD n _;have lH:∀n,Row.low n (.cells (hd.C.map .v))=true:=λn=>by simp only[Row.low];exact Ji _
 have lZ:∀J,Lows J->Lows (.cells (hd.C.map .v):: .cells (x.cs.map .v)::J):=λJ hJ row N n=>by
  rcases rj.1 N with rfl|N
  .exact lH n
  .rcases rj.1 N with rfl|N
   .exact lX n
   .exact hJ row N n
 have a8:=λhk J hJ=>b9 hk _ (lZ J hJ);have b1:=λU hk J hJ=>c0 U hk _ (lZ J hJ);have a2:(if HP x=x.cl/\He x=x.fs then (0:Int) else 10)=if (!decide (HP x=x.cl)|| !decide (He x=x.fs))=true then 10 else 0:=by by_cases h1:HP x=x.cl<;>by_cases h2:He x=x.fs<;>simp[h1,h2]
 rw[a2]at G;clear b9 c0 lX lH lZ hx h0 a2;generalize UG k hd=E1 at*;generalize H4 x=E2 at*;generalize DW hd.map x.lo x.hi x.rs x.L x.R x.S=E3 at*;generalize Kw x=E4 at*;generalize decide (HP x=x.cl)=B1 at*;generalize decide (He x=x.fs)=B2 at*;generalize HP x=AC at*;generalize He x=AF at*;generalize x.lo=a0 at*;generalize x.hi=b0 at*;generalize c3:x.sane=SN at*;obtain⟨c2,file,party,day,⟨tc,tv,tp⟩,rs,cl,fs,L,R,S⟩:=x;obtain⟨d0,d1,d2,d3,d4,d5,d6,d7⟩:=hd;simp only at a6 W G;generalize rs.all Ao=FM at*;simp only[Ext.V,Ext.cs,Hd.V,Hd.C,Th.cs,Th.vs,Th.ps,AM]at*;simp at q1 q2 q3 q4 q5 a8 b1 O;simp only[Zw,As 34,AB 34 0,AB 34 1,AZ];simp[AD];simp only[AB 34 3];simp;refine⟨_,_,q1 _,?_⟩;by_cases b2:E1=0
 .subst b2;simp at G;simp[AB 34 4];simp only[AB 34 6];simp;refine⟨_,_,q2 _,?_⟩;by_cases b3:E2=0
  .subst b3;obtain⟨b5,b6⟩:=a6 rfl;simp at G;simp[AB 34 7,AB 34 9];simp only[AB 34 10];simp;refine O _ _ _ ?_ ?_
   .rintro rfl e J hJ g0 g6 g7 c1;simp at G;simp only[AB 34 18];simp[g7];refine⟨_,_,q3 _,?_⟩;simp[g0,g6,g7,c1];simp only[AB 34 19];simp;refine⟨_,_,(a8 b6 J hJ),?_⟩;by_cases b4:E3=0
    .subst b4;have U:=W rfl rfl;have a7:=b1 U b5 J hJ;have q4:=q4 U;have q5:=q5 U;simp at G;simp[AB 34 20];simp only[AB 34 22];simp;by_cases a1:E4=0
     .subst a1;simp at G;rcases a7 with hq9|hq9
      .refine⟨_,_,hq9,?_⟩;simp[AB 34 23];simp only[AB 34 25];simp;refine⟨_,_,q4 _,?_⟩;cases B1 with
       |false=>
        simp at G;subst G;simp[AB 34 26,AA,AW 34]
       |true=>
        simp;refine⟨_,_,q5 _,?_⟩;cases B2<;>simp at G<;>subst G<;>simp[AB 34 26,AB 34 27,AA,AW 34]
      .refine⟨_,_,hq9,?_⟩;simp[AB 34 23];simp only[AB 34 25];simp;refine⟨_,_,q4 _,?_⟩;cases B1 with
       |false=>
        simp at G;subst G;simp[AB 34 26,AA,AW 34]
       |true=>
        simp;refine⟨_,_,q5 _,?_⟩;cases B2<;>simp at G<;>subst G<;>simp[AB 34 26,AB 34 27,AA,AW 34]
     .simp[a1]at G;subst G;rcases a7 with hq9|hq9
      .refine⟨_,_,hq9,?_⟩;simp[a1,AB 34 23,AB 34 24,AA,AW 34]
      .refine⟨_,_,hq9,?_⟩;simp[a1,AB 34 23,AB 34 24,AA,AW 34]
    .simp[b4]at G;subst G;simp[b4,AB 34 20,AB 34 21,AA,AW 34]
   .rintro rfl e J g8;simp at G;subst G;simp[AW 34,g8]
  .simp[b3]at G;subst G;simp[b3,AB 34 7,AB 34 8,AA,AW 34]
 .simp[b2]at G;subst G;simp[b2,AB 34 4,AB 34 5,AA,AW 34]
def jz(k:Int)(hd:Hd)(x:Ext):PX 34 [.nilp,.int .u64 k,hd.V,x.V] [((1:Int):V)]:=by refine BS 34 ?_;obtain⟨G,file,party,day,⟨tc,tv,tp⟩,rs,cl,fs,L,R,S⟩:=x;obtain⟨d0,d1,J,N,O,U,W,Z⟩:=hd;simp only[Zw,As 34,AB 34 0,AB 34 1,Ad,Ext.V,Ext.cs,Hd.V,Hd.C];simp[AB 34 2,AA,AW 34]
def rF(h:List Row)(x:D)(rs:List Rgt)(hn:rs.length<=2^20)(b0:∀r∈rs,r.ok)(A:Row)(ds:List D)(h7:ds[7]?=some (rs.map Rgt.V:D))(Q:AExit->St->Prop)(hQ:rs.all Ao=true->∀e,AK e 0=x->AK e 6= .R h.length 0->AK e 7= .R (h.length+1) 0->AK e 11= .W 200 2 (rs.map GA)->Q (.exit 0) ⟨e,h++[A,.cells ds]⟩)(hR:rs.all Ao=false->∀e J,AK e 8=((1:Int):D)->Q .ret ⟨e,h++J⟩):
  AX (.loop (lG 38 0)) Q ⟨[(0,x),(6,.R h.length 0),(7,.R (h.length+1) 0),(11,.W 200 2 []),(12,((0:Nat):D))],h++[A,.cells ds]⟩:=by
 refine Ag rs.length (λk s=>(∀r∈rs.take k,Ao r=true)/\s=⟨[(0,x),(6,.R h.length 0),(7,.R (h.length+1) 0),(11,.W 200 2 ((rs.take k).map GA)),(12,(k:D))],h++[A,.cells ds]⟩)
  ⟨Ac,Ac⟩ ?_
 rintro k s hk ⟨hI,rfl⟩;have G:7 <ds.length:=(rZ.1 h7).1;have N:ds[7]'G=(rs.map Rgt.V:D):=(rZ.1 h7).2;have O:8<=ds.length:=G;simp only[Zw,BG 38 0,AB 38 9];simp[G,N,O];by_cases a1:k <rs.length
 .obtain⟨r,U⟩:∃r,rs[k]?=some r:=⟨_,rW a1⟩;have w1:=Bt k;have a2:(rs.map GA).take (k+1)=(rs.map GA).take k++[GA r]:=by rw[rx,rk,U];rfl
  have a6:Ao r=true->∀q∈rs.take (k+1),Ao q=true:=λh q Z=>by
   rw[rx,U]at Z;rcases rp.1 Z with Z|Z
   .exact hI q Z
   .have e:q=r:=by simpa using Z
    rw[e];exact h
  have a8:Ao r=false->rs.all Ao=false:=λh=>List.all_eq_false.2 ⟨r,rY U,by simp[h]⟩;have q1:=(qf r (b0 r (rY U))).fsp;have hm:min k rs.length=k:=AE;have W:AV (k+1) 32=true:=by simp[AV];omega
  have b1:GA r= .agg [(r.file:V),AM .u8 (A7 r)]:=rfl;rw[a2,b1];generalize Ao r=FR at*;obtain⟨file,state,force,claims,dates,bad,owners,lics⟩:=r;generalize A7 ⟨file,state,force,claims,dates,bad,owners,lics⟩=E at*;simp only[Rgt.V,Rgt.cs,AM]at*;simp[a1,AD];simp only[AB 38 11];cases FR with
  |true=>
   simp at q1;simp[G,N,O,U,Rgt.V,Rgt.cs,AM];refine⟨_,_,q1 _,?_⟩;simp[AB 38 12];simp only[AB 38 14];simp[G,N,O,U,Rgt.V,Rgt.cs,AM,hm,W,AQ];simp[AB 38 10,w1];exact a6 Ac
  |false=>
   simp at q1;simp[G,N,O,U,Rgt.V,Rgt.cs,AM];refine⟨_,_,q1 _,?_⟩;simp[AB 38 12,AB 38 13,AA];exact hR (a8 Ac) _ _ rfl
 .have a7:k=rs.length:=AE;subst a7;simp[AN];rw[sE]at hI;exact hQ (ry.2 hI) _ rfl rfl rfl (by rw[sN Ac];rfl)
def Ns{α:Type}{a b:List α}(J:a.length=b.length)(h:∀j <b.length,a[j]?=b[j]?):a=b:=by
 apply sl;intro j;by_cases G:j <b.length
 .exact h j G
 .rw[sU AE,sU AE]
def jk(a b:List (Int×Int))(hl:a.length<=2^40):PX 80 [(a.map BY:V),(b.map BY:V)] [(decide (a=b):V)]:=by
 refine BS 80 ?_;simp only[Zw,As 80,AB 80 0,AB 80 1,Ad];simp;by_cases J:a.length=b.length
 .simp[J,AD,AB 80 3];refine Ag b.length (λk s=>s=⟨[(0,(a.map BY:D)),(1,(b.map BY:D)),(5,(k:D))],[]⟩/\∀j <k,a[j]?=b[j]?) ⟨Ac,AE⟩ ?_;rintro k s hk ⟨rfl,hI⟩;simp only[Zw,BG 80 0,AB 80 4];simp[J];by_cases U:k <b.length
  .obtain⟨x,hx⟩:∃x,a[k]?=some x:=⟨_,rW AE⟩;obtain⟨y,N⟩:∃y,b[k]?=some y:=⟨_,rW U⟩;have w1:=Bt k;obtain⟨x1,x2⟩:=x;obtain⟨y1,y2⟩:=y;simp[U,AD];simp only[Aa,AB 80 6];simp[hx,N,BY,V.eqL,V.eq1];by_cases W:x1=y1
   .by_cases e2:x2=y2
    .subst W;subst e2;simp[AB 80 5,w1];intro j hj;by_cases Z:j <k
     .exact hI j Z
     .have:j=k:=AE;subst this;rw[hx,N]
    .have G:a≠b:=by intro h;subst h;rw[hx]at N;simp at N;exact e2 N.2
     simp[W,e2,G,AB 80 7,AA,AW 80]
   .have G:a≠b:=by intro h;subst h;rw[hx]at N;simp at N;exact W N.1
    simp[W,G,AB 80 7,AA,AW 80]
  .have a1:k=b.length:=AE;subst a1;simp[AN];simp[AB 80 8,AA,AW 80,Ns J hI]
 .have G:a≠b:=λh=>J (by rw[h]);have O:¬(a.length:Int)=b.length:=AE;simp[O,G,AB 80 2,AA,AW 80]
def jj(a b:List Int)(hl:a.length<=2^40):PX 82 [AM .i64 a,AM .i64 b] [(decide (a=b):V)]:=by
 refine BS 82 ?_;simp only[Zw,As 82,AB 82 0,AB 82 1,Ad,AM];simp;by_cases G:a.length=b.length
 .simp[G,AD,AB 82 3];refine Ag b.length (λk s=>s=⟨[(0,.v (.list (a.map (.int .i64)))),(1,.v (.list (b.map (.int .i64)))),(5,(k:D))],[]⟩/\∀j <k,a[j]?=b[j]?) ⟨Ac,AE⟩ ?_;rintro k s hk ⟨rfl,hI⟩;simp only[Zw,BG 82 0,AB 82 4];simp[G];by_cases O:k <b.length
  .obtain⟨x,hx⟩:∃x,a[k]?=some x:=⟨_,rW AE⟩;obtain⟨y,U⟩:∃y,b[k]?=some y:=⟨_,rW O⟩;have w1:=Bt k;simp[O,AD];simp only[Aa,AB 82 6];simp[hx,U];by_cases W:x=y
   .subst W;simp[AB 82 5,w1];intro j hj;by_cases Z:j <k
    .exact hI j Z
    .have:j=k:=AE;subst this;rw[hx,U]
   .have J:a≠b:=by intro h;subst h;rw[hx]at U;simp at U;exact W U
    simp[W,J,AB 82 7,AA,AW 82]
  .have a1:k=b.length:=AE;subst a1;simp[AN];simp[AB 82 8,AA,AW 82,Ns G hI]
 .have J:a≠b:=λh=>G (by rw[h]);have N:¬(a.length:Int)=b.length:=AE;simp[N,J,AB 82 2,AA,AW 82]
def pm(k:Int)(hd:Hd)(x:Ext)(hx:x.chk):PX 38 [.list HU,.int .u64 k,hd.V,x.V] [((HY k hd x:Int):V)]:=by
 refine Dh (args:=[_,_,_,_]) (rets:=[_]) ?_;have hl:Low []:=by intro row h;cases h
 refine At (D6 38) rfl (ri _) hl (by simp[D.lt]) ?_;obtain⟨C,G⟩:∃C,HY k hd x=C:=⟨_,rfl⟩;rw[G];unfold HY at G;have q1:=(qT k hd).fsp;have q2:=(jp x).fsp;have q3:PX 75 [x.V] [(x.lo:V),(x.hi:V)]:=qW x;have q3:=q3.fsp;have N:=λA ds h7 Q=>rF [] (HU:D) x.rs (by have:=hx.n;omega) hx.ok A ds h7 Q;have a1:=U1 (x:=x);have b5:=λhk=>qS x.rs (by have:=hx.n;omega) hx.B x.lo x.hi hk x.L x.R x.S hx.S hx.S0 [.cells (hd.C.map .v),.cells (x.cs.map .v)] (by
  intro row a2;simp only[rj,sK,or_false]at a2;rcases a2 with rfl|rfl
  .simp only[Row.low];exact Ji _
  .exact GD _ _) hd.map
 have O:x.rs.all Ao=true->DW hd.map x.lo x.hi x.rs x.L x.R x.S=0->x.sane:=λh1 h2=>hx.sane h1 (Nd h2);have q4:=λU=>(jk (HP x) x.cl (by have:=S2 (x:=x) U;omega)).fsp;have q5:=λU=>(jj (He x) x.fs (by have:=S1 (x:=x) U;omega)).fsp;have W:=λU hk=>(jn x U hk).fsp;have Z:(if HP x=x.cl/\He x=x.fs then (0:Int) else 10)=if (!decide (HP x=x.cl)|| !decide (He x=x.fs))=true then 10 else 0:=by by_cases h1:HP x=x.cl<;>by_cases h2:He x=x.fs<;>simp[h1,h2]
 rw[Z]at G;clear hx Z;generalize UG k hd=E1 at*;generalize H4 x=E2 at*;generalize DW hd.map x.lo x.hi x.rs x.L x.R x.S=E3 at*;generalize Kw x=E4 at*;generalize decide (HP x=x.cl)=B1 at*;generalize decide (He x=x.fs)=B2 at*;generalize HP x=AC at*;generalize He x=AF at*;generalize x.lo=a0 at*;generalize x.hi=b0 at*;generalize b9:x.sane=SN at*;obtain⟨b4,file,party,day,⟨tc,tv,tp⟩,rs,cl,fs,L,R,S⟩:=x;obtain⟨d0,d1,d2,d3,d4,d5,d6,d7⟩:=hd;simp only at a1 O G;have N:=λA Q=>N A _ (show ((Ext.mk b4 file party day (.mk tc tv tp) rs cl fs L R S).cs.map D.v)[7]?=_ from rfl) Q;generalize rs.all Ao=FM at*;generalize HU=P6 at*;simp only[Ext.V,Ext.cs,Hd.V,Hd.C,Th.cs,Th.vs,Th.ps,AM]at*;simp at q1 q2 q3 q4 q5 b5 W N;simp only[Zw,As 38,AB 38 0,AZ];simp;simp only[AB 38 1];simp;refine⟨_,_,q1 _,?_⟩;by_cases a6:E1=0
 .subst a6;simp at G;simp[AB 38 2,AD];simp only[AB 38 4];simp;refine⟨_,_,q2 _,?_⟩;by_cases a7:E2=0
  .subst a7;obtain⟨b2,b3⟩:=a1 rfl;simp at G;simp[AB 38 5,AB 38 7];simp only[AB 38 8];simp;refine N _ _ ?_ ?_
   .rintro rfl e g0 g6 g7 b6;simp at G;simp only[AB 38 15];simp[g7];refine⟨_,_,q3 _,?_⟩;simp[g0,g6,g7,b6];simp only[AB 38 16];simp;refine⟨_,_,(b5 b3),?_⟩;by_cases a8:E3=0
    .subst a8;have U:=O rfl rfl;have q4:=q4 U;have q5:=q5 U;have W:=W U b2;simp at G;simp[AB 38 17];simp only[AB 38 19];simp;refine⟨_,_,W _,?_⟩;by_cases b1:E4=0
     .subst b1;simp at G;simp[AB 38 20];simp only[AB 38 22];simp;refine⟨_,_,q4 _,?_⟩;simp only[AB 38 23];cases B1 with
      |false=>
       simp at G;subst G;simp[AB 38 24,AA,AW 38]
      |true=>
       simp;refine⟨_,_,q5 _,?_⟩;cases B2<;>simp at G<;>subst G<;>simp[AB 38 24,AB 38 25,AA,AW 38]
     .simp[b1]at G;subst G;simp[b1,AB 38 20,AB 38 21,AA,AW 38]
    .simp[a8]at G;subst G;simp[a8,AB 38 17,AB 38 18,AA,AW 38]
   .rintro rfl e J g8;simp at G;subst G;simp[AW 38,g8]
  .simp[a7]at G;subst G;simp[a7,AB 38 5,AB 38 6,AA,AW 38]
 .simp[a6]at G;subst G;simp[a6,AB 38 2,AB 38 3,AA,AW 38]
section
variable (l:List Int)
def cr(a b:Int):∀r∈Q1 a b (S4 l),PX 113 [AM .u8 (A7 r)] [r.V,((0:Int):V)]:=λr G=>P0 l r (sx.1 G).1
def XY(a b:Int):(Q1 a b (S4 l)).length<=2^20:=by have G:=sZ (λr:Rgt=>decide (a<=r.file/\r.file<=b)) (S4 l);have h2:=HS l;unfold Q1;omega
variable (n:Int) (Z:List Row)
variable {t:Th} (ht:t.ok)
include ht
end
section
variable (l:List Int) (n:Int) {t:Th} (ht:t.ok)
def I0{α β:Type}(f:α->Option β)(m:Nat){l:List α}(h:l.length<=m):(l.filterMap f).length<=m:=sS (tx f l) h
include ht
variable (Z:List Row)
end
section
variable {J:List Row}
section
variable (l:List Int)
section
variable {t:Th} (ht:t.ok)
include ht
theorem Ur(Z:List Row)(hZ:Low (G6 (Ae l)++Z)):FX 185 [.R 0 0,.v (.list ((S4 l).map Rgt.V)),.v t.V] (G6 (Ae l)++Z) [.W 76 2 ((PM l t).map BY),((Q3 l t:Int):D)] (G6 (Ae l)++Z):=by have q:=Yf (ps:=HU) (bs:=OD) (by rw[Ig];decide) Lv _ 0 (rfl) hZ t ht (S4 l) (λr G=>(CsQ.of (Ej (FW l G))).fair (by have:=(CS (FW l G)).lb;omega)) (by have:=HS l;omega);rw[WK (Ly l),WL (Ly l)]at q;exact q
end
def OV(a b:Int)(G:Sm a b)(Z:List Row)(hZ:Low (G6 (Ae l)++Z)):
  FX 137 [.R 4 0,a,b] (G6 (Ae l)++Z) [.W 193 2 ((Q1 a b (S4 l)).map λr=>V.agg [(r.file:V),AM .u8 (A7 r)]),.v (.agg [AM .u64 (Wc (KJ l) a b),AM .u64 (Wb (KJ l) a b),AM .u8 (Uz (KJ l) a b)]),((0:Int):D)] (G6 (Ae l)++Z):=by
 have O:=DT l;have N:=Ov (Ae l) O;have q:=eO (G6 (Ae l)++Z) hZ 4 2 3 (Ir (Ae l)) (RX (Ae l)) (Jk (KJ l)) a b G (rfl) (rfl) (rfl) (aU l) (by rw[N,sD];have:=Gx l;omega) (by intro x hx;rw[N]at hx;obtain⟨r,U,rfl⟩:=rl.1 hx;exact⟨IF (D7 U).choose_spec.2,Lt (CS U) Ah⟩)
 rw[U2 O]at q;exact q
theorem WZ(Z:List Row):(G6 (Ae l)++Z)[5]?=some (.cells [.R 0 0,.mr 1,.R 4 0]):=rfl
def I7{Z:List Row}(hZ:Low (G6 (Ae l)++Z))(G:Lows J):Low (G6 (Ae l)++(Z++J)):=aJ hZ G
variable (n:Int) (Z:List Row) (hZ:Low (G6 (Ae l)++Z))
include hZ
theorem cm:FX 61 [.R 5 0,Lc 0 n 0 0 (.nil 3 1) (.nil 171 3) (.nil 58 3)] (G6 (Ae l)++Z) [.v (NA (OT n) ⟨0,n,0,0,Nm,Q1 n n (S4 l),[],[],Wc (KJ l) n n,Wb (KJ l) n n,Uz (KJ l) n n⟩).V,((OT n:Int):D)] (G6 (Ae l)++Z):=by
 by_cases N:Sm n n
 .have e:OT n=0:=by unfold OT;rw[if_neg (by unfold Sm at N;omega)]
  have q:=U4 (G6 (Ae l)++Z) hZ 0 n 0 0 Nm (.inl ⟨rfl,rfl,rfl,rfl⟩) 5 4 1 0 (WZ l Z) n n rfl rfl (Q1 n n (S4 l)) (XY l n n) (Wc (KJ l) n n) (Wb (KJ l) n n) (Uz (KJ l) n n) 0 (λh=>absurd rfl h)
   (λO G=>by rw[rn];exact OV l n n N _ (I7 l hZ G)) (cr l n n) [] [] 0 (.W 76 2 []) (.inr rfl) (λ_ O G=>cw _ (hZ.lows G) (.R 0 0) _ rfl ⟨rfl,by simp[D.lt,cB];omega⟩)
  rw[e];exact q
 .have e:OT n=5:=by unfold OT;rw[if_pos (by unfold Sm at N;omega)]
  have q:=U4 (G6 (Ae l)++Z) hZ 0 n 0 0 Nm (.inl ⟨rfl,rfl,rfl,rfl⟩) 5 4 1 0 (WZ l Z) n n rfl rfl [] Ac [] [] [] 5 (λ_=>rfl)
   (λO G=>by rw[rn];exact eP _ (I7 l hZ G) 4 n n N) (λr U=>by cases U) [] [] 0 (.W 76 2 []) (.inr rfl) (λh=>by cases h)
  rw[e];exact q
theorem cn:FX 61 [.R 5 0,Lc 2 0 n 0 (.nil 3 1) (.nil 171 3) (.nil 58 3)] (G6 (Ae l)++Z) [.v (Ext.mk 2 0 n 0 Nm (S4 l) [] (Cl n (S4 l)) [] [] []).V,((0:Int):D)] (G6 (Ae l)++Z):=by
 obtain⟨U,e2,W⟩:=OY (KJ l);have G:=OV l 0 4095 Ah;rw[Pa,U,e2,W]at G;exact U4 (G6 (Ae l)++Z) hZ 2 0 n 0 Nm (.inl ⟨rfl,rfl,rfl,rfl⟩) 5 4 1 0 (WZ l Z) 0 4095 rfl rfl (S4 l) (by have:=HS l;omega) [] [] [] 0 (λh=>absurd rfl h)
  (λO N=>by rw[rn];exact G _ (I7 l hZ N)) (P0 l) [] (Cl n (S4 l)) 0 (.W 76 2 []) (.inr rfl)
  (λ_ O N=>Yd _ (hZ.lows N) 0 (Ext.mk 2 0 n 0 Nm (S4 l) [] [] [] [] []) rfl (by have:=HS l;show (S4 l).length<=_;omega) (λr hr=>by have:=(CS (FW l hr)).lo;omega))
variable {t:Th} (ht:t.ok)
include ht
theorem Uq:FX 61 [.R 5 0,UC 1 0 t] (G6 (Ae l)++Z) [.v (NA (Q3 l t) ⟨1,0,0,0,t,S4 l,PM l t,[],[],[],[]⟩).V,((Q3 l t:Int):D)] (G6 (Ae l)++Z):=by
 obtain⟨W,e2,e3⟩:=OY (KJ l);have N:=OV l 0 4095 Ah;rw[Pa,W,e2,e3]at N;exact U4 (G6 (Ae l)++Z) hZ 1 0 0 0 t (.inr ⟨rfl,rfl,rfl⟩) 5 4 1 0 (WZ l Z) 0 4095 rfl rfl (S4 l) (by have:=HS l;omega) [] [] [] 0 (λh=>absurd rfl h)
  (λU G=>by rw[rn];exact N _ (I7 l hZ G)) (P0 l) (PM l t) [] (Q3 l t) _ (.inl rfl)
  (λ_ U G=>Zm _ (hZ.lows G) 0 _ _ _ (.inl rfl) λZ2 O=>by rw[rn,rn];exact Ur l ht _ (I7 l hZ (G.both O)))
theorem Zi(hE:Q3 l t=0):FX 61 [.R 5 0,UC 3 n t] (G6 (Ae l)++Z) [.v (Ext.mk 3 0 0 n t (S4 l) ((PM l t).filter (bO l t n)) [] [] [] []).V,((0:Int):D)] (G6 (Ae l)++Z):=by
 obtain⟨e1,e2,e3⟩:=OY (KJ l);have U:=OV l 0 4095 Ah;rw[Pa,e1,e2,e3]at U;refine U4 (G6 (Ae l)++Z) hZ 3 0 0 n t (.inr ⟨rfl,rfl,rfl⟩) 5 4 1 0 (WZ l Z) 0 4095 rfl rfl (S4 l) (by have:=HS l;omega) [] [] [] 0 (λh=>absurd rfl h)
  (λZ' G=>by rw[rn];exact U _ (I7 l hZ G)) (P0 l) ((PM l t).filter (bO l t n)) [] 0 _ (.inr rfl)
  (λ_ Z' G=>U3 _ 0 (Ext.mk 3 0 0 n t (S4 l) [] [] [] [] []) rfl (PM l t) (Vu l) (hZ.lows G) (bO l t n) (λZ2 W=>?_) (λc hc Z2 W=>?_))
 .have:=Ur l ht _ (I7 l hZ (G.both W));rw[hE]at this;rw[rn,rn];exact this
 .obtain⟨f,i⟩:=c;obtain⟨⟨h1,h2⟩,r,hr,a2,h0,hi⟩:=Vt l hc;simp only at a2 h0 hi;subst a2;have hm:=FW l hr;have a1:=Gl (Lf (DT l)) hr;have a6:IG (S4 l) r.file=r:=En (Lf (DT l)) hr;have O:=CsQ.of (Ej hm);obtain⟨i,rfl⟩:∃j:Nat,i=j:=⟨i.toNat,AE⟩;have q:=Ye (ps:=HU) (bs:=OD) (by rw[Ig];decide) Lv (G6 (Ae l)++Z++Z'++ .cells ((Ext.mk 3 0 0 n t (S4 l) [] [] [] [] []).cs.map .v)::Z2) 0 (by rw[rn,rn];rfl) ((hZ.lows G).lows λrow N n=>by
   rcases rj.1 N with rfl|N
   .exact GD n _
   .exact W row N n) (Ext.mk 3 0 0 n t (S4 l) [] [] [] [] []) ht h1 h2 (by have:=HS l;show (S4 l).length<=_;omega) r r.file i a1
   (by have:=(CS hm).ld;omega) (O.alts i AE) (pu r.claims O.altOK (λc hc=>(O.tiny c hc).ok) O.z i AE)
  unfold bO;rw[a6];exact q
theorem jb(W:t.small){N:Int}(hk:N=0\/N=1\/N=2\/N=3):FX 27 [.R 5 0,N,n,.v t.V] (G6 (Ae l)++Z) [.v (Cy l N n t).V,((KD l N n t:Int):D)] (G6 (Ae l)++Z):=by
 have z0:=λU(G:Lows U)=>I7 l hZ G;refine ky (X:=(Cy l N n t).cs) hZ rfl N n t hk ?_ ?_ ?_ ?_
 .rintro rfl U G;rw[rn];exact qd (X:=(Cy l 0 n t).cs) (z0 U G) rfl n λZ2 O=>by rw[rn];exact cm l n _ (I7 l (z0 U G) O)
 .rintro rfl U G;rw[rn];exact dq (X:=(Cy l 1 n t).cs) (z0 U G) rfl t W λZ2 O=>by rw[rn];exact Uq l _ (I7 l (z0 U G) O) ht
 .rintro rfl U G;rw[rn];have e:KD l 2 n t=LW n:=rfl;rw[e];by_cases hp:LW n=0
  .have eX:Cy l 2 n t=⟨2,0,n,0,Nm,S4 l,[],Cl n (S4 l),[],[],[]⟩:=by show NA (LW n) _=_;unfold NA;rw[if_pos hp];rfl
   rw[eX,hp];exact jr (X:=(Ext.mk 2 0 n 0 Nm (S4 l) [] (Cl n (S4 l)) [] [] []).cs) (z0 U G) rfl n hp λZ2 O=>by rw[rn];exact cn l n _ (I7 l (z0 U G) O)
  .have eX:Cy l 2 n t=E7:=by show NA (LW n) _=_;unfold NA;rw[if_neg hp]
   rw[eX];exact js (z0 U G) n hp
 .rintro rfl U G;rw[rn];refine lu (Y:=(Cy l 3 n t).cs) (z0 U G) t W n (X1:=(Cy l 1 n t).cs) (E1:=Q3 l t) (λZ2 O=>?_) rfl (λh1 h2 Z2 O=>?_) rfl rfl (λh=>?_)
  .rw[rn];exact dq (X:=(Cy l 1 n t).cs) (I7 l (z0 U G) O) rfl t W λZ3 a1=>by rw[rn];exact Uq l _ (I7 l (I7 l (z0 U G) O) a1) ht
  .rw[rn];have e:KD l 3 n t=0:=by show (if Q3 l t≠0 then Q3 l t else PJ n)=0;rw[if_neg (by simpa using h1),h2]
   have eX:Cy l 3 n t=⟨3,0,0,n,t,S4 l,(PM l t).filter (bO l t n),[],[],[],[]⟩:=by show NA (KD l 3 n t) _=_;unfold NA;rw[if_pos e];rfl
   rw[eX,e];exact Zi l n _ (I7 l (z0 U G) O) ht h1
  .show (NA (KD l 3 n t) _).V=_;unfold NA;rw[if_neg h]
end
end
structure Th.fit (t:Th):Prop where
 ok:t.ok
 small:t.small
 size:t.size<=2^40
def SE(l:List Int):∀d G,(Ho l d G).1.wee
 |0,G=>by obtain⟨N,O,J⟩:=J6 (Aq l G 1048576);obtain⟨W,Z,v3,v4⟩:=JM l (G+1);rw[Ho];exact .mk (λc hc=>by have:=J c hc;unfold i64;omega) AE AE Ac v4 Ac
 |d+1,G=>by obtain⟨N,O,J⟩:=J6 (Aq l G 1048576);obtain⟨W,Z,v3,v4⟩:=JM l (G+1);have U:=G0 (Ho l d) l.length Th.wee (SE l d) (Aq l ((G+4:Nat):Int) 4).toNat (G+5);have hn:=Gz (Ho l d) l.length (Aq l ((G+4:Nat):Int) 4).toNat (G+5);have h3:=QI l ((G+4:Nat):Int);rw[Ho];exact .mk (λc hc=>by have:=J c hc;unfold i64;omega) AE AE AE v4 U
def KQ(G:List Int):(B0 G).wee:=SE G 2 0
theorem Q5(J:List Int):(B0 J).size<=2^39:=by
 have h:=SF J 0;unfold IZ at h;split at h
 .rename_i G;rw[Oo]at G;have:=(of_decide_eq_true G).2;unfold B0;omega
 .cases h
def TA(G:List Int):(B0 G).fit:=⟨(KQ G).wid.fit.1,(KQ G).wid.fit.2,by have:=Q5 G;omega⟩
def jc(l:List Int):FX 13 [.R 0 0,.v (.list ((Ae l).map Rgt.V))] [Dw HU OD] [.R 5 0,((0:Int):D)] (G6 (Ae l)):=by
 have q:=qt [Dw HU OD] 0 Ac (by
  intro row G;rw[rm.1 G];simp only[Dw,Row.low];refine Fb λd hd=>?_;rcases rj.1 hd with rfl|hd
  .rfl
  .obtain⟨b,_,rfl⟩:=rl.1 hd;rfl) (m:=3) Ah (Ae l) (λr J=>CS J) (by have:=Gx l;omega)
 rw[K5,if_pos rfl,if_pos rfl]at q;exact q
section
variable (l:List Int)
def Pm(lb:List Int)(xs:List Int):u64 (JO lb xs):=EI _
def Sd(ps:List (Int×List Int))(n v:Int)(h:Jk ps n=some v):u64 v:=by
 unfold Jk at h;cases hf:ps.find? (λp=>p.1==n)with
 |none=>simp[hf]at h
 |some p=>simp[hf]at h;subst h;exact Pm _ _
def WJ{lf:Int->Option Int}(h:∀n v,lf n=some v->u64 v):∀(k:Nat)(n v:Int),bH lf k n=some v->u64 v
 |0,n,v,hv=>h n v hv
 |k+1,n,v,hv=>by
  unfold bH Eg at hv;split at hv
  .cases hv
  .simp only[rV]at hv;subst hv;exact Pm _ _
def Wx(ps:List (Int×List Int))(a b:Int):∀n∈Wc ps a b,u64 n:=by
 intro n J;obtain⟨q,_,G⟩:=List.mem_filterMap.1 J;split at G
 .exact WJ (Sd ps) _ _ _ G
 .cases G
def Ww(ps:List (Int×List Int))(a b:Int):∀n∈Wb ps a b,u64 n:=by
 intro n J;obtain⟨q,_,G⟩:=List.mem_filterMap.1 J;split at G
 .cases G
 .exact WJ (Sd ps) _ _ _ G
def cv(ps:List (Int×List Int))(a b:Int):∀n∈Uz ps a b,0<=n/\n <256:=by intro n G;obtain⟨q,_,rfl⟩:=rl.1 G;split<;>omega
def iz:i64 0:=⟨Ah,Ah⟩
def i1:i64 1:=⟨Ah,Ah⟩
def i2:i64 2:=⟨Ah,Ah⟩
def i3:i64 3:=⟨Ah,Ah⟩
def RL:Nm.size<=100:=Ah
def Og:Nm.size<=300:=Ah
def Of:Nm.wid:= .mk Ac Ah Ah Ah Ac Ac
def VD:E7.nice 3 1048576:=⟨iz,iz,iz,iz,Of,Og,by simp[E7,Gn],by simp[E7,Gn],by simp[E7,Gn],by simp[E7,Gn],by simp[E7,Gn],by simp[E7,Gn],by simp[E7,Gn],by simp[E7,Gn],by simp[E7,Gn],by simp[E7,Gn],by simp[E7,Gn],by simp[E7,Gn]⟩
def R8{n:Int}(hn:i64 n){t:Th}(W:t.wee)(U:t.size<=100)(G:Int):(Cy l G n t).nice 3 1048576/\(Cy l G n t).t.wee/\(Cy l G n t).t.size<=100:=by
 have z:=iz;have nw:Nm.wee:= .mk Ac Ah Ah Ah Ac Ac;have N:=HS l;have t4:∀r∈S4 l,r.tiny 3:=λr J=>CS (FW l J);have O:∀c∈PM l t,i64 c.1/\i64 c.2:=by intro c hc;obtain⟨_,r,J,hf,h0,h1⟩:=Vt l hc;have h3:=(t4 r J).lc;refine⟨hf▸(t4 r J).file,?_⟩;unfold i64;omega
 have a2:=Vu l (t:=t);have hB:=E6 n n 12 0;have Z:∀pa,(∀c∈Cl pa (S4 l),i64 c)/\(Cl pa (S4 l)).length<=4:=λpa=>by unfold Cl;refine⟨λc hc=>?_,by rw[sD];exact sS (sZ _ _) N⟩;obtain⟨r,J,rfl⟩:=rl.1 hc;exact(t4 r (sx.1 J).1).file
 have a1:∀(E:Int)(x:Ext),(x.nice 3 1048576/\x.t.wee/\x.t.size<=100)->(NA E x).nice 3 1048576/\(NA E x).t.wee/\(NA E x).t.size<=100:=λE x hx=>by
  unfold NA;split
  .exact hx
  .exact⟨VD,nw,RL⟩
 unfold Cy;refine a1 _ _ ?_;split
 .refine⟨⟨z,hn,z,z,Of,Og,λr J=>t4 r (sx.1 J).1,sS (sZ _ _) N,Ac,Ac,Ac,Ac,Wx _ _ _,Ww _ _ _,cv _ _ _,I0 _ _ AE,I0 _ _ AE,by simp[Uz,DH];omega⟩,nw,RL⟩
 .split
  .exact⟨⟨i1,z,z,z,W.wid,by simp only;omega,t4,N,O,by simp only;omega,Ac,Ac,Ac,Ac,Ac,Ac,Ac,Ac⟩,W,U⟩
  .split
   .obtain⟨f1,f2⟩:=Z n;exact⟨⟨i2,z,hn,z,Of,Og,t4,N,Ac,Ac,f1,by simp only;omega,Ac,Ac,Ac,Ac,Ac,Ac⟩,nw,RL⟩
   .refine⟨⟨i3,z,z,hn,W.wid,by simp only;omega,t4,N,λc hc=>O c (sx.1 hc).1,?_,Ac,Ac,Ac,Ac,Ac,Ac,Ac,Ac⟩,W,U⟩;have:=sZ (bO l t n) (PM l t);simp only;omega
end
structure Ext.try_ (x:Ext):Prop where
 chk:x.chk
 lr:x.rs.length<=2^30
 lc:x.cl.length<=2^30
 ok:∀r∈x.rs,r.ok
section
variable (d2 d4 d5 d6 d17 d19 d20 d23 d25 d26 d28:D) (key:Int) (hs:List Hd) (hh:hs.length=3) (ts:List Ext) (ht:ts.length=3) (hx:∀x∈ts,x.try_) (H:List Row) (hl:Low H) (h0:H[0]?=some (Dw HU OD))
def Ri(d2 d4 d5 d6 d17 d19 d20 d23 d25 d26 d28:D)(key:Int)(hs:List Hd)(ts:List Ext)(es:List (Nat×D)):CC:=
 (2,d2)::(4,d4)::(5,d5)::(6,d6)::(15,.R 0 0)::(17,d17)::(19,d19)::(20,d20)::(22,.v (.int .u64 key))::(23,d23)::(24,.W 103 8 (hs.map Hd.V))::(25,d25)::(26,d26)::(28,d28)::(29,.W 95 13 (ts.map Ext.V))::es
def Sg(e:CC)(d2 d4 d5 d6 d17 d19 d20 d23 d25 d26 d28:D)(key:Int)(hs:List Hd)(ts:List Ext):Prop:=
 AK e 2=d2/\AK e 4=d4/\AK e 5=d5/\AK e 6=d6/\AK e 15= .R 0 0/\AK e 17=d17/\AK e 19=d19/\AK e 20=d20/\AK e 22= .v (.int .u64 key)/\AK e 23=d23/\AK e 24= .W 103 8 (hs.map Hd.V)/\AK e 25=d25/\AK e 26=d26/\AK e 28=d28/\AK e 29= .W 95 13 (ts.map Ext.V)
def pQ:AC:=ll 6 2
def qD:AC:=pQ.R.L.L
include hh ht hx hl h0
theorem qy(j:Nat)(hj:j <3)(Q:AExit->St->Prop)(hQ:∀e,Sg e d2 d4 d5 d6 d17 d19 d20 d23 d25 d26 d28 key hs ts->AK e 30=(j:D)->Q (.exit 4) ⟨e,H⟩):
  AX (.loop (lG 6 2)) Q ⟨Ri d2 d4 d5 d6 d17 d19 d20 d23 d25 d26 d28 key hs ts [(30,(j:D)),(31,((0:Nat):D))],H⟩:=by
 refine Ab 3 (λk=>⟨Ri d2 d4 d5 d6 d17 d19 d20 d23 d25 d26 d28 key hs ts [(30,(j:D)),(31,(k:D))],H⟩) Ac ?_;intro k hk;rw[show (lG 6 2)= .seq (.seq (.reg (oG 6 25) _) (.cond _ .skip (.exit 4))) (.seq (.block 5 qD) (.reg (oG 6 26) _)) from(BG 6 2 :)];simp only[Zw,AB 6 25,Ri];by_cases h1:k <3
 .obtain⟨hd,b1⟩:∃hd,hs[k]?=some hd:=⟨_,rW AE⟩;obtain⟨x,W⟩:∃x,ts[j]?=some x:=⟨_,rW AE⟩;have J:=hx x (rY W);have w1:=Bt k;have a1:=pn hd;have a2:=ql x J.lr J.lc J.ok;have G:=dK key hd x J.chk H hl h0;have N:=pm key hd x J.chk;have Z:=jC;have b2:GZ=(HU:V):=rfl;rw[b2]at Z;generalize HY key hd x=CE at*;generalize (V.list HU)=P6 at*;obtain⟨x0,x1,x2,x3,x4,x5,x6,x7,x8,x9,a6,a7,a8,U⟩:=GN (X:=x.cs) rfl;have hV:x.V= .agg [x0,x1,x2,x3,x4,x5,x6,x7,x8,x9,a6,a7,a8]:=by show V.agg _=_;rw[U]
  have O:hd.V= .agg [(hd.office:V),(hd.tick:V),(hd.day:V),(hd.size:V),.int .u64 hd.log,.int .u64 hd.map,(hd.sealed:V),.int .u64 hd.sign]:=rfl;have gH:(hs.map Hd.V)[k]?=some (.agg [(hd.office:V),(hd.tick:V),(hd.day:V),(hd.size:V),.int .u64 hd.log,.int .u64 hd.map,(hd.sealed:V),.int .u64 hd.sign]):=by rw[rk,b1];rfl
  have gT:(ts.map Ext.V)[j]?=some (.agg [x0,x1,x2,x3,x4,x5,x6,x7,x8,x9,a6,a7,a8]):=by rw[rk,W,<-hV];rfl
  rw[O]at a1 G N;rw[hV]at a2 G N;clear hV O U J hx;have b0:(k:Int) <3:=AE;have lH:(hs.map Hd.V).length=3:=by simpa using hh
  have lT:(ts.map Ext.V).length=3:=by simpa using ht
  have b3:(j:Int) <3:=AE;generalize hs.map Hd.V=HV at*;generalize ts.map Ext.V=TV at*;simp[b0,AD];rw[show qD= .seq (.regA (oG 6 27) _ _ _) (.cond _ _ .skip) from rfl,AH,Bf];refine Bc _ (λs hs=>⟨s,.inl rfl,hs⟩) ?_;simp only[AB 6 27];simp[gH,gT,-List.getElem?_map];refine⟨_,_,⟨rfl,rfl⟩,_,a1,?_⟩;simp;refine⟨_,_,⟨rfl,rfl⟩,_,a2,?_⟩;simp
  repeat' apply And.intro
  all_goals
   first|refine⟨_,_,G,?_⟩|refine⟨_,G,?_⟩|refine⟨_,⟨_,G⟩,?_⟩|exact⟨_,G⟩|exact⟨_,_,G⟩|refine⟨⟨_,G⟩,?_⟩
   simp;refine⟨_,_,⟨rfl,rfl⟩,_,Z,?_⟩;simp;refine⟨_,_,⟨rfl,rfl⟩,_,N,?_⟩;simp[AO,AD,AB 6 26,w1,h1]
 .obtain rfl:k=3:=AE;simp[AN];exact hQ _ ⟨rfl,rfl,rfl,rfl,rfl,rfl,rfl,rfl,rfl,rfl,rfl,rfl,rfl,rfl,rfl⟩ rfl
theorem qz(Q:AExit->St->Prop)(hQ:∀e,Sg e d2 d4 d5 d6 d17 d19 d20 d23 d25 d26 d28 key hs ts->Q (.exit 2) ⟨e,H⟩):
  AX (.loop (lG 6 1)) Q ⟨Ri d2 d4 d5 d6 d17 d19 d20 d23 d25 d26 d28 key hs ts [(30,((0:Nat):D))],H⟩:=by
 refine Ab 3 (λj=>⟨Ri d2 d4 d5 d6 d17 d19 d20 d23 d25 d26 d28 key hs ts [(30,(j:D))],H⟩) Ac ?_;intro j hj;have G:=λh Q=>qy d2 d4 d5 d6 d17 d19 d20 d23 d25 d26 d28 key hs hh ts ht hx H hl h0 j h Q;simp only[Sg]at G hQ;simp only[Zw,BG 6 1,AB 6 22,Ri]at G ⊢;generalize hs.map Hd.V=HV at*;generalize ts.map Ext.V=TV at*;by_cases h1:j <3
 .have a2:(j:Int) <3:=AE;have w1:=Bt j;simp[a2,AD,AB 6 24];refine G h1 _ ?_;rintro e ⟨f2,f4,f5,f6,f15,f17,f19,f20,J,N,O,U,W,Z,a1⟩ f30;simp[AB 6 23,f2,f4,f5,f6,f15,f17,f19,f20,J,N,O,U,W,Z,a1,f30,w1,h1]
 .obtain rfl:j=3:=AE;simp[AN];exact hQ _ ⟨rfl,rfl,rfl,rfl,rfl,rfl,rfl,rfl,rfl,rfl,rfl,rfl,rfl,rfl,rfl⟩
end
section
variable {k m:Nat}
def Rgt.tiny.mono(G:m<=k){r:Rgt}(h:r.tiny m):r.tiny k:=
 ⟨h.file,h.state,h.force,h.claims,h.dates,h.bad,h.owners,h.lics,sS h.lc G,sS h.ld G,sS h.lb G,sS h.lo G,sS h.ll G⟩
def rT(b b2:Int)(T:List Clm):Prop:=∃G E,CsP G/\T=G++E/\(E=[]\/E=[It b]\/E=[It b2]\/E=[It b,It b2])
variable {c:Int}
theorem V2{x y:Ext}(h:y.rs=x.rs\/y.rs=x.rs.drop 1\/∃i r h,x.rs[i]?=some r/\y.rs=x.rs.set i (Ds r h c)):∀J∈y.rs,∃r∈x.rs,J.claims=r.claims\/J.claims=r.claims++[It c]:=by
 intro J G;rcases h with h|h|⟨i,r,k,hi,h⟩
 .rw[h]at G;exact⟨J,G,.inl rfl⟩
 .rw[h]at G;exact⟨J,tH G,.inl rfl⟩
 .rw[h]at G;rcases sn G with G|rfl
  .exact⟨J,G,.inl rfl⟩
  .exact⟨r,rY hi,M5 r k c⟩
def Tl{r:Rgt}(h:Ao r=true):CB r.claims=0:=LE h
variable {n:Nat}
theorem Q4{s:Nat}{x:Ext}(hx:x.nic n s m k)(hn:n<=5000)(hs:s<=2^40)(hm:m<=1000)(hk:k<=2^30){b O:Int}(hb:i64 b)(U:i64 O)(h2:0<=b->b <3->O=b)(hc:∀r∈x.rs,rT b O r.claims):x.try_:=by have Z:=hx.lr;have l2:=hx.lc;have l3:=hx.lf;have l4:=hx.lS;have l5:=hx.ts;have N:∀r∈x.rs,r.ok:=λr J=>(hx.rs r J).ok AE;refine⟨⟨(hx.t.fit AE).1,Z,N,λr J=>⟨Rj (hx.rs r J) AE,Lt (hx.rs r J) AE⟩,AE,λc hc=>(hx.S c hc).1,AE,AE,λhf hp=>⟨(hx.t.fit AE).1,AE,Z,λr J=>?_,λr J=>(hx.rs r J).mono hm,hp⟩⟩,AE,AE,N⟩;obtain⟨G,E,hG,he,hE⟩:=hc r J;have W:=Tl (ry.1 hf r J);rw[he]at W ⊢;exact CsQ.ext hG hb U h2 hE W
section
variable (l l2:List Int) (n kind how at_ by_:Int) (hn:i64 n) (hk:i64 kind) (hh:i64 how) (ha:i64 at_) (hb:i64 by_)
def FK(n:Int)(i:Nat):Int:=if i=0 then Af n 9 else if i=1 then 7 else 36000+Af n 60
def VB(hn:i64 n)(i:Nat):i64 (FK n i):=by
 have G:=Cb n 9 Ah;have J:=Cb n 60 Ah;unfold FK i64;split
 .omega
 .split<;>omega
include hn hh ha hb
theorem ZV(i:Nat):∃Z y2:Ext,(∀x∈[Cy l (Af kind 4) (FK n i) (B0 l2),Z,y2],x.try_)/\
  PX 36 [(Cy l (Af kind 4) (FK n i) (B0 l2)).V,how,at_,by_] [Z.V]/\PX 36 [Z.V,at_,how,((Af by_ 9:Int):V)] [y2.V]:=by
 have ht:=KQ l2;have a7:(B0 l2).size<=100:=by have:=(cZ (SF l2 0)).2.1;unfold B0;omega
 obtain⟨an,aw,a6⟩:=R8 l (VB n hn i) ht a7 (Af kind 4);have a1:(Cy l (Af kind 4) (FK n i) (B0 l2)).nic 1000 100 3 1048576:={an with t:=aw,ts:=a6};have O:i64 (Af by_ 9):=by have:=Cb by_ 9 Ah;unfold i64;omega
 have U:0<=by_->by_ <3->Af by_ 9=by_:=λh0 h3=>Xz h0 h3;obtain⟨Z,⟨n1,c1⟩,q1⟩:=dH _ how at_ by_ a1 Ah Ah Ah hh ha hb;obtain⟨y2,⟨n2,c2⟩,q2⟩:=dH Z at_ how (Af by_ 9) n1 Ah Ah Ah ha hh O;have k0:∀r∈(Cy l (Af kind 4) (FK n i) (B0 l2)).rs,CsP r.claims:=λr J=>by
  have hS:∀X:Ext,(∀r∈X.rs,r∈S4 l)->∀E,∀r∈(NA E X).rs,r∈S4 l:=λX hX E r J=>by
   unfold NA at J;split at J
   .exact hX r J
   .simp[E7,Gn]at J
  have:r∈S4 l:=by
   unfold Cy at J;refine hS _ ?_ _ r J;intro q hq;split at hq
   .exact(sx.1 hq).1
   .split at hq
    .exact hq
    .split at hq<;>exact hq
  exact Ej (FW l this)
 have k1:∀r∈Z.rs,∃G E,CsP G/\r.claims=G++E/\(E=[]\/E=[It by_]):=λr' W=>by
  obtain⟨r,J,N|N⟩:=V2 c1 r' W
  .exact⟨_,[],k0 r J,by rw[N,sk],.inl rfl⟩
  .exact⟨_,_,k0 r J,N,.inr rfl⟩
 refine⟨Z,y2,?_,q1,q2⟩;intro x hx;simp only[rj,sK,or_false]at hx;rcases hx with rfl|rfl|rfl
 .exact Q4 a1 Ah Ah Ah Ah hb O U λr J=>⟨_,[],k0 r J,by rw[sk],.inl rfl⟩
 .exact Q4 n1 Ah Ah Ah Ah hb O U λr J=>by obtain⟨G,E,hG,N,hE⟩:=k1 r J;exact⟨G,E,hG,N,hE.elim .inl λh=> .inr (.inl h)⟩
 .exact Q4 n2 Ah Ah Ah Ah hb O U λr' W=>by
   obtain⟨r,J,N⟩:=V2 c2 r' W;obtain⟨G,E,hG,a2,hE⟩:=k1 r J;rcases N with N|N
   .exact⟨G,E,hG,by rw[N,a2],hE.elim .inl λh=> .inr (.inl h)⟩
   .refine⟨G,E++[It (Af by_ 9)],hG,by rw[N,a2,rn],?_⟩;rcases hE with rfl|rfl
    .exact .inr (.inr (.inl rfl))
    .exact .inr (.inr (.inr rfl))
omit hn hh ha hb
def cG(m:Int):Hd:=⟨2,0,36000,5,9,m,0,0⟩
def Hh(by_:Int):Int:=IntKind.u64.wrap (Af by_ 1000)
def h6(l:List Int)(by_:Int):Hd:=(cG (F7 l)).signed (Hh by_)
theorem Q9(k:Int)(h:Hd):(h.signed k).sign=Wl (Jp k) (h.signed k):=by obtain⟨a,b,c,d,e,f,g,i⟩:=h;rfl
theorem M6(k:Int)(h:Hd):(h.signed k).formed=h.formed:=by obtain⟨a,b,c,d,e,f,g,i⟩:=h;rfl
def Rb(m:Int):(cG m).formed=true:=by simp[Hd.formed,cG]
def gt:UG (Jp (Hh by_)) (h6 l by_)=0:=by unfold UG h6;rw[if_pos (by rw[M6];exact Rb _),if_pos (Q9 _ _)]
theorem af:(h6 l by_).map=F7 l:=rfl
def Mc(l:List Int)(how at_ by_:Int):List Hd:=[h6 l by_,(h6 l by_).bent (Af at_ 8) by_,((h6 l by_).bent (Af how 8) by_).signed (Hh by_)]
def Ee(l l2:List Int)(by_:Int):List Row:=[.cells (B0 l2).cells,.cells ((h6 l by_).C.map .v)]
def pR:AC:=ll 6 0
def bR:AC:=pR.R.L.L
def pS:AC:=bR.R.R
include hn hk hh ha hb
theorem rA(J:List Row)(hJ:Lows J)(Q:AExit->St->Prop)(hQ:∀e J,Q (.exit 0) ⟨e,J⟩):
  AX (.loop (lG 6 0)) Q ⟨[(2,(kind:D)),(4,(how:D)),(5,(at_:D)),(6,(by_:D)),(15,.R 0 0),(17,.R 5 0),(19,.R 6 0),(20,.W 3 1 [((FK n 0:Int):V),((FK n 1:Int):V),((FK n 2:Int):V)]),(22,.v (.int .u64 (Jp (Hh by_)))),(23,.R 7 0),(24,.W 103 8 ((Mc l how at_ by_).map Hd.V)),(25,((0:Nat):D))],
   G6 (Ae l)++(Ee l l2 by_++J)⟩:=by
 have lH:∀m,Row.low m (.cells ((h6 l by_).C.map .v))=true:=λm=>by simp only[Row.low];exact Ji _
 have lR:Lows (Ee l l2 by_):=MT (λm=>LA m _) lH;refine Ag 3 (λk s=>∃J,Lows J/\s=⟨[(2,(kind:D)),(4,(how:D)),(5,(at_:D)),(6,(by_:D)),(15,.R 0 0),(17,.R 5 0),(19,.R 6 0),(20,.W 3 1 [((FK n 0:Int):V),((FK n 1:Int):V),((FK n 2:Int):V)]),(22,.v (.int .u64 (Jp (Hh by_)))),(23,.R 7 0),(24,.W 103 8 ((Mc l how at_ by_).map Hd.V)),(25,(k:D))],
   G6 (Ae l)++(Ee l l2 by_++J)⟩) ⟨J,hJ,rfl⟩ ?_
 rintro k s m3 ⟨J,hJ,rfl⟩;rw[show (lG 6 0)= .seq (.seq (.reg (oG 6 13) _) (.cond _ .skip (.exit 0))) (.seq (.block 1 bR) (.reg (oG 6 14) _)) from(BG 6 0 :)];simp only[Zw,AB 6 13];by_cases h1:k <3
 .have g5:(k:Int) <3:=AE;have w1:=Bt k;have e7:Low (G6 (Ae l)++(Ee l l2 by_++J)):=(Pb _).lows (lR.both hJ);have m5:=C7 kind 4 hk;have m4:=(Cb kind 4 Ah).2;have e5:Af kind 4=0\/Af kind 4=1\/Af kind 4=2\/Af kind 4=3:=AE;have ft:=TA l2;obtain⟨y1,y2,d3,c2,d9⟩:=ZV l l2 n kind how at_ by_ hn hh ha hb k;have b9:=λZ(hZ:Lows Z)=>jb l (FK n k) (Ee l l2 by_++(J++Z)) ((Pb _).lows (lR.both (hJ.both hZ))) ft.ok ft.small e5;have h0:=λhE=>Vz l (t:=B0 l2) (Af kind 4) (FK n k) e5 hE (Jp (Hh by_)) (h6 l by_) (gt l by_) (af l by_);have h3:([V.int .i64 (FK n 0),((FK n 1:Int):V),((FK n 2:Int):V)]:List V)[k]?=some ((FK n k:Int):V):=by have:k=0\/k=1\/k=2:=AE;rcases this with rfl|rfl|rfl<;>rfl
  generalize FK n k=nk at*;generalize m1:([V.int .i64 (FK n 0),((FK n 1:Int):V),((FK n 2:Int):V)]:List V)=NV at*;generalize KD l (Af kind 4) nk (B0 l2)=E at*;generalize Cy l (Af kind 4) nk (B0 l2)=a at*;have b5:=d3 a Ac;have q4:=LZ kind 4 Ah;have q9:=LZ by_ 9 Ah;have c1:=pn (h6 l by_);have d7:=(qn a b5.lr b5.lc (λr hr=>pM rJ r (b5.ok r hr))).fsp;have b3:=(jz (Jp (Hh by_)) (h6 l by_) a).fsp;have h4:GZ=(HU:V):=rfl;have g2:=jC;rw[h4]at g2;have hG:∀Z,(G6 (Ae l)++Z)[0]?=some (Dw HU OD):=λZ=>rfl;have c0:=λK Z(hZ:Lows Z)=>dK K (h6 l by_) a b5.chk (G6 (Ae l)++(Ee l l2 by_++(J++Z))) ((Pb _).lows (lR.both (hJ.both hZ))) rfl;have d8:=λK=>pm K (h6 l by_) a b5.chk;have G:=λZ(hZ:Lows Z)d2 d4 d5 d6 d17 d19 d20 d23 d25 d26 d28 Q=>qz d2 d4 d5 d6 d17 d19 d20 d23 d25 d26 d28 (Jp (Hh by_)) (Mc l how at_ by_) rfl [a,y1,y2] rfl d3 (G6 (Ae l)++(Ee l l2 by_++(J++Z))) ((Pb _).lows (lR.both (hJ.both hZ))) rfl Q;simp only[Ri,Sg]at G;have e0:∀Z,G6 (Ae l)++(Ee l l2 by_++(J++Z))=(G6 (Ae l)++(Ee l l2 by_++J))++Z:=λZ=>by simp only[rn]
  simp only[e0]at b9 c0 G;obtain⟨x0,x1,x2,x3,x4,x5,x6,x7,x8,x9,a7,a8,b0,f0⟩:=GN (X:=a.cs) rfl;have hV:a.V= .agg [x0,x1,x2,x3,x4,x5,x6,x7,x8,x9,a7,a8,b0]:=by show V.agg _=_;rw[f0]
  have lX:∀m,Row.low m (.cells [.v x0,.v x1,.v x2,.v x3,.v x4,.v x5,.v x6,.v x7,.v x8,.v x9,.v a7,.v a8,.v b0])=true:=λm=>by simp[Row.low,D.lts,D.lt]
  obtain⟨i5,i6,i7,i8,i9,j0,j1,j2,j3,j4,j5,j6,j7,c5⟩:=GN (X:=y1.cs) rfl;have c8:y1.V= .agg [i5,i6,i7,i8,i9,j0,j1,j2,j3,j4,j5,j6,j7]:=by show V.agg _=_;rw[c5]
  obtain⟨j8,k0,k1,k3,k7,jM,l1,l3,l4,l5,l6,l7,l8,c6⟩:=GN (X:=y2.cs) rfl;have c9:y2.V= .agg [j8,k0,k1,k3,k7,jM,l1,l3,l4,l5,l6,l7,l8]:=by show V.agg _=_;rw[c6]
  have c7:(h6 l by_).V= .agg [.int .i64 (h6 l by_).office,.int .i64 (h6 l by_).tick,.int .i64 (h6 l by_).day,.int .i64 (h6 l by_).size,.int .u64 (h6 l by_).log,.int .u64 (h6 l by_).map,.int .i64 (h6 l by_).sealed,.int .u64 (h6 l by_).sign]:=rfl;have a1:=b9 [] Lows.nil;have a2:=b9 [FJ] (QM Gb);have b1:=λK=>c0 K _ (QM lX);have b2:=λK=>c0 K _ (MT lX lX);have G:=G _ (MT lX lX);simp only[rq,sq,hV,c8,c9]at G;rw[hV]at a1 a2 c2 d7 b3;rw[c8]at c2 d9;rw[c9]at d9;simp only[hV]at b1 b2 d8;rw[c7]at c1 b3;simp only[c7]at b1 b2 d8;have g6:∀Z,((G6 (Ae l)++(Ee l l2 by_++J))++Z)[6]?=some (.cells [.v (AM .i64 (B0 l2).cs),.v (.list ((B0 l2).vs.map Val.V)),.v (.list ((B0 l2).ps.map Th.V))]):=λZ=>rfl;have g7:∀Z,((G6 (Ae l)++(Ee l l2 by_++J))++Z)[7]?=some (.cells [.v (.int .i64 (h6 l by_).office),.v (.int .i64 (h6 l by_).tick),.v (.int .i64 (h6 l by_).day),.v (.int .i64 (h6 l by_).size),.v (.int .u64 (h6 l by_).log),.v (.int .u64 (h6 l by_).map),.v (.int .i64 (h6 l by_).sealed),.v (.int .u64 (h6 l by_).sign)]):=λZ=>rfl;have c3:∃J',Lows J'/\(G6 (Ae l)++(Ee l l2 by_++J))++[.cells [.v x0,.v x1,.v x2,.v x3,.v x4,.v x5,.v x6,.v x7,.v x8,.v x9,.v a7,.v a8,.v b0]]=G6 (Ae l)++(Ee l l2 by_++J'):=⟨_,hJ.both (QM lX),by simp only[rn]⟩;have c4:∃J',Lows J'/\(G6 (Ae l)++(Ee l l2 by_++J))++[.cells [.v x0,.v x1,.v x2,.v x3,.v x4,.v x5,.v x6,.v x7,.v x8,.v x9,.v a7,.v a8,.v b0],.cells [.v x0,.v x1,.v x2,.v x3,.v x4,.v x5,.v x6,.v x7,.v x8,.v x9,.v a7,.v a8,.v b0]]=G6 (Ae l)++(Ee l l2 by_++J'):=⟨_,hJ.both (MT lX lX),by simp only[rn]⟩;have e9:(B0 l2).V= .agg [AM .i64 (B0 l2).cs,.list ((B0 l2).vs.map Val.V),.list ((B0 l2).ps.map Th.V)]:=by obtain⟨a,b,c⟩:=B0 l2;exact Th.V_eq ..
  rw[e9]at a1 a2;obtain⟨H,hH⟩:∃H,G6 (Ae l)++(Ee l l2 by_++J)=H:=⟨_,rfl⟩;rw[hH]at a1 a2 c3 c4 ⊢;simp only[hH]at b1 b2 G g6 g7;clear hJ f0 c5 c6 hV c8 c9 c7 lX c0 d3 b5 b9 e7 e0 e9;generalize m0:(Mc l how at_ by_).map Hd.V=HV at*;generalize g8:HY (Jp (Hh by_)) (h6 l by_) a=CE at*;generalize Jp (Hh by_)=key at*;generalize (h6 l by_).office=o0 at*;generalize (h6 l by_).tick=o1 at*;generalize (h6 l by_).day=o2 at*;generalize (h6 l by_).size=o3 at*;generalize (h6 l by_).log=o4 at*;generalize (h6 l by_).map=o5 at*;generalize (h6 l by_).sealed=o6 at*;generalize (h6 l by_).sign=o7 at*;generalize (V.list HU)=P6 at*;simp only[AM,FJ]at*;generalize (V.list ((B0 l2).cs.map (V.int .i64)))=t0 at*;generalize (V.list ((B0 l2).vs.map Val.V))=t1 at*;generalize (V.list ((B0 l2).ps.map Th.V))=t2 at*;simp at a1 a2 d7 b3 G;obtain⟨KP,a6⟩:∃KP:CC->Prop,KP=λe=>AK e 2=(kind:D)/\AK e 4=(how:D)/\AK e 5=(at_:D)/\AK e 6=(by_:D)/\AK e 15= .R 0 0/\AK e 17= .R 5 0/\AK e 19= .R 6 0/\AK e 20= .W 3 1 NV/\AK e 22= .v (.int .u64 key)/\AK e 23= .R 7 0/\AK e 24= .W 103 8 HV/\AK e 25=(k:D):=⟨_,rfl⟩;obtain⟨K,hK⟩:∃K:AExit->St->Prop,K=(λe s=>(e= .normal\/e= .exit 1)/\KP s.e/\∃J',Lows J'/\s.h=G6 (Ae l)++(Ee l l2 by_++J')):=⟨_,rfl⟩;have tail:∀e,KP e->CE=0->AK e 26= .R H.length 0->AX pS K ⟨e,H++[.cells [.v x0,.v x1,.v x2,.v x3,.v x4,.v x5,.v x6,.v x7,.v x8,.v x9,.v a7,.v a8,.v b0]]⟩:=by
   intro e hP g9 b6;rw[a6]at hP;obtain⟨f2,f4,f5,f6,f15,f17,f19,f20,N,O,W,U⟩:=hP;have e1:=b1 key;rw[g8,g9]at e1;rw[show pS= .seq (.seq (.regD (oG 6 17) _ _) (.cond _ _ .skip)) (.seq (.reg (oG 6 19) _) (.seq (.regD (oG 6 20) _ _) (.seq (.seq (.reg (oG 6 21) _) (.block 2 (.loop (lG 6 1)))) (.seq (.regA (oG 6 29) _ _ _) (.cond _ _ .skip))))) from rfl];simp only[AH,Aa,AO,AB 6 17];simp[f15,N,O,b6,g7];refine⟨_,_,⟨rfl,rfl⟩,_,c1,?_⟩;simp;refine⟨_,_,e1,?_⟩;simp[N,O,b6,g7];refine⟨_,_,⟨rfl,rfl⟩,_,c1,?_⟩;simp;refine⟨_,_,b3 _,?_⟩;simp[AD,f2,f4,f5,f6,f15,f17,f19,f20,N,O,W,U,b6];simp only[AJ,AB 6 19];simp;refine⟨_,_,d7 _,?_⟩;simp[AQ];simp only[AB 6 20];simp;refine⟨_,_,⟨rfl,rfl⟩,_,c2,?_⟩;simp;refine⟨_,_,⟨rfl,rfl⟩,_,c2,?_⟩;simp;refine⟨_,_,⟨rfl,rfl⟩,_,q9,?_⟩;simp;refine⟨_,_,⟨rfl,rfl⟩,_,d9,?_⟩;simp;simp only[AY,AB 6 21];simp;refine G _ _ _ _ _ _ _ _ _ _ _ _ ?_;intro e2 k2 k4 k5 k6 f1 h5 h7 h8 f3 f9 h9 i0 i4 g0 m6;have b4:=b2 (IntKind.u64.wrap (key+1));have g3:=d8 (IntKind.u64.wrap (key+1));generalize HY (IntKind.u64.wrap (key+1)) (h6 l by_) a=l9 at*;rw[Bf];refine Bc _ (λs hs=>⟨s,.inl rfl,hs⟩) ?_;simp only[AB 6 29];simp[f1,f3,f9,i4,g0,g7];refine⟨_,_,⟨rfl,rfl⟩,_,c1,?_⟩;simp
   repeat' apply And.intro
   all_goals
    first|refine⟨_,_,b4,?_⟩|refine⟨_,b4,?_⟩|refine⟨_,⟨_,b4⟩,?_⟩|exact⟨_,b4⟩|exact⟨_,_,b4⟩|refine⟨⟨_,b4⟩,?_⟩
    simp[g0,g7];refine⟨_,_,⟨rfl,rfl⟩,_,g2,?_⟩;simp;refine⟨_,_,⟨rfl,rfl⟩,_,g3,?_⟩;simp[k2,k4,k5,k6,f1,h5,h7,h8,f3,f9,h9,i0];rw[hK,a6];exact⟨.inl rfl,⟨rfl,rfl,rfl,rfl,rfl,rfl,rfl,rfl,rfl,rfl,rfl,rfl⟩,c4⟩
  have g1:∀e,KP e->AK e 26= .R H.length 0->AK e 27=(E:D)->AX bR.R K ⟨e,H++[.cells [.v x0,.v x1,.v x2,.v x3,.v x4,.v x5,.v x6,.v x7,.v x8,.v x9,.v a7,.v a8,.v b0]]⟩:=by
   intro e hP b6 g4;rw[a6]at hP;obtain⟨f2,f4,f5,f6,f15,f17,f19,f20,N,O,W,U⟩:=hP;rw[show bR.R= .seq (.seq (.reg (oG 6 16) _) (.cond _ (.exit 1) .skip)) pS from rfl];simp only[AH,AJ,AO,AB 6 16];simp[f2,f4,f5,f6,f15,f17,f19,f20,N,O,W,U,b6,g4];by_cases hE:E=0
   .simp[hE,AD];exact tail _ (by rw[a6];exact⟨rfl,rfl,rfl,rfl,rfl,rfl,rfl,rfl,rfl,rfl,rfl,rfl⟩) (h0 hE) rfl
   .simp[hE,AN];rw[hK,a6];exact⟨.inr rfl,⟨rfl,rfl,rfl,rfl,rfl,rfl,rfl,rfl,rfl,rfl,rfl,rfl⟩,c3⟩
  have fst:∀e,KP e->AX bR K ⟨e,H⟩:=by
   intro e hP;have m2:=hP;rw[a6]at hP;obtain⟨f2,f4,f5,f6,f15,f17,f19,f20,N,O,W,U⟩:=hP;have e3:=g6 [];rw[sk]at e3;rw[AX,show bR= .seq (.regA (oG 6 15) _ _ _) bR.R from rfl,AH,Bf];refine Bc _ (λs hs=>⟨s,.inl rfl,hs⟩) ?_;simp only[AB 6 15];simp[f2,f17,f20,U];refine⟨_,_,⟨rfl,rfl⟩,_,q4,?_⟩;simp[f19,h3,e3]
   constructor
   .refine⟨_,_,a1,?_⟩;simp[AQ];exact g1 _ (by rw[a6];exact⟨f2,f4,f5,f6,f15,f17,f19,f20,N,O,W,U⟩) rfl rfl
   .refine⟨_,_,a2,?_⟩;simp[AQ];exact g1 _ (by rw[a6];exact⟨f2,f4,f5,f6,f15,f17,f19,f20,N,O,W,U⟩) rfl rfl
  simp[g5,AD];refine Ap _ ?_ (fst _ (by rw[a6];exact⟨rfl,rfl,rfl,rfl,rfl,rfl,rfl,rfl,rfl,rfl,rfl,rfl⟩));rw[hK,a6];rintro e ⟨se,sh⟩ ⟨he,⟨f2,f4,f5,f6,f15,f17,f19,f20,N,O,W,U⟩,J',e4,hh⟩;simp only at f2 f4 f5 f6 f15 f17 f19 f20 N O W U hh;subst hh;rcases he with rfl|rfl
  .simp[AB 6 14,f2,f4,f5,f6,f15,f17,f19,f20,N,O,W,U,w1,h1];exact e4
  .simp[AB 6 14,f2,f4,f5,f6,f15,f17,f19,f20,N,O,W,U,w1,h1];exact e4
 .obtain rfl:k=3:=AE;simp[AN];exact hQ _ _
theorem nn(b4:PX 20 [] [(true:V)])(c3:∀n∈l2,i64 n):
  PX 6 [AM .i64 l,AM .i64 l2,kind,n,how,at_,by_] [(true:V)]:=by
 refine BS 6 ?_;have b2:=Cb n 60 Ah;have w1:IntKind.i64.wrap (36000+Af n 60)=36000+Af n 60:=AS AE AE;have q9:FX 9 [] [] [.R 0 0] [Dw HU OD]:=qR;have c4:=(jD l).fsp;have c6:=(px (Ae l) (λr hr=>(CS hr).ok Ah) (by have:=Gx l;omega)).fsp;have c5:=jc l;have a7:=(qp l2 c3).fsp;have a1:=(LZ n 9 Ah).fsp;have a2:=(LZ n 60 Ah).fsp;have a6:=(LZ by_ 1000 Ah).fsp;have c9:=(pr (Hh by_)).fsp;have c7:∀Z,FX 17 [.R 5 0] (G6 (Ae l)++Z) [.v (.int .u64 (F7 l))] (G6 (Ae l)++Z):=λZ=>qr (G6 (Ae l)++Z) 5 4 3 (.R 0 0) (.mr 1) (.mr 2) (RX (Ae l)) rfl rfl rfl;have N:=(pq (Hh by_) (cG (F7 l))).fsp;have b0:=po (h6 l by_) at_ by_;have b1:=po (h6 l by_) how by_;have a8:=pq (Hh by_) ((h6 l by_).bent (Af how 8) by_);have c8:=b4.fsp;have G:=λQ=>rA l l2 n kind how at_ by_ hn hk hh ha hb [] Lows.nil Q;have b6:FK n 0=Af n 9:=rfl;have b9:FK n 1=7:=rfl;have c0:FK n 2=36000+Af n 60:=rfl;rw[b6,b9,c0]at G;have c1:(cG (F7 l)).signed (Hh by_)=h6 l by_:=rfl;rw[c1]at N;have b3:(cG (F7 l)).V= .agg [((2:Int):V),((0:Int):V),((36000:Int):V),((5:Int):V),.int .u64 9,.int .u64 (F7 l),((0:Int):V),.int .u64 0]:=rfl;rw[b3]at N;have W:IntKind.u64.wrap (Af by_ 1000)=Hh by_:=rfl;have b5:∀h:Hd,h.V= .agg [(h.office:V),(h.tick:V),(h.day:V),(h.size:V),.int .u64 h.log,.int .u64 h.map,(h.sealed:V),.int .u64 h.sign]:=λh=>rfl;have c2:(Mc l how at_ by_).map Hd.V=[(h6 l by_).V,((h6 l by_).bent (Af at_ 8) by_).V,(((h6 l by_).bent (Af how 8) by_).signed (Hh by_)).V]:=rfl;have U:Ee l l2 by_=[.cells (B0 l2).cells,.cells [.v (.int .i64 (h6 l by_).office),.v (.int .i64 (h6 l by_).tick),.v (.int .i64 (h6 l by_).day),.v (.int .i64 (h6 l by_).size),.v (.int .u64 (h6 l by_).log),.v (.int .u64 (h6 l by_).map),.v (.int .i64 (h6 l by_).sealed),.v (.int .u64 (h6 l by_).sign)]]:=rfl;rw[c2,U]at G;have O:(G6 (Ae l)).length=6:=rfl;generalize ((h6 l by_).bent (Af how 8) by_).signed (Hh by_)=e3 at*;generalize (h6 l by_).bent (Af how 8) by_=e2 at*;generalize (h6 l by_).bent (Af at_ 8) by_=e1 at*;generalize h6 l by_=e0 at*;generalize Af n 9=n9 at*;generalize Af n 60=d2 at*;simp only[b5]at*;generalize Jp (Hh by_)=key at*;obtain⟨⟨tc,tv,tp⟩,hT⟩:∃t,B0 l2=t:=⟨_,rfl⟩;simp only[hT]at G a7;clear hT U;generalize (Ae l).map Rgt.V=RV at*;generalize G6 (Ae l)=H6 at*;generalize Dw HU OD=T0 at*;generalize F7 l=m at*;rw[As 6];simp only[AM,Ad,Th.V_eq,Th.cells,Th.cs,Th.vs,Th.ps,rq,sq]at*;generalize (.list (l.map (.int .i64)):V)=L1 at*;generalize (.list (l2.map (.int .i64)):V)=L2 at*;generalize (.list (tc.map (.int .i64)):V)=t0 at*;generalize ((tv.map Val.V:V):V)=t1 at*;generalize ((tp.map Th.V:V):V)=t2 at*;simp only[AH,AJ,AB 6 0];simp;simp only[AB 6 1];simp;refine⟨_,_,q9,?_⟩;simp only[AB 6 2];simp;refine⟨_,_,c4 _,?_⟩;simp only[AB 6 3];simp;refine⟨_,_,c6 _,?_⟩;simp;refine⟨_,_,c5,?_⟩;simp only[AH,AJ,AO,AB 6 4];simp[AD];simp only[AB 6 6];simp;refine⟨_,_,a7 _,?_⟩;simp[AQ];simp only[AB 6 7];simp;refine⟨_,_,a1 _,?_⟩;simp;refine⟨_,_,a2 _,?_⟩;simp[w1];simp only[AB 6 8];simp;refine⟨_,_,a6 _,?_⟩;simp[W];simp only[AB 6 9];simp;refine⟨_,_,c9 _,?_⟩;simp;simp only[AB 6 10];simp;refine⟨_,_,(c7 _),?_⟩;simp[AQ,D.vs?,D.v?];refine⟨_,_,N _,?_⟩;simp[O];simp only[Aa,AB 6 11];simp[O];refine⟨_,_,⟨rfl,rfl⟩,_,b0,?_⟩;simp;refine⟨_,_,⟨rfl,rfl⟩,_,b1,?_⟩;simp;refine⟨_,_,⟨rfl,rfl⟩,_,a8,?_⟩;simp;simp only[AY,AB 6 12];simp;simp at G;refine G _ ?_;intro e J;simp only[AB 6 31];simp;refine⟨_,_,c8 _,?_⟩;simp[AA,AW 6]
end
end
end Go.Va
