/- Laws, part 10. No condition. -/
import Derived.Test.YtopldfpkgbkomaaGreatDoorL09
set_option linter.all false
set_option maxRecDepth 100000
set_option maxHeartbeats 4000000
noncomputable section
namespace Go.Va
open Go.Proofs
section
def Ut(A y:List V)(Z:List D)(o:Nat)(h:o+y.length<=A.length):AQ (A.map D.v++Z) o (y.map D.v)=(A.take o++(y++A.drop (o+y.length))).map D.v++Z:=by unfold AQ;rw[tg Dd,List.drop_append_of_le_length Dd];simp[sQ,uB]
section
variable {cs:List Int} {vs:List Val} {ps:List Th} (h1:cs.length<=5000) (h2:vs.length<=5000) (h3:ps.length<=5000) (a h b:Int)
include h1 h2 h3
theorem Zj(G:ps≠[])(Q:AExit->St->Prop)(J:∀k,AX Hl Q ⟨UI a h b,[.cells (Th.mk cs vs ps).cells,z26,.cells [.W 3 1 (cs.map (.int .i64)),.W 171 3 (vs.map Val.V),.sr 3 ps.length],.cells ((ps.flatMap fT).map .v++List.replicate k .any)]⟩):
  AX (gA 26) Q ⟨AZ [.v (Th.mk cs vs ps).V,(a:D),(h:D),(b:D)],[]⟩:=
 Uy h1 h2 h3 a h b false true (λh=>by cases h) (λh=>by cases h) (λ_=>G) Q (λk=>by have:=J k;rw[<-Ss]at this;exact this)
theorem jX(a6:ps≠[])(ha:0 <Af a 3)(k:Nat)(hk:Af (IntKind.i64.wrap (a.tdiv 3)) ps.length=k)(p t:Th)(hp:ps[k]?=some p)(q:PX 26 [p.V,((IntKind.i64.wrap (a.tdiv 9):Int):V),h,b] [t.V]):
  AX (gA 26) (jL [AM .i64 cs,(vs.map Val.V:V),.list ((ps.set k t).map Th.V)])
  ⟨AZ [.v (Th.mk cs vs ps).V,(a:D),(h:D),(b:D)],[]⟩:=by
 obtain⟨P,hP⟩:∃P,jL [AM .i64 cs,(vs.map Val.V:V),.list ((ps.set k t).map Th.V)]=P:=⟨_,rfl⟩;rw[hP];refine Zj h1 h2 h3 a h b a6 _ ?_;intro kc;have a2:0 <ps.length:=List.length_pos_iff.2 a6;obtain⟨a1,_⟩:=rZ.1 hp;have q1:=(LZ a 3 Ah).fsp;have q2:=(LZ (IntKind.i64.wrap (a.tdiv 3)) ps.length AE).fsp;rw[hk]at q2;simp at q1 q2;have G:=Fj JD ps;have Z:=Mf JD ps k p hp;have J:=Kj JD ps k t a1;have N:=Fj JD (ps.set k t);rw[so]at N;obtain⟨R,O⟩:∃R,(ps.flatMap fT).map D.v++List.replicate kc .any=R:=⟨_,rfl⟩;have b2:ps.length*3<=R.length:=by rw[<-O];simp[G]
 have U:(R.drop (k*3)).take 3=(fT p).map D.v:=by rw[<-O,List.drop_append_of_le_length (by simp[G];omega),tg (by simp[G];omega),<-uB,<-sQ,Z]
 have a7:(AQ R (k*3) ((fT t).map D.v)).take (ps.length*3)=((ps.set k t).flatMap fT).map D.v:=by rw[<-O,Ut _ _ _ _ (by rw[JD];omega),JD,J,List.take_left' (by simp[N])]
 have b0:(AQ R (k*3) ((fT t).map D.v)).length=R.length:=by simp[AQ,JD];omega
 rw[O];clear O Z J G N;generalize W:AQ R (k*3) ((fT t).map D.v)=R' at*;obtain⟨tc,tv,tp⟩:=t;obtain⟨pc,pv,pp⟩:=p;simp only[fT,Th.cs,Th.vs,Th.ps,rq,sq]at U W;rw[Th.V_eq,Th.V_eq]at q;rw[show Hl= .seq (.seq (.reg (oG 26 5) _) (.cond (.t 42 false) (.seq (.reg (oG 26 6) _) (.seq (.regD (oG 26 7) _ _) (.seq (.reg (oG 26 8) _) .ret))) .skip)) Hk from rfl];generalize Hk=C at*;simp only[AH,AJ,AO,AB 26 5,UI,z26];simp[a2];refine⟨_,_,q1 _,?_⟩;simp[ha];simp only[AB 26 6];simp;refine⟨_,_,q2 _,?_⟩;simp;simp only[Aa,AB 26 7];have a8:k*3+3<=R.length:=AE;simp[a1,U,a8];refine⟨_,_,⟨rfl,rfl⟩,_,q,?_⟩;have b1:k*3+3<=R'.length:=AE;simp[W];simp only[AB 26 8];simp[Th.cells];simp[AQ,AA];rw[<-hP];refine⟨trivial,[.v (.list (cs.map (.int .i64))),(vs.map Val.V:D),.sr 3 ps.length],R',2,3,ps.length,3,(ps.set k (Th.mk tc tv tp)).map Th.V,?_,rfl,rfl,Ac,?_,?_,?_⟩
 .simp[AW 26,D.one?]
 .intro x hx;obtain⟨⟨c,v,y⟩,_,rfl⟩:=rl.1 hx;rw[Th.V_eq];rfl
 .rw[a7,Ss];exact Le _
 .simp[AM]
theorem qQ(G:ps≠[])(J:0 <Af a 3)(k:Nat)(N:Af (IntKind.i64.wrap (a.tdiv 3)) ps.length=k)(p t:Th)(O:ps[k]?=some p)(q:PX 26 [p.V,((IntKind.i64.wrap (a.tdiv 9):Int):V),h,b] [t.V]):
  PX 26 [(Th.mk cs vs ps).V,a,h,b] [(Th.mk cs vs (ps.set k t)).V]:=by
 rw[Th.V_eq cs vs (ps.set k t)];have f:FX 26 [.v (Th.mk cs vs ps).V,a,h,b] [] [.v (.agg [AM .i64 cs,(vs.map Val.V:V),.list ((ps.set k t).map Th.V)])] []:=Lo (D6 26) rfl (jX h1 h2 h3 a h b G J k N p t O q);exact Dh (args:=[_,_,_,_]) (rets:=[_]) f
end
variable {n:Nat}
theorem qo(hn:n<=5000){t:Th}(J:t.wb n):∀a h b:Int,i64 a->i64 h->i64 b->T26 n t a h b:=by
 induction J with
 | @mk cs vs ps h0c k1 k2 k3 h4 h5 ih=>
  intro a h b ha O N;have J:(Th.mk cs vs ps).wb n:= .mk h0c k1 k2 k3 h4 h5;have h1:cs.length<=5000:=AE;have h2:vs.length<=5000:=AE;have h3:ps.length<=5000:=AE;by_cases G:ps=[]
  .exact t26 h1 h2 h3 a h b J (.inl G) O N
  by_cases h0:0 <Af a 3
  .have a1:0 <ps.length:=List.length_pos_iff.2 G;have g1:=C7 (IntKind.i64.wrap (a.tdiv 3)) ps.length (Ex _);have g2:=(Cb (IntKind.i64.wrap (a.tdiv 3)) ps.length AE).2;obtain⟨k,hk⟩:∃k:Nat,Af (IntKind.i64.wrap (a.tdiv 3)) ps.length=k:=⟨(Af (IntKind.i64.wrap (a.tdiv 3)) ps.length).toNat,AE⟩;obtain⟨p,U⟩:∃p,ps[k]?=some p:=⟨_,rW AE⟩;obtain⟨W,Z,a2,q⟩:=ih p (rY U) (IntKind.i64.wrap (a.tdiv 9)) h b (Ex _) O N;have hs:=Na ps k p W U;refine T26.of J (cs2:=cs) (vs2:=vs) (ps2:=ps.set k W) h0c AE AE Dd h4 (λx hx=>?_) AE (qQ h1 h2 h3 a h b G h0 k hk p W U q);rcases sn hx with hx|rfl
   .exact(h5 x hx).mono AE
   .exact Z
  .exact t26 h1 h2 h3 a h b J (.inr h0) O N
end
open Go.Proofs
open Go.Proofs
open Go.Proofs
open Go.Proofs
section
structure Ext.nic (n s m n0:Nat) (x:Ext):Prop where
 k:i64 x.kind
 f:i64 x.file
 p:i64 x.party
 d:i64 x.day
 t:x.t.wb n
 ts:x.t.size<=s
 rs:∀r∈x.rs,r.tiny m
 lr:x.rs.length<=4
 cl:∀c∈x.cl,i64 c.1/\i64 c.2
 lc:x.cl.length<=n0
 fs:∀n∈x.fs,i64 n
 lf:x.fs.length<=n0
 L:∀n∈x.L,u64 n
 R:∀n∈x.R,u64 n
 S:∀n∈x.S,0<=n/\n <256
 lL:x.L.length<=n0
 lR:x.R.length<=n0
 lS:x.S.length<=n0
abbrev Ext.nice(m n0:Nat)(x:Ext):Prop:=x.nic 2100 300 m n0
def PO:AC:=la 36
def Fy:AC:=PO.R.R.R.R.R.R.R
def HI:AC:=Fy.L.R.L
def bY:(gA 36)= .seq (.reg (oG 36 0) [1,2,3,4,8]) (.seq (.reg (oG 36 1) [1,2,3,4,8]) (.seq (.reg (oG 36 2) [1,2,3,4,8]) (.seq (.reg (oG 36 3) [1,2,3,4,8]) (.seq (.reg (oG 36 4) [1,2,3,4,8]) (.seq (.reg (oG 36 5) [1,2,3,4,8]) (.seq (.reg (oG 36 6) [1,2,3,4,8]) Fy)))))):=(As 36 :)
theorem Xs:Fy= .seq (.seq (.reg (oG 36 7) [1,2,3,4,8,48]) (.block 0 HI)) (.seq (.reg (oG 36 39) [8]) .ret):=rfl
def z36:Row:= .cells [.v (.int .i64 0),.v (.int .i64 0),.v (.int .i64 0),.v (.int .i64 0),.W 3 1 [],.W 171 3 [],.W 58 3 [],.W 32 8 [],.W 186 2 [],.W 3 1 [],.W 47 1 [],.W 47 1 [],.W 5 1 []]
def EF(b:Bool)(e s:Nat)(l:List V):D:=if b then .W e s l else .v (.list l)
def Df(x:Ext)(RD CD FD LD QD SD:D):Row:= .cells [.v (.int .i64 x.kind),.v (.int .i64 x.file),.v (.int .i64 x.party),.v (.int .i64 x.day),.v (AM .i64 x.t.cs),.v (.list (x.t.vs.map Val.V)),.v (.list (x.t.ps.map Th.V)),RD,CD,FD,LD,QD,SD]
def Ng(x:Ext):D:= .W 32 8 (x.rs.map Rgt.V)
def NJ(x:Ext):D:= .W 186 2 (x.cl.map BY)
def NH(x:Ext):D:= .W 3 1 (x.fs.map (.int .i64))
def MV(x:Ext):D:= .W 47 1 (x.L.map (.int .u64))
def MD(x:Ext):D:= .W 47 1 (x.R.map (.int .u64))
def M0(x:Ext):D:= .W 5 1 (x.S.map (.int .u8))
def iB(how at_ by_:Int):CC:=[(1,.v (.int .i64 how)),(2,.v (.int .i64 at_)),(3,.v (.int .i64 by_)),(4,.R 0 0),(8,.R 1 0)]
def VZ(l:List Rgt):BZ 8 (l.map Rgt.V)=true:=by cases l<;>rfl
def Vb(l:List (Int×Int)):BZ 2 (l.map BY)=true:=by cases l<;>rfl
def Md(k:IntKind)(l:List Int):BZ 1 (l.map (V.int k))=true:=by cases l<;>rfl
def Pt(l:List Rgt):(l.map Rgt.V).flatMap V.cells=l.flatMap Rgt.cs:=by rw[un];rfl
theorem VR(k:IntKind)(l:List Int):(l.map (V.int k)).flatMap V.cells=l.map (V.int k):=by
 induction l with
 |nil=>rfl
 |cons x l ih=>rw[rq,r7,ih];rfl
variable {m:Nat}
def Rgt.tiny.up{r:Rgt}(h:r.tiny m):r.tiny (m+1):=
 ⟨h.file,h.state,h.force,h.claims,h.dates,h.bad,h.owners,h.lics,Nat.le_succ_of_le h.lc,Nat.le_succ_of_le h.ld,Nat.le_succ_of_le h.lb,Nat.le_succ_of_le h.lo,Nat.le_succ_of_le h.ll⟩
def Ext.nic.up{n s m k:Nat}{x:Ext}(h:x.nic n s m k):x.nic (2*n+100) (s+200) (m+1) (k+1):=
 {h with t:=h.t.mono AE,ts:=by have:=h.ts;omega,rs:=λr G=>(h.rs r G).up,lc:=Nat.le_succ_of_le h.lc,lf:=Nat.le_succ_of_le h.lf,lL:=Nat.le_succ_of_le h.lL,lR:=Nat.le_succ_of_le h.lR,lS:=Nat.le_succ_of_le h.lS}
section
variable (x:Ext) (how at_ by_:Int) {n s m n0:Nat} (hx:x.nic n s m n0) (hn0:n0<=2097152)
include hx hn0
theorem Ux(G bs:Bool)(hb:G=true->bs=false)(hr:G=true->x.rs≠[])(hs:bs=true->x.S≠[])(Q:AExit->St->Prop)(J:∀k,AX Fy Q ⟨iB how at_ by_,[Df x (if G then .sr 2 x.rs.length else Ng x) (NJ x) (NH x) (MV x) (MD x) (if bs then .sr 2 x.S.length else M0 x),z36]++
   (if G then [.cells ((x.rs.flatMap Rgt.cs).map .v++List.replicate k .any)] else [])++(if bs then [.cells ((x.S.map (V.int .u8)).map .v++List.replicate k .any)] else [])⟩):
  AX (gA 36) Q ⟨AZ [.v x.V,(how:D),(at_:D),(by_:D)],[]⟩:=by
 have l1:=hx.lr;have l2:=hx.lc;have l3:=hx.lf;have l4:=hx.lL;have l5:=hx.lR;have l6:=hx.lS;have r1:AV x.rs.length 144=true:=by simp[AV];omega
 have r2:AV x.cl.length 16=true:=by simp[AV];omega
 have r3:AV x.fs.length 8=true:=by simp[AV];omega
 have r4:AV x.S.length 1=true:=by simp[AV];omega
 have r5:AV x.L.length 8=true:=by simp[AV];omega
 have r6:AV x.R.length 8=true:=by simp[AV];omega
 have g1:=VZ x.rs;have g2:=Vb x.cl;have g3:=Md .i64 x.fs;have N:=Md .u8 x.S;have O:=Md .u64 x.L;have U:=Md .u64 x.R;have f1:=Pt x.rs;have f2:=VR .u8 x.S;simp only[<-f1]at J;rw[<-f2]at J;clear f1 f2;obtain⟨a1,file,party,day,⟨tc,tv,tp⟩,rs,cl,fs,L,R,S⟩:=x;simp only[Df,Ng,NJ,NH,MV,MD,M0,z36,iB,Ext.V,Ext.cs,Th.cs,Th.vs,Th.ps,AM]at*;rw[bY];generalize Fy=C at*;simp only[AH,AJ,AB 36 0,AZ];simp;simp only[AB 36 1];cases G with
 |false=>
  simp[r1,g1,AQ]
  left
  simp only[AB 36 2];simp[r2,g2];simp only[AB 36 3];simp[r3,g3];simp only[AB 36 4];cases bs with
  |false=>
   simp[r4,N,AQ]
   left
   simp only[AB 36 5];simp[r5,O];simp only[AB 36 6];simp[r6,U];simpa using J 0
  |true=>
   have Z:S≠[]:=hs rfl;simp[r4,N,AQ,Z]
   right
   intro k;simp only[AB 36 5];simp[r5,O];simp only[AB 36 6];simp[r6,U];simpa using J k
 |true=>
  have Z:rs≠[]:=hr rfl;have W:=hb rfl;subst W;simp[r1,g1,AQ,Z]
  right
  intro k;simp only[AB 36 2];simp[r2,g2];simp only[AB 36 3];simp[r3,g3];simp only[AB 36 4];simp[r4,N,AQ]
  left
  simp only[AB 36 5];simp[r5,O];simp only[AB 36 6];simp[r6,U];simpa using J k
theorem qG{y:Ext}(G N O:Bool)(hw:AX HI (λe s=>(e= .normal\/e= .exit 0)/\AK s.e 4= .R 0 0/\AK s.e 8= .R 1 0/\∃J,s.h=Df y (EF G 32 8 (y.rs.map Rgt.V)) (EF N 186 2 (y.cl.map BY)) (EF O 3 1 (y.fs.map (.int .i64))) (MV y) (MD y) (M0 y)::z36::J)
   ⟨[(1,(how:D)),(2,(at_:D)),(3,(by_:D)),(4,.R 0 0),(8,.R 1 0),(48,((Af how 12:Int):D))],[Df x (Ng x) (NJ x) (NH x) (MV x) (MD x) (M0 x),z36]⟩):
  PX 36 [x.V,how,at_,by_] [y.V]:=by
 refine BS 36 ?_;refine Ux x how at_ by_ hx hn0 false false (λh=>by cases h) (λh=>by cases h) (λh=>by cases h) _ ?_;intro _;have q2:=(LZ how 12 Ah).fsp;simp at q2;rw[Xs];generalize HI=W at*;simp only[AH,AJ,AY,AB 36 7,iB];simp;refine⟨_,_,q2 _,?_⟩;refine Ap _ ?_ (by simpa using hw);rintro e ⟨se,sh⟩ ⟨he,U,Z,J,hh⟩;simp only at U Z hh;subst hh;obtain⟨a1,file,party,day,⟨tc,tv,tp⟩,rs,cl,fs,L,R,S⟩:=y;rcases he with rfl|rfl<;>cases G<;>cases N<;>cases O<;>simp[AB 36 39,z36,Df,EF,MV,MD,M0,U,Z,AQ,AA,AW 36,Cf,D.vs?,D.v?,Ext.V,Ext.cs,Th.cs,Th.vs,Th.ps,AM]
theorem jw(hn:n<=5000)(hh:i64 how)(ha:i64 at_)(W:i64 by_)(a6:¬(Af how 12=5/\x.rs≠[]))(a7:¬(Af how 12=10/\x.S≠[])):
  ∃y:Ext,(y.nic (2*n+100) (s+200) (m+1) (n0+1)/\(y.rs=x.rs\/y.rs=x.rs.drop 1))/\PX 36 [x.V,how,at_,by_] [y.V]:=by
 have up:=hx.up;have b0:=C7 how 12 hh;have b4:=(Cb how 12 Ah).2;have w:=fun {y:Ext} b1 b2 b3=>qG x how at_ by_ hx hn0 (y:=y) b1 b2 b3;obtain⟨v,hv⟩:∃v,Af how 12=v:=⟨_,rfl⟩;rw[hv]at w b0 b4 a6 a7;have l2:=hx.lc;have l3:=hx.lf;have l5:=hx.lR;have r2:AV (x.cl.length+1) 16=true:=by simp[AV];omega
 have r3:AV (x.fs.length+1) 8=true:=by simp[AV];omega
 have r6:AV (x.R.length+1) 8=true:=by simp[AV];omega
 have u1:List.take x.rs.length (x.rs.map Rgt.V)=x.rs.map Rgt.V:=sN Ac;have u2:List.take x.cl.length (x.cl.map BY)=x.cl.map BY:=sN Ac;have u3:List.take x.fs.length (x.fs.map (V.int .i64))=x.fs.map (V.int .i64):=sN Ac;have g1:=VZ x.rs;have g2:=Vb x.cl;have g3:=Md .i64 x.fs;have Z:v=0\/v=1\/v=2\/v=3\/v=4\/v=5\/v=6\/v=7\/v=8\/v=9\/v=10\/v=11:=AE;rcases Z with rfl|rfl|rfl|rfl|rfl|rfl|rfl|rfl|rfl|rfl|rfl|rfl
 .refine⟨{x with kind:=by_},⟨{up with k:=W},.inl rfl⟩,w true true true ?_⟩;simp only[HI,Fy,PO,la,AC.L,AC.R,AH,AJ,AO,AB 36 9,AB 36 10];simp[Df,Ng,NJ,NH,MV,MD,M0,EF,AQ]
 .refine⟨{x with file:=by_},⟨{up with f:=W},.inl rfl⟩,w true true true ?_⟩;simp only[HI,Fy,PO,la,AC.L,AC.R,AH,AJ,AO,AB 36 9,AB 36 11,AB 36 12];simp[Df,Ng,NJ,NH,MV,MD,M0,EF,AQ]
 .refine⟨{x with party:=by_},⟨{up with p:=W},.inl rfl⟩,w true true true ?_⟩;simp only[HI,Fy,PO,la,AC.L,AC.R,AH,AJ,AO,AB 36 9,AB 36 11,AB 36 13,AB 36 14];simp[Df,Ng,NJ,NH,MV,MD,M0,EF,AQ]
 .refine⟨{x with day:=by_},⟨{up with d:=W},.inl rfl⟩,w true true true ?_⟩;simp only[HI,Fy,PO,la,AC.L,AC.R,AH,AJ,AO,AB 36 9,AB 36 11,AB 36 13,AB 36 15,AB 36 16];simp[Df,Ng,NJ,NH,MV,MD,M0,EF,AQ]
 .obtain⟨t2,b5,b6,q⟩:=qo hn hx.t at_ (IntKind.i64.wrap (how.tdiv 12)) by_ ha (Ex _) W;refine⟨{x with t:=t2},⟨{up with t:=b5,ts:=by have:=hx.ts;simp only;omega},.inl rfl⟩,w true true true ?_⟩
  replace q:=q.fsp
  obtain⟨a8,file,party,day,⟨tc,tv,tp⟩,rs,cl,fs,L,R,S⟩:=x;obtain⟨uc,uv,up⟩:=t2;simp only[Th.V_eq]at q;simp at q;simp only[HI,Fy,PO,la,AC.L,AC.R,AH,AJ,AO,AB 36 9,AB 36 11,AB 36 13,AB 36 15,AB 36 17,AB 36 18];simp[Df,Ng,NJ,NH,MV,MD,M0,EF,AQ,Th.cs,Th.vs,Th.ps,D.vs?,D.v?];refine⟨_,_,q _,?_⟩;simp
 .have N:x.rs=[]:=by
   by_cases h:x.rs=[]
   .exact h
   .exact absurd ⟨rfl,h⟩ a6
  refine⟨x,⟨up,.inl rfl⟩,w true true true ?_⟩;simp only[HI,Fy,PO,la,AC.L,AC.R,AH,AJ,AO,AB 36 9,AB 36 11,AB 36 13,AB 36 15,AB 36 17,AB 36 19,AB 36 20];simp[Df,Ng,NJ,NH,MV,MD,M0,EF,N,AD]
 .by_cases N:x.rs=[]
  .refine⟨x,⟨up,.inl rfl⟩,w true true true ?_⟩;simp only[HI,Fy,PO,la,AC.L,AC.R,AH,AJ,AO,AB 36 9,AB 36 11,AB 36 13,AB 36 15,AB 36 17,AB 36 19,AB 36 23,AB 36 24];simp[Df,Ng,NJ,NH,MV,MD,M0,EF,N,AD]
  .have U:0 <x.rs.length:=List.length_pos_iff.2 N;have a2:1<=x.rs.length:=U;refine⟨{x with rs:=x.rs.drop 1},⟨{up with rs:=λr hr=>up.rs r (tH hr),lr:=by have:=up.lr;simp only[List.length_drop];omega},.inr rfl⟩,w false true true ?_⟩;simp only[HI,Fy,PO,la,AC.L,AC.R,AH,AJ,AO,AB 36 9,AB 36 11,AB 36 13,AB 36 15,AB 36 17,AB 36 19,AB 36 23,AB 36 24];simp[Df,Ng,NJ,NH,MV,MD,M0,EF,U];simp only[AB 36 25];simp[AQ,a2,u1,g1]
 .refine⟨{x with cl:=x.cl++[(at_,by_)]},⟨{up with cl:=λc hc=>?_,lc:=by simp;omega},.inl rfl⟩,w true true true ?_⟩
  .rcases rp.1 hc with hc|hc
   .exact up.cl c hc
   .rw[rm.1 hc];exact⟨ha,W⟩
  .simp only[HI,Fy,PO,la,AC.L,AC.R,AH,AJ,AO,AB 36 9,AB 36 11,AB 36 13,AB 36 15,AB 36 17,AB 36 19,AB 36 23,AB 36 26,AB 36 27];simp[Df,Ng,NJ,NH,MV,MD,M0,EF,AQ,r2,BY]
 .refine⟨{x with fs:=x.fs++[by_]},⟨{up with fs:=λc hc=>?_,lf:=by simp;omega},.inl rfl⟩,w true true true ?_⟩
  .rcases rp.1 hc with hc|hc
   .exact up.fs c hc
   .rw[rm.1 hc];exact W
  .simp only[HI,Fy,PO,la,AC.L,AC.R,AH,AJ,AO,AB 36 9,AB 36 11,AB 36 13,AB 36 15,AB 36 17,AB 36 19,AB 36 23,AB 36 26,AB 36 28,AB 36 29];simp[Df,Ng,NJ,NH,MV,MD,M0,EF,AQ,r3]
 .have nc:∀l:List (Int×Int),(∀c∈l,c∈x.cl)->l.length<=x.cl.length->∀f:List Int,(∀c∈f,c∈x.fs)->f.length<=x.fs.length->({x with cl:=l,fs:=f}:Ext).nic (2*n+100) (s+200) (m+1) (n0+1):=λl h1 h2 f h3 h4=>
   {up with cl:=λc hc=>up.cl c (h1 c hc),lc:=by simp only;omega,fs:=λc hc=>up.fs c (h3 c hc),lf:=by simp only;omega}
  by_cases hc:x.cl=[]
  .by_cases hf:x.fs=[]
   .refine⟨x,⟨up,.inl rfl⟩,w true true true ?_⟩;simp only[HI,Fy,PO,la,AC.L,AC.R,AH,AJ,AO,AB 36 9,AB 36 11,AB 36 13,AB 36 15,AB 36 17,AB 36 19,AB 36 23,AB 36 26,AB 36 28,AB 36 30,AB 36 31];simp[Df,Ng,NJ,NH,MV,MD,M0,EF,hc,hf,AD];simp only[AB 36 33];simp
   .have G:0 <x.fs.length:=List.length_pos_iff.2 hf;have J:1<=x.fs.length:=G;refine⟨{x with cl:=x.cl,fs:=x.fs.drop 1},⟨nc _ (λ_ h=>h) (ri _) _ (λ_ h=>tH h) Ac,.inl rfl⟩,w true true false ?_⟩;simp only[HI,Fy,PO,la,AC.L,AC.R,AH,AJ,AO,AB 36 9,AB 36 11,AB 36 13,AB 36 15,AB 36 17,AB 36 19,AB 36 23,AB 36 26,AB 36 28,AB 36 30,AB 36 31];simp[Df,Ng,NJ,NH,MV,MD,M0,EF,hc,AD];simp only[AB 36 33];simp[G];simp only[AB 36 34];simp[AQ,J,u3,g3]
  .have a1:0 <x.cl.length:=List.length_pos_iff.2 hc;have O:1<=x.cl.length:=a1;by_cases hf:x.fs=[]
   .refine⟨{x with cl:=x.cl.drop 1,fs:=x.fs},⟨nc _ (λ_ h=>tH h) Ac _ (λ_ h=>h) (ri _),.inl rfl⟩,w true false true ?_⟩;simp only[HI,Fy,PO,la,AC.L,AC.R,AH,AJ,AO,AB 36 9,AB 36 11,AB 36 13,AB 36 15,AB 36 17,AB 36 19,AB 36 23,AB 36 26,AB 36 28,AB 36 30,AB 36 31];simp[Df,Ng,NJ,NH,MV,MD,M0,EF,a1,hf];simp only[AB 36 32];simp[AQ,O,u2,g2];simp only[AB 36 33];simp[AD]
   .have G:0 <x.fs.length:=List.length_pos_iff.2 hf;have J:1<=x.fs.length:=G;refine⟨{x with cl:=x.cl.drop 1,fs:=x.fs.drop 1},⟨nc _ (λ_ h=>tH h) Ac _ (λ_ h=>tH h) Ac,.inl rfl⟩,w true false false ?_⟩;simp only[HI,Fy,PO,la,AC.L,AC.R,AH,AJ,AO,AB 36 9,AB 36 11,AB 36 13,AB 36 15,AB 36 17,AB 36 19,AB 36 23,AB 36 26,AB 36 28,AB 36 30,AB 36 31];simp[Df,Ng,NJ,NH,MV,MD,M0,EF,a1];simp only[AB 36 32];simp[AQ,O,u2,g2];simp only[AB 36 33];simp[G];simp only[AB 36 34];simp[AQ,J,u3,g3]
 .have hS:x.S=[]:=by
   by_cases h:x.S=[]
   .exact h
   .exact absurd ⟨rfl,h⟩ a7
  refine⟨x,⟨up,.inl rfl⟩,w true true true ?_⟩;simp only[HI,Fy,PO,la,AC.L,AC.R,AH,AJ,AO,AB 36 9,AB 36 11,AB 36 13,AB 36 15,AB 36 17,AB 36 19,AB 36 23,AB 36 26,AB 36 28,AB 36 30,AB 36 35,AB 36 36];simp[Df,Ng,NJ,NH,MV,MD,M0,EF,hS,AD]
 .refine⟨{x with R:=x.R++[IntKind.u64.wrap by_]},⟨{up with R:=λc hc=>?_,lR:=by simp;omega},.inl rfl⟩,w true true true ?_⟩
  .rcases rp.1 hc with hc|hc
   .exact up.R c hc
   .rw[rm.1 hc];exact EI _
  .simp only[HI,Fy,PO,la,AC.L,AC.R,AH,AJ,AO,AB 36 9,AB 36 11,AB 36 13,AB 36 15,AB 36 17,AB 36 19,AB 36 23,AB 36 26,AB 36 28,AB 36 30,AB 36 35,AB 36 8];simp[Df,Ng,NJ,NH,MV,MD,M0,EF,AQ,r6]
end
end
open Go.Proofs
def ql(x:Ext)(h1:x.rs.length<=2^30)(h2:x.cl.length<=2^30)(hr:∀r∈x.rs,r.ok):PX 37 [x.V] [x.V]:=by
 refine BS 37 ?_;have q0:=px x.rs hr h1;obtain⟨Z,file,party,day,⟨cs,vs,ps⟩,rs,cl,fs,L,R,S⟩:=x;simp only[Ext.V,Ext.cs,Th.cs,Th.vs,Th.ps,AM]at*;simp only[As 37,AH,AJ,AY,AB 37 0,Ad];simp;simp only[Aa,AB 37 1];simp;refine⟨_,_,⟨rfl,rfl⟩,_,q0,?_⟩;simp[AQ];simp only[AB 37 2];simp;have hs:∀(R0 R1:Row)(d0 d1 d2 d3 d4 d5 d6 d7 d9 G J N:D)(Q:AExit->St->Prop),R0= .cells [Z,file,party,day,.v (AM .i64 cs),(vs.map Val.V:D),(ps.map Th.V:D),(rs.map Rgt.V:D),(cl.map BY:D),.v (AM .i64 fs),.v (AM .u64 L),.v (AM .u64 R),.v (AM .u8 S)]->
   (∀e,AK e 2= .R 1 0->AK e 3= .R 2 0->Q (.exit 0) ⟨e,[R0,R1,.cells [d0,d1,d2,d3,d4,d5,d6,d7,.W 76 2 (cl.map BY),d9,G,J,N]]⟩)->
   AX (.loop (lG 37 0)) Q ⟨[(1,.R 0 0),(2,.R 1 0),(3,.R 2 0),(4,((0:Int):D))],[R0,R1,.cells [d0,d1,d2,d3,d4,d5,d6,d7,.W 76 2 [],d9,G,J,N]]⟩:=by
  rintro R0 R1 d0 d1 d2 d3 d4 d5 d6 d7 d9 G J N Q rfl hQ;refine Ab cl.length (λk=>⟨[(1,.R 0 0),(2,.R 1 0),(3,.R 2 0),(4,(k:D))],[_,R1,.cells [d0,d1,d2,d3,d4,d5,d6,d7,.W 76 2 ((cl.take k).map BY),d9,G,J,N]]⟩) (by simp;rfl) ?_;intro k hk;simp only[Zw,BG 37 0,AB 37 3];simp;by_cases U:k <cl.length
  .obtain⟨r,W⟩:∃r,cl[k]?=some r:=⟨_,rW U⟩;have hw:=Bt k;have O:AV (k+1) 16=true:=by simp[AV];omega
   have hm:min k cl.length=k:=AE;have e:=C5 W BY;rw[CF,AD];simp only[Aa,AB 37 5];simp[W,BY,AM,AQ,hm,O];simp[AB 37 4,hw,U,e,BY]
  .have:k=cl.length:=AE;subst this;rw[Bj,AN];have ht:List.take cl.length (cl.map BY)=cl.map BY:=sN Ac;simp[ht];exact hQ [(1,.R 0 0),(2,.R 1 0),(3,.R 2 0),(4,(cl.length:D)),(35,(false:D))] rfl rfl
 refine hs _ _ _ _ _ _ _ _ _ _ _ _ _ _ _ rfl ?_;intro e f2 f3;simp only[AB 37 6];simp[f2,f3,AQ,AA,AW 37,D.vs?,D.v?]
theorem cZ{t:Th}(h:IZ t=0):t.depth<=8/\t.size<=96/\t.formed=true:=by
 unfold IZ at h;split at h
 .rename_i G;rw[Oo,decide_eq_true_eq]at G;split at h
  .rename_i J;exact⟨G.1,G.2,J⟩
  .cases h
 .cases h
end Go.Va
