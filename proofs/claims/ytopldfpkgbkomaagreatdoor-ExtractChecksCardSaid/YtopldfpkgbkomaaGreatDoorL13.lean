/- Laws, part 13. No condition. -/
import Derived.Test.YtopldfpkgbkomaaGreatDoorL10
set_option linter.all false
set_option maxRecDepth 100000
set_option maxHeartbeats 4000000
noncomputable section
namespace Go.Va
open Go.Proofs
section
theorem cK(r:Rgt):r.cs.length=8:=rfl
variable {i:Nat}
def UB{L:List Rgt}{x:Rgt}(k:Nat)(hx:L[i]?=some x):List.take 8 (List.drop (i*8) (List.map D.copy ((L.flatMap Rgt.cs).map .v++List.replicate k .any)))=x.cs.map D.v:=by
 have hi:i <L.length:=(rZ.1 hx).1;have G:=Fj cK L;have hc:List.map D.copy ((L.flatMap Rgt.cs).map D.v)=(L.flatMap Rgt.cs).map D.v:=by simp[ud,D.copy]
 rw[r9,hc,List.drop_append_of_le_length (by rw[sD,G];omega),tg (by rw[List.length_drop,sD,G];omega),<-uB,<-sQ,Mf cK L i x hx]
def Ru{L:List Rgt}(k:Nat)(S:Rgt)(hi:i <L.length):
  AQ ((L.flatMap Rgt.cs).map D.v++List.replicate k .any) (i*8) (S.cs.map D.v)=((L.set i S).flatMap Rgt.cs).map .v++List.replicate k .any:=by
 have J:=Fj cK L;have G:(S.cs.map D.v).length=8:=rfl;unfold AQ;rw[G,tg (by rw[sD,J];omega),List.drop_append_of_le_length (by rw[sD,J];omega),<-sQ,<-uB,<-Kj cK L i S hi];simp
def OP:∀l:List V,D.vs? (l.map D.v)=some l
 |[]=>rfl
 |x::l=>by have G:=OP l;simp[D.vs?,D.v?,G]
section
variable (x:Ext) (how at_ by_:Int) {n s m n0:Nat} (hx:x.nic n s m n0) (hn0:n0<=2097152)
include hx hn0
def jK(ys:List V):AExit->St->Prop:=λe s=>(match e with| .exit _=>False|_=>True)/\∃(ds cs:List D)(i r m sz:Nat)(xs:List V),Dg s (gR 36)=some [.agg ds]/\ds[i]?=some (.sr r m)/\s.h[r]?=some (.cells cs)/\xs.length=m/\(∀x∈xs,x.cells.length=sz)/\
   D.vs? (cs.take (m*sz))=some (xs.flatMap V.cells)/\ds.set i (.v (.list xs))=ys.map .v
theorem jV(hm:m<=2^20)(N:x.rs≠[])(h5:Af how 12=5)(i:Nat)(hi:Af at_ x.rs.length=i)(r:Rgt)(hr:x.rs[i]?=some r):
  AX (gA 36) (jK ({x with rs:=x.rs.set i (Ds r (IntKind.i64.wrap (how.tdiv 12)) by_)}:Ext).cs) ⟨AZ [.v x.V,.v (.int .i64 how),.v (.int .i64 at_),.v (.int .i64 by_)],[]⟩:=by
 obtain⟨P,hP⟩:∃P,jK ({x with rs:=x.rs.set i (Ds r (IntKind.i64.wrap (how.tdiv 12)) by_)}:Ext).cs=P:=⟨_,rfl⟩;rw[hP];refine Ux x how at_ by_ hx hn0 true false (λ_=>rfl) (λ_=>N) (λh=>by cases h) _ ?_;intro k;have J:0 <x.rs.length:=List.length_pos_iff.2 N;obtain⟨G,hg⟩:=rZ.1 hr;have q2:=(LZ how 12 Ah).fsp;rw[h5]at q2;have q3:=(LZ at_ x.rs.length AE).fsp;rw[hi]at q3;have q4:=(qu r (hx.rs r (rY hr)) hm (IntKind.i64.wrap (how.tdiv 12)) by_);generalize Ds r (IntKind.i64.wrap (how.tdiv 12)) by_=S at*;have hld:=UB k hr;have O:=Ru k S G;have hl:=Fj cK x.rs;have W:i*8+8<=((x.rs.flatMap Rgt.cs).map D.v++List.replicate k D.any).length:=by rw[re,sD,hl];omega
 obtain⟨Z,hZ⟩:∃Z,((x.rs.set i S).flatMap Rgt.cs).map D.v++List.replicate k D.any=Z:=⟨_,rfl⟩;rw[hZ]at O;generalize (x.rs.flatMap Rgt.cs).map D.v++List.replicate k D.any=ds at*;have hV:∀r:Rgt,r.V= .agg r.cs:=λ_=>rfl;have a2:∀r:Rgt,D.vs? (r.cs.map D.v)=some r.cs:=λ_=>rfl;have a1:∀r:Rgt,List.map (D.toRow ∘ D.v) r.cs=r.cs.map D.v:=λ_=>rfl;have a7:(S.cs.map D.v).length=8:=rfl;have U:∀r:Rgt,r.cs.length=8:=λ_=>rfl;rw[hV,hV]at q4;simp at q2 q3;simp only[Zw,Fy,PO,la,AC.R,AB 36 7,iB];simp;refine⟨_,_,q2 _,?_⟩;simp only[AB 36 9,AB 36 11,AB 36 13,AB 36 15,AB 36 17,AB 36 19,AB 36 20];simp[Df,J];simp only[AB 36 21];simp;refine⟨_,_,q3 _,?_⟩;simp only[Aa,AB 36 22];simp[G,W,hld,a2];refine⟨_,_,⟨rfl,rfl⟩,_,q4,?_⟩;simp[U,a1,O];simp only[AB 36 39];simp[z36,AQ,AA];rw[<-hP];have a6:(x.rs.set i S).length=x.rs.length:=so;refine⟨trivial,[.v (.int .i64 x.kind),.v (.int .i64 x.file),.v (.int .i64 x.party),.v (.int .i64 x.day),.v (AM .i64 x.t.cs),.v (.list (x.t.vs.map Val.V)),.v (.list (x.t.ps.map Th.V)),.sr 2 x.rs.length,.v (.list (x.cl.map BY)),.v (.list (x.fs.map (.int .i64))),.v (.list (x.L.map (.int .u64))),.v (.list (x.R.map (.int .u64))),.v (.list (x.S.map (.int .u8)))],Z,7,2,x.rs.length,8,(x.rs.set i S).map Rgt.V,?_,rfl,rfl,Ac,?_,?_,?_⟩
 .simp[AW 36,D.one?,NJ,NH,MV,MD,M0]
 .intro v hv;obtain⟨q,_,rfl⟩:=rl.1 hv;rfl
 .have h1:x.rs.length*8=((x.rs.set i S).flatMap Rgt.cs).length:=by rw[Fj cK,a6]
  rw[<-hZ,Pt,h1,List.take_left' Ac];exact OP _
 .rfl
theorem jT(hS:x.S≠[])(N:Af how 12=10)(i:Nat)(hi:Af at_ x.S.length=i)(c:Int)(hc:x.S[i]?=some c):
  AX (gA 36) (jK ({x with S:=x.S.set i (1-(if 1 <c then 1 else c))}:Ext).cs) ⟨AZ [.v x.V,.v (.int .i64 how),.v (.int .i64 at_),.v (.int .i64 by_)],[]⟩:=by
 obtain⟨b0,b1⟩:=hx.S c (rY hc);obtain⟨d,hd⟩:∃d,1-(if 1 <c then 1 else c)=d:=⟨_,rfl⟩;have hw:IntKind.u8.wrap d=d:=Ld (by rw[<-hd];split<;>omega) (by rw[<-hd];split<;>omega)
 obtain⟨P,O⟩:∃P,jK ({x with S:=x.S.set i (1-(if 1 <c then 1 else c))}:Ext).cs=P:=⟨_,rfl⟩;rw[O];rw[hd]at O;refine Ux x how at_ by_ hx hn0 false true (λh=>by cases h) (λh=>by cases h) (λ_=>hS) _ ?_;intro k;have J:0 <x.S.length:=List.length_pos_iff.2 hS;have a1:=hx.lS;obtain⟨G,hg⟩:=rZ.1 hc;have q2:=(LZ how 12 Ah).fsp;rw[N]at q2;have q3:=(LZ at_ x.S.length AE).fsp;rw[hi]at q3;obtain⟨Z,hZ⟩:∃Z,((x.S.set i d).map (V.int .u8)).map D.v++List.replicate k D.any=Z:=⟨_,rfl⟩;have W:AQ ((x.S.map (V.int .u8)).map D.v++List.replicate k D.any) i [.v (.int .u8 d)]=Z:=by
  have h1:AQ ((x.S.map (V.int .u8)).map D.v++List.replicate k D.any) i [.v (.int .u8 d)]=((x.S.map (V.int .u8)).map D.v++List.replicate k D.any).set i (.v (.int .u8 d)):=by rw[uk,if_pos Dd];simp[AQ]
  rw[h1,<-hZ,uC _ _ (by simpa using G)];simp
 have hld:((x.S.map (V.int .u8)).map D.v++List.replicate k D.any)[i]?=some (.v (.int .u8 c)):=by rw[sI (by simpa using G)];simp[hg,G]
 have U:i+1<=((x.S.map (V.int .u8)).map D.v++List.replicate k D.any).length:=by simp;omega
 generalize (x.S.map (V.int .u8)).map D.v++List.replicate k D.any=ds at*;simp at q2 q3;simp only[Zw,Fy,PO,la,AC.R,AB 36 7,iB];simp;refine⟨_,_,q2 _,?_⟩;simp only[AB 36 9,AB 36 11,AB 36 13,AB 36 15,AB 36 17,AB 36 19,AB 36 23,AB 36 26,AB 36 28,AB 36 30,AB 36 35,AB 36 36];simp[Df,J];simp only[AB 36 37];simp;refine⟨_,_,q3 _,?_⟩;simp only[Aa,AB 36 38];simp[G,U,hld];rw[hd,hw,W];simp only[AB 36 39];simp[z36,AQ,AA];rw[<-O];have a2:(x.S.set i d).length=x.S.length:=so;refine⟨trivial,[.v (.int .i64 x.kind),.v (.int .i64 x.file),.v (.int .i64 x.party),.v (.int .i64 x.day),.v (AM .i64 x.t.cs),.v (.list (x.t.vs.map Val.V)),.v (.list (x.t.ps.map Th.V)),.v (.list (x.rs.map Rgt.V)),.v (.list (x.cl.map BY)),.v (.list (x.fs.map (.int .i64))),.v (.list (x.L.map (.int .u64))),.v (.list (x.R.map (.int .u64))),.sr 2 x.S.length],Z,12,2,x.S.length,1,(x.S.set i d).map (.int .u8),?_,rfl,rfl,Ac,?_,?_,?_⟩
 .simp[AW 36,D.one?,Ng,NJ,NH,MV,MD]
 .intro v hv;obtain⟨q,_,rfl⟩:=rl.1 hv;rfl
 .rw[<-hZ,VR,Nat.mul_one,List.take_left' Ac];exact OP _
 .rfl
theorem dH(hn:n<=5000)(hm:m<=2^20)(hh:i64 how)(W:i64 at_)(hb:i64 by_):
  ∃y:Ext,(y.nic (2*n+100) (s+200) (m+1) (n0+1)/\(y.rs=x.rs\/y.rs=x.rs.drop 1\/∃i r h,x.rs[i]?=some r/\y.rs=x.rs.set i (Ds r h by_)))/\PX 36 [x.V,how,at_,by_] [y.V]:=by
 have up:=hx.up;by_cases U:Af how 12=5/\x.rs≠[]
 .obtain⟨U,O⟩:=U;have N:0 <x.rs.length:=List.length_pos_iff.2 O;have g1:=C7 at_ x.rs.length W;have g2:=(Cb at_ x.rs.length AE).2;obtain⟨i,hi⟩:∃i:Nat,Af at_ x.rs.length=i:=⟨(Af at_ x.rs.length).toNat,AE⟩;obtain⟨r,Z⟩:∃r,x.rs[i]?=some r:=⟨_,rW AE⟩;refine⟨{x with rs:=x.rs.set i (Ds r (IntKind.i64.wrap (how.tdiv 12)) by_)},⟨{up with rs:=λq J=>?_,lr:=by simp only[so];exact up.lr},.inr (.inr ⟨i,r,_,Z,rfl⟩)⟩,Dh (args:=[_,_,_,_]) (rets:=[_]) (Lo (D6 36) rfl (jV x how at_ by_ hx hn0 hm O U i hi r Z))⟩
  .rcases sn J with J|rfl
   .exact up.rs q J
   .exact Pn (hx.rs r (rY Z)) AE _ _ hb
 .by_cases G:Af how 12=10/\x.S≠[]
  .obtain⟨G,hS⟩:=G;have N:0 <x.S.length:=List.length_pos_iff.2 hS;have g1:=C7 at_ x.S.length W;have g2:=(Cb at_ x.S.length AE).2;obtain⟨i,hi⟩:∃i:Nat,Af at_ x.S.length=i:=⟨(Af at_ x.S.length).toNat,AE⟩;obtain⟨c,hc⟩:∃c,x.S[i]?=some c:=⟨_,rW AE⟩;have a1:=hx.S c (rY hc);refine⟨{x with S:=x.S.set i (1-(if 1 <c then 1 else c))},⟨{up with S:=λq J=>?_,lS:=by simp only[so];exact up.lS},.inl rfl⟩,Dh (args:=[_,_,_,_]) (rets:=[_]) (Lo (D6 36) rfl (jT x how at_ by_ hx hn0 hS G i hi c hc))⟩
   .rcases sn J with J|rfl
    .exact up.S q J
    .split<;>omega
  .obtain⟨y,⟨h1,h2⟩,h3⟩:=jw x how at_ by_ hx hn0 hn hh W hb U G;exact⟨y,⟨h1,h2.elim .inl λh=> .inr (.inl h)⟩,h3⟩
end
end
end Go.Va
