/- Laws that ExtractAnswers leans on, part 32. No condition of its own. -/
import Derived.Test.YtopldfpkgbkomaaGreatDoorL31
set_option linter.all false
set_option maxRecDepth 100000
set_option maxHeartbeats 4000000
noncomputable section
namespace Go.Va
open Go.Proofs
theorem Jd (R:List Rgt) (r:Rgt):(IK R r).Perm (r::R):=by
 unfold IK;generalize Io R r.file=i;have:=List.perm_middle (a:=r) (l₁:=R.take i) (l₂:=R.drop i)
 rwa [pQ]at this
theorem SR:∀l:List Rgt,(PP l).Perm l:=by
 have:∀(l acc:List Rgt),(l.foldl IK acc).Perm (acc++l):=by
  intro l;induction l with
  |nil=>intro acc;simp
  |cons r l ih=>
   intro acc;refine(ih _).trans ?_;have h1:(IK acc r++l).Perm ((r::acc)++l):=(Jd acc r).append_right l;exact h1.trans (List.perm_middle (a:=r) (l₁:=acc) (l₂:=l)).symm
 intro l;simpa[PP]using this l []
theorem TB {R:List Rgt} (h:R.Pairwise λa b=>a.file <b.file) {r:Rgt} (hr:∀q∈R,q.file≠r.file):(IK R r).Pairwise λa b=>a.file <b.file:=by
 unfold IK Io;induction R with
 |nil=>simp
 |cons q R ih=>
  rw[List.pairwise_cons]at h;have hq:=hr q (by simp);rw[List.findIdx_cons];by_cases hlt:q.file <r.file
  ·simp only[hlt,decide_true,Bool.not_true,cond_false,ri,List.drop_succ_cons,pl];rw[List.pairwise_cons];refine⟨λx hx=>?_,ih h.2 λx hx=>hr x (by simp[hx])⟩;rcases (Jd R r).mem_iff.1 hx with hx;rcases oO.1 hx with rfl|hx
   ·exact hlt
   ·exact h.1 x hx
  ·simp only[hlt,decide_false,Bool.not_false,cond_true,List.take_zero,List.drop_zero,qz];rw[List.pairwise_cons,List.pairwise_cons];refine⟨λx hx=>?_,h⟩;rcases oO.1 hx with rfl|hx
   ·omega
   ·have:=h.1 x hx;omega
theorem UZ {l:List Rgt} (hp:l.Pairwise λa b=>a.file≠b.file):(PP l).Pairwise λa b=>a.file <b.file:=by
 have:∀(l acc:List Rgt),l.Pairwise (λa b=>a.file≠b.file)→(∀a∈acc,∀b∈l,a.file≠b.file)→acc.Pairwise (λa b=>a.file <b.file)→(l.foldl IK acc).Pairwise λa b=>a.file <b.file:=by
  intro l;induction l with
  |nil=>intro acc _ _ h;exact h
  |cons r l ih=>
   intro acc hp hd h;rw[List.pairwise_cons]at hp;refine ih _ hp.2 (λa ha b hb=>?_) (TB h λq hq=>hd q hq r (by simp));rcases oO.1 ((Jd acc r).mem_iff.1 ha)with rfl|ha
   ·exact hp.1 b hb
   ·exact hd a ha b (by simp[hb])
 exact this l [] hp (by simp) .nil
theorem SQ {l:List Rgt} (hp:l.Pairwise λa b=>a.file≠b.file):PP l=Ht l:=by
 have h1:=SR l;have h2:=Hc hp;have hs:=UZ hp;have hsI:(D6 (l.map Rgt.file)).Pairwise λa b=>decide (a≤b)=true:=List.pairwise_mergeSort (by intro a b c h1 h2;simp at *;omega) (by intro a b;simp;omega) _;have ht:(Ht l).Pairwise λa b=>a.file≤b.file:=by
  unfold Ht;rw[List.pairwise_map];refine List.Pairwise.imp_of_mem ?_ hsI;intro a b ha hb hab;have hf:∀k∈D6 (l.map Rgt.file),(IB l k).file=k:=λk hk=>by
   obtain⟨r,hr,rfl⟩:=oP.1 ((rq _ _).mem_iff.1 hk);rw[DI hp hr]
  rw[hf a ha,hf b hb];simpa using hab
 refine List.Perm.eq_of_pairwise (le:=λa b=>a.file≤b.file) ?_ (hs.imp λh=>rT h) ht (h1.trans h2.symm);intro a b ha hb hab hba;have hm:=h1.mem_iff.1 ha;have hm2:=h2.mem_iff.1 hb;have e:a.file=b.file:=by omega
 have f1:=DI hp hm;have f2:=DI hp hm2;rw[←f1,←f2,e]
theorem VJ {rs:List Rgt} (h:∀r∈rs,0≤r.file∧r.file≤4095):GE 0 4095 rs=rs:=by
 unfold GE;rw[List.filter_eq_self];exact λr hr=>by simpa using h r hr
theorem Sl {own:List Rgt} (hp:own.Pairwise λa b=>a.file≠b.file) (a b:Int):(((D6 ((Hi own).E.map (·.1))).filter (RP a b)).map (H5 (Hi own)))=(GE a b (Ht own)).map λr=>V.agg [.int .i64 r.file,AH .u8 (Be r)]:=by
 have h:=RE hp;have hE:=NI own hp;have e1:(Hi own).E.map (·.1)=own.map Rgt.file:=by rw[hE,qF];rfl
 rw[e1]at h ⊢;unfold Ht at h;rw[qF]at h;have e2:(D6 (own.map Rgt.file)).filter ((λr:Rgt=>decide (a≤r.file∧r.file≤b)) ∘ IB own)=(D6 (own.map Rgt.file)).filter (RP a b):=by
  refine List.filter_congr λk hk=>?_;obtain⟨r,hr,rfl⟩:=oP.1 ((rq _ _).mem_iff.1 hk);simp only[Function.comp_apply,DI hp hr,RP]
 unfold GE Ht;rw[List.filter_map,qF,e2];exact rl λk hk=>List.map_inj_left.1 h k (qC.1 hk).1
theorem eP (x:Ext):PX 88 [x.V] [.int .i64 (if x.kind=0 then x.file else 0),.int .i64 (if x.kind=0 then x.file else 4095)]:=by
 refine BJ 88 ?_;obtain⟨kind,file,party,day,t,rs,cl,fs,L,R,S⟩:=x;simp only[Ai 88,AE,AF,AK,AA 88 0,AA 88 1,AX,Ext.V,Ext.cs];by_cases h:kind=0
 ·simp[h,AH];simp only[AS,AA 88 2];simp[AB,AW 88]
 ·simp[h,AH,AD,AA 88 3,AB,AW 88]
theorem VB (n:Nat) (x:Ext):Row.low n (.cells (x.cs.map .v))=true:=by
 simp only[Row.low];exact J7 _
theorem eK (h:List Row) (hl:Low h) (y:D) (x:Ext) (hk:x.kind=0) (hy:y.copy=y∧D.lt h.length y=true):FX 90 [y,.v x.V] h [.own 76 2 [],.own 3 1 [],.v (.int .i64 0)] h:=by
 refine Ak (D4 90) rfl (oN _) hl (by simp[D.lt]) ?_;obtain⟨kind,file,party,day,t,rs,cl,fs,L,R,S⟩:=x;simp only at hk;subst hk;simp only[Zw,Ai 90,AA 90 0,AA 90 1,AQ,Ext.V,Ext.cs];simp;simp[AA 90 2,AA 90 11,AD];simp only[AA 90 12];simp;simp[AA 90 27,AB,AW 90]
theorem eO (h:List Row) (hl:Low h) (x:Nat) (e:Ext) (cl:List (Int×Int)) (E:Int) (hk:e.kind=1∨e.kind=3∧E≠0)
  (q185:∀Z,Lows Z→FX 185 [.ref x 0,.v (.list (e.rs.map Rgt.V)),.v e.t.V] (h++Z) [.own 76 2 (cl.map Bn),.v (.int .i64 E)] (h++Z)):
  FX 90 [.ref x 0,.v e.V] h [.v (.list (cl.map Bn)),.own 3 1 [],.v (.int .i64 E)] h:=by
 refine Ak (D4 90) rfl (oN _) hl (by simp[D.lt]) ?_;have q1:=q185 [.cells (e.cs.map .v)] (by
  intro row hrow n;rw[oS.1 hrow];exact VB n _)
 obtain⟨kind,file,party,day,⟨tc,tv,tp⟩,rs,cl0,fs,L,R,S⟩:=e;simp only[Ext.V,Ext.cs,Th.cs,Th.vs,Th.ps,AH]at*;simp[Th.V_eq,AH]at q1;simp only[Zw,Ai 90,AA 90 0,AA 90 1,AQ];simp;have k2:¬kind=2:=by omega
 rcases hk with rfl|⟨rfl,hE⟩
 ·simp[AA 90 2,AA 90 11,AD];simp only[AA 90 13];simp;refine⟨_,_,q1,?_⟩;simp only[AA 90 14];by_cases hE:E=0<;>simp[hE,AA 90 15,AB,AW 90]
 ·simp[AA 90 2,AA 90 11,AD];simp only[AA 90 12];simp;simp only[AA 90 13];simp;refine⟨_,_,q1,?_⟩;simp[hE,AA 90 14,AA 90 15,AB,AW 90]
def Pd (kind f p d:Int) (a4 a5 a6:D) (rs:List Rgt):Row:= .cells [.v (.int .i64 kind),.v (.int .i64 f),.v (.int .i64 p),.v (.int .i64 d),a4,a5,a6,.own 74 8 (rs.map Rgt.V),.own 76 2 [],.own 3 1 [],.own 47 1 [],.own 47 1 [],.own 5 1 []]
theorem jz (h:List Row) (kind f p d:Int) (a4 a5 a6:D) (g:Nat) (rs:List Rgt) (hn:rs.length≤2^20)
  (N7:∀r∈rs,PX 113 [AH .u8 (Be r)] [r.V,.int .i64 0]) (R4 R9:Row) (Q:AExit→St→Prop)
  (hQ:∀e J,Lows J→AG e 0= .ref g 0→AG e 3= .ref h.length 0→AG e 4= .ref (h.length+1) 0→AG e 9= .ref (h.length+2) 0→Q (.exit 0) ⟨e,h++(Pd kind f p d a4 a5 a6 rs::R4::R9::J)⟩):
  awp Tryz.prog Ah (.loop (lG 61 0)) Q ⟨[(0,.ref g 0),(3,.ref h.length 0),(4,.ref (h.length+1) 0),(9,.ref (h.length+2) 0),(35,.v (.list (rs.map λr=>V.agg [.int .i64 r.file,AH .u8 (Be r)]))),(36,.v (.int .i64 rs.length)),(37,.v (.int .i64 (0:Nat)))],h++(Pd kind f p d a4 a5 a6 []::R4::R9::[])⟩:=by
 refine AY rs.length (λk s=>∃J,Lows J∧s=⟨[(0,.ref g 0),(3,.ref h.length 0),(4,.ref (h.length+1) 0),(9,.ref (h.length+2) 0),(35,.v (.list (rs.map λr=>V.agg [.int .i64 r.file,AH .u8 (Be r)]))),(36,.v (.int .i64 rs.length)),(37,.v (.int .i64 k))],
   h++(Pd kind f p d a4 a5 a6 (rs.take k)::R4::R9::J)⟩) ⟨[],Lows.nil,by simp⟩ ?_
 rintro k s hk ⟨J,hJ,rfl⟩;simp only[Zw,A8 61 0,AA 61 6];simp;by_cases hkl:k <rs.length
 ·obtain⟨r,hr⟩:∃r,rs[k]?=some r:=⟨_,oI hkl⟩;have w1:=Bb k;have htk2:rs.take (k+1)=rs.take k++[r]:=by rw[oW,hr];rfl
  have q1:=(N7 r (oK hr)).fsp;have hl1:∀n,Row.low n (.cells [.v (.int .i64 r.file),.v (AH .u8 (Be r))])=true:=λn=>by simp[Row.low,D.lts,D.lt]
  have hl2:∀n,Row.low n (.cells (r.cs.map .v))=true:=λn=>by simp only[Row.low];exact J7 _
  have hJ2:=(hJ.app hl1).app hl2;rw[htk2];have hm:min k rs.length=k:=by omega
  have hroom:AU (k+1) 144=true:=by simp[AU];omega
  obtain⟨file,state,force,claims,dates,bad,owners,lics⟩:=r;generalize hE:Be ⟨file,state,force,claims,dates,bad,owners,lics⟩=E at*;simp only[Rgt.V,Rgt.cs,Pd,AH]at*;simp at q1;rw[if_pos (by omega),AD];simp only[AA 61 7];simp[hr,AO,hE];simp only[AA 61 8];simp;refine⟨_,_,q1 _,?_⟩;simp[AO];simp only[AA 61 9];simp[hm,hroom,AA 61 10,w1,hkl];simp at hJ2;exact⟨hJ2,by simp[Rgt.V,Rgt.cs,AH]⟩
 ·have hk2:k=rs.length:=by omega
  subst hk2;rw[if_neg (by omega),AJ,od];exact hQ _ _ hJ rfl rfl rfl rfl
def lg (t:Th) (d4 d5 d6:D):Prop:=(d4= .nil 3 1∧d5= .nil 171 3∧d6= .nil 58 3∧t=Lv)∨(d4= .v (AH .i64 t.cs)∧d5= .v (.list (t.vs.map Val.V))∧d6= .v (.list (t.ps.map Th.V)))
def Ed:Row:= .cells [.v (.int .i64 0),.v (.int .i64 0),.v (.int .i64 0),.v (.int .i64 0),.own 3 1 [],.own 171 3 [],.own 58 3 [],.own 74 8 [],.own 76 2 [],.own 3 1 [],.own 47 1 [],.own 47 1 [],.own 5 1 []]
def KW (kind f p d:Int) (d4 d5 d6:D):D:= .agg [.v (.int .i64 kind),.v (.int .i64 f),.v (.int .i64 p),.v (.int .i64 d),d4,d5,d6,.nil 74 8,.nil 76 2,.nil 3 1,.nil 47 1,.nil 47 1,.nil 5 1]
theorem Sm (h:List Row) (hl:Low h) (kind f p d:Int) (t:Th) {d4 d5 d6:D} (hT:lg t d4 d5 d6)
  (g tr qm x:Nat) (hg:h[g]?=some (.cells [.ref x 0,.mref qm,.ref tr 0])) (a b:Int) (ha:a=if kind=0 then f else 0) (hb:b=if kind=0 then f else 4095) (rs:List Rgt) (hn:rs.length≤2^20) (L R S:List Int) (E1:Int) (hE1:E1≠0→rs=[])
  (q137:∀Z,Lows Z→FX 137 [.ref tr 0,.v (.int .i64 a),.v (.int .i64 b)] (h++Z) [.own 193 2 (rs.map λr=>V.agg [.int .i64 r.file,AH .u8 (Be r)]),.v (.agg [AH .u64 L,AH .u64 R,AH .u8 S]),.v (.int .i64 E1)] (h++Z))
  (N7:∀r∈rs,PX 113 [AH .u8 (Be r)] [r.V,.int .i64 0])
  (cl:List (Int×Int)) (fs:List Int) (E2:Int) (dc:D) (hdc:dc= .v (.list (cl.map Bn))∨dc= .own 76 2 (cl.map Bn))
  (q90:E1=0→∀Z,Lows Z→FX 90 [.ref x 0,.v (Ext.mk kind f p d t rs [] [] L R S).V] (h++Z) [dc,.own 3 1 (fs.map (.int .i64)),.v (.int .i64 E2)] (h++Z)):
  FX 61 [.ref g 0,KW kind f p d d4 d5 d6] h [.v (JZ (if E1=0 then E2 else E1) ⟨kind,f,p,d,t,rs,cl,fs,L,R,S⟩).V,.v (.int .i64 (if E1=0 then E2 else E1))] h:=by
 refine Ak (D4 61) rfl (oN _) hl (by simp[D.lt]) ?_;have q88:=(eP (Ext.mk kind f p d t [] [] [] [] [] [])).fsp;simp only[←ha,←hb]at q88;have hg':=λZ=>AV Z hg;have hloop:=λR4 R9 Q=>jz h kind f p d (D.toRow d4) (D.toRow d5) (D.toRow d6) g rs hn N7 R4 R9 Q;have vN:Es.V= .agg [.int .i64 0,.int .i64 0,.int .i64 0,.int .i64 0,.list [],.list [],.list [],.list [],.list [],.list [],.list [],.list [],.list []]:=rfl;have hq:=q137 [Pd kind f p d (D.toRow d4) (D.toRow d5) (D.toRow d6) [],Ed] (by
  intro row hrow n;simp only[oO,o7,or_false]at hrow;rcases hrow with rfl|rfl
  ·rcases hT with ⟨rfl,rfl,rfl,_⟩|⟨rfl,rfl,rfl⟩<;>rfl
  ·rfl)
 unfold JZ;rcases hT with ⟨rfl,rfl,rfl,rfl⟩|⟨rfl,rfl,rfl⟩
 ·simp only[Lv]at*;simp only[Ext.V,Ext.cs,KW,Pd,Ed,Th.cs,Th.vs,Th.ps,AH]at*;simp at q88 hq;simp only[Zw,Ai 61,AA 61 0,AQ];simp;simp only[AA 61 1];simp;refine⟨_,_,q88 _,?_⟩;simp;simp only[AA 61 2];simp[hg'];refine⟨_,_,hq,?_⟩;simp[AO];simp only[AA 61 3];by_cases hE:E1=0
  ·have q90':=q90 hE;clear q90;subst hE;simp[AD,AA 61 5];simp at hloop;refine hloop _ _ _ ?_;intro e J hJ g0 g3 g4 g9;simp only[AA 61 11];simp[g0,g3,g4,g9,AO];simp only[AS,AA 61 12];simp[hg'];have hq9:=q90' (.cells [.v (.int .i64 kind),.v (.int .i64 f),.v (.int .i64 p),.v (.int .i64 d),.own 3 1 [],.own 171 3 [],.own 58 3 [],.own 74 8 (rs.map Rgt.V),.own 76 2 [],.own 3 1 [],.v (.list (L.map (.int .u64))),.v (.list (R.map (.int .u64))),.v (.list (S.map (.int .u8)))]::
     .cells [.v (.int .i64 0),.v (.int .i64 0),.v (.int .i64 0),.v (.int .i64 0),.own 3 1 [],.own 171 3 [],.own 58 3 [],.own 74 8 [],.own 76 2 [],.own 3 1 [],.own 47 1 [],.own 47 1 [],.own 5 1 []]:: .cells [.v (.list (L.map (.int .u64))),.v (.list (R.map (.int .u64))),.v (.list (S.map (.int .u8)))]::J) (by
    intro row hrow n;simp only[oO]at hrow;rcases hrow with rfl|rfl|rfl|hrow
    ·rfl
    ·rfl
    ·rfl
    ·exact hJ row hrow n)
   simp at hq9;by_cases hE2:E2=0
   ·subst hE2;rcases hdc with rfl|rfl
    ·refine⟨_,_,hq9,?_⟩;simp[AO,AA 61 13,AA 61 15,AB,AW 61,D.one?]
    ·refine⟨_,_,hq9,?_⟩;simp[AO,AA 61 13,AA 61 15,AB,AW 61,D.one?]
   ·rcases hdc with rfl|rfl
    ·refine⟨_,_,hq9,?_⟩;simp[hE2,AO,AA 61 13,AA 61 14,AB,AW 61,D.one?,D.vs?,D.v?,Es,Dx]
    ·refine⟨_,_,hq9,?_⟩;simp[hE2,AO,AA 61 13,AA 61 14,AB,AW 61,D.one?,D.vs?,D.v?,Es,Dx]
  ·have hrs:=hE1 hE;subst hrs;simp[hE,AA 61 4,AO,AB,AW 61,D.one?,D.vs?,D.v?,Es,Dx]
 ·obtain⟨cs,vs,pa⟩:=t;simp only[Ext.V,Ext.cs,KW,Pd,Ed,Th.cs,Th.vs,Th.ps,AH]at*;simp at q88 hq;simp only[Zw,Ai 61,AA 61 0,AQ];simp;simp only[AA 61 1];simp;refine⟨_,_,q88 _,?_⟩;simp;simp only[AA 61 2];simp[hg'];refine⟨_,_,hq,?_⟩;simp[AO];simp only[AA 61 3];by_cases hE:E1=0
  ·have q90':=q90 hE;clear q90;subst hE;simp[AD,AA 61 5];simp at hloop;refine hloop _ _ _ ?_;intro e J hJ g0 g3 g4 g9;simp only[AA 61 11];simp[g0,g3,g4,g9,AO];simp only[AS,AA 61 12];simp[hg'];have hq9:=q90' (.cells [.v (.int .i64 kind),.v (.int .i64 f),.v (.int .i64 p),.v (.int .i64 d),.v (.list (cs.map (.int .i64))),.v (.list (vs.map Val.V)),.v (.list (pa.map Th.V)),.own 74 8 (rs.map Rgt.V),.own 76 2 [],.own 3 1 [],.v (.list (L.map (.int .u64))),.v (.list (R.map (.int .u64))),.v (.list (S.map (.int .u8)))]::
     .cells [.v (.int .i64 0),.v (.int .i64 0),.v (.int .i64 0),.v (.int .i64 0),.own 3 1 [],.own 171 3 [],.own 58 3 [],.own 74 8 [],.own 76 2 [],.own 3 1 [],.own 47 1 [],.own 47 1 [],.own 5 1 []]:: .cells [.v (.list (L.map (.int .u64))),.v (.list (R.map (.int .u64))),.v (.list (S.map (.int .u8)))]::J) (by
    intro row hrow n;simp only[oO]at hrow;rcases hrow with rfl|rfl|rfl|hrow
    ·rfl
    ·rfl
    ·rfl
    ·exact hJ row hrow n)
   simp at hq9;by_cases hE2:E2=0
   ·subst hE2;rcases hdc with rfl|rfl
    ·refine⟨_,_,hq9,?_⟩;simp[AO,AA 61 13,AA 61 15,AB,AW 61,D.one?]
    ·refine⟨_,_,hq9,?_⟩;simp[AO,AA 61 13,AA 61 15,AB,AW 61,D.one?]
   ·rcases hdc with rfl|rfl
    ·refine⟨_,_,hq9,?_⟩;simp[hE2,AO,AA 61 13,AA 61 14,AB,AW 61,D.one?,D.vs?,D.v?,Es,Dx]
    ·refine⟨_,_,hq9,?_⟩;simp[hE2,AO,AA 61 13,AA 61 14,AB,AW 61,D.one?,D.vs?,D.v?,Es,Dx]
  ·have hrs:=hE1 hE;subst hrs;simp[hE,AA 61 4,AO,AB,AW 61,D.one?,D.vs?,D.v?,Es,Dx]
section
theorem IJ {X:List V} (hX:X.length=13):∃x0 x1 x2 x3 x4 x5 x6 x7 x8 x9 x10 x11 x12,X=[x0,x1,x2,x3,x4,x5,x6,x7,x8,x9,x10,x11,x12]:=by
 match X,hX with
 |[x0,x1,x2,x3,x4,x5,x6,x7,x8,x9,x10,x11,x12],_=>exact⟨_,_,_,_,_,_,_,_,_,_,_,_,_,rfl⟩
variable {row:Row}
theorem OP (h:∀n,Row.low n row=true):Lows [row]:=λr hr n=>by rw[oS.1 hr];exact h n
theorem OO {row2:Row} (h:∀n,Row.low n row=true) (h2:∀n,Row.low n row2=true):Lows [row,row2]:=λr hr n=>by
 simp only[oO,o7,or_false]at hr;rcases hr with rfl|rfl
 ·exact h n
 ·exact h2 n
theorem Fn (n:Nat):Row.low n Ed=true:=rfl
theorem Sv:Es.V= .agg [.int .i64 0,.int .i64 0,.int .i64 0,.int .i64 0,.list [],.list [],.list [],.list [],.list [],.list [],.list [],.list [],.list []]:=rfl
section
variable {h:List Row} (hl:Low h) {g:Nat} {X:List V} (hX:X.length=13) {E:Int}
include hl
include hX in
theorem m9 (n:Int) (q61:∀Z,Lows Z→FX 61 [.ref g 0,KW 0 n 0 0 (.nil 3 1) (.nil 171 3) (.nil 58 3)] (h++Z) [.v (.agg X),.v (.int .i64 E)] (h++Z)):
  FX 59 [.ref g 0,.v (.int .i64 n)] h [.v (.agg X),.v (.int .i64 E)] h:=by
 refine Ak (D4 59) rfl (oN _) hl (by simp[D.lt]) ?_;have hq:=q61 _ (OP Fn);obtain⟨x0,x1,x2,x3,x4,x5,x6,x7,x8,x9,x10,x11,x12,rfl⟩:=IJ hX;simp only[KW,Ed]at hq
 try simp at hq
 simp only[Ai 59,AE,AF,AA 59 0,AA 59 1,AQ];simp;refine⟨_,_,hq,?_⟩;simp[AO,AB,AW 59,D.one?]
include hX in
theorem eg (pa:Int) (hp:Hu pa=0) (q61:∀Z,Lows Z→FX 61 [.ref g 0,KW 2 0 pa 0 (.nil 3 1) (.nil 171 3) (.nil 58 3)] (h++Z) [.v (.agg X),.v (.int .i64 E)] (h++Z)):
  FX 72 [.ref g 0,.v (.int .i64 pa)] h [.v (.agg X),.v (.int .i64 E)] h:=by
 refine Ak (D4 72) rfl (oN _) hl (by simp[D.lt]) ?_;unfold Hu at hp;have h1:¬pa <1:=λh=>by rw[if_pos (.inl h)]at hp;cases hp
 have h2:¬4095 <pa:=λh=>by rw[if_pos (.inr h)]at hp;cases hp
 have hq:=q61 _ (OP Fn);obtain⟨x0,x1,x2,x3,x4,x5,x6,x7,x8,x9,x10,x11,x12,rfl⟩:=IJ hX;simp only[KW,Ed]at hq
 try simp at hq
 simp only[Ai 72,AE,AF,AK,AA 72 0,AA 72 1,AQ];simp[h1,h2,AD];simp only[AA 72 3];simp[AO];refine⟨_,_,hq,?_⟩;simp[AB,AW 72,D.one?]
theorem eh (pa:Int) (hp:Hu pa≠0):FX 72 [.ref g 0,.v (.int .i64 pa)] h [.v Es.V,.v (.int .i64 (Hu pa))] h:=by
 refine Ak (D4 72) rfl (oN _) hl (by simp[D.lt]) ?_;rw[Sv];unfold Hu at*;simp only[Ai 72,AE,AF,AK,AA 72 0,AA 72 1,AQ];by_cases h1:pa <1
 ·simp[h1,AA 72 2,AO,AB,AW 72,D.one?,D.vs?,D.v?]
 ·by_cases h2:4095 <pa
  ·simp[h1,h2,AA 72 2,AO,AB,AW 72,D.one?,D.vs?,D.v?]
  ·rw[if_neg (by omega)]at hp;exact absurd rfl hp
def Rr (kind d:Int) (t:Th):D:=KW kind 0 0 d (.v (AH .i64 t.cs)) (.v (.list (t.vs.map Val.V))) (.v (.list (t.ps.map Th.V)))
include hX in
theorem Zy (t:Th) (hs:t.small) (q61:∀Z,Lows Z→FX 61 [.ref g 0,Rr 1 0 t] (h++Z) [.v (.agg X),.v (.int .i64 E)] (h++Z)):
  FX 22 [.ref g 0,.v t.V] h [.v (.agg X),.v (.int .i64 E)] h:=by
 refine Ak (D4 22) rfl (oN _) hl (by simp[D.lt]) ?_;have q62:=(lz hs).fsp;have hq:=q61 _ (OO (λn=>G5 n t) Fn);obtain⟨x0,x1,x2,x3,x4,x5,x6,x7,x8,x9,x10,x11,x12,rfl⟩:=IJ hX;obtain⟨cs,vs,ps⟩:=t;simp only[Rr,KW,Ed,Th.V_eq,Th.cells,Th.cs,Th.vs,Th.ps,AH]at*;simp at q62 hq;simp only[Ai 22,AE,AF,AA 22 0,AQ];simp;simp only[AA 22 1];simp;refine⟨_,_,q62 _,?_⟩;simp[AO];refine⟨_,_,hq,?_⟩;simp[AB,AW 22,D.one?]
theorem gz (t:Th) (hs:t.small) (n:Int) {X1 Y:List V} {E1 E2:Int} (q22:∀Z,Lows Z→FX 22 [.ref g 0,.v t.V] (h++Z) [.v (.agg X1),.v (.int .i64 E1)] (h++Z)) (h1:X1.length=13)
  (q61:E1=0→L4 n=0→∀Z,Lows Z→FX 61 [.ref g 0,Rr 3 n t] (h++Z) [.v (.agg Y),.v (.int .i64 E2)] (h++Z)) (hY:Y.length=13) (hE:E2=if E1≠0 then E1 else L4 n) (hN:E2≠0→V.agg Y=Es.V):
  FX 23 [.ref g 0,.v t.V,.v (.int .i64 n)] h [.v (.agg Y),.v (.int .i64 E2)] h:=by
 refine Ak (D4 23) rfl (oN _) hl (by simp[D.lt]) ?_;have q62:=(lz hs).fsp;have hlz:=OO (λn=>G5 n t) Fn;have q22:=q22 _ hlz;obtain⟨x0,x1,x2,x3,x4,x5,x6,x7,x8,x9,x10,x11,x12,rfl⟩:=IJ h1;have hq:=λhE hd=>q61 hE hd ([.cells t.cells,Ed]++[.cells [.v x0,.v x1,.v x2,.v x3,.v x4,.v x5,.v x6,.v x7,.v x8,.v x9,.v x10,.v x11,.v x12]]) (hlz.app λn=>by simp[Row.low,D.lts,D.lt]);obtain⟨cs,vs,ps⟩:=t;simp only[Rr,KW,Ed,Th.V_eq,Th.cells,Th.cs,Th.vs,Th.ps,AH]at*;simp at q62 q22 hq;simp only[Ai 23,AE,AF,AK,AA 23 0,AQ];simp;simp only[AA 23 1];simp;refine⟨_,_,q22,?_⟩;by_cases hE1:E1=0
 ·subst hE1;rw[if_neg (by simp)]at hE;simp[AO,AA 23 2,AD];simp only[AA 23 4];by_cases hd:L4 n=0
  ·have hq:=hq rfl hd;unfold L4 at hd;have c1:¬n <0:=λh=>by rw[if_pos (.inl h)]at hd;cases hd
   have c2:¬131072 <n:=λh=>by rw[if_pos (.inr h)]at hd;cases hd
   obtain⟨y0,y1,y2,y3,y4,y5,y6,y7,y8,y9,y10,y11,y12,rfl⟩:=IJ hY;simp[c1,c2];simp only[AA 23 6];simp;refine⟨_,_,q62 _,?_⟩;simp[AO];refine⟨_,_,hq,?_⟩;simp[AB,AW 23,D.one?]
  ·rw[hN (by rw[hE];exact hd),Sv,hE];unfold L4 at hd ⊢;by_cases c1:n <0
   ·simp[c1,AA 23 5,AO,AB,AW 23,D.one?,D.vs?,D.v?]
   ·by_cases c2:131072 <n
    ·simp[c1,c2,AA 23 5,AO,AB,AW 23,D.one?,D.vs?,D.v?]
    ·rw[if_neg (by omega)]at hd;exact absurd rfl hd
 ·rw[if_pos hE1]at hE;subst hE;rw[hN hE1,Sv];simp[hE1,AO,AA 23 2,AA 23 3,AB,AW 23,D.one?,D.vs?,D.v?]
include hX in
theorem gD (kind n:Int) (t:Th) (hk:kind=0∨kind=1∨kind=2∨kind=3)
  (q0:kind=0→∀Z,Lows Z→FX 59 [.ref g 0,.v (.int .i64 n)] (h++Z) [.v (.agg X),.v (.int .i64 E)] (h++Z))
  (q1:kind=1→∀Z,Lows Z→FX 22 [.ref g 0,.v t.V] (h++Z) [.v (.agg X),.v (.int .i64 E)] (h++Z))
  (q2:kind=2→∀Z,Lows Z→FX 72 [.ref g 0,.v (.int .i64 n)] (h++Z) [.v (.agg X),.v (.int .i64 E)] (h++Z))
  (q3:kind=3→∀Z,Lows Z→FX 23 [.ref g 0,.v t.V,.v (.int .i64 n)] (h++Z) [.v (.agg X),.v (.int .i64 E)] (h++Z)):
  FX 27 [.ref g 0,.v (.int .i64 kind),.v (.int .i64 n),.v t.V] h [.v (.agg X),.v (.int .i64 E)] h:=by
 refine Ak (D4 27) rfl (oN _) hl (by simp[D.lt]) ?_;have lZ:=OO (λn=>G5 n t) Fn;obtain⟨x0,x1,x2,x3,x4,x5,x6,x7,x8,x9,x10,x11,x12,rfl⟩:=IJ hX;obtain⟨cs,vs,pa⟩:=t;simp only[Ed,Th.V_eq,Th.cells,Th.cs,Th.vs,Th.ps,AH]at*;simp only[Zw,Ai 27,AA 27 0,AQ];simp;rcases hk with rfl|rfl|rfl|rfl
 ·have q:=q0 rfl _ lZ
  try simp at q
  simp[AA 27 1,AA 27 2];simp only[AA 27 3];simp;refine⟨_,_,q,?_⟩;simp[AO,AB,AW 27,D.one?]
 ·have q:=q1 rfl _ lZ
  try simp at q
  simp[AA 27 1,AA 27 2,AA 27 4];simp only[AA 27 5];simp;refine⟨_,_,q,?_⟩;simp[AO,AB,AW 27,D.one?]
 ·have q:=q2 rfl _ lZ
  try simp at q
  simp[AA 27 1,AA 27 2,AA 27 4,AA 27 6];simp only[AA 27 7];simp;refine⟨_,_,q,?_⟩;simp[AO,AB,AW 27,D.one?]
 ·have q:=q3 rfl _ lZ
  try simp at q
  simp[AA 27 1,AA 27 2,AA 27 4,AA 27 6,AD];simp only[AA 27 8];simp;refine⟨_,_,q,?_⟩;simp[AO,AB,AW 27,D.one?]
end
end
end Go.Va
