/- Laws, part 41. No condition. -/
import Derived.Test.YtbonllhdlmegeaaGreatDoorL40
set_option linter.all false
set_option maxRecDepth 100000
set_option maxHeartbeats 4000000
noncomputable section
namespace Go.Va
open Go.Proofs
theorem k7:chkF Tryz.prog GLx 7 1 (cM 80 82 83) cMR=true:=by kernel_rfl
theorem k14:chkF Tryz.prog GLx 14 1 (cM 60 64 66) cMR=true:=by kernel_rfl
theorem p7 (r:Rgt) (hr:r.ok):PSp Tryz.prog GLx 7 [r.V] [r.V]:=pM k7 r hr
theorem p14 (r:Rgt) (hr:r.ok):PSp Tryz.prog GLx 14 [r.V] [r.V]:=pM k14 r hr
section
variable (d2 d5 d6 d15 d18 d19:D) (L:List V) (rs:List Rgt) (hL:L=rs.map Rgt.V) (h4:rs.length=4) (hf:∀r∈rs,r.fine4)
include hL h4 hf
set_option maxHeartbeats 4000000 in
theorem l3j (i:Nat) (hi:i <4) (H:List Row) (Q:AExit→St→Prop)
  (hQ:Q (.exit 2) ⟨[(2,d2),(5,d5),(6,d6),(15,d15),(16,.own 29 8 L),(17,.v (.int .i64 i)),(18,d18),(19,d19),(22,.v (.int .i64 (4:Nat))),(84,.v (.bool false))],H⟩):
  awp Tryz.prog GLx (.loop (lG 3 1)) Q ⟨[(2,d2),(5,d5),(6,d6),(15,d15),(16,.own 29 8 L),(17,.v (.int .i64 i)),(18,d18),(19,d19),(22,.v (.int .i64 (0:Nat)))],H⟩:=by
 have hget:∀k <4,∃r:Rgt,L[k]?=some r.V∧r.fine4:=λk hk=>by
  refine⟨rs[k]'(by omega),?_,hf _ (List.getElem_mem _)⟩;rw[hL,List.getElem?_map,List.getElem?_eq_getElem (by omega)];rfl
 obtain⟨x,hx,fx⟩:=hget i hi;refine awp_loop_nat0 4 (λk=>⟨[(2,d2),(5,d5),(6,d6),(15,d15),(16,.own 29 8 L),(17,.v (.int .i64 i)),(18,d18),(19,d19),(22,.v (.int .i64 k))],H⟩) (by simp) ?_;intro k hk;simp only[Zgl 3 1,awp_seq,awp_reg,awp_block,awp_cond,Zge 3 11];simp;by_cases h1:k <4
 ·obtain⟨y,hy,fy⟩:=hget k h1;have hkI:(k:Int) <4:=by omega
  have w1:IntKind.i64.wrap ((k:Int)+1)=k+1:=wrap_i64 (by omega) (by omega);have q1:=p7 x fx.ok;have q2:=p7 y fy.ok;have q3:=c9 x y fx.sm fy.sm;have q4:=c10 x y fx.sm fy.sm;generalize decide (x=y)=B at*;clear hget hf hL;simp only[Rgt.V,Rgt.cs,nums]at*;simp[hkI,awp_skip];simp only[awp_regD,Zge 3 13];simp[hx,hy];refine⟨_,_,⟨rfl,rfl⟩,_,q1,?_⟩;simp[hx,hy];refine⟨_,_,⟨rfl,rfl⟩,_,q2,?_⟩;simp[hx,hy];refine⟨_,_,⟨rfl,rfl⟩,_,q3,?_⟩;simp[hx,hy];refine⟨_,_,⟨rfl,rfl⟩,_,q4,?_⟩;simp[awp_skip,Zge 3 12,w1];exact h1
 ·have hk4:k=4:=by omega
  subst hk4;simp[awp_exit];simpa using hQ
set_option maxHeartbeats 4000000 in
theorem l3i (H:List Row) (Q:AExit→St→Prop)
  (hQ:∀J,Q (.exit 0) ⟨[(2,d2),(5,d5),(6,d6),(15,d15),(16,.own 29 8 L),(17,.v (.int .i64 (4:Nat))),(53,.v (.bool false))],H++J⟩):
  awp Tryz.prog GLx (.loop (lG 3 0)) Q ⟨[(2,d2),(5,d5),(6,d6),(15,d15),(16,.own 29 8 L),(17,.v (.int .i64 (0:Nat)))],H⟩:=by
 have hget:∀k <4,∃r:Rgt,L[k]?=some r.V∧r.fine4:=λk hk=>by
  refine⟨rs[k]'(by omega),?_,hf _ (List.getElem_mem _)⟩;rw[hL,List.getElem?_map,List.getElem?_eq_getElem (by omega)];rfl
 have hj:=λd18 d19 i hi H Q=>l3j d2 d5 d6 d15 d18 d19 L rs hL h4 hf i hi H Q;clear hf hL h4;refine awp_loop_I 4 (λk s=>∃J,s=⟨[(2,d2),(5,d5),(6,d6),(15,d15),(16,.own 29 8 L),(17,.v (.int .i64 k))],H++J⟩) ⟨[],by simp⟩ ?_;rintro k s hk ⟨J,rfl⟩;simp only[Zgl 3 0,awp_seq,awp_reg,awp_block,awp_cond,Zge 3 4];simp;by_cases h1:k <4
 ·obtain⟨x,hx,fx⟩:=hget k h1;have hkI:(k:Int) <4:=by omega
  have w1:IntKind.i64.wrap ((k:Int)+1)=k+1:=wrap_i64 (by omega) (by omega);have q1:=(p7 x fx.ok).fsp;have q2:=(p51 x fx.ok).fsp;have q3:=(p54 x fx.ok).fsp;obtain⟨W,hW⟩:∃W,(if formedR x=true then encR x else [])=W:=⟨_,rfl⟩;have hWB:isB W:=by
   rw[←hW];split
   ·exact fx.B
   ·intro n hn;cases hn
  have s1:=bytesOf_nums W hWB;rw[hW]at q2 q3;have hjk:=λd18 d19 H Q=>hj d18 d19 k h1 H Q;have hcs:x.V= .agg [.int .i64 x.file,.int .i64 x.state,.int .i64 x.force,.list (x.claims.map Clm.V),.list (x.dates.map Dat.V),.list (x.bad.map (.int .i64)),.list (x.owners.map Own.V),.list (x.lics.map Lic.V)]:=rfl;rw[hcs]at q1 q2 q3 hx;simp only[nums]at q2 q3;simp at q1 q2 q3;simp[hkI,awp_skip];simp only[Zge 3 6];simp[hx];refine⟨_,_,q1 _,?_⟩;simp;refine⟨_,_,q2 _,?_⟩;simp only[Zge 3 7];simp[hx];refine⟨_,_,q3 _,?_⟩;simp only[Zge 3 8];simp[s1,awp_skip];simp only[Zge 3 10];simp;refine hjk _ _ _ _ ?_;simp only[Zge 3 15];by_cases h0:formedR x=true
  ·rw[if_pos h0]at hW;subst hW;have q4:=(p113e (encR x) fx.B (Nat.le_trans fx.len (by decide))).fsp;rw[dR_of fx.ok h0 (Nat.le_trans fx.len (by decide))]at q4;simp only[optR]at q4;rw[hcs]at q4;have q5:=λJ=>p44 (encR x) (Nat.le_trans fx.len (by decide)) J;obtain⟨rest,hrest⟩:=rInt_encR fx.ok.file;have q6:∀X:Row,FSp Tryz.prog GLx 13 [.ref (H.length+(J.length+1)) 0] (H++(J++[X,rdr (encR x)])) [.v (.int .i64 x.file)] (H++(J++[X,rdE rest 0])):=by
    intro X;have h2:=p45e (encR x,0) fx.B (H++(J++[X,rdr (encR x)])) (H.length+(J.length+1)) (by rw[List.getElem?_append_right (by omega),List.getElem?_append_right (by omega)];simp;rfl);rw[hrest,List.set_append_right _ _ (by omega),List.set_append_right _ _ (by omega)]at h2;simpa[show H.length+(J.length+1)-H.length-J.length=1 by omega,RS.row]using h2
   have q7:=p14 x fx.ok;have q8:=c10 x x fx.sm fx.sm;rw[hcs]at q7 q8;simp only[nums]at q4 q5;simp at q4 q8;simp[h0,awp_skip];simp only[Zge 3 16];simp;refine⟨_,_,q4 _,?_⟩;simp[putL,D.toRow];simp only[Zge 3 17];simp;refine⟨_,_,(q5 _),?_⟩;simp;rw[awp_regA];refine atok_mono _ (λs hs=>⟨s,.inl rfl,hs⟩) ?_;simp only[Zge 3 18];simp[hx]
   constructor
   ·refine⟨_,_,(q6 _),?_⟩;simp[hx,D.vs?,D.v?];refine⟨_,_,⟨rfl,rfl⟩,_,q7,?_⟩;simp[hx];refine⟨_,_,⟨rfl,rfl⟩,_,q8,?_⟩;simp[awp_skip];simp only[Zge 3 5];simp[w1,h1]
   ·refine⟨_,_,(q6 _),?_⟩;simp[hx,D.vs?,D.v?];refine⟨_,_,⟨rfl,rfl⟩,_,q7,?_⟩;simp[hx];refine⟨_,_,⟨rfl,rfl⟩,_,q8,?_⟩;simp[awp_skip];simp only[Zge 3 5];simp[w1,h1]
  ·simp[h0,awp_exit];simp only[Zge 3 5];simp[w1,h1]
 ·have hk4:k=4:=by omega
  subst hk4;simp[awp_exit];simpa using hQ J
end
set_option maxHeartbeats 4000000 in
theorem l3t (T:List (List Int)) (hT:∀b∈T,isB b∧b.length≤2^30) (hn:T.length=4) (H:List Row) (Q:AExit→St→Prop) (hQ:∀e J,Q (.exit 4) ⟨e,J⟩):
  awp Tryz.prog GLx (.loop (lG 3 2)) Q ⟨[(31,.own 23 1 (T.map (nums .u8))),(32,.v (.int .i64 (0:Nat)))],H⟩:=by
 refine awp_loop_I 4 (λk s=>∃J,s=⟨[(31,.own 23 1 (T.map (nums .u8))),(32,.v (.int .i64 k))],J⟩) ⟨H,rfl⟩ ?_;rintro k s hk ⟨J,rfl⟩;simp only[Zgl 3 2,awp_seq,awp_reg,awp_block,awp_cond,Zge 3 30];by_cases h1:k <4
 ·obtain⟨b,hb⟩:∃b,T[k]?=some b:=⟨_,List.getElem?_eq_getElem (by omega)⟩;obtain⟨hB,hl⟩:=hT b (List.mem_of_getElem? hb);have hkI:(k:Int) <4:=by omega
  have hw:IntKind.i64.wrap ((k:Int)+1)=k+1:=wrap_i64 (by omega) (by omega);have w0:IntKind.i64.wrap 0=0:=by decide
  obtain⟨X0,e,hD,hf,hc⟩:=dR_out b hB hl;have q1:=(p113e b hB hl).fsp;have q2:=(p14 X0 hf).fsp;have q3:=(p54 X0 hf).fsp;rw[hD]at q1;have s2:=bytesOf_nums b hB;have hbk:(T.map (nums .u8))[k]?=some (nums .u8 b):=by rw[List.getElem?_map,hb];rfl
  have hTl:(T.map (nums .u8)).length=4:=by simp[hn]
  generalize T.map (nums .u8)=TV at*;have h1':k <TV.length:=by omega
  rcases hc with ⟨rfl,h2,h3⟩|⟨rfl,rfl⟩
  ·rw[h2,h3,if_pos rfl,if_pos rfl]at q3;clear hD hf h2 h3;simp only[nums,Rgt.V,Rgt.cs]at hbk q1 q2 q3;simp at q1 q2 q3;obtain⟨_,hg⟩:=List.getElem?_eq_some_iff.1 hbk;simp[hkI,awp_skip];simp only[Zge 3 32];simp[h1',hg];refine⟨_,_,q1 _,?_⟩;simp[putL,D.toRow];simp only[Zge 3 33];simp[D.vs?,D.v?];refine⟨_,_,q2 _,?_⟩;simp;refine⟨_,_,q3 _,?_⟩;simp only[awp_regD,Zge 3 34];simp[s2,h1',hg,awp_skip];simp only[Zge 3 31];simp[hw,h1]
  ·obtain⟨W2,hW2⟩:∃W2,(if formedR noR=true then encR noR else [])=W2:=⟨_,rfl⟩;obtain⟨E2,hE2⟩:∃E2:Int,(if formedR noR=true then 0 else 1)=E2:=⟨_,rfl⟩;rw[hW2,hE2]at q3;simp only[noR,nums,Rgt.V,Rgt.cs]at hbk q1 q2 q3;simp at q1 q2 q3;obtain⟨_,hg⟩:=List.getElem?_eq_some_iff.1 hbk;simp[hkI,awp_skip];simp only[Zge 3 32];simp[h1',hg];refine⟨_,_,q1 _,?_⟩;simp[putL,D.toRow];simp only[Zge 3 33];simp[D.vs?,D.v?];refine⟨_,_,q2 _,?_⟩;simp;refine⟨_,_,q3 _,?_⟩;simp only[awp_regD,Zge 3 34];simp[w0,awp_skip];simp only[Zge 3 31];simp[hw,h1]
 ·obtain rfl:k=4:=by omega
  simp[awp_exit];exact hQ _ _
theorem aroundI_nn (a n:Int) (ha:i64 a):0≤aroundI a n:=by
 unfold aroundI;unfold i64 at ha;split
 ·have e1:IntKind.i64.wrap (a+1)=a+1:=wrap_i64 (by omega) (by omega);have e2:IntKind.i64.wrap (0-(a+1))=0-(a+1):=wrap_i64 (by omega) (by omega);rw[e1,e2];exact Int.tmod_nonneg _ (by omega)
 ·exact Int.tmod_nonneg _ (by omega)
theorem put0 (W:List Int) {i:Nat} (hi:i <W.length) (d:Int):putL ((W.map (V.int .u8)).map D.v) i [.v (.int .u8 d)]=((W.set i d).map (V.int .u8)).map D.v:=by
 have:=put1 W hi d 0;simpa using this
def c3T0:AC:=(la 3).R.R.R
def c3U0:AC:=c3T0.R.R.R
def c3X:AC:=c3U0.R.R.R.R.R.R
def cl28:List (List Nat):=[[],[],[1],[1,2],[0,1,2,3],[],[],[],[],[7,8],[],[10],[7,8,9,10,11],[0,1,2,3,4,5,6,7,8,9,10,11,12],[0,1,2,3,4,5,6,7,8,9,10,11,12,13]]
def c3U:AC:= .seq c3U0.L (.seq c3U0.R.L (.seq c3U0.R.R.L (.seq c3U0.R.R.R.L (.seq c3U0.R.R.R.R.L (.seq (.regV (oG 3 28) [31] cl28) c3X)))))
def c3T:AC:= .seq c3T0.L (.seq c3T0.R.L (.seq c3T0.R.R.L c3U))
def c3:AC:= .seq (la 3).L (.seq (la 3).R.L (.seq (la 3).R.R.L c3T))
theorem k3:chkF Tryz.prog GLx 3 7 c3 [.t 14]=true:=by kernel_rfl
structure I28 (H:List Row) (r n M:Nat) (RW WV LV BV:List V) (c:Int) (d:Nat→Bool) (s:St):Prop where
 h:s.h=if d 5 then H.set r .dead else H
 f5:find s.e 5= .v (.list RW)
 f6:find s.e 6= .v (.int .u8 c)
 f26:find s.e 26= .v (.list WV)
 f29:d 5=false→find s.e 29= .sref r n
 f30:d 6=false→find s.e 30= .own 5 1 LV
 f173:d 0=true→find s.e 173= .v (.list RW)
 f174:d 1=true→find s.e 174= .v (.list RW)
 f175:d 2=true→find s.e 175= .v (.int .i64 RW.length)
 f176:d 3=true→find s.e 176= .v (.int .i64 M)
 f177:d 4=true→find s.e 177= .v (.list (RW.take M))
 f178:d 5=true→find s.e 178= .v (.list BV)
 f179:d 6=true→find s.e 179= .own 5 1 LV
 f180:d 7=true→d 9=false→find s.e 180= .nil 5 1
 f181:d 8=true→find s.e 181= .v (.list WV)
 f182:d 9=true→d 12=false→find s.e 182= .own 5 1 WV
 f183:d 10=true→find s.e 183= .v (.int .u8 c)
 f184:d 11=true→find s.e 184= .own 5 1 [.int .u8 c]
 f185:d 12=true→find s.e 185= .own 5 1 (WV++[.int .u8 c])
 f186:d 13=true→d 14=false→find s.e 186= .own 23 1 [.list (RW.take M),.list BV,.list LV,.list (WV++[.int .u8 c])]
 f31:d 14=true→find s.e 31= .own 23 1 [.list (RW.take M),.list BV,.list LV,.list (WV++[.int .u8 c])]
set_option maxHeartbeats 16000000 in
theorem any28 {K:St→Prop} (H:List Row) (r n M:Nat) (RW WV LV BV:List V) (c:Int) (Z:List D) (hH:H[r]?=some (.cells Z)) (hZ:D.vs? (Z.take (n*1))=some (BV.flatMap V.cells)) (hB1:BV.length=n) (hB2:∀x∈BV,x.cells.length=1)
  (hM:(if (60:Int) <(RW.length:Int) then 60 else (RW.length:Int))=(M:Int)) (hM2:M≤RW.length) (hRW:headOK 1 RW=true) (hWV:headOK 1 WV=true) (hr1:roomy WV.length 1=true) (hr2:roomy (WV.length+1) 1=true)
  {s:St} (h0:I28 H r n M RW WV LV BV c (λj=>decide (15≤j)) s) (hK:∀e,find e 31= .own 23 1 [.list (RW.take M),.list BV,.list LV,.list (WV++[.int .u8 c])]→K ⟨e,H.set r .dead⟩):
  AnyD Tryz.prog GLx (oG 3 28) cl28 K 15 (List.range 15) s:=by
 refine anyD_all (I28 H r n M RW WV LV BV c) ?_ ?_ h0
 ·rintro d i ⟨se,sh⟩ hi hdi hdep _ hI;have hcases:i=0∨i=1∨i=2∨i=3∨i=4∨i=5∨i=6∨i=7∨i=8∨i=9∨i=10∨i=11∨i=12∨i=13∨i=14:=by omega
  obtain⟨h,f5,f6,f26,f29,f30,f173,f174,f175,f176,f177,f178,f179,f180,f181,f182,f183,f184,f185,f186,f31⟩:=hI;simp only at h f5 f6 f26 f29 f30 f173 f174 f175 f176 f177 f178 f179 f180 f181 f182 f183 f184 f185 f186 f31;subst h;rcases hcases with rfl|rfl|rfl|rfl|rfl|rfl|rfl|rfl|rfl|rfl|rfl|rfl|rfl|rfl|rfl
  ·simp[awpG,Zge 3 28,f5]
   constructor<;>simp_all [did]
  ·simp[awpG,Zge 3 28,f5]
   constructor<;>simp_all [did]
  ·have g1:=f174 (hdep 1 (by simp[cl28]));simp[awpG,Zge 3 28,g1]
   constructor<;>simp_all [did]
  ·have g1:=f175 (hdep 2 (by simp[cl28]));simp[awpG,Zge 3 28,g1,hM]
   constructor<;>simp_all [did]
  ·have g1:=f173 (hdep 0 (by simp[cl28]));have g2:=f176 (hdep 3 (by simp[cl28]));simp[awpG,Zge 3 28,g1,g2,hM2,hRW]
   constructor<;>simp_all [did]
  ·have g1:=f29 hdi;simp[awpG,Zge 3 28,g1,hdi,hH];refine⟨BV,hB1,hB2,by simpa using hZ,?_⟩
   constructor<;>simp_all [did]
  ·have g1:=f30 hdi;simp[awpG,Zge 3 28,g1]
   constructor<;>simp_all [did]
  ·simp[awpG,Zge 3 28]
   constructor<;>simp_all [did]
  ·simp[awpG,Zge 3 28,f26]
   constructor<;>simp_all [did]
  ·have g1:=f180 (hdep 7 (by simp[cl28])) hdi;have g2:=f181 (hdep 8 (by simp[cl28]));simp[awpG,Zge 3 28,g1,g2,hWV,hr1]
   constructor<;>simp_all [did]
  ·simp[awpG,Zge 3 28,f6]
   constructor<;>simp_all [did]
  ·have g1:=f183 (hdep 10 (by simp[cl28]));simp[awpG,Zge 3 28,g1]
   constructor<;>simp_all [did]
  ·have g1:=f182 (hdep 9 (by simp[cl28])) hdi;have g2:=f184 (hdep 11 (by simp[cl28]));simp[awpG,Zge 3 28,g1,g2,hr2]
   constructor<;>simp_all [did]
  ·have g1:=f177 (hdep 4 (by simp[cl28]));have g2:=f178 (hdep 5 (by simp[cl28]));have g3:=f179 (hdep 6 (by simp[cl28]));have g4:=f185 (hdep 12 (by simp[cl28]));simp[awpG,Zge 3 28,g1,g2,g3,g4]
   constructor<;>simp_all [did]
  ·have g1:=f186 (hdep 13 (by simp[cl28])) hdi;simp[awpG,Zge 3 28,g1]
   constructor<;>simp_all [did]
 ·rintro d ⟨se,sh⟩ hd hI;have h:=hI.h;rw[hd 5 (by decide)]at h;simp only[if_true]at h;subst h;exact hK se (hI.f31 (hd 14 (by decide)))
section
variable (at_ c:Int) (ha:i64 at_) (hc:0≤c∧c <256) (raw:List Int) (hr:isB raw)
include ha hc hr
set_option maxHeartbeats 8000000 in
theorem l3u (d150:D) (W:List Int) (hEp:0 <W.length) (hEl:W.length≤65536) (hEB:isB W) (h15:PSp Tryz.prog GLx 15 [] [.bool true]) (J:List Row) (Q:AExit→St→Prop) (hQ:∀J,Q .ret ⟨[(14,.v (.bool true))],J⟩):
  awp Tryz.prog GLx c3U Q ⟨[(2,.v (.int .i64 at_)),(5,.v (nums .u8 raw)),(6,.v (.int .u8 c)),(26,.v (nums .u8 W)),(150,d150)],J⟩:=by
 have q15:=h15.fsp;have q11:=(p11 at_ W.length (by omega)).fsp;have g1:=aroundI_nn at_ W.length ha;have g2:=(aroundI_b at_ W.length (by omega)).2;obtain⟨i,hi⟩:∃i:Nat,aroundI at_ W.length=i:=⟨(aroundI at_ W.length).toNat,by omega⟩;rw[hi]at q11 g1 g2;have hil:i <W.length:=by omega
 have hW:=hd_int .u8 W;have hne:W≠[]:=List.length_pos_iff.1 hEp;have hr1:roomy W.length 1=true:=by simp[roomy];omega
 have hr2:roomy (W.length+1) 1=true:=by simp[roomy];omega
 have hwi:IntKind.i64.wrap ((i:Int)+1)=i+1:=wrap_i64 (by omega) (by omega);have hm:min raw.length 60≤raw.length:=Nat.min_le_left _ _;have hloop:=λH Q=>l3t [raw.take (min raw.length 60),W.set i c,W.take i++W.drop (i+1),W++[c]] (by
  intro b hb;simp only[List.mem_cons,List.not_mem_nil,or_false]at hb;rcases hb with rfl|rfl|rfl|rfl
  ·exact⟨λx hx=>hr x (List.mem_of_mem_take hx),by rw[List.length_take];omega⟩
  ·refine⟨λx hx=>?_,by rw[List.length_set];omega⟩;rcases List.mem_or_eq_of_mem_set hx with hx|rfl
   ·exact hEB x hx
   ·exact hc
  ·refine⟨λx hx=>?_,by simp only[List.length_append,List.length_take,List.length_drop];omega⟩;rcases List.mem_append.1 hx with hx|hx
   ·exact hEB x (List.mem_of_mem_take hx)
   ·exact hEB x (List.mem_of_mem_drop hx)
  ·refine⟨λx hx=>?_,by simp only[List.length_append,List.length_cons,List.length_nil];omega⟩;rcases List.mem_append.1 hx with hx|hx
   ·exact hEB x hx
   ·rw[List.mem_singleton.1 hx];exact hc) rfl H Q
 have ht1:(raw.map (V.int .u8)).length=raw.length:=by simp
 have w60:(if (60:Int) <(raw.length:Int) then 60 else (raw.length:Int))=((min raw.length 60:Nat):Int):=by split<;>omega
 have hRW:=hd_int .u8 raw;simp only[nums,List.map_cons,List.map_nil,List.map_take,List.map_append,List.map_drop]at*;generalize raw.map (V.int .u8)=RW at*;rw[show c3U= .seq (.reg (oG 3 23) _) (.seq (.reg (oG 3 24) _) (.seq (.reg (oG 3 25) _) (.seq (.reg (oG 3 26) _) (.seq (.regD (oG 3 27) _ _) (.seq (.regV (oG 3 28) [31] cl28) (.seq (.seq (.reg (oG 3 29) _) (.block 4 (.loop (lG 3 2)))) (.seq (.reg (oG 3 36) _) .ret))))))) from rfl];simp only[awp_seq,awp_reg,awp_block,Zge 3 23]
 try simp at q11
 simp;refine⟨_,_,q11 _,?_⟩;simp only[Zge 3 24];simp[hW,hr1,hne];have hst:=put0 W hil c;have hl2:i+1≤((W.map (V.int .u8)).map D.v).length:=by simp;omega
 rw[k_flat];obtain⟨Z,hZ⟩:∃Z,((W.set i c).map (V.int .u8)).map D.v=Z:=⟨_,rfl⟩;rw[hZ]at hst;generalize (W.map (V.int .u8)).map D.v=ds at*;simp only[Zge 3 25];simp[hil,hl2,hst];simp only[Zge 3 26,awp_regD,Zge 3 27];have hi1:i≤W.length:=by omega
 have hh1:headOK 1 ((W.map (V.int .u8)).take i)=true:=by rw[←List.map_take];exact hd_int _ _
 have hh2:headOK 1 ((W.map (V.int .u8)).drop (i+1))=true:=by rw[←List.map_drop];exact hd_int _ _
 have hr4:roomy i 1=true:=by simp[roomy];omega
 have hr5:roomy (i+(W.length-(i+1))) 1=true:=by simp[roomy];omega
 have hil1:i+1≤W.length:=by omega
 have hm1:min i W.length=i:=by omega
 have hi0:(0:Int)≤(i:Int)+1:=by omega
 have hWt:(W.map (V.int .u8)).take W.length=W.map (V.int .u8):=List.take_of_length_le (by simp);simp[hwi,hi0,hi1,hil1,hh1,hh2,hr4,hr5,hm1,hWt];rw[awp_regV];have hvs:D.vs? (Z.take (W.length*1))=some (((W.set i c).map (V.int .u8)).flatMap V.cells):=by
  have h1:W.length*1=(((W.set i c).map (V.int .u8)).map D.v).length:=by simp
  rw[←hZ,h1,List.take_length,k_flat];exact vs_mapQ _
 refine any28 (J++[Row.cells Z]) J.length W.length (min raw.length 60) RW (W.map (V.int .u8)) ((W.map (V.int .u8)).take i++(W.map (V.int .u8)).drop (i+1)) ((W.set i c).map (V.int .u8)) c Z (by simp) hvs (by simp) ?_ ?_ ?_ hRW hW (by simpa using hr1) (by simpa using hr2) ?_ ?_
 ·intro v hv;obtain⟨q,_,rfl⟩:=List.mem_map.1 hv;rfl
 ·rw[ht1];exact w60
 ·rw[ht1];exact hm
 ·constructor<;>simp
 ·intro e f31;simp only[Zge 3 29];simp[f31];simp at hloop;refine hloop _ _ ?_;intro e J;simp;simp only[Zge 3 36];simp;refine⟨_,_,q15 _,?_⟩;simp[awp_ret];exact hQ _
theorem l3T (a s1 b s2:Rgt) (fa:a.fine4) (fb:s1.fine4) (fc:b.fine4) (fd:s2.fine4) (h15:PSp Tryz.prog GLx 15 [] [.bool true]) (Q:AExit→St→Prop) (hQ:∀J,Q .ret ⟨[(14,.v (.bool true))],J⟩):
  awp Tryz.prog GLx c3T Q ⟨[(2,.v (.int .i64 at_)),(5,.v (nums .u8 raw)),(6,.v (.int .u8 c)),(15,.ref 0 0),(16,.own 29 8 [a.V,s1.V,b.V,s2.V])],[.cells (a.cs.map .v)]⟩:=by
 have hloop:=λd2 d5 d6 d15 H Q=>l3i d2 d5 d6 d15 [a.V,s1.V,b.V,s2.V] [a,s1,b,s2] rfl rfl (by simp[fa,fb,fc,fd]) H Q;have q8:=(p54 a fa.ok).fsp;have q15:=h15.fsp;have hl:=λ(h:formedR a=true) d J Q hQ=>l3u at_ c ha hc raw hr d (encR a) encR_pos fa.len fa.B h15 J Q hQ;generalize [a.V,s1.V,b.V,s2.V]=L at*;rw[show c3T= .seq (.seq (.reg (oG 3 3) _) (.block 0 (.loop (lG 3 0)))) (.seq (.reg (oG 3 20) _) (.seq (.seq (.reg (oG 3 21) _) (.cond _ (.seq (.reg (oG 3 22) _) .ret) .skip)) c3U)) from rfl];generalize c3U=C at*;simp only[awp_seq,awp_reg,awp_block,awp_cond,Zge 3 3];simp;refine hloop _ _ _ _ _ _ ?_;intro J;simp only[Zge 3 20];have hp:0 <(encR a).length:=encR_pos;simp only[Rgt.V,Rgt.cs,nums]at*;simp at q8;simp;by_cases hF:formedR a=true
 ·simp only[hF,if_true]at q8;have hl:=hl hF;generalize encR a=W at*;refine⟨_,_,q8 _,?_⟩;simp only[Zge 3 21];have hne:¬(W.length:Int)=0:=by omega
  have hne2:W≠[]:=List.length_pos_iff.1 hp;simp[hne2,awp_skip];exact hl _ _ _ hQ
 ·simp[hF]at q8;refine⟨_,_,q8 _,?_⟩;simp only[Zge 3 21];simp;simp only[Zge 3 22];simp;refine⟨_,_,q15 _,?_⟩;simp[awp_ret];exact hQ _
end
set_option maxHeartbeats 4000000 in
theorem law3 (l k:List Int) (at_ how by_:Int) (h15:PSp Tryz.prog GLx 15 [] [.bool true]) (ha:i64 at_) (_hh:i64 how) (hb:i64 by_) (raw:List Int) (hr:isB raw) (c:Int) (hc:0≤c∧c <256):
  PSp Tryz.prog GLx 3 [nums .i64 l,nums .i64 k,.int .i64 at_,.int .i64 how,.int .i64 by_,nums .u8 raw,.int .u8 c] [.bool true]:=by
 refine psp_of_awp k3 rfl ?_;have q4a:=(p48 l).fsp;have q4b:=p48 k;have q5a:=p12 (someF l) (someF_tiny l) (by decide) how by_;have q5b:=p12 (someF k) (someF_tiny k) (by decide) at_ by_;have fa:=some_fine l;have fb:=spoil_fine l how by_ hb;have fc:=some_fine k;have fd:=spoil_fine k at_ by_ hb;generalize spoilF (someF l) how by_=s1 at*;generalize spoilF (someF k) at_ by_=s2 at*;generalize someF k=b at*;generalize someF l=a at*;have hT:=λQ hQ=>l3T at_ c ha hc raw hr a s1 b s2 fa fb fc fd h15 Q hQ;rw[show c3= .seq (.reg (oG 3 0) _) (.seq (.reg (oG 3 1) _) (.seq (.regA (oG 3 2) _ _ _) c3T)) from rfl];generalize c3T=C at*;simp only[Rgt.V,Rgt.cs,nums]at*;simp at q4a;simp only[awp_seq,awp_reg,Zge 3 0,entry];simp;simp only[Zge 3 1];simp;refine⟨_,_,q4a _,?_⟩;simp[putL,D.toRow];rw[awp_regA];refine atok_mono _ (λs hs=>⟨s,.inl rfl,hs⟩) ?_;simp only[Zge 3 2];simp;refine⟨_,_,⟨rfl,rfl⟩,_,q5a,?_⟩;simp
 constructor
 ·refine⟨_,_,⟨rfl,rfl⟩,_,q4b,?_⟩;simp;refine⟨_,_,⟨rfl,rfl⟩,_,q4b,?_⟩;simp;refine⟨_,_,⟨rfl,rfl⟩,_,q5b,?_⟩;simp;simp at hT;refine hT _ λJ=>?_;simp
 ·refine⟨_,_,⟨rfl,rfl⟩,_,q4b,?_⟩;simp;refine⟨_,_,⟨rfl,rfl⟩,_,q4b,?_⟩;simp;refine⟨_,_,⟨rfl,rfl⟩,_,q5b,?_⟩;simp;simp at hT;refine hT _ λJ=>?_;simp
end Go.Va
