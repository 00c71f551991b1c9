/- Laws that ExtractBytes leans on, part 41. No condition of its own. -/
import Derived.Test.YtopldfpkgbkomaaGreatDoorL37
import Derived.Test.YtopldfpkgbkomaaGreatDoorL39
import Derived.Test.YtopldfpkgbkomaaGreatDoorL40
set_option linter.all false
set_option maxRecDepth 100000
set_option maxHeartbeats 4000000
noncomputable section
namespace Go.Va
open Go.Proofs
theorem J8 (R:List Rgt) (r:Rgt):(Im R r).Perm (r::R):=by
 unfold Im;generalize JL R r.file=i;have:=List.perm_middle (a:=r) (l₁:=R.take i) (l₂:=R.drop i)
 rwa [rJ]at this
theorem T9:∀l:List Rgt,(Ra l).Perm l:=by
 have:∀(l acc:List Rgt),(l.foldl Im acc).Perm (acc++l):=by
  intro l;induction l with
  |nil=>intro acc;simp
  |cons r l ih=>
   intro acc;refine(ih _).trans ?_;have h1:(Im acc r++l).Perm ((r::acc)++l):=(J8 acc r).append_right l;exact h1.trans (List.perm_middle (a:=r) (l₁:=acc) (l₂:=l)).symm
 intro l;simpa[Ra]using this l []
theorem Uv {R:List Rgt} (h:R.Pairwise λa b=>a.file <b.file) {r:Rgt} (hr:∀q∈R,q.file≠r.file):(Im R r).Pairwise λa b=>a.file <b.file:=by
 unfold Im JL;induction R with
 |nil=>simp
 |cons q R ih=>
  rw[List.pairwise_cons]at h;have hq:=hr q (by simp);rw[List.findIdx_cons];by_cases hlt:q.file <r.file
  ·simp only[hlt,decide_true,Bool.not_true,cond_false,tb,List.drop_succ_cons,rz];rw[List.pairwise_cons];refine⟨λx hx=>?_,ih h.2 λx hx=>hr x (by simp[hx])⟩;rcases (J8 R r).mem_iff.1 hx with hx;rcases qL.1 hx with rfl|hx
   ·exact hlt
   ·exact h.1 x hx
  ·simp only[hlt,decide_false,Bool.not_false,cond_true,List.take_zero,List.drop_zero,sX];rw[List.pairwise_cons,List.pairwise_cons];refine⟨λx hx=>?_,h⟩;rcases qL.1 hx with rfl|hx
   ·omega
   ·have:=h.1 x hx;omega
theorem WU {l:List Rgt} (hp:l.Pairwise λa b=>a.file≠b.file):(Ra l).Pairwise λa b=>a.file <b.file:=by
 have:∀(l acc:List Rgt),l.Pairwise (λa b=>a.file≠b.file)→(∀a∈acc,∀b∈l,a.file≠b.file)→acc.Pairwise (λa b=>a.file <b.file)→(l.foldl Im acc).Pairwise λa b=>a.file <b.file:=by
  intro l;induction l with
  |nil=>intro acc _ _ h;exact h
  |cons r l ih=>
   intro acc hp hd h;rw[List.pairwise_cons]at hp;refine ih _ hp.2 (λa ha b hb=>?_) (Uv h λq hq=>hd q hq r (by simp));rcases qL.1 ((J8 acc r).mem_iff.1 ha)with rfl|ha
   ·exact hp.1 b hb
   ·exact hd a ha b (by simp[hb])
 exact this l [] hp (by simp) .nil
theorem T8 {l:List Rgt} (hp:l.Pairwise λa b=>a.file≠b.file):Ra l=Nc l:=by
 have h1:=T9 l;have h2:=IF hp;have hs:=WU hp;have hsI:(Rb (l.map Rgt.file)).Pairwise λa b=>decide (a≤b)=true:=List.pairwise_mergeSort (by intro a b c h1 h2;simp at *;omega) (by intro a b;simp;omega) _;have ht:(Nc l).Pairwise λa b=>a.file≤b.file:=by
  unfold Nc;rw[List.pairwise_map];refine List.Pairwise.imp_of_mem ?_ hsI;intro a b ha hb hab;have hf:∀k∈Rb (l.map Rgt.file),(Ke l k).file=k:=λk hk=>by
   obtain⟨r,hr,rfl⟩:=qX.1 ((uQ _ _).mem_iff.1 hk);rw[FZ hp hr]
  rw[hf a ha,hf b hb];simpa using hab
 refine List.Perm.eq_of_pairwise (le:=λa b=>a.file≤b.file) ?_ (hs.imp λh=>sE h) ht (h1.trans h2.symm);intro a b ha hb hab hba;have hm:=h1.mem_iff.1 ha;have hm2:=h2.mem_iff.1 hb;have e:a.file=b.file:=by omega
 have f1:=FZ hp hm;have f2:=FZ hp hm2;rw[←f1,←f2,e]
theorem XI {rs:List Rgt} (h:∀r∈rs,0≤r.file∧r.file≤4095):In 0 4095 rs=rs:=by
 unfold In;rw[List.filter_eq_self];exact λr hr=>by simpa using h r hr
open Go.Proofs
section
theorem J6 {X:List V} (hX:X.length=13):∃x0 x1 x2 x3 x4 x5 x6 x7 x8 x9 x10 x11 x12,X=[x0,x1,x2,x3,x4,x5,x6,x7,x8,x9,x10,x11,x12]:=by
 match X,hX with
 |[x0,x1,x2,x3,x4,x5,x6,x7,x8,x9,x10,x11,x12],_=>exact⟨_,_,_,_,_,_,_,_,_,_,_,_,_,rfl⟩
variable {row:Row}
theorem eZ {row2:Row} (h:∀n,Row.low n row=true) (h2:∀n,Row.low n row2=true):Lows [row,row2]:=λr hr n=>by
 simp only[qL,qn,or_false]at hr;rcases hr with rfl|rfl
 ·exact h n
 ·exact h2 n
section
variable {h:List Row} (hl:Low h) {g:Nat} {X:List V} (hX:X.length=13) {E:Int}
include hl
include hX in
include hX in
include hX in
include hX in
end
end
end Go.Va
