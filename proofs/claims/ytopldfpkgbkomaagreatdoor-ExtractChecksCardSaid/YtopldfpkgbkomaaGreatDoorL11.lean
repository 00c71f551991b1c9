/- Laws, part 11. No condition. -/
import Derived.Test.YtopldfpkgbkomaaGreatDoorL08
set_option linter.all false
set_option maxRecDepth 100000
set_option maxHeartbeats 4000000
noncomputable section
namespace Go.Va
open Go.Proofs
section
def Wa(l:List Rgt):List (Int×List Int):=l.foldl (λps r=>Te ps r.file (A7 r)) []
def P1(l:List Rgt)(r:Rgt):Wa (l++[r])=Te (Wa l) r.file (A7 r):=by simp[Wa]
def VU{ps:List (Int×List Int)}{k:Int}{v:List Int}{p:Int×List Int}:p∈Te ps k v↔p=(k,v)\/p∈ps:=by
 unfold Te;generalize Wy ps k=i;have:p∈ps↔p∈ps.take i\/p∈ps.drop i:=by rw[<-rp,sa]
 rw[this];simp only[rp,rj]
 constructor
 .rintro(h|h|h)
  .exact .inr (.inl h)
  .exact .inl h
  .exact .inr (.inr h)
 .rintro(h|h|h)
  .exact .inr (.inl h)
  .exact .inl h
  .exact .inr (.inr h)
def OW:∀(l:List Rgt)(k:Nat),k<=l.length->∀p,p∈Wa (l.take k)↔p∈(l.take k).map Fm
 |l,0,_,p=>by simp[Wa]
 |l,k+1,hk,p=>by obtain⟨r,G⟩:∃r,l[k]?=some r:=⟨_,rW AE⟩;rw[GT G,P1,VU,OW l k AE,r9,rp];simp[Fm,or_comm]
variable {k:Nat}
def Uw{l:List Rgt}(J:k<=l.length)(f:Int):(Wa (l.take k)).findIdx? (λp=>p.1==f)=none↔(l.take k).any (λq=>q.file==f)=false:=by
 rw[<-F2,uf,uf]
 constructor
 .intro h p G;exact h p ((OW l k J p).2 G)
 .intro h p G;exact h p ((OW l k J p).1 G)
def XR(ps:List (Int×List Int))(k:Int)(v:List Int)(h:∀p∈ps,p.1≠k):Jk (Te ps k v)=upd (Jk ps) k (CX k v):=by
 funext x
 simp only[Jk,upd,Te];generalize Wy ps k=i;have G:ps.find? (λp=>p.1==x)=((ps.take i).find? (λp=>p.1==x)).or ((ps.drop i).find? λp=>p.1==x):=by rw[<-List.find?_append,sa]
 rw[List.find?_append,List.find?_cons];by_cases hx:x=k
 .subst hx;have:(ps.take i).find? (λp=>p.1==x)=none:=tb.2 λp J=>by have:=h p (s9 J);simpa using this
  simp[this]
 .have:(k==x)=false:=by simpa using λe:k=x=>hx e.symm
  rw[this,if_neg hx,G]
def Uv{l:List Rgt}:∀k≤l.length,(∀j <k,GM l j=0)->Jk (Wa (l.take k))=Jk ((l.take k).map Fm)
 |0,_,_=>by simp[Wa]
 |k+1,hk,h=>by
  obtain⟨r,J⟩:∃r,l[k]?=some r:=⟨_,rW AE⟩;have O:=Uv k AE λj Z=>h j AE;obtain⟨U,h2,W⟩:=Oh J (h k AE);have G:∀p∈Wa (l.take k),p.1≠r.file:=by have:=(Uw (l:=l) AE r.file).2 h2;rw[uf]at this;intro p N;simpa using this p N
  have e:Fm r=(r.file,A7 r):=rfl;rw[GT J,P1,r9,List.map_singleton,e,QQ _ _ _ ((F2 _ _).2 h2),XR _ _ _ G,O]
end
open Go.Proofs
open Go.Proofs
end Go.Va
