/- Laws that ExtractBytes leans on, part 15. No condition of its own. -/
import Derived.Test.YtopldfpkgbkomaaGreatDoorL11
set_option linter.all false
set_option maxRecDepth 100000
set_option maxHeartbeats 4000000
noncomputable section
namespace Go.Va
open Go.Proofs
section
variable {row:Row} {h:List Row}
theorem Low.app (hl:Low h) (hr:Row.low (h.length+1) row=true):Low (h++[row]):=by
 intro x hx;rw[qG];rcases qW.1 hx with hx|hx
 ·have h1:=hl _ hx;cases x with
  |cells ds=>
   refine JR λd hd=>?_;obtain⟨i,hi⟩:=tJ hd;exact Fd (by simp) d (Ft h1 hi)
  |_=>exact h1
 ·simp at hx;subst hx;exact hr
theorem IdxR.map {P:Program} {GL:Ac} {fid:Nat} {caps:List D} {α:Type} {f:α→V} {p:α→Bool} {l:List α} {h:List Row} (hp:∀x∈l,FSp P GL fid (.v (f x)::caps) h [.v (.bool (p x))] h):
  IdxR P GL fid caps (l.map f) h (l.findIdx? p) h:=by
 induction l with
 |nil=>exact⟨rfl,rfl⟩
 |cons x xs ih=>
  refine⟨p x,h,hp x (by simp),?_⟩;cases hx:p x with
  |true=>simp[t6,hx]
  |false=>
   simp only[qY,if_false];exact⟨_,ih λy hy=>hp y (by simp[hy]),by simp[t6,hx]⟩
theorem Jm {α:Type} (p:α→Bool) (l:List α):(l.findIdx? λx=> !p x).isSome= !l.all p:=by
 rw[Po,List.not_all_eq_any_not]
theorem FS {α:Type} (f:α→α→Bool):∀l:List α,Co f l=true↔∀(i:Nat) x y,l[i]?=some x→l[i+1]?=some y→f x y=true
 |[]=>by simp[Co]
 |[x]=>by simp[Co]
 |x::y::l=>by
  simp only[Co,qI,FS f (y::l)]
  constructor
  ·rintro⟨h1,h2⟩ i a b ha hb;cases i with
   |zero=>simp at ha hb;subst ha;subst hb;exact h1
   |succ i=>exact h2 i a b (by simpa using ha) (by simpa using hb)
  ·exact λh=>⟨h 0 x y rfl rfl,λi a b ha hb=>h (i+1) a b (by simpa using ha) (by simpa using hb)⟩
theorem jx (x:Dat) (b:Bool) (fd:D) (fid:Nat) (caps:List D) (hf:FV fd fid caps) (h:List Row) (q:Nat) (hq:h[q]?=some (.cells [fd])) (hl:Low h)
  (hp:∀H,Low H→(∀(i:Nat) y,h[i]?=some y→H[i]?=some y)→FX fid (.v x.V::caps) H [.v (.bool b)] H):FX 288 [.v x.V,.ref q 0] h [.v (.bool (!b))] h:=by
 refine CW (KN 288) rfl (qM _) hl (by simp[D.lt]) ?_;have hq':=Az [.cells [.v (.int .i64 x.cl),.v (.int .i64 x.ix),.v (.int .i64 x.day),.v (.int .i64 x.file)]] hq;have hp':=hp _ (hl.app (row:= .cells [.v (.int .i64 x.cl),.v (.int .i64 x.ix),.v (.int .i64 x.day),.v (.int .i64 x.file)]) rfl) λ_ _ h=>Az _ h;have hcp:=hf.cp;have hfn:=hf.fn;have hny:=hf.ny;have hnt:=hf.nt;simp only[D.copy]at hcp
 try simp[Dat.V,]at hp'
 simp only[At 288,AE,AG,AA 288 0,Ab];simp[Dat.V,AA 288 1,hq',hcp,-Dt,-D.norm];rw[hfn];simp;refine⟨_,_,hp',?_⟩;simp[AD,AX 288]
theorem lA (l:List Dat) (P:Dat→Bool) (fd:D) (fid:Nat) (caps:List D) (hf:FV fd fid caps) (hfc:fd.cells?=some [fd]) (hfr:fd.toRow=fd) (h:List Row) (hl:Low h) (hlow:D.lt h.length fd=true) (hn:l.length <2^40)
  (hp:∀x∈l,∀H,Low H→(∀(i:Nat) y,h[i]?=some y→H[i]?=some y)→FX fid (.v x.V::caps) H [.v (.bool (P x))] H):
  FX 217 [.v (.list (l.map Dat.V)),fd] h [.v (.bool (l.all P))] h:=by
 refine CW (KN 217) rfl (qM _) hl (by simp[D.lt]) ?_;have hcp:=hf.cp;simp only[D.copy]at hcp;have hl2:Low (h++[.cells [fd]]):=hl.app (by simp[Row.low,D.lts,Fd (Nat.le_succ _) _ hlow]);have hidx:IdxR Tryz.prog An 288 [.ref h.length 0] (l.map Dat.V) (h++[.cells [fd]]) (l.findIdx? λx=> !P x) (h++[.cells [fd]]):=
  IdxR.map λx hx=>jx x (P x) fd fid caps hf _ h.length (Ja _ _) hl2 λH h1 h2=>hp x hx H h1 λi y hy=>h2 i y (Az _ hy)
 have hcf:=kC (.func 288 [.ref h.length 0]) 288 [.ref h.length 0] (FV.r 288 h.length 0 []) (l.map Dat.V) (by simpa using hn) (by
  intro x hx;obtain⟨y,_,rfl⟩:=qX.1 hx;exact⟨_,rfl,rfl⟩) hidx
 rw[Jm]at hcf;simp only[At 217,AE,AG,AA 217 0,Ab];simp[hcp,hfc,hfr,-D.cells?,-D.toRow];simp only[AA 217 1];simp
 try simp at hcf
 refine⟨_,_,hcf,?_⟩;simp[AD,AX 217]
theorem jw (x:Int) (b:Bool) (fd:D) (fid:Nat) (caps:List D) (hf:FV fd fid caps) (h:List Row) (q:Nat) (hq:h[q]?=some (.cells [fd])) (hl:Low h)
  (hp:∀H,Low H→(∀(i:Nat) y,h[i]?=some y→H[i]?=some y)→FX fid (.v (.int .i64 x)::caps) H [.v (.bool b)] H):FX 289 [.v (.int .i64 x),.ref q 0] h [.v (.bool (!b))] h:=by
 refine Fn 289 ?_;have hq':=hq;have hp':=hp h hl λ_ _ h=>h;have hcp:=hf.cp;have hfn:=hf.fn;have hny:=hf.ny;have hnt:=hf.nt;simp only[D.copy]at hcp
 try simp[]at hp'
 simp only[At 289,AE,AG,AA 289 0,Ab];simp[AA 289 1,hq',hcp,-Dt,-D.norm];rw[hfn];simp;refine⟨_,_,hp',?_⟩;simp[AD,AX 289]
theorem ku (l:List Int) (P:Int→Bool) (fd:D) (fid:Nat) (caps:List D) (hf:FV fd fid caps) (hfc:fd.cells?=some [fd]) (hfr:fd.toRow=fd) (h:List Row) (hl:Low h) (hlow:D.lt h.length fd=true) (hn:l.length <2^40)
  (hp:∀x∈l,∀H,Low H→(∀(i:Nat) y,h[i]?=some y→H[i]?=some y)→FX fid (.v (.int .i64 x)::caps) H [.v (.bool (P x))] H):
  FX 221 [.v (.list (l.map (V.int .i64))),fd] h [.v (.bool (l.all P))] h:=by
 refine CW (KN 221) rfl (qM _) hl (by simp[D.lt]) ?_;have hcp:=hf.cp;simp only[D.copy]at hcp;have hl2:Low (h++[.cells [fd]]):=hl.app (by simp[Row.low,D.lts,Fd (Nat.le_succ _) _ hlow]);have hidx:IdxR Tryz.prog An 289 [.ref h.length 0] (l.map (V.int .i64)) (h++[.cells [fd]]) (l.findIdx? λx=> !P x) (h++[.cells [fd]]):=
  IdxR.map λx hx=>jw x (P x) fd fid caps hf _ h.length (Ja _ _) hl2 λH h1 h2=>hp x hx H h1 λi y hy=>h2 i y (Az _ hy)
 have hcf:=lk (.func 289 [.ref h.length 0]) 289 [.ref h.length 0] (FV.r 289 h.length 0 []) (l.map (V.int .i64)) (by simpa using hn) (by
  intro x hx;obtain⟨y,_,rfl⟩:=qX.1 hx;exact⟨_,rfl⟩) hidx
 rw[Jm]at hcf;simp only[At 221,AE,AG,AA 221 0,Ab];simp[hcp,hfc,hfr,-D.cells?,-D.toRow];simp only[AA 221 1];simp
 try simp at hcf
 refine⟨_,_,hcf,?_⟩;simp[AD,AX 221]
theorem jt (x:Own) (b:Bool) (fd:D) (fid:Nat) (caps:List D) (hf:FV fd fid caps) (h:List Row) (q:Nat) (hq:h[q]?=some (.cells [fd])) (hl:Low h)
  (hp:∀H,Low H→(∀(i:Nat) y,h[i]?=some y→H[i]?=some y)→FX fid (.v x.V::caps) H [.v (.bool b)] H):FX 290 [.v x.V,.ref q 0] h [.v (.bool (!b))] h:=by
 refine CW (KN 290) rfl (qM _) hl (by simp[D.lt]) ?_;have hq':=Az [.cells [.v (.int .i64 x.party),.v (.int .i64 x.num),.v (.int .i64 x.den)]] hq;have hp':=hp _ (hl.app (row:= .cells [.v (.int .i64 x.party),.v (.int .i64 x.num),.v (.int .i64 x.den)]) rfl) λ_ _ h=>Az _ h;have hcp:=hf.cp;have hfn:=hf.fn;have hny:=hf.ny;have hnt:=hf.nt;simp only[D.copy]at hcp
 try simp[Own.V,]at hp'
 simp only[At 290,AE,AG,AA 290 0,Ab];simp[Own.V,AA 290 1,hq',hcp,-Dt,-D.norm];rw[hfn];simp;refine⟨_,_,hp',?_⟩;simp[AD,AX 290]
theorem kg (l:List Own) (P:Own→Bool) (fd:D) (fid:Nat) (caps:List D) (hf:FV fd fid caps) (hfc:fd.cells?=some [fd]) (hfr:fd.toRow=fd) (h:List Row) (hl:Low h) (hlow:D.lt h.length fd=true) (hn:l.length <2^40)
  (hp:∀x∈l,∀H,Low H→(∀(i:Nat) y,h[i]?=some y→H[i]?=some y)→FX fid (.v x.V::caps) H [.v (.bool (P x))] H):
  FX 225 [.v (.list (l.map Own.V)),fd] h [.v (.bool (l.all P))] h:=by
 refine CW (KN 225) rfl (qM _) hl (by simp[D.lt]) ?_;have hcp:=hf.cp;simp only[D.copy]at hcp;have hl2:Low (h++[.cells [fd]]):=hl.app (by simp[Row.low,D.lts,Fd (Nat.le_succ _) _ hlow]);have hidx:IdxR Tryz.prog An 290 [.ref h.length 0] (l.map Own.V) (h++[.cells [fd]]) (l.findIdx? λx=> !P x) (h++[.cells [fd]]):=
  IdxR.map λx hx=>jt x (P x) fd fid caps hf _ h.length (Ja _ _) hl2 λH h1 h2=>hp x hx H h1 λi y hy=>h2 i y (Az _ hy)
 have hcf:=lP (.func 290 [.ref h.length 0]) 290 [.ref h.length 0] (FV.r 290 h.length 0 []) (l.map Own.V) (by simpa using hn) (by
  intro x hx;obtain⟨y,_,rfl⟩:=qX.1 hx;exact⟨_,rfl,rfl⟩) hidx
 rw[Jm]at hcf;simp only[At 225,AE,AG,AA 225 0,Ab];simp[hcp,hfc,hfr,-D.cells?,-D.toRow];simp only[AA 225 1];simp
 try simp at hcf
 refine⟨_,_,hcf,?_⟩;simp[AD,AX 225]
theorem jp (x:Lic) (b:Bool) (fd:D) (fid:Nat) (caps:List D) (hf:FV fd fid caps) (h:List Row) (q:Nat) (hq:h[q]?=some (.cells [fd])) (hl:Low h)
  (hp:∀H,Low H→(∀(i:Nat) y,h[i]?=some y→H[i]?=some y)→FX fid (.v x.V::caps) H [.v (.bool b)] H):FX 294 [.v x.V,.ref q 0] h [.v (.bool (!b))] h:=by
 refine CW (KN 294) rfl (qM _) hl (by simp[D.lt]) ?_;have hq':=Az [.cells [.v (.int .i64 x.fr),.v (.int .i64 x.to),.v (.int .i64 x.fst),.v (.int .i64 x.lst)]] hq;have hp':=hp _ (hl.app (row:= .cells [.v (.int .i64 x.fr),.v (.int .i64 x.to),.v (.int .i64 x.fst),.v (.int .i64 x.lst)]) rfl) λ_ _ h=>Az _ h;have hcp:=hf.cp;have hfn:=hf.fn;have hny:=hf.ny;have hnt:=hf.nt;simp only[D.copy]at hcp
 try simp[Lic.V,]at hp'
 simp only[At 294,AE,AG,AA 294 0,Ab];simp[Lic.V,AA 294 1,hq',hcp,-Dt,-D.norm];rw[hfn];simp;refine⟨_,_,hp',?_⟩;simp[AD,AX 294]
theorem kZ (l:List Lic) (P:Lic→Bool) (fd:D) (fid:Nat) (caps:List D) (hf:FV fd fid caps) (hfc:fd.cells?=some [fd]) (hfr:fd.toRow=fd) (h:List Row) (hl:Low h) (hlow:D.lt h.length fd=true) (hn:l.length <2^40)
  (hp:∀x∈l,∀H,Low H→(∀(i:Nat) y,h[i]?=some y→H[i]?=some y)→FX fid (.v x.V::caps) H [.v (.bool (P x))] H):
  FX 230 [.v (.list (l.map Lic.V)),fd] h [.v (.bool (l.all P))] h:=by
 refine CW (KN 230) rfl (qM _) hl (by simp[D.lt]) ?_;have hcp:=hf.cp;simp only[D.copy]at hcp;have hl2:Low (h++[.cells [fd]]):=hl.app (by simp[Row.low,D.lts,Fd (Nat.le_succ _) _ hlow]);have hidx:IdxR Tryz.prog An 294 [.ref h.length 0] (l.map Lic.V) (h++[.cells [fd]]) (l.findIdx? λx=> !P x) (h++[.cells [fd]]):=
  IdxR.map λx hx=>jp x (P x) fd fid caps hf _ h.length (Ja _ _) hl2 λH h1 h2=>hp x hx H h1 λi y hy=>h2 i y (Az _ hy)
 have hcf:=jq (.func 294 [.ref h.length 0]) 294 [.ref h.length 0] (FV.r 294 h.length 0 []) (l.map Lic.V) (by simpa using hn) (by
  intro x hx;obtain⟨y,_,rfl⟩:=qX.1 hx;exact⟨_,rfl,rfl⟩) hidx
 rw[Jm]at hcf;simp only[At 230,AE,AG,AA 230 0,Ab];simp[hcp,hfc,hfr,-D.cells?,-D.toRow];simp only[AA 230 1];simp
 try simp at hcf
 refine⟨_,_,hcf,?_⟩;simp[AD,AX 230]
theorem k8 (l:List Dat) (hn:l.length≤2^40):PX 219 [.list (l.map Dat.V),.func 220 []] [.bool (Co HD l)]:=by
 refine BU 219 ?_;obtain⟨R,hR⟩:∃R,Co HD l=R:=⟨_,rfl⟩;rw[hR];have hri:=FS HD l;have hmx:(if IntKind.i64.wrap ((l.length:Int)-1) <0 then 0 else IntKind.i64.wrap ((l.length:Int)-1))=((l.length-1:Nat):Int):=by
  rw[AQ];split<;>omega
 simp only[At 219,AE,AG,AU,AA 219 0,AA 219 1,AV];simp[hmx];refine Ao (l.length-1) (λk=>⟨[(0,.v (.list (l.map Dat.V))),(1,.v (.func 220 [])),(9,.v (.int .i64 (l.length-1:Nat))),(10,.v (.int .i64 k))],[]⟩) (λk=>∀j <k,∀x y,l[j]?=some x→l[j+1]?=some y→HD x y=true) (by simp) (by simp) ?_;intro k hk hI;simp only[Zw,BA 219 0,AA 219 2];simp;by_cases hlt:k <l.length-1
 ·obtain⟨x,hx⟩:∃x,l[k]?=some x:=⟨_,qH (by omega)⟩;obtain⟨y,hy⟩:∃y,l[k+1]?=some y:=⟨_,qH (by omega)⟩;have hw:IntKind.i64.wrap ((k:Int)+1)=((k+1:Nat):Int):=AQ;have hge:(0:Int)≤((k+1:Nat):Int):=by omega
  have hlt':(k:Int) <((l.length-1:Nat):Int):=by omega
  have hp:=(kw x y).fsp;have hnat:(((k+1:Nat):Int)).toNat=k+1:=by omega
  generalize hb:HD x y=b at*;rw[if_pos (by omega),AB];simp only[AW,AA 219 3,AA 219 4];simp[Dat.V]at hp;simp only[rQ,tK]at hw hge hnat;simp[hx,hy,Dat.V,hw,hge,hnat];refine⟨_,_,(hp []),?_⟩;cases b with
  |false=>
   have hf:R=false:=by
    rw[←hR];cases h:Co HD l with
    |false=>rfl
    |true=>exact absurd ((hri.1 h k x y hx hy).symm.trans hb) (by decide)
   simp[AD,AA 219 5,AX 219,hf]
  |true=>
   simp[AB,AA 219 6,hw];refine⟨hlt,λj hj a c ha hc=>?_⟩;rcases qi j k with h|h
   ·simpa using hI j h a c ha hc
   ·have:j=k:=by omega
    subst this;rw[hx]at ha;rw[hy]at hc;cases ha;cases hc;simpa using hb
 ·have hk2:k=l.length-1:=by omega
  have ht:R=true:=by
   rw[←hR];refine hri.2 λj a c ha hc=>hI j ?_ a c ha hc;have:=(qK.1 hc).1;omega
  rw[if_neg (by omega),AJ];simp[AD,AA 219 7,AX 219,ht]
theorem kj (l:List Int) (hn:l.length≤2^40):PX 223 [.list (l.map (V.int .i64)),.func 224 []] [.bool (Co (λa b=>decide (a <b)) l)]:=by
 refine BU 223 ?_;obtain⟨R,hR⟩:∃R,Co (λa b=>decide (a <b)) l=R:=⟨_,rfl⟩;rw[hR];have hri:=FS (λa b=>decide (a <b)) l;have hmx:(if IntKind.i64.wrap ((l.length:Int)-1) <0 then 0 else IntKind.i64.wrap ((l.length:Int)-1))=((l.length-1:Nat):Int):=by
  rw[AQ];split<;>omega
 simp only[At 223,AE,AG,AU,AA 223 0,AA 223 1,AV];simp[hmx];refine Ao (l.length-1) (λk=>⟨[(0,.v (.list (l.map (V.int .i64)))),(1,.v (.func 224 [])),(9,.v (.int .i64 (l.length-1:Nat))),(10,.v (.int .i64 k))],[]⟩) (λk=>∀j <k,∀x y,l[j]?=some x→l[j+1]?=some y→(λa b=>decide (a <b)) x y=true) (by simp) (by simp) ?_;intro k hk hI;simp only[Zw,BA 223 0,AA 223 2];simp;by_cases hlt:k <l.length-1
 ·obtain⟨x,hx⟩:∃x,l[k]?=some x:=⟨_,qH (by omega)⟩;obtain⟨y,hy⟩:∃y,l[k+1]?=some y:=⟨_,qH (by omega)⟩;have hw:IntKind.i64.wrap ((k:Int)+1)=((k+1:Nat):Int):=AQ;have hge:(0:Int)≤((k+1:Nat):Int):=by omega
  have hlt':(k:Int) <((l.length-1:Nat):Int):=by omega
  have hp:=(kh x y).fsp;have hnat:(((k+1:Nat):Int)).toNat=k+1:=by omega
  generalize hb:(λa b=>decide (a <b)) x y=b at*;rw[if_pos (by omega),AB];simp only[AW,AA 223 3,AA 223 4];simp[hb]at hp;simp only[rQ,tK]at hw hge hnat;simp[hx,hy,hw,hge,hnat];refine⟨_,_,(hp []),?_⟩;cases b with
  |false=>
   have hf:R=false:=by
    rw[←hR];cases h:Co (λa b=>decide (a <b)) l with
    |false=>rfl
    |true=>exact absurd ((hri.1 h k x y hx hy).symm.trans hb) (by decide)
   simp[AD,AA 223 5,AX 223,hf]
  |true=>
   simp[AB,AA 223 6,hw];refine⟨hlt,λj hj a c ha hc=>?_⟩;rcases qi j k with h|h
   ·simpa using hI j h a c ha hc
   ·have:j=k:=by omega
    subst this;rw[hx]at ha;rw[hy]at hc;cases ha;cases hc;simpa using hb
 ·have hk2:k=l.length-1:=by omega
  have ht:R=true:=by
   rw[←hR];refine hri.2 λj a c ha hc=>hI j ?_ a c ha hc;have:=(qK.1 hc).1;omega
  rw[if_neg (by omega),AJ];simp[AD,AA 223 7,AX 223,ht]
theorem kb (l:List Own) (hn:l.length≤2^40):PX 228 [.list (l.map Own.V),.func 229 []] [.bool (Co (λa b=>decide (a.party <b.party)) l)]:=by
 refine BU 228 ?_;obtain⟨R,hR⟩:∃R,Co (λa b=>decide (a.party <b.party)) l=R:=⟨_,rfl⟩;rw[hR];have hri:=FS (λa b=>decide (a.party <b.party)) l;have hmx:(if IntKind.i64.wrap ((l.length:Int)-1) <0 then 0 else IntKind.i64.wrap ((l.length:Int)-1))=((l.length-1:Nat):Int):=by
  rw[AQ];split<;>omega
 simp only[At 228,AE,AG,AU,AA 228 0,AA 228 1,AV];simp[hmx];refine Ao (l.length-1) (λk=>⟨[(0,.v (.list (l.map Own.V))),(1,.v (.func 229 [])),(9,.v (.int .i64 (l.length-1:Nat))),(10,.v (.int .i64 k))],[]⟩) (λk=>∀j <k,∀x y,l[j]?=some x→l[j+1]?=some y→(λa b=>decide (a.party <b.party)) x y=true) (by simp) (by simp) ?_;intro k hk hI;simp only[Zw,BA 228 0,AA 228 2];simp;by_cases hlt:k <l.length-1
 ·obtain⟨x,hx⟩:∃x,l[k]?=some x:=⟨_,qH (by omega)⟩;obtain⟨y,hy⟩:∃y,l[k+1]?=some y:=⟨_,qH (by omega)⟩;have hw:IntKind.i64.wrap ((k:Int)+1)=((k+1:Nat):Int):=AQ;have hge:(0:Int)≤((k+1:Nat):Int):=by omega
  have hlt':(k:Int) <((l.length-1:Nat):Int):=by omega
  have hp:=(ka x y).fsp;have hnat:(((k+1:Nat):Int)).toNat=k+1:=by omega
  generalize hb:(λa b=>decide (a.party <b.party)) x y=b at*;rw[if_pos (by omega),AB];simp only[AW,AA 228 3,AA 228 4];simp[Own.V,hb]at hp;simp only[rQ,tK]at hw hge hnat;simp[hx,hy,Own.V,hw,hge,hnat];refine⟨_,_,(hp []),?_⟩;cases b with
  |false=>
   have hf:R=false:=by
    rw[←hR];cases h:Co (λa b=>decide (a.party <b.party)) l with
    |false=>rfl
    |true=>exact absurd ((hri.1 h k x y hx hy).symm.trans hb) (by decide)
   simp[AD,AA 228 5,AX 228,hf]
  |true=>
   simp[AB,AA 228 6,hw];refine⟨hlt,λj hj a c ha hc=>?_⟩;rcases qi j k with h|h
   ·simpa using hI j h a c ha hc
   ·have:j=k:=by omega
    subst this;rw[hx]at ha;rw[hy]at hc;cases ha;cases hc;simpa using hb
 ·have hk2:k=l.length-1:=by omega
  have ht:R=true:=by
   rw[←hR];refine hri.2 λj a c ha hc=>hI j ?_ a c ha hc;have:=(qK.1 hc).1;omega
  rw[if_neg (by omega),AJ];simp[AD,AA 228 7,AX 228,ht]
end
section
variable {h:List Row} {r lw:Nat} (hr:r <h.length) (hl:lw <h.length) (hne:r≠lw) (x:List Int) (lf:Int) (a b:Row)
include hr hne
end
def rB (op n:Int) (ins:List Ivl) (kids:List F):Row:= .cells [.v (.int .i64 op),.v (.int .i64 n),.own 368 8 (ins.map Ivl.V),.own 84 4 (kids.map F.V)]
theorem bu (b:Bool):(E4 b==1)=b:=by cases b<;>rfl
section
theorem PR {n m:Nat} (h:n≤m):∀ds:List D,D.lts n ds=true→D.lts m ds=true
 |[],_=>rfl
 |d::ds,hd=>by
  simp only[D.lts,qI]at hd ⊢;exact⟨Fd h d hd.1,PR h ds hd.2⟩
variable {m n:Nat}
theorem JS (h:n≤m):∀row:Row,Row.low n row=true→Row.low m row=true:=by
 intro row hr;cases row with
 |cells ds=>exact PR h ds hr
 |map=>rfl
 |dead=>rfl
 |obj=>simp[Row.low]at hr
def F.rd (f:F):Prop:=∀g∈f.nodes,g.ok1∧g.ins.length≤32
theorem F.rd_kid {op n:Int} {ins:List Ivl} {kids:List F} (h:(F.mk op n ins kids).rd) {k:F} (hk:k∈kids):k.rd:=λg hg=>h g (by
 rw[F.nodes_eq];exact sa _ (rM.2 ⟨k,hk,hg⟩))
theorem XV (op n:Int) (ins:List Ivl) (kids:List F):By (.mk op n ins kids)=C7 (.mk op n ins kids)++kids.flatMap By:=by
 unfold By;rw[F.nodes_eq,qN,List.flatMap_assoc]
variable {r:Nat} {h:List Row}
end
end Go.Va
