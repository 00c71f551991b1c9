/- Laws, part 35. No condition. -/
import Derived.Test.YtbonllhdlmegeaaGreatDoorL32
set_option linter.all false
set_option maxRecDepth 100000
set_option maxHeartbeats 4000000
noncomputable section
namespace Go.Va
open Go.Proofs
theorem Low.app {h:List Row} (hl:Low h) {row:Row} (hr:Row.low (h.length+1) row=true):Low (h++[row]):=by
 intro x hx;rw[List.length_append];rcases List.mem_append.1 hx with hx|hx
 ·have h1:=hl _ hx;cases x with
  |cells ds=>
   refine lts_all λd hd=>?_;obtain⟨i,hi⟩:=List.getElem?_of_mem hd;exact dlt_mono (by simp) d (lts_get h1 hi)
  |_=>exact h1
 ·simp at hx;subst hx;exact hr
theorem IdxR.map {P:Program} {GL:Globals} {fid:Nat} {caps:List D} {α:Type} {f:α→V} {p:α→Bool} {l:List α} {h:List Row} (hp:∀x∈l,FSp P GL fid (.v (f x)::caps) h [.v (.bool (p x))] h):
  IdxR P GL fid caps (l.map f) h (l.findIdx? p) h:=by
 induction l with
 |nil=>exact⟨rfl,rfl⟩
 |cons x xs ih=>
  refine⟨p x,h,hp x (by simp),?_⟩;cases hx:p x with
  |true=>simp[List.findIdx?_cons,hx]
  |false=>
   simp only[Bool.false_eq_true,if_false];exact⟨_,ih λy hy=>hp y (by simp[hy]),by simp[List.findIdx?_cons,hx]⟩
theorem all_idx {α:Type} (p:α→Bool) (l:List α):(l.findIdx? λx=> !p x).isSome= !l.all p:=by
 rw[findIdx_any,List.not_all_eq_any_not]
theorem rising_iff {α:Type} (f:α→α→Bool):∀l:List α,rising f l=true↔∀(i:Nat) x y,l[i]?=some x→l[i+1]?=some y→f x y=true
 |[]=>by simp[rising]
 |[x]=>by simp[rising]
 |x::y::l=>by
  simp only[rising,Bool.and_eq_true,rising_iff f (y::l)]
  constructor
  ·rintro⟨h1,h2⟩ i a b ha hb;cases i with
   |zero=>simp at ha hb;subst ha;subst hb;exact h1
   |succ i=>exact h2 i a b (by simpa using ha) (by simpa using hb)
  ·exact λh=>⟨h 0 x y rfl rfl,λi a b ha hb=>h (i+1) a b (by simpa using ha) (by simpa using hb)⟩
theorem p288 (x:Dat) (b:Bool) (fd:D) (fid:Nat) (caps:List D) (hf:FV fd fid caps) (h:List Row) (q:Nat) (hq:h[q]?=some (.cells [fd])) (hl:Low h)
  (hp:∀H,Low H→(∀(i:Nat) y,h[i]?=some y→H[i]?=some y)→FSp Tryz.prog GLx fid (.v x.V::caps) H [.v (.bool b)] H):FSp Tryz.prog GLx 106 [.v x.V,.ref q 0] h [.v (.bool (!b))] h:=by
 refine fsp_low (Zkk 106) rfl (Nat.le_refl _) hl (by simp[D.lt]) ?_;have hq':=get_old [.cells [.v (.int .i64 x.cl),.v (.int .i64 x.ix),.v (.int .i64 x.day),.v (.int .i64 x.file)]] hq;have hp':=hp _ (hl.app (row:= .cells [.v (.int .i64 x.cl),.v (.int .i64 x.ix),.v (.int .i64 x.day),.v (.int .i64 x.file)]) rfl) λ_ _ h=>get_old _ h;have hcp:=hf.cp;have hfn:=hf.fn;have hny:=hf.ny;have hnt:=hf.nt;simp only[D.copy]at hcp
 try simp[Dat.V,]at hp'
 simp only[Zga 106,awp_seq,awp_reg,Zge 106 0,entryD];simp[Dat.V,Zge 106 1,hq',hcp,-fnOf,-D.norm];rw[hfn];simp;refine⟨_,_,hp',?_⟩;simp[awp_ret,Zgr 106]
theorem p217 (l:List Dat) (P:Dat→Bool) (fd:D) (fid:Nat) (caps:List D) (hf:FV fd fid caps) (hfc:fd.cells?=some [fd]) (hfr:fd.toRow=fd) (h:List Row) (hl:Low h) (hlow:D.lt h.length fd=true) (hn:l.length <2^40)
  (hp:∀x∈l,∀H,Low H→(∀(i:Nat) y,h[i]?=some y→H[i]?=some y)→FSp Tryz.prog GLx fid (.v x.V::caps) H [.v (.bool (P x))] H):
  FSp Tryz.prog GLx 61 [.v (.list (l.map Dat.V)),fd] h [.v (.bool (l.all P))] h:=by
 refine fsp_low (Zkk 61) rfl (Nat.le_refl _) hl (by simp[D.lt]) ?_;have hcp:=hf.cp;simp only[D.copy]at hcp;have hl2:Low (h++[.cells [fd]]):=hl.app (by simp[Row.low,D.lts,dlt_mono (Nat.le_succ _) _ hlow]);have hidx:IdxR Tryz.prog GLx 106 [.ref h.length 0] (l.map Dat.V) (h++[.cells [fd]]) (l.findIdx? λx=> !P x) (h++[.cells [fd]]):=
  IdxR.map λx hx=>p288 x (P x) fd fid caps hf _ h.length (get_app _ _) hl2 λH h1 h2=>hp x hx H h1 λi y hy=>h2 i y (get_old _ hy)
 have hcf:=p277 (.func 106 [.ref h.length 0]) 106 [.ref h.length 0] (FV.r 106 h.length 0 []) (l.map Dat.V) (by simpa using hn) (by
  intro x hx;obtain⟨y,_,rfl⟩:=List.mem_map.1 hx;exact⟨_,rfl,rfl⟩) hidx
 rw[all_idx]at hcf;simp only[Zga 61,awp_seq,awp_reg,Zge 61 0,entryD];simp[hcp,hfc,hfr,-D.cells?,-D.toRow];simp only[Zge 61 1];simp
 try simp at hcf
 refine⟨_,_,hcf,?_⟩;simp[awp_ret,Zgr 61]
theorem p289 (x:Int) (b:Bool) (fd:D) (fid:Nat) (caps:List D) (hf:FV fd fid caps) (h:List Row) (q:Nat) (hq:h[q]?=some (.cells [fd])) (hl:Low h)
  (hp:∀H,Low H→(∀(i:Nat) y,h[i]?=some y→H[i]?=some y)→FSp Tryz.prog GLx fid (.v (.int .i64 x)::caps) H [.v (.bool b)] H):FSp Tryz.prog GLx 108 [.v (.int .i64 x),.ref q 0] h [.v (.bool (!b))] h:=by
 refine fsp_of_awp (Zkk 108) rfl ?_;have hq':=hq;have hp':=hp h hl λ_ _ h=>h;have hcp:=hf.cp;have hfn:=hf.fn;have hny:=hf.ny;have hnt:=hf.nt;simp only[D.copy]at hcp
 try simp[]at hp'
 simp only[Zga 108,awp_seq,awp_reg,Zge 108 0,entryD];simp[Zge 108 1,hq',hcp,-fnOf,-D.norm];rw[hfn];simp;refine⟨_,_,hp',?_⟩;simp[awp_ret,Zgr 108]
theorem p221 (l:List Int) (P:Int→Bool) (fd:D) (fid:Nat) (caps:List D) (hf:FV fd fid caps) (hfc:fd.cells?=some [fd]) (hfr:fd.toRow=fd) (h:List Row) (hl:Low h) (hlow:D.lt h.length fd=true) (hn:l.length <2^40)
  (hp:∀x∈l,∀H,Low H→(∀(i:Nat) y,h[i]?=some y→H[i]?=some y)→FSp Tryz.prog GLx fid (.v (.int .i64 x)::caps) H [.v (.bool (P x))] H):
  FSp Tryz.prog GLx 65 [.v (.list (l.map (V.int .i64))),fd] h [.v (.bool (l.all P))] h:=by
 refine fsp_low (Zkk 65) rfl (Nat.le_refl _) hl (by simp[D.lt]) ?_;have hcp:=hf.cp;simp only[D.copy]at hcp;have hl2:Low (h++[.cells [fd]]):=hl.app (by simp[Row.low,D.lts,dlt_mono (Nat.le_succ _) _ hlow]);have hidx:IdxR Tryz.prog GLx 108 [.ref h.length 0] (l.map (V.int .i64)) (h++[.cells [fd]]) (l.findIdx? λx=> !P x) (h++[.cells [fd]]):=
  IdxR.map λx hx=>p289 x (P x) fd fid caps hf _ h.length (get_app _ _) hl2 λH h1 h2=>hp x hx H h1 λi y hy=>h2 i y (get_old _ hy)
 have hcf:=p151 (.func 108 [.ref h.length 0]) 108 [.ref h.length 0] (FV.r 108 h.length 0 []) (l.map (V.int .i64)) (by simpa using hn) (by
  intro x hx;obtain⟨y,_,rfl⟩:=List.mem_map.1 hx;exact⟨_,rfl⟩) hidx
 rw[all_idx]at hcf;simp only[Zga 65,awp_seq,awp_reg,Zge 65 0,entryD];simp[hcp,hfc,hfr,-D.cells?,-D.toRow];simp only[Zge 65 1];simp
 try simp at hcf
 refine⟨_,_,hcf,?_⟩;simp[awp_ret,Zgr 65]
theorem p290 (x:Own) (b:Bool) (fd:D) (fid:Nat) (caps:List D) (hf:FV fd fid caps) (h:List Row) (q:Nat) (hq:h[q]?=some (.cells [fd])) (hl:Low h)
  (hp:∀H,Low H→(∀(i:Nat) y,h[i]?=some y→H[i]?=some y)→FSp Tryz.prog GLx fid (.v x.V::caps) H [.v (.bool b)] H):FSp Tryz.prog GLx 110 [.v x.V,.ref q 0] h [.v (.bool (!b))] h:=by
 refine fsp_low (Zkk 110) rfl (Nat.le_refl _) hl (by simp[D.lt]) ?_;have hq':=get_old [.cells [.v (.int .i64 x.party),.v (.int .i64 x.num),.v (.int .i64 x.den)]] hq;have hp':=hp _ (hl.app (row:= .cells [.v (.int .i64 x.party),.v (.int .i64 x.num),.v (.int .i64 x.den)]) rfl) λ_ _ h=>get_old _ h;have hcp:=hf.cp;have hfn:=hf.fn;have hny:=hf.ny;have hnt:=hf.nt;simp only[D.copy]at hcp
 try simp[Own.V,]at hp'
 simp only[Zga 110,awp_seq,awp_reg,Zge 110 0,entryD];simp[Own.V,Zge 110 1,hq',hcp,-fnOf,-D.norm];rw[hfn];simp;refine⟨_,_,hp',?_⟩;simp[awp_ret,Zgr 110]
theorem p225 (l:List Own) (P:Own→Bool) (fd:D) (fid:Nat) (caps:List D) (hf:FV fd fid caps) (hfc:fd.cells?=some [fd]) (hfr:fd.toRow=fd) (h:List Row) (hl:Low h) (hlow:D.lt h.length fd=true) (hn:l.length <2^40)
  (hp:∀x∈l,∀H,Low H→(∀(i:Nat) y,h[i]?=some y→H[i]?=some y)→FSp Tryz.prog GLx fid (.v x.V::caps) H [.v (.bool (P x))] H):
  FSp Tryz.prog GLx 69 [.v (.list (l.map Own.V)),fd] h [.v (.bool (l.all P))] h:=by
 refine fsp_low (Zkk 69) rfl (Nat.le_refl _) hl (by simp[D.lt]) ?_;have hcp:=hf.cp;simp only[D.copy]at hcp;have hl2:Low (h++[.cells [fd]]):=hl.app (by simp[Row.low,D.lts,dlt_mono (Nat.le_succ _) _ hlow]);have hidx:IdxR Tryz.prog GLx 110 [.ref h.length 0] (l.map Own.V) (h++[.cells [fd]]) (l.findIdx? λx=> !P x) (h++[.cells [fd]]):=
  IdxR.map λx hx=>p290 x (P x) fd fid caps hf _ h.length (get_app _ _) hl2 λH h1 h2=>hp x hx H h1 λi y hy=>h2 i y (get_old _ hy)
 have hcf:=p183 (.func 110 [.ref h.length 0]) 110 [.ref h.length 0] (FV.r 110 h.length 0 []) (l.map Own.V) (by simpa using hn) (by
  intro x hx;obtain⟨y,_,rfl⟩:=List.mem_map.1 hx;exact⟨_,rfl,rfl⟩) hidx
 rw[all_idx]at hcf;simp only[Zga 69,awp_seq,awp_reg,Zge 69 0,entryD];simp[hcp,hfc,hfr,-D.cells?,-D.toRow];simp only[Zge 69 1];simp
 try simp at hcf
 refine⟨_,_,hcf,?_⟩;simp[awp_ret,Zgr 69]
theorem p294 (x:Lic) (b:Bool) (fd:D) (fid:Nat) (caps:List D) (hf:FV fd fid caps) (h:List Row) (q:Nat) (hq:h[q]?=some (.cells [fd])) (hl:Low h)
  (hp:∀H,Low H→(∀(i:Nat) y,h[i]?=some y→H[i]?=some y)→FSp Tryz.prog GLx fid (.v x.V::caps) H [.v (.bool b)] H):FSp Tryz.prog GLx 114 [.v x.V,.ref q 0] h [.v (.bool (!b))] h:=by
 refine fsp_low (Zkk 114) rfl (Nat.le_refl _) hl (by simp[D.lt]) ?_;have hq':=get_old [.cells [.v (.int .i64 x.fr),.v (.int .i64 x.to),.v (.int .i64 x.fst),.v (.int .i64 x.lst)]] hq;have hp':=hp _ (hl.app (row:= .cells [.v (.int .i64 x.fr),.v (.int .i64 x.to),.v (.int .i64 x.fst),.v (.int .i64 x.lst)]) rfl) λ_ _ h=>get_old _ h;have hcp:=hf.cp;have hfn:=hf.fn;have hny:=hf.ny;have hnt:=hf.nt;simp only[D.copy]at hcp
 try simp[Lic.V,]at hp'
 simp only[Zga 114,awp_seq,awp_reg,Zge 114 0,entryD];simp[Lic.V,Zge 114 1,hq',hcp,-fnOf,-D.norm];rw[hfn];simp;refine⟨_,_,hp',?_⟩;simp[awp_ret,Zgr 114]
theorem p230 (l:List Lic) (P:Lic→Bool) (fd:D) (fid:Nat) (caps:List D) (hf:FV fd fid caps) (hfc:fd.cells?=some [fd]) (hfr:fd.toRow=fd) (h:List Row) (hl:Low h) (hlow:D.lt h.length fd=true) (hn:l.length <2^40)
  (hp:∀x∈l,∀H,Low H→(∀(i:Nat) y,h[i]?=some y→H[i]?=some y)→FSp Tryz.prog GLx fid (.v x.V::caps) H [.v (.bool (P x))] H):
  FSp Tryz.prog GLx 74 [.v (.list (l.map Lic.V)),fd] h [.v (.bool (l.all P))] h:=by
 refine fsp_low (Zkk 74) rfl (Nat.le_refl _) hl (by simp[D.lt]) ?_;have hcp:=hf.cp;simp only[D.copy]at hcp;have hl2:Low (h++[.cells [fd]]):=hl.app (by simp[Row.low,D.lts,dlt_mono (Nat.le_succ _) _ hlow]);have hidx:IdxR Tryz.prog GLx 114 [.ref h.length 0] (l.map Lic.V) (h++[.cells [fd]]) (l.findIdx? λx=> !P x) (h++[.cells [fd]]):=
  IdxR.map λx hx=>p294 x (P x) fd fid caps hf _ h.length (get_app _ _) hl2 λH h1 h2=>hp x hx H h1 λi y hy=>h2 i y (get_old _ hy)
 have hcf:=p293 (.func 114 [.ref h.length 0]) 114 [.ref h.length 0] (FV.r 114 h.length 0 []) (l.map Lic.V) (by simpa using hn) (by
  intro x hx;obtain⟨y,_,rfl⟩:=List.mem_map.1 hx;exact⟨_,rfl,rfl⟩) hidx
 rw[all_idx]at hcf;simp only[Zga 74,awp_seq,awp_reg,Zge 74 0,entryD];simp[hcp,hfc,hfr,-D.cells?,-D.toRow];simp only[Zge 74 1];simp
 try simp at hcf
 refine⟨_,_,hcf,?_⟩;simp[awp_ret,Zgr 74]
theorem p219 (l:List Dat) (hn:l.length≤2^40):PSp Tryz.prog GLx 63 [.list (l.map Dat.V),.func 64 []] [.bool (rising datLt l)]:=by
 refine psp_of_awp (Zkk 63) rfl ?_;obtain⟨R,hR⟩:∃R,rising datLt l=R:=⟨_,rfl⟩;rw[hR];have hri:=rising_iff datLt l;have hmx:(if IntKind.i64.wrap ((l.length:Int)-1) <0 then 0 else IntKind.i64.wrap ((l.length:Int)-1))=((l.length-1:Nat):Int):=by
  rw[wrap_i64 (by omega) (by omega)];split<;>omega
 simp only[Zga 63,awp_seq,awp_reg,awp_block,Zge 63 0,Zge 63 1,entry];simp[hmx];refine awp_loop_inv (l.length-1) (λk=>⟨[(0,.v (.list (l.map Dat.V))),(1,.v (.func 64 [])),(9,.v (.int .i64 (l.length-1:Nat))),(10,.v (.int .i64 k))],[]⟩) (λk=>∀j <k,∀x y,l[j]?=some x→l[j+1]?=some y→datLt x y=true) (by simp) (by simp) ?_;intro k hk hI;simp only[Zgl 63 0,awp_seq,awp_reg,awp_block,awp_cond,Zge 63 2];simp;by_cases hlt:k <l.length-1
 ·obtain⟨x,hx⟩:∃x,l[k]?=some x:=⟨_,List.getElem?_eq_getElem (by omega)⟩;obtain⟨y,hy⟩:∃y,l[k+1]?=some y:=⟨_,List.getElem?_eq_getElem (by omega)⟩;have hw:IntKind.i64.wrap ((k:Int)+1)=((k+1:Nat):Int):=wrap_i64 (by omega) (by omega);have hge:(0:Int)≤((k+1:Nat):Int):=by omega
  have hlt':(k:Int) <((l.length-1:Nat):Int):=by omega
  have hp:=(p220 x y).fsp;have hnat:(((k+1:Nat):Int)).toNat=k+1:=by omega
  generalize hb:datLt x y=b at*;rw[if_pos (by omega),awp_skip];simp only[awp_regD,Zge 63 3,Zge 63 4];simp[Dat.V]at hp;simp only[Int.natCast_add,Int.natCast_one]at hw hge hnat;simp[hx,hy,Dat.V,hw,hge,hnat];refine⟨_,_,(hp []),?_⟩;cases b with
  |false=>
   have hf:R=false:=by
    rw[←hR];cases h:rising datLt l with
    |false=>rfl
    |true=>exact absurd ((hri.1 h k x y hx hy).symm.trans hb) (by decide)
   simp[awp_ret,Zge 63 5,Zgr 63,hf]
  |true=>
   simp[awp_skip,Zge 63 6,hw];refine⟨hlt,λj hj a c ha hc=>?_⟩;rcases Nat.lt_or_ge j k with h|h
   ·simpa using hI j h a c ha hc
   ·have:j=k:=by omega
    subst this;rw[hx]at ha;rw[hy]at hc;cases ha;cases hc;simpa using hb
 ·have hk2:k=l.length-1:=by omega
  have ht:R=true:=by
   rw[←hR];refine hri.2 λj a c ha hc=>hI j ?_ a c ha hc;have:=(List.getElem?_eq_some_iff.1 hc).1;omega
  rw[if_neg (by omega),awp_exit];simp[awp_ret,Zge 63 7,Zgr 63,ht]
theorem p223 (l:List Int) (hn:l.length≤2^40):PSp Tryz.prog GLx 67 [.list (l.map (V.int .i64)),.func 68 []] [.bool (rising (λa b=>decide (a <b)) l)]:=by
 refine psp_of_awp (Zkk 67) rfl ?_;obtain⟨R,hR⟩:∃R,rising (λa b=>decide (a <b)) l=R:=⟨_,rfl⟩;rw[hR];have hri:=rising_iff (λa b=>decide (a <b)) l;have hmx:(if IntKind.i64.wrap ((l.length:Int)-1) <0 then 0 else IntKind.i64.wrap ((l.length:Int)-1))=((l.length-1:Nat):Int):=by
  rw[wrap_i64 (by omega) (by omega)];split<;>omega
 simp only[Zga 67,awp_seq,awp_reg,awp_block,Zge 67 0,Zge 67 1,entry];simp[hmx];refine awp_loop_inv (l.length-1) (λk=>⟨[(0,.v (.list (l.map (V.int .i64)))),(1,.v (.func 68 [])),(9,.v (.int .i64 (l.length-1:Nat))),(10,.v (.int .i64 k))],[]⟩) (λk=>∀j <k,∀x y,l[j]?=some x→l[j+1]?=some y→(λa b=>decide (a <b)) x y=true) (by simp) (by simp) ?_;intro k hk hI;simp only[Zgl 67 0,awp_seq,awp_reg,awp_block,awp_cond,Zge 67 2];simp;by_cases hlt:k <l.length-1
 ·obtain⟨x,hx⟩:∃x,l[k]?=some x:=⟨_,List.getElem?_eq_getElem (by omega)⟩;obtain⟨y,hy⟩:∃y,l[k+1]?=some y:=⟨_,List.getElem?_eq_getElem (by omega)⟩;have hw:IntKind.i64.wrap ((k:Int)+1)=((k+1:Nat):Int):=wrap_i64 (by omega) (by omega);have hge:(0:Int)≤((k+1:Nat):Int):=by omega
  have hlt':(k:Int) <((l.length-1:Nat):Int):=by omega
  have hp:=(p224 x y).fsp;have hnat:(((k+1:Nat):Int)).toNat=k+1:=by omega
  generalize hb:(λa b=>decide (a <b)) x y=b at*;rw[if_pos (by omega),awp_skip];simp only[awp_regD,Zge 67 3,Zge 67 4];simp[hb]at hp;simp only[Int.natCast_add,Int.natCast_one]at hw hge hnat;simp[hx,hy,hw,hge,hnat];refine⟨_,_,(hp []),?_⟩;cases b with
  |false=>
   have hf:R=false:=by
    rw[←hR];cases h:rising (λa b=>decide (a <b)) l with
    |false=>rfl
    |true=>exact absurd ((hri.1 h k x y hx hy).symm.trans hb) (by decide)
   simp[awp_ret,Zge 67 5,Zgr 67,hf]
  |true=>
   simp[awp_skip,Zge 67 6,hw];refine⟨hlt,λj hj a c ha hc=>?_⟩;rcases Nat.lt_or_ge j k with h|h
   ·simpa using hI j h a c ha hc
   ·have:j=k:=by omega
    subst this;rw[hx]at ha;rw[hy]at hc;cases ha;cases hc;simpa using hb
 ·have hk2:k=l.length-1:=by omega
  have ht:R=true:=by
   rw[←hR];refine hri.2 λj a c ha hc=>hI j ?_ a c ha hc;have:=(List.getElem?_eq_some_iff.1 hc).1;omega
  rw[if_neg (by omega),awp_exit];simp[awp_ret,Zge 67 7,Zgr 67,ht]
theorem p228 (l:List Own) (hn:l.length≤2^40):PSp Tryz.prog GLx 72 [.list (l.map Own.V),.func 73 []] [.bool (rising (λa b=>decide (a.party <b.party)) l)]:=by
 refine psp_of_awp (Zkk 72) rfl ?_;obtain⟨R,hR⟩:∃R,rising (λa b=>decide (a.party <b.party)) l=R:=⟨_,rfl⟩;rw[hR];have hri:=rising_iff (λa b=>decide (a.party <b.party)) l;have hmx:(if IntKind.i64.wrap ((l.length:Int)-1) <0 then 0 else IntKind.i64.wrap ((l.length:Int)-1))=((l.length-1:Nat):Int):=by
  rw[wrap_i64 (by omega) (by omega)];split<;>omega
 simp only[Zga 72,awp_seq,awp_reg,awp_block,Zge 72 0,Zge 72 1,entry];simp[hmx];refine awp_loop_inv (l.length-1) (λk=>⟨[(0,.v (.list (l.map Own.V))),(1,.v (.func 73 [])),(9,.v (.int .i64 (l.length-1:Nat))),(10,.v (.int .i64 k))],[]⟩) (λk=>∀j <k,∀x y,l[j]?=some x→l[j+1]?=some y→(λa b=>decide (a.party <b.party)) x y=true) (by simp) (by simp) ?_;intro k hk hI;simp only[Zgl 72 0,awp_seq,awp_reg,awp_block,awp_cond,Zge 72 2];simp;by_cases hlt:k <l.length-1
 ·obtain⟨x,hx⟩:∃x,l[k]?=some x:=⟨_,List.getElem?_eq_getElem (by omega)⟩;obtain⟨y,hy⟩:∃y,l[k+1]?=some y:=⟨_,List.getElem?_eq_getElem (by omega)⟩;have hw:IntKind.i64.wrap ((k:Int)+1)=((k+1:Nat):Int):=wrap_i64 (by omega) (by omega);have hge:(0:Int)≤((k+1:Nat):Int):=by omega
  have hlt':(k:Int) <((l.length-1:Nat):Int):=by omega
  have hp:=(p229 x y).fsp;have hnat:(((k+1:Nat):Int)).toNat=k+1:=by omega
  generalize hb:(λa b=>decide (a.party <b.party)) x y=b at*;rw[if_pos (by omega),awp_skip];simp only[awp_regD,Zge 72 3,Zge 72 4];simp[Own.V,hb]at hp;simp only[Int.natCast_add,Int.natCast_one]at hw hge hnat;simp[hx,hy,Own.V,hw,hge,hnat];refine⟨_,_,(hp []),?_⟩;cases b with
  |false=>
   have hf:R=false:=by
    rw[←hR];cases h:rising (λa b=>decide (a.party <b.party)) l with
    |false=>rfl
    |true=>exact absurd ((hri.1 h k x y hx hy).symm.trans hb) (by decide)
   simp[awp_ret,Zge 72 5,Zgr 72,hf]
  |true=>
   simp[awp_skip,Zge 72 6,hw];refine⟨hlt,λj hj a c ha hc=>?_⟩;rcases Nat.lt_or_ge j k with h|h
   ·simpa using hI j h a c ha hc
   ·have:j=k:=by omega
    subst this;rw[hx]at ha;rw[hy]at hc;cases ha;cases hc;simpa using hb
 ·have hk2:k=l.length-1:=by omega
  have ht:R=true:=by
   rw[←hR];refine hri.2 λj a c ha hc=>hI j ?_ a c ha hc;have:=(List.getElem?_eq_some_iff.1 hc).1;omega
  rw[if_neg (by omega),awp_exit];simp[awp_ret,Zge 72 7,Zgr 72,ht]
theorem p129 (l:List Int) (hi:∀n∈l,i64 n) (hn:l.length≤2^30) (h:List Row) (w:Nat) (xs:List Int) (hw:h[w]?=some (wr xs)) (hb:xs.length≤2^44):
  FSp Tryz.prog GLx 20 [.v (nums .i64 l),.ref w 0] h [] (h.set w (wr (xs++l.flatMap encI))):=by
 refine fsp_of_awp (Zkk 20) rfl ?_;obtain⟨HH,hHH⟩:∃HH,h.set w (wr (xs++l.flatMap encI))=HH:=⟨_,rfl⟩;rw[hHH];simp only[Zga 20,awp_seq,awp_reg,awp_block,Zge 20 0,entryD];simp[nums];refine awp_loop_nat0 l.length (λk=>⟨[(1,.ref w 0),(5,.v (nums .i64 l)),(6,.v (.int .i64 l.length)),(7,.v (.int .i64 k))],h.set w (wr (xs++(l.take k).flatMap encI))⟩) ?_ ?_
 ·have:h.set w (wr xs)=h:=by
   obtain⟨g1,g2⟩:=List.getElem?_eq_some_iff.1 hw;rw[←g2,List.set_getElem_self]
  simp[nums,this]
 intro k hk;simp only[Zgl 20 0,awp_seq,awp_reg,awp_block,awp_cond,Zge 20 1];simp[nums];by_cases h1:k <l.length
 ·have hx:l[k]?=some l[k]:=List.getElem?_eq_getElem h1;have hww:IntKind.i64.wrap ((k:Int)+1)=k+1:=wrap_i64 (by omega) (by omega);have hf:=flat_encI_len (l.take k);have ht:(l.take k).length=k:=by simp;omega
  rw[if_pos (by omega),awp_skip];simp only[Zge 20 2,Zge 20 3];simp[hx];refine⟨_,_,(p98 l[k] (hi _ (List.getElem_mem h1)) (h.set w (wr (xs++(l.take k).flatMap encI))) w _ (get_set hw) (by rw[List.length_append];omega)),?_⟩;simp[Zge 20 4,hww,h1];rw[flat_take h1]
 ·have:k=l.length:=by omega
  subst this;rw[if_neg (by omega),awp_exit];simp[Zgr 20,hHH]
set_option maxHeartbeats 1000000 in
theorem p128 (r:Rgt) (hr:r.ok):PSp Tryz.prog GLx 19 [r.V] [.bool (formedR r)]:=by
 refine psp_of_awp (Zkk 19) rfl ?_;obtain⟨R,hR⟩:∃R,formedR r=R:=⟨_,rfl⟩;rw[hR];unfold formedR at hR;have hlc:=hr.lc;have hld:=hr.ld;have hll:=hr.ll;have p1:=(p216 r.file 0 4095).fsp;have p2:=(p216 r.state 0 4).fsp;have p3:=(p216 r.force 0 4).fsp;have p4:=(p138 r.claims hr.claims (by omega)).fsp;have p5:=λ(h:List Row) (q:Nat) (hq:h[q]?=some (.cells [.v (.int .i64 r.claims.length)])) (hl:Low h)=>
  p217 r.dates (datOK r.claims.length) (.func 62 [.ref q 0]) 62 [.ref q 0] (FV.r 62 q 0 []) rfl rfl h hl (by simp[D.lt,D.lts];exact lt_of_get hq) (by omega) λx _ H h1 h2=>p218 x r.claims.length H q (h2 q _ hq) ⟨by omega,by omega⟩ h1
 have p6:=(p219 r.dates (by omega)).fsp;have p7:=λ(h:List Row) (q:Nat) (hq:h[q]?=some (.cells [.v (.int .i64 r.claims.length)])) (hl:Low h)=>
  p221 r.bad (λi=>inI i 0 (r.claims.length-1)) (.func 66 [.ref q 0]) 66 [.ref q 0] (FV.r 66 q 0 []) rfl rfl h hl (by simp[D.lt,D.lts];exact lt_of_get hq) (by have:=hr.lb;omega) λx _ H h1 h2=>p222 x r.claims.length H q (h2 q _ hq) ⟨by omega,by omega⟩
 have p8:=(p223 r.bad (by have:=hr.lb;omega)).fsp;have p9:=λ(h:List Row) (hl:Low h)=>p225 r.owners ownOK (.v (.func 70 [])) 70 [] (FV.v 70 []) rfl rfl h hl rfl (by have:=hr.lo;omega) λx hx H h1 h2=>(p226 x (hr.owners x hx)).fsp H;have p10:=(p228 r.owners (by have:=hr.lo;omega)).fsp;have p11:=λ(h:List Row) (hl:Low h)=>p230 r.lics licOK (.v (.func 75 [])) 75 [] (FV.v 75 []) rfl rfl h hl rfl (by omega) λx hx H h1 h2=>(p231 x).fsp H;have low2:∀a b c d e f g i n:V,Low [.cells [.v a,.v b,.v c,.v d,.v e,.v f,.v g,.v i],.cells [.v n]]:=by
  intro a b c d e f g i n row hrow;simp at hrow;rcases hrow with rfl|rfl<;>rfl
 simp at p1 p2 p3 p4 p5 p6 p7 p8 p9 p10 p11;simp only[Zga 19,awp_seq,awp_reg,awp_cond,Zge 19 0,Zge 19 1,entry];simp[Rgt.V,Rgt.cs,putL];generalize inI r.file 0 4095=A1 at*;generalize inI r.state 0 4=A2 at*;generalize inI r.force 0 4=A3 at*;generalize clmsE r.claims=A4 at*;generalize r.dates.all (datOK r.claims.length)=B1 at*;generalize rising datLt r.dates=B2 at*;generalize (r.bad.all λi=>inI i 0 (r.claims.length-1))=B3 at*;generalize rising (λa b=>decide (a <b)) r.bad=B4 at*;generalize r.owners.all ownOK=B5 at*;generalize rising (λa b=>decide (a.party <b.party)) r.owners=B6 at*;generalize r.lics.all licOK=B7 at*;simp only[Zge 19 2];simp;refine⟨_,_,p1 _,?_⟩;cases A1 with
 |false=>simp at hR;simp[awp_ret,Zge 19 3,Zgr 19,hR]
 |true=>
 simp;refine⟨_,_,p2 _,?_⟩;cases A2 with
 |false=>simp at hR;simp[awp_ret,Zge 19 3,Zgr 19,hR]
 |true=>
 simp;refine⟨_,_,p3 _,?_⟩;cases A3 with
 |false=>simp at hR;simp[awp_ret,Zge 19 3,Zgr 19,hR]
 |true=>
 simp;refine⟨_,_,p4 _,?_⟩;by_cases h4:A4=0
 case neg=>
  have hf:R=false:=by rw[←hR];simp[h4]
  simp[h4,awp_ret,Zge 19 3,Zgr 19,hf]
 subst h4;by_cases h5:4096 <r.dates.length
 ·have h5':4096 <(r.dates.length:Int):=by omega
  have hf:R=false:=by rw[←hR];simp;omega
  simp[h5',awp_ret,Zge 19 3,Zgr 19,hf]
 have h5':¬4096 <(r.dates.length:Int):=by omega
 by_cases h6:4096 <r.lics.length
 ·have h6':4096 <(r.lics.length:Int):=by omega
  have hf:R=false:=by rw[←hR];simp;omega
  simp[h5',h6',awp_ret,Zge 19 3,Zgr 19,hf]
 have h6':¬4096 <(r.lics.length:Int):=by omega
 have e5:r.dates.length≤4096:=by omega
 have e6:r.lics.length≤4096:=by omega
 have hR2:(B1&&B2&&(B3&&B4)&&(B5&&B6)&&B7)=R:=by rw[←hR];simp[e5,e6]
 clear hR;simp[h5',h6',awp_skip];generalize hrows:[Row.cells [D.v (V.int IntKind.i64 r.file),D.v (V.int IntKind.i64 r.state),D.v (V.int IntKind.i64 r.force),D.v (V.list (List.map Clm.V r.claims)),D.v (V.list (List.map Dat.V r.dates)),D.v (nums IntKind.i64 r.bad),D.v (V.list (List.map Own.V r.owners)),D.v (V.list (List.map Lic.V r.lics))],
  Row.cells [D.v (V.int IntKind.i64 ↑r.claims.length)]]=H
 have hlow:Low H:=by rw[←hrows];exact low2 _ _ _ _ _ _ _ _ _
 have h0:H[0]?=some (Row.cells [D.v (V.int IntKind.i64 r.file),D.v (V.int IntKind.i64 r.state),D.v (V.int IntKind.i64 r.force),D.v (V.list (List.map Clm.V r.claims)),D.v (V.list (List.map Dat.V r.dates)),D.v (nums IntKind.i64 r.bad),D.v (V.list (List.map Own.V r.owners)),D.v (V.list (List.map Lic.V r.lics))]):=by rw[←hrows];rfl
 have h1:H[1]?=some (Row.cells [D.v (V.int IntKind.i64 ↑r.claims.length)]):=by rw[←hrows];rfl
 have s4:∀(K:St→Prop) (e:Env),find e 1= .ref 0 0→find e 3= .ref 1 0→(∀e',find e' 1= .ref 0 0→find e' 3= .ref 1 0→find e' 4= .v (.bool (B1&&B2))→K ⟨e',H⟩)→awpOps Tryz.prog GLx (oG 19 4) K ⟨e,H⟩:=by
  intro K e f1 f3 hK;simp only[Zge 19 4];simp[D.vs?,D.v?,f1,f3,h0];refine⟨_,_,(p5 _ 1 h1 hlow),?_⟩;cases B1 with
  |false=>simp;exact hK _ f1 f3 rfl
  |true=>
   simp[h0,nums];refine⟨_,_,(p6 _),?_⟩;cases B2<;>(simp;exact hK _ f1 f3 rfl)
 have s5:∀(K:St→Prop) (e:Env),find e 1= .ref 0 0→find e 3= .ref 1 0→(∀e',find e' 1= .ref 0 0→find e' 4=find e 4→find e' 5= .v (.bool (B3&&B4))→K ⟨e',H⟩)→awpOps Tryz.prog GLx (oG 19 5) K ⟨e,H⟩:=by
  intro K e f1 f3 hK;simp only[Zge 19 5];simp[D.vs?,D.v?,f1,f3,h0,nums];refine⟨_,_,(p7 _ 1 h1 hlow),?_⟩;cases B3 with
  |false=>simp;exact hK _ f1 rfl rfl
  |true=>
   simp[h0,nums];refine⟨_,_,(p8 _),?_⟩;cases B4<;>(simp;exact hK _ f1 rfl rfl)
 have s6:∀(K:St→Prop) (e:Env),find e 1= .ref 0 0→(∀e',find e' 1= .ref 0 0→find e' 4=find e 4→find e' 5=find e 5→find e' 6= .v (.bool (B5&&B6))→K ⟨e',H⟩)→awpOps Tryz.prog GLx (oG 19 6) K ⟨e,H⟩:=by
  intro K e f1 hK;simp only[Zge 19 6];simp[f1,h0];refine⟨_,_,(p9 _ hlow),?_⟩;cases B5 with
  |false=>simp;exact hK _ f1 rfl rfl rfl
  |true=>
   simp[h0,nums];refine⟨_,_,(p10 _),?_⟩;cases B6<;>(simp;exact hK _ f1 rfl rfl rfl)
 have s7:∀(K:St→Prop) (e:Env),find e 1= .ref 0 0→(∀e',find e' 4=find e 4→find e' 5=find e 5→find e' 6=find e 6→find e' 7= .v (.bool B7)→K ⟨e',H⟩)→awpOps Tryz.prog GLx (oG 19 7) K ⟨e,H⟩:=by
  intro K e f1 hK;simp only[Zge 19 7];simp[f1,h0];refine⟨_,_,(p11 _ hlow),?_⟩;simp;exact hK _ rfl rfl rfl rfl
 refine s4 _ _ rfl rfl ?_;intro e4 g1 g3 g4;refine s5 _ _ (by simp[g1]) (by simp[g3]) ?_;intro e5 k1 k4 k5;refine s6 _ _ (by simp[k1]) ?_;intro e6' m1 m4 m5 m6;refine s7 _ _ (by simp[m1]) ?_;intro e7 n4 n5 n6 n7;simp at k4 m4 m5 n4 n5 n6;generalize (B1&&B2)=C1 at*;generalize (B3&&B4)=C2 at*;generalize (B5&&B6)=C3 at*;subst hR2;simp only[Zge 19 8];simp[n4,n5,n6,n7,m4,m5,m6,k4,k5,g4];cases C1<;>cases C2<;>cases C3<;>simp[awp_ret,Zgr 19]
theorem encDat_flat (d:Dat):[d.cl,d.ix,d.day,d.file].flatMap encI=encDat d:=by simp[encDat]
theorem encOwn_flat (d:Own):[d.party,d.num,d.den].flatMap encI=encOwn d:=by simp[encOwn]
theorem encLic_flat (d:Lic):[d.fr,d.to,d.fst,d.lst].flatMap encI=encLic d:=by simp[encLic]
theorem flat40 {α:Type} {f:α→List Int} (hf:∀x,(f x).length≤40):∀l:List α,(l.flatMap f).length≤40*l.length
 |[]=>by simp
 |x::l=>by
  have:=hf x;have:=flat40 hf l;simp only[List.flatMap_cons,List.length_append,List.length_cons];omega
theorem encDat_len (d:Dat):(encDat d).length≤40:=by
 have:=encI_len d.cl;have:=encI_len d.ix;have:=encI_len d.day;have:=encI_len d.file;simp only[encDat,List.length_append];omega
theorem encOwn_len (d:Own):(encOwn d).length≤40:=by
 have:=encI_len d.party;have:=encI_len d.num;have:=encI_len d.den;simp only[encOwn,List.length_append];omega
theorem encLic_len (d:Lic):(encLic d).length≤40:=by
 have:=encI_len d.fr;have:=encI_len d.to;have:=encI_len d.fst;have:=encI_len d.lst;simp only[encLic,List.length_append];omega
theorem l51_0 (C:Row) (ds:List Dat) (hds:∀d∈ds,d.ok) (hn:ds.length≤2^30) (X:List Int) (hX:X.length≤2^43) (J:List Row):
  awp Tryz.prog GLx (.loop (lG 6 0)) (λe s=>e= .exit 0∧find s.e 1= .ref 0 0∧find s.e 4= .ref 1 0∧find s.e 5= .func 20 [.ref 1 0]∧∃J2,s.h=C::wr (X++ds.flatMap encDat)::J2)
   ⟨[(1,.ref 0 0),(4,.ref 1 0),(5,.func 20 [.ref 1 0]),(42,.v (.list (ds.map Dat.V))),(43,.v (.int .i64 ds.length)),(44,.v (.int .i64 0))],C::wr X::J⟩:=by
 refine awp_loop_I ds.length (λk s=>s.e=[(1,.ref 0 0),(4,.ref 1 0),(5,.func 20 [.ref 1 0]),(42,.v (.list (ds.map Dat.V))),(43,.v (.int .i64 ds.length)),(44,.v (.int .i64 k))]∧∃J2,s.h=C::wr (X++(ds.take k).flatMap encDat)::J2) ⟨rfl,J,by simp⟩ ?_;rintro k ⟨se,sh⟩ hk ⟨he,J2,hh⟩;simp only at he hh;subst he hh;simp only[Zgl 6 0,awp_seq,awp_reg,awp_block,awp_cond,Zge 6 10];simp;by_cases hlt:k <ds.length
 ·obtain⟨x,hx⟩:∃x,ds[k]?=some x:=⟨_,List.getElem?_eq_getElem hlt⟩;have hxe:ds[k]=x:=(List.getElem?_eq_some_iff.1 hx).2;have hw:IntKind.i64.wrap ((k:Int)+1)=k+1:=wrap_i64 (by omega) (by omega);have hle:=flat40 encDat_len (ds.take k);have ht:(ds.take k).length=k:=by simp;omega
  have e:(ds.take (k+1)).flatMap encDat=(ds.take k).flatMap encDat++encDat x:=by rw[flat_take hlt,hxe]
  have hp:=λh hr=>p129 [x.cl,x.ix,x.day,x.file] (by
    intro n hn;simp at hn;rcases hn with rfl|rfl|rfl|rfl
    ·exact(hds x (List.mem_of_getElem? hx)).1
    ·exact(hds x (List.mem_of_getElem? hx)).2.1
    ·exact(hds x (List.mem_of_getElem? hx)).2.2.1
    ·exact(hds x (List.mem_of_getElem? hx)).2.2.2) (by simp) h 1 (X++(ds.take k).flatMap encDat) hr (by rw[List.length_append];omega)
  rw[encDat_flat]at hp;simp[nums]at hp;rw[if_pos (by omega),awp_skip];simp only[Zge 6 11,Zge 6 12];simp[hx,Dat.V,putL,D.vs?,D.v?];refine⟨_,_,(hp _ rfl),?_⟩;simp[Zge 6 13,hw,hlt,e]
 ·have:k=ds.length:=by omega
  subst this;rw[if_neg (by omega),awp_exit];simp
theorem l51_1 (C:Row) (ds:List Own) (hds:∀d∈ds,d.ok) (hn:ds.length≤2^30) (X:List Int) (hX:X.length≤2^43) (J:List Row):
  awp Tryz.prog GLx (.loop (lG 6 1)) (λe s=>e= .exit 2∧find s.e 1= .ref 0 0∧find s.e 4= .ref 1 0∧find s.e 5= .func 20 [.ref 1 0]∧∃J2,s.h=C::wr (X++ds.flatMap encOwn)::J2)
   ⟨[(1,.ref 0 0),(4,.ref 1 0),(5,.func 20 [.ref 1 0]),(72,.v (.list (ds.map Own.V))),(73,.v (.int .i64 ds.length)),(74,.v (.int .i64 0))],C::wr X::J⟩:=by
 refine awp_loop_I ds.length (λk s=>s.e=[(1,.ref 0 0),(4,.ref 1 0),(5,.func 20 [.ref 1 0]),(72,.v (.list (ds.map Own.V))),(73,.v (.int .i64 ds.length)),(74,.v (.int .i64 k))]∧∃J2,s.h=C::wr (X++(ds.take k).flatMap encOwn)::J2) ⟨rfl,J,by simp⟩ ?_;rintro k ⟨se,sh⟩ hk ⟨he,J2,hh⟩;simp only at he hh;subst he hh;simp only[Zgl 6 1,awp_seq,awp_reg,awp_block,awp_cond,Zge 6 17];simp;by_cases hlt:k <ds.length
 ·obtain⟨x,hx⟩:∃x,ds[k]?=some x:=⟨_,List.getElem?_eq_getElem hlt⟩;have hxe:ds[k]=x:=(List.getElem?_eq_some_iff.1 hx).2;have hw:IntKind.i64.wrap ((k:Int)+1)=k+1:=wrap_i64 (by omega) (by omega);have hle:=flat40 encOwn_len (ds.take k);have ht:(ds.take k).length=k:=by simp;omega
  have e:(ds.take (k+1)).flatMap encOwn=(ds.take k).flatMap encOwn++encOwn x:=by rw[flat_take hlt,hxe]
  have hp:=λh hr=>p129 [x.party,x.num,x.den] (by
    intro n hn;simp at hn;rcases hn with rfl|rfl|rfl
    ·exact(hds x (List.mem_of_getElem? hx)).1
    ·exact(hds x (List.mem_of_getElem? hx)).2.1
    ·exact(hds x (List.mem_of_getElem? hx)).2.2) (by simp) h 1 (X++(ds.take k).flatMap encOwn) hr (by rw[List.length_append];omega)
  rw[encOwn_flat]at hp;simp[nums]at hp;rw[if_pos (by omega),awp_skip];simp only[Zge 6 18,Zge 6 19];simp[hx,Own.V,putL,D.vs?,D.v?];refine⟨_,_,(hp _ rfl),?_⟩;simp[Zge 6 20,hw,hlt,e]
 ·have:k=ds.length:=by omega
  subst this;rw[if_neg (by omega),awp_exit];simp
theorem l51_2 (C:Row) (ds:List Lic) (hds:∀d∈ds,d.ok) (hn:ds.length≤2^30) (X:List Int) (hX:X.length≤2^43) (J:List Row):
  awp Tryz.prog GLx (.loop (lG 6 2)) (λe s=>e= .exit 4∧find s.e 4= .ref 1 0∧find s.e 5= .func 20 [.ref 1 0]∧∃J2,s.h=C::wr (X++ds.flatMap encLic)::J2)
   ⟨[(4,.ref 1 0),(5,.func 20 [.ref 1 0]),(97,.v (.list (ds.map Lic.V))),(98,.v (.int .i64 ds.length)),(99,.v (.int .i64 0))],C::wr X::J⟩:=by
 refine awp_loop_I ds.length (λk s=>s.e=[(4,.ref 1 0),(5,.func 20 [.ref 1 0]),(97,.v (.list (ds.map Lic.V))),(98,.v (.int .i64 ds.length)),(99,.v (.int .i64 k))]∧∃J2,s.h=C::wr (X++(ds.take k).flatMap encLic)::J2) ⟨rfl,J,by simp⟩ ?_;rintro k ⟨se,sh⟩ hk ⟨he,J2,hh⟩;simp only at he hh;subst he hh;simp only[Zgl 6 2,awp_seq,awp_reg,awp_block,awp_cond,Zge 6 23];simp;by_cases hlt:k <ds.length
 ·obtain⟨x,hx⟩:∃x,ds[k]?=some x:=⟨_,List.getElem?_eq_getElem hlt⟩;have hxe:ds[k]=x:=(List.getElem?_eq_some_iff.1 hx).2;have hw:IntKind.i64.wrap ((k:Int)+1)=k+1:=wrap_i64 (by omega) (by omega);have hle:=flat40 encLic_len (ds.take k);have ht:(ds.take k).length=k:=by simp;omega
  have e:(ds.take (k+1)).flatMap encLic=(ds.take k).flatMap encLic++encLic x:=by rw[flat_take hlt,hxe]
  have hp:=λh hr=>p129 [x.fr,x.to,x.fst,x.lst] (by
    intro n hn;simp at hn;rcases hn with rfl|rfl|rfl|rfl
    ·exact(hds x (List.mem_of_getElem? hx)).1
    ·exact(hds x (List.mem_of_getElem? hx)).2.1
    ·exact(hds x (List.mem_of_getElem? hx)).2.2.1
    ·exact(hds x (List.mem_of_getElem? hx)).2.2.2) (by simp) h 1 (X++(ds.take k).flatMap encLic) hr (by rw[List.length_append];omega)
  rw[encLic_flat]at hp;simp[nums]at hp;rw[if_pos (by omega),awp_skip];simp only[Zge 6 24,Zge 6 25];simp[hx,Lic.V,putL,D.vs?,D.v?];refine⟨_,_,(hp _ rfl),?_⟩;simp[Zge 6 26,hw,hlt,e]
 ·have:k=ds.length:=by omega
  subst this;rw[if_neg (by omega),awp_exit];simp
set_option maxHeartbeats 1000000 in
theorem p51 (r:Rgt) (hr:r.ok):PSp Tryz.prog GLx 6 [r.V] [nums .u8 (if formedR r then encR r else []),.int .i64 (if formedR r then 0 else 1)]:=by
 refine psp_of_awp (Zkk 6) rfl ?_;have p1:=(p128 r hr).fsp;have hlb:=hr.lb;have hld:=hr.ld;have hlo:=hr.lo;have hll:=hr.ll;have henc:=hr.enc;have hcl:formedR r=true→clmsE r.claims=0:=by
  intro h;unfold formedR at h;simp at h;exact h.1.1.1.1.1.1.2
 have p2:=(p130 r.claims hr.claims (by have:=hr.lc;omega) henc).fsp;cases hf:formedR r with
 |false=>
  rw[hf]at p1;simp only[Zga 6,awp_seq,awp_reg,awp_cond,Zge 6 0,Zge 6 1,entry];simp[Rgt.V,Rgt.cs]at p1 ⊢;refine⟨_,_,p1 _,?_⟩;simp[awp_ret,Zge 6 2,Zgr 6,nums]
 |true=>
  rw[hf]at p1;rw[hcl hf]at p2;simp at p2;have hres:encR r=encR r:=rfl;obtain⟨R,hR⟩:∃R,encR r=R:=⟨_,rfl⟩;rw[hR];have hB:=isB.encClms hr.claims (by have:=hr.lc;omega) (by omega);have hraw:(encRaw (encClms r.claims)).length≤2^40:=by have:=uvar_len (encClms r.claims).length;simp only[encRaw,List.length_append];omega
  have q1:=λh hq=>p129 [r.file,r.state,r.force] (by intro n hn;simp at hn;rcases hn with rfl|rfl|rfl;exact hr.file;exact hr.state;exact hr.force) (by simp) h 1 [] hq (by simp)
  simp only[List.nil_append]at q1;have i1:=encI_len r.file;have i2:=encI_len r.state;have i3:=encI_len r.force;obtain⟨X1,hX1⟩:∃X1,[r.file,r.state,r.force].flatMap encI=X1:=⟨_,rfl⟩;have l1:X1.length≤30:=by rw[←hX1];simp;omega
  rw[hX1]at q1;have q2:=λh hq=>p99 (encClms r.claims) hB (by omega) h 1 X1 hq (by omega);obtain⟨X2,hX2⟩:∃X2,X1++encRaw (encClms r.claims)=X2:=⟨_,rfl⟩;have l2:X2.length≤2^41:=by rw[←hX2,List.length_append];omega
  rw[hX2]at q2;have q3:=λh hq=>p129 [(r.dates.length:Int)] (by intro n hn;simp at hn;subst hn;unfold i64;omega) (by simp) h 1 X2 hq (by omega);obtain⟨X3,hX3⟩:∃X3,X2++[(r.dates.length:Int)].flatMap encI=X3:=⟨_,rfl⟩;have i4:=encI_len r.dates.length;have l3:X3.length≤2^41+10:=by rw[←hX3];simp;omega
  rw[hX3]at q3;have q4:=λC J=>l51_0 C r.dates hr.dates hld X3 (by omega) J;have i5:=flat40 encDat_len r.dates;obtain⟨X4,hX4⟩:∃X4,X3++r.dates.flatMap encDat=X4:=⟨_,rfl⟩;have l4:X4.length≤2^41+2^37:=by rw[←hX4,List.length_append];omega
  rw[hX4]at q4;have q5:=λh hq=>p100 r.bad hr.bad (by omega) h 1 X4 hq (by omega);have i6:=flat_encI_len r.bad;have i7:=uvar_len r.bad.length;obtain⟨X5,hX5⟩:∃X5,X4++encInts r.bad=X5:=⟨_,rfl⟩;have l5:X5.length≤2^41+2^38:=by rw[←hX5,List.length_append,encInts,List.length_append];omega
  rw[hX5]at q5;have q6:=λh hq=>p129 [(r.owners.length:Int)] (by intro n hn;simp at hn;subst hn;unfold i64;omega) (by simp) h 1 X5 hq (by omega);obtain⟨X6,hX6⟩:∃X6,X5++[(r.owners.length:Int)].flatMap encI=X6:=⟨_,rfl⟩;have i8:=encI_len r.owners.length;have l6:X6.length≤2^41+2^38+10:=by rw[←hX6];simp;omega
  rw[hX6]at q6;have q7:=λC J=>l51_1 C r.owners hr.owners hlo X6 (by omega) J;have i9:=flat40 encOwn_len r.owners;obtain⟨X7,hX7⟩:∃X7,X6++r.owners.flatMap encOwn=X7:=⟨_,rfl⟩;have l7:X7.length≤2^41+2^39:=by rw[←hX7,List.length_append];omega
  rw[hX7]at q7;have q8:=λh hq=>p129 [(r.lics.length:Int)] (by intro n hn;simp at hn;subst hn;unfold i64;omega) (by simp) h 1 X7 hq (by omega);obtain⟨X8,hX8⟩:∃X8,X7++[(r.lics.length:Int)].flatMap encI=X8:=⟨_,rfl⟩;have i10:=encI_len r.lics.length;have l8:X8.length≤2^41+2^39+10:=by rw[←hX8];simp;omega
  rw[hX8]at q8;have q9:=λC J=>l51_2 C r.lics hr.lics hll X8 (by omega) J;have i11:=flat40 encLic_len r.lics;obtain⟨X9,hX9⟩:∃X9,X8++r.lics.flatMap encLic=X9:=⟨_,rfl⟩;have l9:X9.length≤2^42:=by rw[←hX9,List.length_append];omega
  rw[hX9]at q9;have hRX:X9=R:=by
   rw[←hR,←hX9,←hX8,←hX7,←hX6,←hX5,←hX4,←hX3,←hX2,←hX1];simp[encR]
  rw[hRX]at q9 l9;simp[nums]at p2 q1 q2 q3 q5 q6 q8;simp only[Zga 6,awp_seq,awp_reg,awp_block,awp_cond,Zge 6 0,Zge 6 1,entry];simp[Rgt.V,Rgt.cs,nums]at p1 ⊢;refine⟨_,_,p1 _,?_⟩;simp[awp_skip,Zge 6 3,Zge 6 4];simp[Zge 6 5,D.vs?,D.v?];refine⟨_,_,(q1 _ rfl),?_⟩;simp[Zge 6 6];refine⟨_,_,p2 _,?_⟩;simp[Zge 6 7];refine⟨_,_,(q2 _ rfl),?_⟩;simp[Zge 6 8,D.vs?,D.v?];refine⟨_,_,(q3 _ rfl),?_⟩;simp[Zge 6 9];refine awp_mono _ ?_ (q4 _ _);rintro e ⟨se,sh⟩ ⟨rfl,f1,f4,f5,J2,hh⟩;simp only at f1 f4 f5 hh;subst hh;simp[Zge 6 14,f1,f4,f5];refine⟨_,_,(q5 _ rfl),?_⟩;simp[Zge 6 15,D.vs?,D.v?];refine⟨_,_,(q6 _ rfl),?_⟩;simp[Zge 6 16];refine awp_mono _ ?_ (q7 _ _);rintro e ⟨se,sh⟩ ⟨rfl,f1,f4,f5,J2,hh⟩;simp only at f1 f4 f5 hh;subst hh;simp[Zge 6 21,f1,f4,f5,D.vs?,D.v?];refine⟨_,_,(q8 _ rfl),?_⟩;simp[Zge 6 22];refine awp_mono _ ?_ (q9 _ _);rintro e ⟨se,sh⟩ ⟨rfl,f4,f5,J2,hh⟩;simp only at f4 f5 hh;subst hh;simp[Zge 6 27,f4];refine⟨_,_,(p102 _ 1 R rfl (by omega)),?_⟩;simp[awp_ret,Zgr 6]
structure Val where
 a:Int
 n:Int
 d:Int
def Val.V (x:Val):V:= .agg [.int .i64 x.a,.int .i64 x.n,.int .i64 x.d]
inductive Th where
 |mk (cs:List Int) (vs:List Val) (ps:List Th)
def Th.cs:Th→List Int| .mk c _ _=>c
def Th.vs:Th→List Val| .mk _ v _=>v
def Th.ps:Th→List Th| .mk _ _ p=>p
theorem Th.ind {p:Th→Prop} (h:∀cs vs ps,(∀k∈ps,p k)→p (.mk cs vs ps)) (f:Th):p f:=
 Th.rec (motive_1:=p) (motive_2:=λl=>∀k∈l,p k) (λcs vs ps ih=>h cs vs ps ih) (λk hk=>by cases hk)
  (λx xs hx hxs k hk=>by cases hk with|head=>exact hx|tail _ hk=>exact hxs k hk) f
mutual
def Th.V:Th→V| .mk cs vs ps=> .agg [nums .i64 cs,.list (vs.map Val.V),.list (Th.Vs ps)]
def Th.Vs:List Th→List V|[]=>[]|k::ks=>k.V::Th.Vs ks
end
theorem Th.Vs_map:∀l,Th.Vs l=l.map Th.V
 |[]=>rfl
 |k::ks=>by simp[Th.Vs,Th.Vs_map ks]
theorem Th.V_eq (cs:List Int) (vs:List Val) (ps:List Th):(Th.mk cs vs ps).V= .agg [nums .i64 cs,.list (vs.map Val.V),.list (ps.map Th.V)]:=by
 simp[Th.V,Th.Vs_map]
def Val.ok (x:Val):Prop:=i64 x.a∧i64 x.n∧i64 x.d
inductive Th.ok:Th→Prop
 |mk {cs vs ps} (h1:cs.length≤2^30) (h2:vs.length≤2^30) (h3:ps.length≤2^30) (h4:∀x∈vs,Val.ok x) (h5:∀p∈ps,Th.ok p):Th.ok (.mk cs vs ps)
mutual
def Th.nd:Th→Int→Int→Int| .mk _ _ ps,lv,lf=>if 8 <lv∨lf <1 then -1 else Th.nds ps (lv+1) (lf-1)
def Th.nds:List Th→Int→Int→Int|[],_,lf=>lf|k::ks,lv,lf=>if k.nd lv lf <0 then -1 else Th.nds ks lv (k.nd lv lf)
end
def limT (t:Th):Bool:=decide (0≤t.nd 1 96)
def badC (l:List Int) (m:Int) (k:Nat):Bool:=decide (l.getD k 0 <0∨m≤l.getD k 0∨(0 <k∧l.getD k 0≤l.getD (k-1) 0))
def incC (l:List Int) (m:Int):Bool:= !(List.range l.length).any (badC l m)
def valOK (x:Val):Bool:=okR x.n x.d&&decide (x.d≤65536)
mutual
def Th.formed:Th→Bool| .mk cs vs ps=>vs.all valOK&&(incC cs 64&&(incC (vs.map Val.a) 32&&Th.formeds ps))
def Th.formeds:List Th→Bool|[]=>true|k::ks=>k.formed&&Th.formeds ks
end
def thE (t:Th):Int:=if limT t then (if t.formed then 0 else 1) else 4
def Th.cells (t:Th):List D:=[.v (nums .i64 t.cs),.v (.list (t.vs.map Val.V)),.v (.list (t.ps.map Th.V))]
def datF (l:List Int) (i:Nat):Dat:=⟨i,(pickI l (4+i) 1000).tmod 3,IntKind.i64.wrap (36000+(pickI l (4+i) 1000).tmod 50),(pickI l (4+i) 1000).tmod 20⟩
def badF (l:List Int) (i:Nat):Option Int:=if (pickI l (4+i) 1000).tmod 5=0 then some i else none
def ownF (l:List Int) (i:Nat):Own:=⟨IntKind.i64.wrap (1+2*i+(pickI l (9+i) 1000).tmod 2),1,pickI l 8 3⟩
def licF (l:List Int) (i:Nat):Option Lic:=
 let k:=pickI l (9+i) 1000
 if k.tmod 3=0 then some ⟨IntKind.i64.wrap (1+k.tmod 5),IntKind.i64.wrap (2+k.tmod 7),k,IntKind.i64.wrap (k+IntKind.i64.wrap (k.tdiv 7))⟩ else none
def someF (l:List Int):Rgt:=
 ⟨pickI l 0 40,pickI l 1 5,if pickI l 2 3=0 then pickI l 3 5 else 0,claimsF l,(List.range (claimsF l).length).map (datF l),(List.range (claimsF l).length).filterMap (badF l),
  (List.range (pickI l 8 3).toNat).map (ownF l),(List.range (pickI l 8 3).toNat).filterMap (licF l)⟩
theorem claimsF_len (l:List Int):(claimsF l).length≤3:=by have:=manyC_le l;simpa[claimsF]using this
def mkR (a b c:Int) (cl:List Clm) (ds:List Dat) (bad:List Int) (os:List Own) (ls:List Lic):Row:=
 .cells [.v (.int .i64 a),.v (.int .i64 b),.v (.int .i64 c),.v (.list (cl.map Clm.V)),.own 60 4 (ds.map Dat.V),.own 3 1 (bad.map (.int .i64)),.own 64 3 (os.map Own.V),.own 66 4 (ls.map Lic.V)]
set_option maxRecDepth 100000 in
theorem l48_0 (l:List Int) (a b c:Int) (cl:List Clm) (hcl:cl.length≤3) (R0:Row):
  awp Tryz.prog GLx (.loop (lG 4 0)) (λe s=>e= .exit 0∧find s.e 0= .v (nums .i64 l)∧find s.e 2= .ref 0 0∧find s.e 3= .ref 1 0∧s.h=[R0,mkR a b c cl ((List.range cl.length).map (datF l)) ((List.range cl.length).filterMap (badF l)) [] []])
   ⟨[(0,.v (nums .i64 l)),(2,.ref 0 0),(3,.ref 1 0),(4,.v (.int .i64 0))],[R0,mkR a b c cl [] [] [] []]⟩:=by
 refine awp_loop_nat0 cl.length (λi=>⟨[(0,.v (nums .i64 l)),(2,.ref 0 0),(3,.ref 1 0),(4,.v (.int .i64 i))],[R0,mkR a b c cl ((List.range i).map (datF l)) ((List.range i).filterMap (badF l)) [] []]⟩) (by simp) ?_;intro i hi;simp only[Zgl 4 0,awp_seq,awp_reg,awp_block,awp_cond,Zge 4 5];simp[mkR];by_cases hlt:i <cl.length
 ·have v1:IntKind.i64.wrap (4+(i:Int))=4+i:=wrap_i64 (by omega) (by omega);have hw:IntKind.i64.wrap ((i:Int)+1)=i+1:=wrap_i64 (by omega) (by omega);have p1:=(p47 l (4+i) 1000 (by decide)).fsp;have hlb:((List.range i).filterMap (badF l)).length≤i:=by have:=List.length_filterMap_le (badF l) (List.range i);simpa using this
  have r1:roomy (i+1) 32=true:=by simp[roomy];omega
  have r2:roomy (((List.range i).filterMap (badF l)).length+1) 8=true:=by simp[roomy];omega
  simp[nums]at p1;have hd:datF l i=⟨i,(pickI l (4+i) 1000).tmod 3,IntKind.i64.wrap (36000+(pickI l (4+i) 1000).tmod 50),(pickI l (4+i) 1000).tmod 20⟩:=rfl;have hb:badF l i=if (pickI l (4+i) 1000).tmod 5=0 then some (i:Int) else none:=rfl;generalize pickI l (4+i) 1000=k at*;rw[if_pos (by omega),awp_skip];simp only[Zge 4 7];simp[v1,nums];refine⟨_,_,p1 _,?_⟩;simp[Zge 4 8,putL,r1];by_cases h5:k.tmod 5=0
  ·simp[Zge 4 9,h5,Zge 4 10,r2,Zge 4 6,hw,hlt,List.range_succ,hd,hb,Dat.V]
  ·simp[Zge 4 9,h5,awp_skip,Zge 4 6,hw,hlt,List.range_succ,hd,hb,Dat.V]
 ·have:i=cl.length:=by omega
  subst this;rw[if_neg (by omega),awp_exit];simp
set_option maxRecDepth 100000 in
theorem l48_1 (l:List Int) (a b c:Int) (cl:List Clm) (ds:List Dat) (bad:List Int) (R0:Row):
  awp Tryz.prog GLx (.loop (lG 4 1)) (λe s=>e= .exit 2∧find s.e 2= .ref 0 0∧find s.e 3= .ref 1 0∧s.h=[R0,mkR a b c cl ds bad ((List.range (pickI l 8 3).toNat).map (ownF l)) ((List.range (pickI l 8 3).toNat).filterMap (licF l))])
   ⟨[(0,.v (nums .i64 l)),(2,.ref 0 0),(3,.ref 1 0),(6,.v (.int .i64 (pickI l 8 3))),(7,.v (.int .i64 0))],[R0,mkR a b c cl ds bad [] []]⟩:=by
 have hN:=pickI_b l 8 3 (by decide);have hO:∀i,ownF l i=⟨IntKind.i64.wrap (1+2*i+(pickI l (9+i) 1000).tmod 2),1,pickI l 8 3⟩:=λ_=>rfl;generalize pickI l 8 3=N at*;refine awp_loop_nat0 N.toNat (λi=>⟨[(0,.v (nums .i64 l)),(2,.ref 0 0),(3,.ref 1 0),(6,.v (.int .i64 N)),(7,.v (.int .i64 i))],[R0,mkR a b c cl ds bad ((List.range i).map (ownF l)) ((List.range i).filterMap (licF l))]⟩) (by simp) ?_;intro i hi;simp only[Zgl 4 1,awp_seq,awp_reg,awp_block,awp_cond,Zge 4 13];simp[mkR];by_cases hlt:i <N.toNat
 ·have hlt':(i:Int) <N:=by omega
  have v1:IntKind.i64.wrap (9+(i:Int))=9+i:=wrap_i64 (by omega) (by omega);have v2:IntKind.i64.wrap (2*(i:Int))=2*i:=wrap_i64 (by omega) (by omega);have v3:IntKind.i64.wrap (1+2*(i:Int))=1+2*i:=wrap_i64 (by omega) (by omega);have hw:IntKind.i64.wrap ((i:Int)+1)=i+1:=wrap_i64 (by omega) (by omega);have p1:=(p47 l (9+i) 1000 (by decide)).fsp;have hlb:((List.range i).filterMap (licF l)).length≤i:=by have:=List.length_filterMap_le (licF l) (List.range i);simpa using this
  have r1:roomy (i+1) 24=true:=by simp[roomy];omega
  have r2:roomy (((List.range i).filterMap (licF l)).length+1) 32=true:=by simp[roomy];omega
  simp[nums]at p1;have hd:=hO i;have hb:licF l i=if (pickI l (9+i) 1000).tmod 3=0 then some ⟨IntKind.i64.wrap (1+(pickI l (9+i) 1000).tmod 5),IntKind.i64.wrap (2+(pickI l (9+i) 1000).tmod 7),(pickI l (9+i) 1000),IntKind.i64.wrap ((pickI l (9+i) 1000)+IntKind.i64.wrap ((pickI l (9+i) 1000).tdiv 7))⟩ else none:=rfl;generalize pickI l (9+i) 1000=k at*;rw[if_pos (by omega),awp_skip];simp only[Zge 4 15];simp[v1,nums];refine⟨_,_,p1 _,?_⟩;simp[Zge 4 16,putL,r1,v2,v3];by_cases h5:k.tmod 3=0
  ·simp[Zge 4 17,h5,Zge 4 18,putL,r2,Zge 4 14,hw,hlt',List.range_succ,hd,hb,Own.V,Lic.V]
  ·simp[Zge 4 17,h5,awp_skip,Zge 4 14,hw,hlt',List.range_succ,hd,hb,Own.V]
 ·have:i=N.toNat:=by omega
  subst this;rw[if_neg (by omega),awp_exit];simp
def c48t:AC:=(.seq (.seq (.reg (oG 4 4) [0,2,3,4]) (.block 0 (.loop (lG 4 0)))) (.seq (.reg (oG 4 11) [0,2,3,6]) (.seq (.seq (.reg (oG 4 12) [0,2,3,6,7]) (.block 2 (.loop (lG 4 1)))) (.seq (.reg (oG 4 19) [2]) .ret))))
theorem c48_eq:(gA 4)=(.seq (.reg (oG 4 0) [0,2]) (.seq (.reg (oG 4 1) [0,2,3]) (.seq (.seq (.reg (oG 4 2) [0,2,3,18]) (.cond (.t 18 false) (.reg (oG 4 3) [0,2,3]) .skip)) c48t))):=(Zga 4 :)
set_option maxRecDepth 100000 in
theorem p48 (l:List Int):PSp Tryz.prog GLx 4 [nums .i64 l] [(someF l).V]:=by
 refine psp_of_awp (Zkk 4) rfl ?_;have p1:=(p47 l 0 40 (by decide)).fsp;have p2:=(p47 l 1 5 (by decide)).fsp;have p3:=(p124 l).fsp;have p4:=(p47 l 2 3 (by decide)).fsp;have p5:=(p47 l 3 5 (by decide)).fsp;have p6:=(p47 l 8 3 (by decide)).fsp;have hl0:=λc R0=>l48_0 l (pickI l 0 40) (pickI l 1 5) c (claimsF l) (claimsF_len l) R0;have hl1:=λc ds bad R0=>l48_1 l (pickI l 0 40) (pickI l 1 5) c (claimsF l) ds bad R0;simp[nums,mkR]at p1 p2 p3 p4 p5 p6 hl0 hl1;rw[c48_eq];simp only[awp_seq,awp_reg,awp_cond,Zge 4 0,Zge 4 1,entry];simp[nums];refine⟨_,_,p1 _,?_⟩;simp;refine⟨_,_,p2 _,?_⟩;simp;refine⟨_,_,p3 _,?_⟩;simp[putL,Zge 4 2];refine⟨_,_,p4 _,?_⟩;simp;have fin:∀(c:Int) (e:Env),find e 0= .v (nums .i64 l)→find e 2= .ref 0 0→find e 3= .ref 1 0→c=(if pickI l 2 3=0 then pickI l 3 5 else 0)→
   awp Tryz.prog GLx c48t (λe s=>(match e with| .exit _=>False|_=>True)∧resVs s (gR 4)=some [(someF l).V])
    ⟨e,[.cells [.v (.int .i64 0),.v (.int .i64 0),.v (.int .i64 0),.own 72 5 [],.own 60 4 [],.own 3 1 [],.own 64 3 [],.own 66 4 []],
     .cells [.v (.int .i64 (pickI l 0 40)),.v (.int .i64 (pickI l 1 5)),.v (.int .i64 c),.v (.list ((claimsF l).map Clm.V)),.own 60 4 [],.own 3 1 [],.own 64 3 [],.own 66 4 []]]⟩:=by
  intro c e f0 f2 f3 hc;unfold c48t;simp only[awp_seq,awp_reg,awp_block,Zge 4 4];simp[f0,f2,f3,nums];refine awp_mono _ ?_ (hl0 c _);rintro e ⟨se,sh⟩ ⟨rfl,g0,g2,g3,hh⟩;simp only at g0 g2 g3 hh;subst hh;simp[Zge 4 11,g0,g2,g3];refine⟨_,_,p6 _,?_⟩;simp[Zge 4 12];have q:=hl1 c ((List.range (claimsF l).length).map (datF l)) ((List.range (claimsF l).length).filterMap (badF l)) (.cells [.v (.int .i64 0),.v (.int .i64 0),.v (.int .i64 0),.own 72 5 [],.own 60 4 [],.own 3 1 [],.own 64 3 [],.own 66 4 []]);simp at q;refine awp_mono _ ?_ q;rintro e ⟨se,sh⟩ ⟨rfl,g2,g3,hh⟩;simp only at g2 g3 hh;subst hh;simp[Zge 4 19,g2,g3,awp_ret,Zgr 4,putL,someF,Rgt.V,Rgt.cs,nums,hc]
 by_cases h0:pickI l 2 3=0
 ·simp[h0,Zge 4 3];refine⟨_,_,p5 _,?_⟩;simp[putL];exact fin _ _ rfl rfl rfl (by simp[h0])
 ·simp[h0,awp_skip];exact fin _ _ rfl rfl rfl (by simp[h0])
theorem wrap_ok (n:Int):i64 (IntKind.i64.wrap n):=by
 have h1:=Int.emod_nonneg n (b:=18446744073709551616) (by decide);have h2:=Int.emod_lt_of_pos n (b:=18446744073709551616) (by decide);unfold IntKind.wrap i64;simp only[IntKind.bits,IntKind.signed];have e1:((2:Int)^64)=18446744073709551616:=by decide
 have e2:((2:Int)^(64-1))=9223372036854775808:=by decide
 simp only[e1,e2,Bool.true_and,decide_eq_true_eq,ge_iff_le];split<;>omega
theorem tmod_b (b n:Int) (hn:0 <n): -n <b.tmod n∧b.tmod n <n:=by
 have h1:=Int.tmod_lt_of_pos b hn;have h2:=Int.tmod_lt_of_pos (-b) hn;rw[Int.neg_tmod]at h2;omega
theorem tmod_ok (b n:Int) (hn:0 <n) (h:n≤2^40):i64 (b.tmod n):=by have:=tmod_b b n hn;unfold i64;omega
theorem pickI_ok (l:List Int) (i n:Int) (hn:0 <n) (h:n≤2^40):i64 (pickI l i n):=by have:=pickI_b l i n hn;unfold i64;omega
structure F.tiny (m:Nat) (f:F):Prop where
 one:∀g∈f.nodes,g.ok1∧g.ins.length≤1
 len:f.nodes.length≤m
 size:f.size≤m
theorem F.tiny.ok {m:Nat} {f:F} (h:f.tiny m) (hm:m≤2^20):f.ok:=⟨λg hg=>(h.one g hg).1,by have:=h.size;omega⟩
theorem flat_le {α:Type} {f:α→List Int} (c:Nat):∀l:List α,(∀x∈l,(f x).length≤c)→(l.flatMap f).length≤c*l.length
 |[],_=>by simp
 |x::l,h=>by
  have h1:=h x (by simp);have h2:=flat_le c l λy hy=>h y (by simp[hy]);simp only[List.flatMap_cons,List.length_append,List.length_cons,Nat.mul_succ];omega
theorem encInts_le (l:List Int):(encInts l).length≤10+10*l.length:=by
 have h1:=uvar_len l.length;have h2:=flat_encI_len l;rw[encInts,List.length_append];omega
theorem F.tiny.enc {m:Nat} {f:F} (h:f.tiny m):(encF f).length≤200*m:=by
 have key:=flat_le (f:=encNode) 200 f.nodes λg hg=>by
  have h1:=(h.one g hg).2;have h2:=flat_le (f:=encIvl) 100 g.ins λx _=>by
   have:=encInts_le [x.ln,x.ld,x.hn,x.hd,b01 x.lo,b01 x.ho,b01 x.li,b01 x.hi];simp only[List.length_cons,List.length_nil]at this;exact Nat.le_trans this (by decide)
  have:=encI_len g.op;have:=encI_len g.n;have:=encI_len g.ins.length;have:=encI_len g.kids.length;simp only[encNode,List.length_append];omega
 have:=h.len;have:200*f.nodes.length≤200*m:=Nat.mul_le_mul_left _ this;exact Nat.le_trans key this
theorem pieceA_tiny (k:Int):(pieceA k).tiny 1:=by
 refine⟨?_,by simp[pieceA,F.nodes_eq],by simp[pieceA,F.size_eq]⟩;simp only[pieceA,F.nodes_eq,List.flatMap_nil,List.mem_singleton,forall_eq,F.ok1,F.op,F.n,F.ins];exact⟨⟨by unfold i64;omega,tmod_ok _ _ (by decide) (by decide),by simp,by simp⟩,by simp⟩
theorem pieceC_tiny (k:Int):(pieceC k).tiny 1:=by
 refine⟨?_,by simp[pieceC,F.nodes_eq],by simp[pieceC,F.size_eq]⟩;simp only[pieceC,F.nodes_eq,List.flatMap_nil,List.mem_singleton,forall_eq,F.ok1,F.op,F.n,F.ins];exact⟨⟨by unfold i64;omega,tmod_ok _ _ (by decide) (by decide),⟨tmod_ok _ _ (by decide) (by decide),by simp[i64],wrap_ok _,by simp[i64]⟩,by simp⟩,by simp⟩
theorem tiny_node {op:Int} {kids:List F} {m:Nat} (ho:i64 op) (hk:∀k∈kids,k.tiny m):(F.mk op 0 [] kids).tiny (1+m*kids.length):=by
 have s:∀l:List F,(∀k∈l,k.tiny m)→(l.flatMap F.nodes).length≤m*l.length∧(l.map F.size).sum≤m*l.length:=by
  intro l;induction l with
  |nil=>simp
  |cons x l ih=>
   intro h;have h1:=h x (by simp);have h2:=ih λk hk=>h k (by simp[hk]);have:=h1.len;have:=h1.size;simp only[List.flatMap_cons,List.length_append,List.length_cons,List.map_cons,List.sum_cons,Nat.mul_succ];omega
 have s1:=s kids hk;refine⟨?_,by rw[F.nodes_eq,List.length_cons];omega,by rw[F.size_eq];omega⟩;intro g hg;rw[F.nodes_eq]at hg;rcases List.mem_cons.1 hg with rfl|hg
 ·exact⟨⟨ho,by simp[F.n,i64],by simp[F.ins],by simp[F.ins]⟩,by simp[F.ins]⟩
 ·obtain⟨k,hk1,hk2⟩:=List.mem_flatMap.1 hg;exact(hk k hk1).one g hk2
theorem F.tiny.mono {m n:Nat} {f:F} (h:f.tiny m) (hn:m≤n):f.tiny n:=⟨h.one,Nat.le_trans h.len hn,Nat.le_trans h.size hn⟩
theorem pieceF_tiny (n:Int):(pieceF n).tiny 3:=by
 unfold pieceF;generalize aroundI n 1048576=k;have o:∀n:Int,0≤n→n≤6→i64 n:=λn h1 h2=>by unfold i64;omega
 simp only
 repeat' split
 ·exact(pieceA_tiny k).mono (by decide)
 ·exact(pieceC_tiny k).mono (by decide)
 ·exact(tiny_node (m:=1) (o _ (by decide) (by decide)) (by simp[pieceA_tiny,pieceC_tiny])).mono (by simp)
 ·exact(tiny_node (m:=1) (o _ (by decide) (by decide)) (by simp[pieceA_tiny])).mono (by simp)
 ·exact(tiny_node (m:=1) (o _ (by decide) (by decide)) (by simp[pieceA_tiny])).mono (by simp)
structure Clm.tiny (c:Clm):Prop where
 refs:∀n∈c.refs,i64 n
 lr:c.refs.length≤2
 body:c.body.tiny 7
theorem Clm.tiny.ok {c:Clm} (h:c.tiny):c.ok:=⟨h.refs,by have:=h.lr;omega,h.body.ok (by decide)⟩
theorem claimF_tiny (l:List Int) (i:Nat) (hi:i≤3):(claimF l i).tiny:=by
 unfold claimF;generalize pickI l (2*i+1) 1000=k;generalize pickI l (2*i+2) 1048576=m;refine⟨?_,?_,?_⟩
 ·simp only;split
  ·simp[i64]
  ·split
   ·rename_i h;simp only[List.mem_singleton,forall_eq];exact tmod_ok _ _ (by omega) (by omega)
   ·simp
 ·simp only;split
  ·simp
  ·split<;>simp
 ·simp only;split
  ·exact(tiny_node (m:=3) (by unfold i64;omega) (by simp[pieceF_tiny])).mono (by simp)
  ·exact(pieceF_tiny m).mono (by decide)
structure Rgt.tiny (m:Nat) (r:Rgt):Prop where
 file:i64 r.file
 state:i64 r.state
 force:i64 r.force
 claims:∀c∈r.claims,c.tiny
 dates:∀d∈r.dates,d.ok
 bad:∀n∈r.bad,i64 n
 owners:∀o∈r.owners,o.ok
 lics:∀h∈r.lics,h.ok
 lc:r.claims.length≤m
 ld:r.dates.length≤m
 lb:r.bad.length≤m
 lo:r.owners.length≤m
 ll:r.lics.length≤m
theorem encClm_le {c:Clm} (h:c.tiny):(encClm c).length≤1500:=by
 have h1:=encInts_le c.refs;have h2:=h.lr;have h3:=h.body.enc;have h4:=uvar_len (encF c.body).length;simp only[encClm,encRaw,List.length_append];omega
theorem encClms_le {l:List Clm} (h:∀c∈l,c.tiny):(encClms l).length≤10+1500*l.length:=by
 have h1:=flat_le (f:=encClm) 1500 l λc hc=>encClm_le (h c hc);have h2:=encI_len l.length;simp only[encClms,List.length_append];omega
theorem Rgt.tiny.ok {m:Nat} {r:Rgt} (h:r.tiny m) (hm:m≤2^20):r.ok:=by
 have:=h.lc;have:=h.ld;have:=h.lb;have:=h.lo;have:=h.ll;have:=encClms_le h.claims;exact⟨h.file,h.state,h.force,λc hc=>(h.claims c hc).ok,h.dates,h.bad,h.owners,h.lics,by omega,by omega,by omega,by omega,by omega,by omega⟩
theorem someF_tiny (l:List Int):(someF l).tiny 3:=by
 have hc:=claimsF_len l;have hp:=pickI_b l 8 3 (by decide);have o:∀i n:Int,0 <n→n≤2^40→i64 (pickI l i n):=λi n=>pickI_ok l i n;refine⟨o 0 40 (by decide) (by decide),o 1 5 (by decide) (by decide),?_,?_,?_,?_,?_,?_,hc,?_,?_,?_,?_⟩
 ·simp only[someF];split
  ·exact o 3 5 (by decide) (by decide)
  ·simp[i64]
 ·intro c h;simp only[someF,claimsF,List.mem_map,List.mem_range]at h;obtain⟨i,hi,rfl⟩:=h;have:=manyC_le l;exact claimF_tiny l i (by omega)
 ·intro d h;simp only[someF,List.mem_map,List.mem_range]at h;obtain⟨i,hi,rfl⟩:=h;exact⟨by simp only[datF];unfold i64;omega,tmod_ok _ _ (by decide) (by decide),wrap_ok _,tmod_ok _ _ (by decide) (by decide)⟩
 ·intro n h;simp only[someF,List.mem_filterMap,List.mem_range,badF]at h;obtain⟨i,hi,h⟩:=h;split at h
  ·simp only[Option.some.injEq]at h;subst h;unfold i64;omega
  ·simp at h
 ·intro w h;simp only[someF,List.mem_map,List.mem_range]at h;obtain⟨i,hi,rfl⟩:=h;exact⟨wrap_ok _,by simp[ownF,i64],o 8 3 (by decide) (by decide)⟩
 ·intro w h;simp only[someF,List.mem_filterMap,List.mem_range,licF]at h;obtain⟨i,hi,h⟩:=h;split at h
  ·simp only[Option.some.injEq]at h;subst h;exact⟨wrap_ok _,wrap_ok _,o (9+i) 1000 (by decide) (by decide),wrap_ok _⟩
  ·simp at h
 ·simp only[someF,List.length_map,List.length_range];exact hc
 ·have:=List.length_filterMap_le (badF l) (List.range (claimsF l).length);simp only[someF];rw[List.length_range]at this;omega
 ·simp only[someF,List.length_map,List.length_range];omega
 ·have:=List.length_filterMap_le (licF l) (List.range (pickI l 8 3).toNat);simp only[someF];rw[List.length_range]at this;omega
inductive Th.small:Th→Prop
 |mk {cs vs ps} (h1:cs.length≤2^20) (h2:vs.length≤2^20) (h3:ps.length≤2^20) (h5:∀p∈ps,Th.small p):Th.small (.mk cs vs ps)
theorem p135 (xs:List Int) (n:Int) (hn:i64 n) (hl:xs.length≤2^45):OSp Tryz.prog GLx 28 [.own 5 1 (xs.map (.int .u8)),.v (.int .i64 n)] [.own 5 1 ((xs++encI n).map (.int .u8))]:=by
 refine osp_of_awp (Zkk 28) rfl λh=>?_;have he:=encI_len n;have hroom:roomy (xs.length+(encI n).length) 1=true:=by simp[roomy];omega
 simp only[Zga 28,awp_seq,awp_reg,Zge 28 0,Zge 28 1,entryD];simp;refine⟨_,_,(p104 n hn h),?_⟩;simp[hroom,awp_ret,Zgr 28]
theorem p135n (n:Int) (hn:i64 n):OSp Tryz.prog GLx 28 [.nil 5 1,.v (.int .i64 n)] [.own 5 1 ((encI n).map (.int .u8))]:=by
 refine osp_of_awp (Zkk 28) rfl λh=>?_;have he:=encI_len n;have hroom:roomy (encI n).length 1=true:=by simp[roomy];omega
 simp only[Zga 28,awp_seq,awp_reg,Zge 28 0,Zge 28 1,entryD];simp;refine⟨_,_,(p104 n hn h),?_⟩;simp[hroom,awp_ret,Zgr 28]
theorem rising_all {α:Type} {ok:α→Bool} {f:α→α→Bool} {l:List α} (P:Nat→Bool) (hP:∀(k:Nat) x,l[k]?=some x→(∀j <k,P j=true)→P k=(ok x&&(match k with|0=>true|j+1=>match l[j]? with|some y=>f y x|none=>true))):
  (l.all ok&&rising f l)=decide (∀k <l.length,P k=true):=by
 rw[Bool.eq_iff_iff,Bool.and_eq_true,rising_iff,List.all_eq_true,decide_eq_true_eq]
 constructor
 ·rintro⟨h1,h2⟩;have key:∀n,∀k <n,k <l.length→P k=true:=by
   intro n;induction n with
   |zero=>intro k hk;omega
   |succ n ih=>
    intro k hk hkl;have hx:l[k]?=some l[k]:=List.getElem?_eq_getElem hkl;rw[hP k _ hx λj hj=>ih j (by omega) (by omega),h1 _ (List.getElem_mem hkl),Bool.true_and];cases k with
    |zero=>rfl
    |succ j=>
     have hy:l[j]?=some l[j]:=List.getElem?_eq_getElem (by omega);simp only[hy];exact h2 j _ _ hy hx
  exact λk hk=>key (k+1) k (by omega) hk
 ·intro h;have h3:∀(k:Nat) x,l[k]?=some x→(ok x&&(match k with|0=>true|j+1=>match l[j]? with|some y=>f y x|none=>true))=true:=by
   intro k x hx;have hk:=(List.getElem?_eq_some_iff.1 hx).1;rw[←hP k x hx λj hj=>h j (by omega)];exact h k hk
  refine⟨λx hx=>?_,λi x y hx hy=>?_⟩
  ·obtain⟨k,hk⟩:=List.getElem?_of_mem hx;have:=h3 k x hk;simp only[Bool.and_eq_true]at this;exact this.1
  ·have:=h3 (i+1) y hy;simp only[Bool.and_eq_true,hx]at this;exact this.2
def Rgt.row (r:Rgt):Row:= .cells [.v (.int .i64 r.file),.v (.int .i64 r.state),.v (.int .i64 r.force),.v (.list (r.claims.map Clm.V)),.v (.list (r.dates.map Dat.V)),.v (nums .i64 r.bad),.v (.list (r.owners.map Own.V)),.v (.list (r.lics.map Lic.V))]
def prevOK {α:Type} (f:α→α→Bool) (l:List α) (k:Nat) (x:α):Bool:=match k with|0=>true|j+1=>match l[j]? with|some y=>f y x|none=>true
set_option maxRecDepth 100000 in
set_option maxHeartbeats 4000000 in
theorem r49_27 (x:Lic) (q:Nat) (H:List Row) (hq:H[q]?=some (.cells [.v (.int .i64 x.fr),.v (.int .i64 x.to),.v (.int .i64 x.fst),.v (.int .i64 x.lst)])) (d10:D) (K:St→Prop)
  (hK:∀e',find e' 1= .ref 0 0→find e' 10=d10→find e' 228= .v (.bool (!licOK x))→K ⟨e',H⟩):
  awpOps Tryz.prog GLx (oG 26 27) K ⟨[(1,.ref 0 0),(10,d10),(11,.ref q 0)],H⟩:=by
 have p1:=(p125 x.fr 1 4095).fsp;have p2:=(p125 x.to 1 4095).fsp;have p3:=(p125 x.fst 0 x.lst).fsp;unfold licOK at hK;generalize inI x.fr 1 4095=A at*;generalize inI x.to 1 4095=B at*;generalize inI x.fst 0 x.lst=C at*;simp at p1 p2 p3;simp only[Zge 26 27];simp[hq];refine⟨_,_,p1 _,?_⟩;cases A with
 |false=>simp;exact hK _ rfl rfl rfl
 |true=>
 simp[hq];refine⟨_,_,p2 _,?_⟩;cases B with
 |false=>simp;exact hK _ rfl rfl rfl
 |true=>
 simp[hq];refine⟨_,_,p3 _,?_⟩;cases C with
 |false=>simp;exact hK _ rfl rfl rfl
 |true=>
 simp[hq];refine hK _ rfl rfl ?_;simp;by_cases h:x.lst≤131072<;>simp[h]<;>omega
set_option maxRecDepth 100000 in
set_option maxHeartbeats 4000000 in
theorem r49_9 (x:Dat) (n:Nat) (last:Int) (q:Nat) (H:List Row) (hq:H[q]?=some (.cells [.v (.int .i64 x.cl),.v (.int .i64 x.ix),.v (.int .i64 x.day),.v (.int .i64 x.file)])) (hn:n≤2^30) (d1 d5:D) (K:St→Prop)
  (hK:∀e',find e' 1=d1→find e' 3= .v (.int .i64 n)→find e' 5=d5→find e' 6= .ref q 0→find e' 98= .v (.bool (!(datOK n x&&decide (last <64*x.cl+x.ix))))→K ⟨e',H⟩):
  awpOps Tryz.prog GLx (oG 26 9) K ⟨[(1,d1),(3,.v (.int .i64 n)),(4,.v (.int .i64 last)),(5,d5),(6,.ref q 0)],H⟩:=by
 have p1:=(p125 x.cl 0 (n-1)).fsp;have p2:=(p125 x.ix 0 63).fsp;have p3:=(p125 x.day 0 131072).fsp;have p4:=(p125 x.file 0 4095).fsp;have w0:IntKind.i64.wrap ((n:Int)-1)=n-1:=wrap_i64 (by omega) (by omega);have b1:inI x.cl 0 (n-1)=true→0≤x.cl∧x.cl≤n-1:=by simp[inI]
 have b2:inI x.ix 0 63=true→0≤x.ix∧x.ix≤63:=by simp[inI]
 unfold datOK at hK;generalize inI x.cl 0 (n-1)=A at*;generalize inI x.ix 0 63=B at*;generalize inI x.day 0 131072=C at*;generalize inI x.file 0 4095=E at*;simp at p1 p2 p3 p4;simp only[Zge 26 9];simp[hq,w0];refine⟨_,_,p1 _,?_⟩;cases A with
 |false=>simp;exact hK _ rfl rfl rfl rfl rfl
 |true=>
 simp[hq];refine⟨_,_,p2 _,?_⟩;cases B with
 |false=>simp;exact hK _ rfl rfl rfl rfl rfl
 |true=>
 have b1:=b1 rfl;have b2:=b2 rfl;have w1:IntKind.i64.wrap (64*x.cl)=64*x.cl:=wrap_i64 (by omega) (by omega);have w2:IntKind.i64.wrap (64*x.cl+x.ix)=64*x.cl+x.ix:=wrap_i64 (by omega) (by omega);simp[hq];refine⟨_,_,p3 _,?_⟩;cases C with
 |false=>simp;exact hK _ rfl rfl rfl rfl rfl
 |true=>
 simp[hq];refine⟨_,_,p4 _,?_⟩;cases E with
 |false=>simp;exact hK _ rfl rfl rfl rfl rfl
 |true=>
 simp[hq,w1,w2];refine hK _ rfl rfl rfl rfl ?_;simp;by_cases h:last <64*x.cl+x.ix<;>simp[h]<;>omega
set_option maxRecDepth 100000 in
set_option maxHeartbeats 4000000 in
theorem r49_15 (r:Rgt) (n k:Nat) (x:Int) (H:List Row) (h0:H[0]?=some r.row) (hx:r.bad[k]?=some x) (hn:n≤2^30) (hk:k≤2^30) (d111:D) (K:St→Prop)
  (hK:∀e',find e' 1= .ref 0 0→find e' 3= .v (.int .i64 n)→find e' 7= .v (.int .i64 k)→find e' 140= .v (.bool (!(inI x 0 (n-1)&&prevOK (λa b=>decide (a <b)) r.bad k x)))→K ⟨e',H⟩):
  awpJ Tryz.prog GLx (oG 26 15) K ⟨[(1,.ref 0 0),(3,.v (.int .i64 n)),(7,.v (.int .i64 k)),(111,d111)],H⟩:=by
 have p1:=p125 x 0 (n-1);have w0:IntKind.i64.wrap ((n:Int)-1)=n-1:=wrap_i64 (by omega) (by omega);generalize inI x 0 (n-1)=A at*;simp only[Zge 26 15];simp[h0,Rgt.row,w0,nums,hx];refine⟨_,_,⟨rfl,rfl⟩,_,p1,?_⟩;cases A with
 |false=>simp;exact hK _ rfl rfl rfl rfl
 |true=>
 cases k with
 |zero=>simp;exact hK _ rfl rfl rfl rfl
 |succ j=>
  have hj:j <r.bad.length:=by have:=(List.getElem?_eq_some_iff.1 hx).1;omega
  obtain⟨y,hy⟩:∃y,r.bad[j]?=some y:=⟨_,List.getElem?_eq_getElem hj⟩;have w1:IntKind.i64.wrap (((j+1:Nat):Int)-1)=j:=by rw[wrap_i64 (by omega) (by omega)];omega
  have w2:(0:Int) <((j+1:Nat):Int):=by omega
  have w5:IntKind.i64.wrap (j:Int)=j:=wrap_i64 (by omega) (by omega);have w3:(0:Int)≤((j+1:Nat):Int):=by omega
  have w4:((j+1:Nat):Int).toNat=j+1:=by omega
  simp only[Int.natCast_add,Int.natCast_one]at w1 w2 w3 w4;simp[h0,Rgt.row,nums,hx,w2,w5,w3,w4,hy];refine hK _ rfl rfl (by simp) ?_;simp[prevOK,hy];by_cases h:y <x<;>simp[h]<;>omega
set_option maxRecDepth 100000 in
set_option maxHeartbeats 4000000 in
theorem r49_21 (r:Rgt) (k:Nat) (x:Own) (hxo:x.ok) (q:Nat) (H:List Row) (h0:H[0]?=some r.row) (hx:r.owners[k]?=some x) (hk:k≤2^30) (hq:H[q]?=some (.cells [.v (.int .i64 x.party),.v (.int .i64 x.num),.v (.int .i64 x.den)])) (K:St→Prop)
  (hK:∀e',find e' 1= .ref 0 0→find e' 8= .v (.int .i64 k)→find e' 193= .v (.bool (!(ownOK x&&prevOK (λa b=>decide (a.party <b.party)) r.owners k x)))→K ⟨e',H⟩):
  awpJ Tryz.prog GLx (oG 26 21) K ⟨[(1,.ref 0 0),(8,.v (.int .i64 k)),(9,.ref q 0)],H⟩:=by
 have p1:=p125 x.party 1 4095;have p2:=p127 x.num x.den hxo.2.1 hxo.2.2;unfold ownOK at hK;generalize inI x.party 1 4095=A at*;generalize okR x.num x.den=B at*;simp[ratV]at p2;simp only[Zge 26 21];simp[hq];refine⟨_,_,⟨rfl,rfl⟩,_,p1,?_⟩;cases A with
 |false=>simp;exact hK _ rfl rfl rfl
 |true=>
 simp[hq];refine⟨_,_,⟨rfl,rfl⟩,_,p2,?_⟩;cases B with
 |false=>simp;exact hK _ rfl rfl rfl
 |true=>
 simp[hq];by_cases h1:x.num≤0
 ·have h1':¬0 <x.num:=by omega
  simp[h1];exact hK _ rfl rfl (by simp[h1'])
 have h1':0 <x.num:=by omega
 simp[h1];by_cases h2:x.den <x.num
 ·have h2':¬x.num≤x.den:=by omega
  simp[h2];exact hK _ rfl rfl (by simp[h2'])
 have h2':x.num≤x.den:=by omega
 simp[h2];cases k with
 |zero=>simp;exact hK _ rfl rfl (by simp[h1',h2',prevOK])
 |succ j=>
  have hj:j <r.owners.length:=by have:=(List.getElem?_eq_some_iff.1 hx).1;omega
  obtain⟨y,hy⟩:∃y,r.owners[j]?=some y:=⟨_,List.getElem?_eq_getElem hj⟩;have w1:IntKind.i64.wrap (((j+1:Nat):Int)-1)=j:=by rw[wrap_i64 (by omega) (by omega)];omega
  have w2:(0:Int) <((j+1:Nat):Int):=by omega
  have w5:IntKind.i64.wrap (j:Int)=j:=wrap_i64 (by omega) (by omega);simp only[Int.natCast_add,Int.natCast_one]at w1 w2;simp[h0,Rgt.row,w5,hy,Own.V];refine hK _ rfl (by simp) ?_;simp[prevOK,hy,h1',h2'];by_cases h:y.party <x.party<;>simp[h]<;>omega
open Go.Proofs
end Go.Va
