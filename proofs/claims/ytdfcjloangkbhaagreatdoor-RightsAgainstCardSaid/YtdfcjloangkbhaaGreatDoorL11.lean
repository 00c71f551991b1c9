/- Laws, part 11. No condition. -/
import Derived.Test.YtdfcjloangkbhaaGreatDoorL08
set_option linter.all false
set_option maxRecDepth 100000
set_option maxHeartbeats 4000000
noncomputable section
namespace Go.Va
open Go.Proofs
def AC.L:AC→AC
 | .seq a _=>a
 | .block _ c=>c
 |_=> .skip
def AC.R:AC→AC
 | .seq _ b=>b
 |_=> .skip
theorem flatN_at {α β:Type} {f:α→List β} {s:Nat} (hf:∀x,(f x).length=s):∀(l:List α) (i:Nat) (x:α),l[i]?=some x→((l.flatMap f).drop (i*s)).take s=f x
 |[],i,x,h=>by simp at h
 |y::l,0,x,h=>by
  simp only[List.getElem?_cons_zero,Option.some.injEq]at h;subst h;have:=hf y;simp[List.flatMap_cons,this]
 |y::l,i+1,x,h=>by
  have hy:=hf y;simp only[List.getElem?_cons_succ]at h;rw[List.flatMap_cons,Nat.succ_mul,Nat.add_comm,←List.drop_drop];have:(f y++l.flatMap f).drop s=l.flatMap f:=by rw[←hy];simp
  rw[this];exact flatN_at hf l i x h
theorem flatN_set {α β:Type} {f:α→List β} {s:Nat} (hf:∀x,(f x).length=s):∀(l:List α) (i:Nat) (y:α),i <l.length→(l.flatMap f).take (i*s)++(f y++(l.flatMap f).drop (i*s+s))=(l.set i y).flatMap f
 |[],i,y,h=>by simp at h
 |z::l,0,y,h=>by
  have:=hf z;simp[List.flatMap_cons,←this]
 |z::l,i+1,y,h=>by
  have hz:=hf z;have ih:=flatN_set hf l i y (by simpa using h);rw[List.set_cons_succ,List.flatMap_cons,List.flatMap_cons,←ih,Nat.succ_mul];have e1:(f z++l.flatMap f).take (i*s+s)=f z++(l.flatMap f).take (i*s):=by
   rw[List.take_append,hz,List.take_of_length_le (by omega)]
   congr 2;omega
  have e2:(f z++l.flatMap f).drop (i*s+s+s)=(l.flatMap f).drop (i*s+s):=by
   rw[List.drop_append,hz,List.drop_of_length_le (by omega),List.nil_append]
   congr 1;omega
  rw[e1,e2,List.append_assoc]
theorem flatN_len {α β:Type} {f:α→List β} {s:Nat} (hf:∀x,(f x).length=s) (l:List α):(l.flatMap f).length=l.length*s:=by
 induction l with
 |nil=>simp
 |cons x l ih=>simp only[List.flatMap_cons,List.length_append,ih,hf,List.length_cons,Nat.succ_mul];omega
inductive Th.wb (n:Nat):Th→Prop
 |mk {cs vs ps} (h0:∀c∈cs,i64 c) (h1:cs.length≤n) (h2:vs.length≤n) (h3:ps.length≤n) (h4:∀x∈vs,Val.ok x) (h5:∀p∈ps,Th.wb n p):Th.wb n (.mk cs vs ps)
theorem Th.wb.mono {n m:Nat} (hm:n≤m) {t:Th} (h:t.wb n):t.wb m:=by
 induction h with
 |mk h0 h1 h2 h3 h4 _ ih=>exact .mk h0 (by omega) (by omega) (by omega) h4 ih
theorem sizes_app:∀(a b:List Th),Th.sizes (a++b)=Th.sizes a+Th.sizes b
 |[],b=>by simp[Th.sizes]
 |x::a,b=>by simp[Th.sizes,sizes_app a b,Nat.add_assoc]
theorem sizes_set:∀(a:List Th) (k:Nat) (p q:Th),a[k]?=some p→Th.sizes (a.set k q)≤Th.sizes a+q.size-p.size∧p.size≤Th.sizes a
 |x::a,0,p,q,h=>by
  simp at h;subst h;simp[Th.sizes];omega
 |x::a,k+1,p,q,h=>by
  have:=sizes_set a k p q (by simpa using h);simp[Th.sizes];omega
theorem sizes_rep (n:Nat):Th.sizes (List.replicate n (.mk [] [] []))=n:=by
 induction n with
 |zero=>rfl
 |succ n ih=>rw[List.replicate_succ,Th.sizes,ih];simp[Th.size,Th.sizes];omega
def T26 (n:Nat) (t:Th) (a h b:Int):Prop:=∃t2:Th,t2.wb (2*n+100)∧t2.size≤t.size+200∧PSp Tryz.prog GLx 12 [t.V,.int .i64 a,.int .i64 h,.int .i64 b] [t2.V]
theorem T26.of {n:Nat} {cs:List Int} {vs:List Val} {ps:List Th} (_hw:(Th.mk cs vs ps).wb n) {a h b:Int} {cs2:List Int} {vs2:List Val} {ps2:List Th} (h0:∀c∈cs2,i64 c) (h1:cs2.length≤2*n+100) (h2:vs2.length≤2*n+100) (h3:ps2.length≤2*n+100) (h4:∀x∈vs2,Val.ok x) (h5:∀p∈ps2,p.wb (2*n+100))
  (hs:Th.sizes ps2≤Th.sizes ps+200) (hp:PSp Tryz.prog GLx 12 [(Th.mk cs vs ps).V,.int .i64 a,.int .i64 h,.int .i64 b] [(Th.mk cs2 vs2 ps2).V]):T26 n (.mk cs vs ps) a h b:=
 ⟨_,.mk h0 (by omega) (by omega) (by omega) h4 h5,by simp only[Th.size];omega,hp⟩
def c26:AC:=la 12
def c26A:AC:=c26.R.R.R.R.R
def c26X:AC:=c26A.R
def c26W:AC:=c26X.L.R.L
theorem c26_eq:(gA 12)= .seq (.reg (oG 12 0) [1,2,3,4,8]) (.seq (.reg (oG 12 1) [1,2,3,4,8,9]) (.seq (.reg (oG 12 2) [1,2,3,4,8,9]) (.seq (.reg (oG 12 3) [1,2,3,4,8,9]) (.seq (.reg (oG 12 4) [1,2,3,4,8,9]) c26A)))):=(Zga 12 :)
def nest:Nat→Th
 |0=> .mk [] [] []
 |k+1=> .mk [] [] [nest k]
theorem nest_fit:∀k,(nest k).wb 100∧(nest k).size=k+1
 |0=>⟨.mk (by simp) (by simp) (by simp) (by simp) (by simp) (by simp),rfl⟩
 |k+1=>by
  obtain⟨a,c⟩:=nest_fit k;exact⟨.mk (by simp) (by simp) (by simp) (by simp) (by simp) (by simpa using a),by simp[nest,Th.size,Th.sizes,c];omega⟩
theorem nest_V (k:Nat):(nest k).V= .agg [.list [],.list [],.list (match k with|0=>[]|j+1=>[(nest j).V])]:=by
 cases k<;>simp[nest,Th.V_eq,nums]
def fT (t:Th):List V:=[nums .i64 t.cs,.list (t.vs.map Val.V),.list (t.ps.map Th.V)]
theorem fT_len (t:Th):(fT t).length=3:=rfl
theorem fT_flat (l:List Th):(l.map Th.V).flatMap V.cells=l.flatMap fT:=by
 induction l with
 |nil=>rfl
 |cons x l ih=>
  obtain⟨c,v,p⟩:=x;rw[List.map_cons,List.flatMap_cons,List.flatMap_cons,ih,Th.V_eq];rfl
theorem int_flat (l:List Int):(l.map (V.int .i64)).flatMap V.cells=l.map (V.int .i64):=by
 induction l with
 |nil=>rfl
 |cons x l ih=>rw[List.map_cons,List.flatMap_cons,ih];rfl
section
variable {cs:List Int} {vs:List Val} {ps:List Th} (h1:cs.length≤5000) (h2:vs.length≤5000) (h3:ps.length≤5000) (a h b:Int)
def z26:Row:= .cells [.own 3 1 [],.own 97 3 [],.own 47 3 []]
def e26 (a h b:Int):Env:=[(1,.v (.int .i64 a)),(2,.v (.int .i64 h)),(3,.v (.int .i64 b)),(4,.ref 0 0),(8,.ref 1 0),(9,.ref 2 0)]
theorem head26 (l:List Val):headOK 3 (l.map Val.V)=true:=by cases l<;>rfl
theorem headT (l:List Th):headOK 3 (l.map Th.V)=true:=by
 cases l with
 |nil=>rfl
 |cons x l=>obtain⟨c,v,p⟩:=x;simp[headOK,Th.V_eq,V.cells]
theorem headI (l:List Int):headOK 1 (l.map (.int .i64))=true:=by cases l<;>rfl
include h1 h2 h3
set_option maxRecDepth 100000 in
theorem pre26 (bc bp:Bool) (hb:bc=true→bp=false) (hc:bc=true→cs≠[]) (hp:bp=true→ps≠[]) (Q:AExit→St→Prop)
  (hQ:∀k,awp Tryz.prog GLx c26A Q ⟨e26 a h b,[.cells (Th.mk cs vs ps).cells,z26,.cells [if bc then .sref 3 cs.length else .own 3 1 (cs.map (.int .i64)),.own 97 3 (vs.map Val.V),if bp then .sref 3 ps.length else .own 47 3 (ps.map Th.V)]]++
   (if bc then [.cells (((cs.map (V.int .i64)).flatMap V.cells).map .v++List.replicate k .any)] else [])++(if bp then [.cells (((ps.map Th.V).flatMap V.cells).map .v++List.replicate k .any)] else [])⟩):
  awp Tryz.prog GLx (gA 12) Q ⟨entryD [.v (Th.mk cs vs ps).V,.v (.int .i64 a),.v (.int .i64 h),.v (.int .i64 b)],[]⟩:=by
 have r1:roomy cs.length 8=true:=by simp[roomy];omega
 have r2:roomy vs.length 24=true:=by simp[roomy];omega
 have r3:roomy ps.length 72=true:=by simp[roomy];omega
 have g1:=headI cs;have g2:=head26 vs;have g3:=headT ps;simp only[Th.V_eq,Th.cells,Th.cs,Th.vs,Th.ps,z26,e26,nums]at*;rw[c26_eq];simp only[awp_seq,awp_reg,Zge 12 0,entryD];simp;simp only[oG12a,c12r1];simp[putL];simp only[oG12b,c12r2];cases bc with
 |false=>
  simp[r1,g1,putL]
  left
  simp only[oG12c,c12r3];simp[r2,g2];simp only[oG12d,c12r4];cases bp with
  |false=>
   simp[r3,g3,putL]
   left
   simpa using hQ 0
  |true=>
   have hn:ps≠[]:=hp rfl;simp[r3,g3,putL,hn]
   right
   simpa using hQ 0
 |true=>
  have hn:cs≠[]:=hc rfl;have hbp:=hb rfl;subst hbp;simp[r1,g1,putL,hn]
  right
  simp only[oG12c,c12r3];simp[r2,g2];simp only[oG12d,c12r4];simp[r3,g3,putL]
  left
  simpa using hQ 0
def rows26 (cs:List Int) (vs:List Val) (ps:List Th) (c0:D) (X:List Row):List Row:= .cells (Th.mk cs vs ps).cells::z26:: .cells [c0,.own 97 3 (vs.map Val.V),.own 47 3 (ps.map Th.V)]::X
set_option maxRecDepth 100000 in
omit h1 h2 in
theorem x26 (hn:ps=[]∨¬0 <aroundI a 3) (c0:D) (X:List Row) (Q:AExit→St→Prop)
  (hQ:∀e,find e 2= .v (.int .i64 h)→find e 3= .v (.int .i64 b)→find e 4= .ref 0 0→find e 8= .ref 1 0→find e 9= .ref 2 0→awp Tryz.prog GLx c26X Q ⟨e,rows26 cs vs ps c0 X⟩):
  awp Tryz.prog GLx c26A Q ⟨e26 a h b,rows26 cs vs ps c0 X⟩:=by
 have q1:=(p11 a 3 (by decide)).fsp;simp at q1;rw[show c26A= .seq (.seq (.reg (oG 12 5) _) (.cond (.t 42 false) _ .skip)) c26X from rfl];generalize c26X=C at*;simp only[awp_seq,awp_reg,awp_cond,Zge 12 5,e26,rows26]at hQ ⊢;by_cases hps:ps=[]
 ·subst hps;simp[awp_skip]
  try simp at hQ
  exact hQ _ rfl rfl rfl rfl rfl
 ·have hpos:=hn.resolve_left hps;have hlen:0 <ps.length:=List.length_pos_iff.2 hps;simp[hlen];refine⟨_,_,q1 _,?_⟩;simp[hpos,awp_skip]
  try simp at hQ
  exact hQ _ rfl rfl rfl rfl rfl
set_option maxRecDepth 100000 in
theorem w26 (hn:ps=[]∨¬0 <aroundI a 3) {cs2:List Int} {vs2:List Val} {ps2:List Th}
  (hw:awp Tryz.prog GLx c26W (λe s=>(e= .normal∨e= .exit 0)∧find s.e 8= .ref 1 0∧find s.e 9= .ref 2 0∧∃R J,s.h=R::z26:: .cells [.own 3 1 (cs2.map (.int .i64)),.own 97 3 (vs2.map Val.V),.own 47 3 (ps2.map Th.V)]::J)
   ⟨[(3,.v (.int .i64 b)),(4,.ref 0 0),(8,.ref 1 0),(9,.ref 2 0),(65,.v (.int .i64 (aroundI h 9)))],rows26 cs vs ps (.own 3 1 (cs.map (.int .i64))) []⟩):
  PSp Tryz.prog GLx 12 [(Th.mk cs vs ps).V,.int .i64 a,.int .i64 h,.int .i64 b] [(Th.mk cs2 vs2 ps2).V]:=by
 refine psp_of_awp (Zkk 12) rfl ?_;refine pre26 h1 h2 h3 a h b false false (λh=>by cases h) (λh=>by cases h) (λh=>by cases h) _ ?_;intro _;have q2:=(p11 h 9 (by decide)).fsp;simp at q2;refine x26 h3 a h b hn _ [] _ ?_;intro e f2 f3 f4 f8 f9;rw[show c26X= .seq (.seq (.reg (oG 12 9) _) (.block 0 c26W)) (.seq (.reg (oG 12 39) _) .ret) from rfl];simp only[awp_seq,awp_reg,awp_block,Zge 12 9];simp[f2];refine⟨_,_,q2 _,?_⟩;simp[f3,f4,f8,f9];refine awp_mono _ ?_ hw;rintro e ⟨se,sh⟩ ⟨he,g8,g9,R,J,hh⟩;simp only at g8 g9 hh;subst hh;rcases he with rfl|rfl<;>simp[Zge 12 39,z26,g8,g9,putL,awp_ret,Zgr 12,D.vs?,D.v?,Th.V_eq,nums]
omit h1 h2 h3 in
theorem five {a:Int} (l:List Int) (h0:0≤a) (h:a <l.length):∃x∈l,(l.map (V.int .i64))[a.toNat]?=some (.int .i64 x):=by
 have hx:l[a.toNat]?=some (l[a.toNat]'(by omega)):=List.getElem?_eq_getElem _;exact⟨_,List.mem_of_getElem? hx,by rw[List.getElem?_map,hx];rfl⟩
end
def rowC (cs:List Int) (k m:Nat):List D:=((cs.reverse.take k++cs.drop k).map λx=>D.v (.int .i64 x))++List.replicate m .any
theorem rowC_len (cs:List Int) (k m:Nat) (hk:k≤cs.length):(rowC cs k m).length=cs.length+m:=by
 simp[rowC];omega
theorem putL_mid (X R:List D) (p q:D) (k:Nat) (h:k=X.length):putL (X++p::R) k [q]=X++q::R:=by
 subst h;simp[putL,List.drop_append]
theorem rowC_put (cs:List Int) (k m:Nat) (x:Int) (hk:k <cs.length) (hx:cs.reverse[k]?=some x):putL (rowC cs k m) k [D.v (.int .i64 x)]=rowC cs (k+1) m:=by
 have e1:cs.drop k=cs[k]::cs.drop (k+1):=List.drop_eq_getElem_cons hk;have hl:(cs.reverse.take k).length=k:=by simp;omega
 obtain⟨A,hA⟩:∃A,cs.reverse.take k=A:=⟨_,rfl⟩;unfold rowC;rw[List.take_add_one,hx,e1,hA];rw[hA]at hl;generalize cs.drop (k+1)=B;generalize cs[k]=y;clear hA e1 hx;subst hl;have e:((A++y::B).map λx=>D.v (.int .i64 x))++List.replicate m D.any=(A.map λx=>D.v (.int .i64 x))++(D.v (.int .i64 y)::((B.map λx=>D.v (.int .i64 x))++List.replicate m D.any)):=by simp
 rw[e,putL_mid _ _ _ _ _ (by simp)];simp
theorem rowC_end (cs:List Int) (m:Nat):D.vs? ((rowC cs cs.length m).take (cs.length*1))=some ((cs.reverse.map (V.int .i64)).flatMap V.cells):=by
 have e0:cs.reverse.take cs.length=cs.reverse:=List.take_of_length_le (by simp);unfold rowC;rw[e0,List.drop_length,List.append_nil,int_flat,Nat.mul_one,List.take_left' (by simp)];have:=vs_mapT (cs.reverse.map (V.int .i64))
 rwa [List.map_map]at this
section
variable {cs:List Int} {vs:List Val} {ps:List Th} (h1:cs.length≤5000) (h2:vs.length≤5000) (h3:ps.length≤5000) (a h b:Int)
include h1 h2 h3
theorem pre26c (hcs:cs≠[]) (Q:AExit→St→Prop) (hQ:∀k,awp Tryz.prog GLx c26A Q ⟨e26 a h b,rows26 cs vs ps (.sref 3 cs.length) [.cells (((cs.map (V.int .i64)).flatMap V.cells).map .v++List.replicate k .any)]⟩):
  awp Tryz.prog GLx (gA 12) Q ⟨entryD [.v (Th.mk cs vs ps).V,.v (.int .i64 a),.v (.int .i64 h),.v (.int .i64 b)],[]⟩:=
 pre26 h1 h2 h3 a h b true false (λ_=>rfl) (λ_=>hcs) (λh=>by cases h) Q hQ
def P26 (ys:List V):AExit→St→Prop:=λe s=>(match e with| .exit _=>False|_=>True)∧∃(ds cs:List D) (i r m sz:Nat) (xs:List V),resDs s (gR 12)=some [.agg ds]∧ds[i]?=some (.sref r m)∧s.h[r]?=some (.cells cs)∧xs.length=m∧(∀x∈xs,x.cells.length=sz)∧
   D.vs? (cs.take (m*sz))=some (xs.flatMap V.cells)∧ds.set i (.v (.list xs))=ys.map .v
set_option maxRecDepth 100000 in
theorem v26w (hcs:cs≠[]) (hn:ps=[]∨¬0 <aroundI a 3) (h7:aroundI h 9=7):awp Tryz.prog GLx (gA 12) (P26 [nums .i64 cs.reverse,.list (vs.map Val.V),.list (ps.map Th.V)])
  ⟨entryD [.v (Th.mk cs vs ps).V,.v (.int .i64 a),.v (.int .i64 h),.v (.int .i64 b)],[]⟩:=by
 obtain⟨P,hP⟩:∃P,P26 [nums .i64 cs.reverse,.list (vs.map Val.V),.list (ps.map Th.V)]=P:=⟨_,rfl⟩;rw[hP];refine pre26c h1 h2 h3 a h b hcs _ ?_;intro kc;have q2:=(p11 h 9 (by decide)).fsp;rw[h7]at q2;simp at q2;have key:=x26 (cs:=cs) (vs:=vs) (ps:=ps) h3 a h b hn (.sref 3 cs.length) [.cells (((cs.map (V.int .i64)).flatMap V.cells).map .v++List.replicate kc .any)] P
 with_reducible refine key ?_
 clear key;intro e f2 f3 f4 f8 f9;rw[int_flat,show c26X= .seq (.seq (.reg (oG 12 9) _) (.block 0 c26W)) (.seq (.reg (oG 12 39) _) .ret) from rfl];simp only[awp_seq,awp_reg,awp_block,Zge 12 9];simp[f2];refine⟨_,_,q2 _,?_⟩;simp[f3,f4,f8,f9];simp only[c26W,c26X,c26A,c26,la,AC.L,AC.R,awp_seq,awp_reg,awp_cond,Zge 12 12,Zge 12 14,Zge 12 16,Zge 12 18,Zge 12 20,Zge 12 22,Zge 12 27,Zge 12 34];simp;simp only[awp_block,Zge 12 35];simp;have e00:(cs.map (V.int .i64)).map D.v++List.replicate kc D.any=rowC cs 0 kc:=by simp[rowC,Function.comp_def]
 refine awp_loop_nat0 cs.length (λk=>⟨[(4,.ref 0 0),(8,.ref 1 0),(9,.ref 2 0),(14,.v (.int .i64 k))],rows26 cs vs ps (.sref 3 cs.length) [.cells (rowC cs k kc)]⟩) (by rw[←e00];simp[rows26]) ?_;intro k hk;simp only[Zgl 12 2,awp_seq,awp_reg,awp_block,awp_cond,Zge 12 36,rows26,z26];simp;by_cases h5:k <cs.length
 ·obtain⟨x,hx⟩:∃x,cs[cs.length-1-k]?=some x:=⟨_,List.getElem?_eq_getElem (by omega)⟩;have hxr:cs.reverse[k]?=some x:=by rw[List.getElem?_reverse h5];exact hx
  have w1:IntKind.i64.wrap ((k:Int)+1)=k+1:=wrap_i64 (by omega) (by omega);have w2:IntKind.i64.wrap ((cs.length:Int)-1)=cs.length-1:=wrap_i64 (by omega) (by omega);have w3:IntKind.i64.wrap ((cs.length:Int)-1-k)=cs.length-1-k:=wrap_i64 (by omega) (by omega);have hn1:((cs.length:Int)-1-k).toNat=cs.length-1-k:=by omega
  have hb0:(0:Int)≤(cs.length:Int)-1-k:=by omega
  have hb1:(cs.length:Int)-1-k <cs.length:=by omega
  have hle:(k:Int)≤cs.length-1:=by omega
  have hput:=rowC_put cs k kc x h5 hxr;have hlen:=rowC_len cs k kc hk;have hlen2:k+1≤cs.length+kc:=by omega
  rw[if_pos h5,awp_skip];simp only[awp_regD,Zge 12 38];simp[Th.cells,Th.cs,Th.vs,Th.ps,nums,w2,w3,hn1,hle,hx,hlen,hlen2,hput,h5];simp[Zge 12 37,w1]
 ·obtain rfl:k=cs.length:=by omega
  rw[if_neg (by omega),awp_exit];simp[Zge 12 39,putL,awp_ret];rw[←hP];refine⟨trivial,[.sref 3 cs.length,.v (.list (vs.map Val.V)),.v (.list (ps.map Th.V))],_,0,3,cs.length,1,cs.reverse.map (V.int .i64),?_,rfl,rfl,by simp,?_,rowC_end cs kc,?_⟩
  ·simp[Zgr 12,D.one?]
  ·intro x hx;obtain⟨y,_,rfl⟩:=List.mem_map.1 hx;rfl
  ·simp[nums]
set_option maxRecDepth 100000 in
theorem v26 (hcs:cs≠[]) (hn:ps=[]∨¬0 <aroundI a 3) (h7:aroundI h 9=7):PSp Tryz.prog GLx 12 [(Th.mk cs vs ps).V,.int .i64 a,.int .i64 h,.int .i64 b] [(Th.mk cs.reverse vs ps).V]:=by
 rw[Th.V_eq cs.reverse vs ps];have f:FSp Tryz.prog GLx 12 [.v (Th.mk cs vs ps).V,.v (.int .i64 a),.v (.int .i64 h),.v (.int .i64 b)] [] [.v (.agg [nums .i64 cs.reverse,.list (vs.map Val.V),.list (ps.map Th.V)])] []:=fsp_frz (Zkk 12) rfl (v26w h1 h2 h3 a h b hcs hn h7);exact psp_of_fsp (args:=[_,_,_,_]) (rets:=[_]) f
end
def nestP (k:Nat):D:=match k with|0=> .own 47 3 []|j+1=> .v (.list [(nest j).V])
theorem nestP_0:nestP 0= .own 47 3 []:=rfl
theorem nestP_s (k:Nat):nestP (k+1)= .v (.list [(nest k).V]):=rfl
def nestL (k:Nat):List V:=match k with|0=>[]|j+1=>[(nest j).V]
theorem nestP_c (k:Nat):(nestP k).copy= .v (.list (nestL k)):=by cases k<;>rfl
theorem nest_W (k:Nat):(nest k).V= .agg [.list [],.list [],.list (nestL k)]:=nest_V k
section
variable {cs:List Int} {vs:List Val} {ps:List Th} (h1:cs.length≤5000) (h2:vs.length≤5000) (h3:ps.length≤5000) (a h b:Int)
set_option maxRecDepth 100000 in
theorem u26 (r1:roomy (cs.length+cs.length) 8=true) (r2:roomy (vs.length+vs.length) 24=true):
  awp Tryz.prog GLx c26W (λe s=>(e= .normal∨e= .exit 0)∧find s.e 8= .ref 1 0∧find s.e 9= .ref 2 0∧∃R J,s.h=R::z26:: .cells [.own 3 1 ((cs++cs).map (.int .i64)),.own 97 3 ((vs++vs).map Val.V),.own 47 3 (ps.map Th.V)]::J)
   ⟨[(3,.v (.int .i64 b)),(4,.ref 0 0),(8,.ref 1 0),(9,.ref 2 0),(65,.v (.int .i64 8))],rows26 cs vs ps (.own 3 1 (cs.map (.int .i64))) []⟩:=by
 have g1:=headI cs;have g2:=head26 vs;have l1:(cs.map (V.int .i64)).length=cs.length:=by simp
 have l2:(vs.map Val.V).length=vs.length:=by simp
 rw[List.map_append,List.map_append];simp only[rows26,Th.cells,Th.cs,Th.vs,Th.ps,nums];generalize cs.map (V.int .i64)=X at*;generalize vs.map Val.V=Y at*;generalize ps.map Th.V=Z at*;rw[←l1]at r1;rw[←l2]at r2;clear l1 l2;simp only[c26W,c26X,c26A,c26,la,AC.L,AC.R,awp_seq,awp_reg,awp_cond,Zge 12 12,Zge 12 14,Zge 12 16,Zge 12 18,Zge 12 20,Zge 12 22,Zge 12 27,Zge 12 34];simp;simp only[Zge 12 10];simp[z26,r2,g2];simp only[Zge 12 11];simp[r1,g1]
include h3
set_option maxRecDepth 100000 in
theorem n26 (m:Nat) (hm:aroundI b 4=m) (q4:∀h,FSp Tryz.prog GLx 24 [.v (.int .i64 b),.v (.int .i64 4)] h [.v (.int .i64 (aroundI b 4))] h) (hmb:m <4):
  awp Tryz.prog GLx c26W (λe s=>(e= .normal∨e= .exit 0)∧find s.e 8= .ref 1 0∧find s.e 9= .ref 2 0∧∃R J,s.h=R::z26:: .cells [.own 3 1 (cs.map (.int .i64)),.own 97 3 (vs.map Val.V),.own 47 3 ((ps++[nest (5+m)]).map Th.V)]::J)
   ⟨[(3,.v (.int .i64 b)),(4,.ref 0 0),(8,.ref 1 0),(9,.ref 2 0),(65,.v (.int .i64 6))],rows26 cs vs ps (.own 3 1 (cs.map (.int .i64))) []⟩:=by
 simp only[c26W,c26X,c26A,c26,la,AC.L,AC.R,awp_seq,awp_reg,awp_cond,Zge 12 12,Zge 12 14,Zge 12 16,Zge 12 18,Zge 12 20,Zge 12 22,Zge 12 27];simp;simp only[awp_block,Zge 12 28];simp[rows26,z26,putL,Zge 12 29];refine awp_loop_nat0 (5+m) (λk=>⟨[(3,.v (.int .i64 b)),(8,.ref 1 0),(9,.ref 2 0),(12,.ref 3 0),(13,.v (.int .i64 k))],[.cells (Th.mk cs vs ps).cells,z26,.cells [.own 3 1 (cs.map (.int .i64)),.own 97 3 (vs.map Val.V),.own 47 3 (ps.map Th.V)],
  .cells [.own 3 1 [],.own 97 3 [],nestP k]]⟩) (by simp[z26,nestP_0]) ?_
 intro k hk;have w0:IntKind.i64.wrap (5+(m:Int))=5+m:=wrap_i64 (by omega) (by omega);have w1:IntKind.i64.wrap ((k:Int)+1)=k+1:=wrap_i64 (by omega) (by omega);have hv:=nest_W k;have hs:=nestP_s k;have hc:=nestP_c k;have hroom:roomy (ps.length+1) 72=true:=by simp[roomy];omega
 simp only[Zgl 12 1,awp_seq,awp_reg,awp_block,awp_cond,Zge 12 30];simp;refine⟨_,_,q4 _,?_⟩;simp[hm,w0];by_cases h1:k <5+m
 ·have h1':(k:Int) <5+m:=by omega
  rw[hs,hv];generalize nest k=N at*;generalize nestP k=M at*;generalize nestL k=X at*;cases M<;>simp only[D.copy,D.v.injEq,V.list.injEq,reduceCtorEq]at hc
  all_goals try subst hc
  all_goals simp[h1',awp_skip,Zge 12 32,putL]
  all_goals simp[Zge 12 31,w1,h1]
 ·obtain rfl:k=5+m:=by omega
  rw[hv];generalize nest (5+m)=N at*;generalize nestP (5+m)=M at*;generalize nestL (5+m)=X at*;cases M<;>simp only[D.copy,D.v.injEq,V.list.injEq,reduceCtorEq]at hc
  all_goals try subst hc
  all_goals simp[awp_exit,Zge 12 33,z26,putL,hroom]
include h1 h2
set_option maxHeartbeats 1000000 in
set_option maxRecDepth 100000 in
theorem t26 {n:Nat} (hw:(Th.mk cs vs ps).wb n) (hn:ps=[]∨¬0 <aroundI a 3) (hh:i64 h) (hb:i64 b):T26 n (.mk cs vs ps) a h b:=by
 have k1:cs.length≤n:=by cases hw;assumption
 have k2:vs.length≤n:=by cases hw;assumption
 have k3:ps.length≤n:=by cases hw;assumption
 have hv1:=aroundI_nn h 9 hh;have hv2:=(aroundI_b h 9 (by decide)).2;have w:=fun {cs2 vs2 ps2}=>w26 h1 h2 h3 a h b hn (cs2:=cs2) (vs2:=vs2) (ps2:=ps2);obtain⟨v,hv⟩:∃v,aroundI h 9=v:=⟨_,rfl⟩;rw[hv]at w hv1 hv2;have q5:=p11 b 5 (by decide);have q4:=p11 b 4 (by decide);have b5:=aroundI_nn b 5 hb;have c5:=(aroundI_b b 5 (by decide)).2;have b4:=aroundI_nn b 4 hb;have c4:=(aroundI_b b 4 (by decide)).2;have hwv:∀x∈vs,x.ok:=by cases hw;assumption
 have hwc:∀c∈cs,i64 c:=by cases hw;assumption
 have hwp:∀p∈ps,p.wb (2*n+100):=by cases hw with|mk _ _ _ _ _ h5=>exact λp hp=>(h5 p hp).mono (by omega)
 have rc:roomy (cs.length+1) 8=true:=by simp[roomy];omega
 have rv:roomy (vs.length+1) 24=true:=by simp[roomy];omega
 have b9:=aroundI_nn b 9 hb;have c9:=(aroundI_b b 9 (by decide)).2;have q9:=(p11 b 9 (by decide)).fsp;have vok:∀v:Val,v.ok→∀x∈vs++[v],x.ok:=λv hv x hx=>by
  rcases List.mem_append.1 hx with hx|hx
  ·exact hwv x hx
  ·rw[List.mem_singleton.1 hx];exact hv
 simp at q5 q4 q9;have hcase:v=0∨v=1∨v=2∨v=3∨v=4∨v=5∨v=6∨v=7∨v=8:=by omega
 rcases hcase with rfl|rfl|rfl|rfl|rfl|rfl|rfl|rfl|rfl
 ·obtain⟨x,hx,hg⟩:=five [b,-1,0,63,64] b5 (by simpa using c5);have hxi:i64 x:=by simp at hx;rcases hx with rfl|rfl|rfl|rfl|rfl<;>(unfold i64 at *;omega)
  refine T26.of hw (cs2:=cs++[x]) (vs2:=vs) (ps2:=ps) (λc hc=>(List.mem_append.1 hc).elim (hwc c) λh=>by rw[List.mem_singleton.1 h];exact hxi) (by simp;omega) (by omega) (by omega) hwv hwp (by omega) (w ?_);simp only[c26W,c26X,c26A,c26,la,AC.L,AC.R,awp_seq,awp_reg,awp_cond,Zge 12 12];simp;simp only[awp_regD,Zge 12 13];simp[rows26,Th.cells,z26,putL];refine⟨_,_,⟨rfl,rfl⟩,_,q5,?_⟩;generalize hL:[V.int .i64 b,V.int .i64 (-1),V.int .i64 0,V.int .i64 63,V.int .i64 64]=L;have hg2:L[(aroundI b 5).toNat]?=some (.int .i64 x):=by rw[←hL];exact hg
  have hl2:aroundI b 5 <(L.length:Int):=by rw[←hL];exact c5
  obtain⟨_,hg3⟩:=List.getElem?_eq_some_iff.1 hg2;clear hL hg;simp[hg3,hl2,b5,rc]
 ·obtain⟨x,hx,hg⟩:=five [b,-1,0,31,32] b5 (by simpa using c5);have hxi:i64 x:=by simp at hx;rcases hx with rfl|rfl|rfl|rfl|rfl<;>(unfold i64 at *;omega)
  refine T26.of hw (cs2:=cs) (vs2:=vs++[⟨x,1,1⟩]) (ps2:=ps) hwc (by omega) (by simp;omega) (by omega) (vok _ ⟨hxi,by simp[i64],by simp[i64]⟩) hwp (by omega) (w ?_);simp only[c26W,c26X,c26A,c26,la,AC.L,AC.R,awp_seq,awp_reg,awp_cond,Zge 12 12,Zge 12 14];simp;simp only[awp_regD,Zge 12 15];simp[rows26,Th.cells,z26,putL];refine⟨_,_,⟨rfl,rfl⟩,_,q5,?_⟩;generalize hL:[V.int .i64 b,V.int .i64 (-1),V.int .i64 0,V.int .i64 31,V.int .i64 32]=L;have hg2:L[(aroundI b 5).toNat]?=some (.int .i64 x):=by rw[←hL];exact hg
  have hl2:aroundI b 5 <(L.length:Int):=by rw[←hL];exact c5
  obtain⟨_,hg3⟩:=List.getElem?_eq_some_iff.1 hg2;clear hL hg;simp[hg3,hl2,b5,rv,Val.V]
 ·obtain⟨x,hx,hg⟩:=five [b,1099511627776,-1099511627776,1099511627777] b4 (by simpa using c4);have hxi:i64 x:=by simp at hx;rcases hx with rfl|rfl|rfl|rfl<;>(unfold i64 at *;omega)
  refine T26.of hw (cs2:=cs) (vs2:=vs++[⟨31,x,1⟩]) (ps2:=ps) hwc (by omega) (by simp;omega) (by omega) (vok _ ⟨by simp[i64],hxi,by simp[i64]⟩) hwp (by omega) (w ?_);simp only[c26W,c26X,c26A,c26,la,AC.L,AC.R,awp_seq,awp_reg,awp_cond,Zge 12 12,Zge 12 14,Zge 12 16];simp;simp only[awp_regD,Zge 12 17];simp[rows26,Th.cells,z26,putL];refine⟨_,_,⟨rfl,rfl⟩,_,q4,?_⟩;generalize hL:[V.int .i64 b,V.int .i64 1099511627776,V.int .i64 (-1099511627776),V.int .i64 1099511627777]=L;have hg2:L[(aroundI b 4).toNat]?=some (.int .i64 x):=by rw[←hL];exact hg
  have hl2:aroundI b 4 <(L.length:Int):=by rw[←hL];exact c4
  obtain⟨_,hg3⟩:=List.getElem?_eq_some_iff.1 hg2;clear hL hg;simp[hg3,hl2,b4,rv,Val.V]
 ·obtain⟨x,hx,hg⟩:=five [b,0,-1,65536,65537] b5 (by simpa using c5);have hxi:i64 x:=by simp at hx;rcases hx with rfl|rfl|rfl|rfl|rfl<;>(unfold i64 at *;omega)
  refine T26.of hw (cs2:=cs) (vs2:=vs++[⟨31,1,x⟩]) (ps2:=ps) hwc (by omega) (by simp;omega) (by omega) (vok _ ⟨by simp[i64],by simp[i64],hxi⟩) hwp (by omega) (w ?_);simp only[c26W,c26X,c26A,c26,la,AC.L,AC.R,awp_seq,awp_reg,awp_cond,Zge 12 12,Zge 12 14,Zge 12 16,Zge 12 18];simp;simp only[awp_regD,Zge 12 19];simp[rows26,Th.cells,z26,putL];refine⟨_,_,⟨rfl,rfl⟩,_,q5,?_⟩;generalize hL:[V.int .i64 b,V.int .i64 0,V.int .i64 (-1),V.int .i64 65536,V.int .i64 65537]=L;have hg2:L[(aroundI b 5).toNat]?=some (.int .i64 x):=by rw[←hL];exact hg
  have hl2:aroundI b 5 <(L.length:Int):=by rw[←hL];exact c5
  obtain⟨_,hg3⟩:=List.getElem?_eq_some_iff.1 hg2;clear hL hg;simp[hg3,hl2,b5,rv,Val.V]
 ·refine T26.of hw (cs2:=cs) (vs2:=vs++[⟨31,IntKind.i64.wrap (2*b),6⟩]) (ps2:=ps) hwc (by omega) (by simp;omega) (by omega) (vok _ ⟨by simp[i64],wrap_ok _,by simp[i64]⟩) hwp (by omega) (w ?_);simp only[c26W,c26X,c26A,c26,la,AC.L,AC.R,awp_seq,awp_reg,awp_cond,Zge 12 12,Zge 12 14,Zge 12 16,Zge 12 18,Zge 12 20];simp;simp[Zge 12 21,rows26,Th.cells,z26,putL,rv,Val.V]
 ·obtain⟨m,hm⟩:∃m:Nat,aroundI b 9=m:=⟨(aroundI b 9).toNat,by omega⟩;refine T26.of hw (cs2:=cs) (vs2:=vs) (ps2:=ps++List.replicate (90+m) (.mk [] [] [])) hwc (by omega) (by omega) (by simp;omega) hwv (λp hp=>?_) (by rw[sizes_app,sizes_rep];omega) (w ?_)
  ·rcases List.mem_append.1 hp with hp|hp
   ·exact hwp p hp
   ·rw[List.eq_of_mem_replicate hp];exact .mk (by simp) (by simp) (by simp) (by simp) (by simp) (by simp)
  ·simp only[c26W,c26X,c26A,c26,la,AC.L,AC.R,awp_seq,awp_reg,awp_cond,Zge 12 12,Zge 12 14,Zge 12 16,Zge 12 18,Zge 12 20,Zge 12 22];simp;simp only[awp_block,Zge 12 23];simp;refine awp_loop_nat0 (90+m) (λk=>⟨[(3,.v (.int .i64 b)),(8,.ref 1 0),(9,.ref 2 0),(11,.v (.int .i64 k))],[.cells (Th.mk cs vs ps).cells,z26,.cells [.own 3 1 (cs.map (.int .i64)),.own 97 3 (vs.map Val.V),.own 47 3 ((ps++List.replicate k (Th.mk [] [] [])).map Th.V)]]⟩) (by simp[rows26]) ?_;intro k hk;have w0:IntKind.i64.wrap (90+(m:Int))=90+m:=wrap_i64 (by omega) (by omega);have w1:IntKind.i64.wrap ((k:Int)+1)=k+1:=wrap_i64 (by omega) (by omega);have hroom:roomy (ps.length+k+1) 72=true:=by simp[roomy];omega
   simp only[Zgl 12 0,awp_seq,awp_reg,awp_block,awp_cond,Zge 12 24];simp;refine⟨_,_,q9 _,?_⟩;simp[hm,w0];by_cases h1:k <90+m
   ·have h1':(k:Int) <90+m:=by omega
    simp[h1',awp_skip,Zge 12 26,z26,putL,hroom];simp[Zge 12 25,w1,h1,List.replicate_succ',Th.V_eq,nums]
   ·obtain rfl:k=90+m:=by omega
    simp[awp_exit,z26]
 ·obtain⟨m,hm⟩:∃m:Nat,aroundI b 4=m:=⟨(aroundI b 4).toNat,by omega⟩;obtain⟨n1,n3⟩:=nest_fit (5+m);have q4':=q4.fsp;simp at q4';refine T26.of hw (cs2:=cs) (vs2:=vs) (ps2:=ps++[nest (5+m)]) hwc (by omega) (by omega) (by simp;omega) hwv (λp hp=>?_) (by rw[sizes_app];simp[Th.sizes,n3];omega) (w ?_)
  ·rcases List.mem_append.1 hp with hp|hp
   ·exact hwp p hp
   ·rw[List.mem_singleton.1 hp];exact n1.mono (by omega)
  ·exact n26 h3 b m hm q4' (by omega)
 ·by_cases hcs:cs=[]
  ·refine T26.of hw (cs2:=cs) (vs2:=vs) (ps2:=ps) hwc (by omega) (by omega) (by omega) hwv hwp (by omega) (w ?_);subst hcs;simp only[c26W,c26X,c26A,c26,la,AC.L,AC.R,awp_seq,awp_reg,awp_cond,Zge 12 12,Zge 12 14,Zge 12 16,Zge 12 18,Zge 12 20,Zge 12 22,Zge 12 27,Zge 12 34];simp;simp only[awp_block,Zge 12 35];simp;refine awp_loop_end ?_;simp[Zgl 12 2,awp_seq,awp_reg,awp_cond,Zge 12 36,rows26,z26,awp_exit]
  ·exact T26.of hw (λc hc=>hwc c (by simpa using hc)) (by simp;omega) (by omega) (by omega) hwv hwp (by omega) (v26 h1 h2 h3 a h b hcs hn hv)
 ·refine T26.of hw (cs2:=cs++cs) (vs2:=vs++vs) (ps2:=ps) (λc hc=>hwc c (by simpa using hc)) (by simp;omega) (by simp;omega) (by omega) (λx hx=>hwv x (by simpa using hx)) hwp (by omega) (w ?_);have r1:roomy (cs.length+cs.length) 8=true:=by simp[roomy];omega
  have r2:roomy (vs.length+vs.length) 24=true:=by simp[roomy];omega
  exact u26 b r1 r2
end
theorem putL_map (A y:List V) (Z:List D) (o:Nat) (h:o+y.length≤A.length):putL (A.map D.v++Z) o (y.map D.v)=(A.take o++(y++A.drop (o+y.length))).map D.v++Z:=by
 unfold putL;rw[List.take_append_of_le_length (by simp;omega),List.drop_append_of_le_length (by simp;omega)];simp[List.map_take,List.map_drop]
section
variable {cs:List Int} {vs:List Val} {ps:List Th} (h1:cs.length≤5000) (h2:vs.length≤5000) (h3:ps.length≤5000) (a h b:Int)
include h1 h2 h3
theorem pre26p (hps:ps≠[]) (Q:AExit→St→Prop) (hQ:∀k,awp Tryz.prog GLx c26A Q ⟨e26 a h b,[.cells (Th.mk cs vs ps).cells,z26,.cells [.own 3 1 (cs.map (.int .i64)),.own 97 3 (vs.map Val.V),.sref 3 ps.length],.cells ((ps.flatMap fT).map .v++List.replicate k .any)]⟩):
  awp Tryz.prog GLx (gA 12) Q ⟨entryD [.v (Th.mk cs vs ps).V,.v (.int .i64 a),.v (.int .i64 h),.v (.int .i64 b)],[]⟩:=
 pre26 h1 h2 h3 a h b false true (λh=>by cases h) (λh=>by cases h) (λ_=>hps) Q (λk=>by have:=hQ k;rw[←fT_flat]at this;exact this)
set_option maxRecDepth 100000 in
theorem r26w (hps:ps≠[]) (ha:0 <aroundI a 3) (k:Nat) (hk:aroundI (IntKind.i64.wrap (a.tdiv 3)) ps.length=k) (p t:Th) (hp:ps[k]?=some p)
  (q:PSp Tryz.prog GLx 12 [p.V,.int .i64 (IntKind.i64.wrap (a.tdiv 9)),.int .i64 h,.int .i64 b] [t.V]):
  awp Tryz.prog GLx (gA 12) (P26 [nums .i64 cs,.list (vs.map Val.V),.list ((ps.set k t).map Th.V)])
  ⟨entryD [.v (Th.mk cs vs ps).V,.v (.int .i64 a),.v (.int .i64 h),.v (.int .i64 b)],[]⟩:=by
 obtain⟨P,hP⟩:∃P,P26 [nums .i64 cs,.list (vs.map Val.V),.list ((ps.set k t).map Th.V)]=P:=⟨_,rfl⟩;rw[hP];refine pre26p h1 h2 h3 a h b hps _ ?_;intro kc;have hlen:0 <ps.length:=List.length_pos_iff.2 hps;obtain⟨hkl,_⟩:=List.getElem?_eq_some_iff.1 hp;have q1:=(p11 a 3 (by decide)).fsp;have q2:=(p11 (IntKind.i64.wrap (a.tdiv 3)) ps.length (by omega)).fsp;rw[hk]at q2;simp at q1 q2;have hfl:=flatN_len fT_len ps;have hat:=flatN_at fT_len ps k p hp;have hset:=flatN_set fT_len ps k t hkl;have hsl:=flatN_len fT_len (ps.set k t);rw[List.length_set]at hsl;obtain⟨R,hR⟩:∃R,(ps.flatMap fT).map D.v++List.replicate kc .any=R:=⟨_,rfl⟩;have hRl:ps.length*3≤R.length:=by rw[←hR];simp[hfl]
 have hR1:(R.drop (k*3)).take 3=(fT p).map D.v:=by
  rw[←hR,List.drop_append_of_le_length (by simp[hfl];omega),List.take_append_of_le_length (by simp[hfl];omega),←List.map_drop,←List.map_take,hat]
 have hR2:(putL R (k*3) ((fT t).map D.v)).take (ps.length*3)=((ps.set k t).flatMap fT).map D.v:=by
  rw[←hR,putL_map _ _ _ _ (by rw[fT_len];omega),fT_len,hset,List.take_left' (by simp[hsl])]
 have hR2l:(putL R (k*3) ((fT t).map D.v)).length=R.length:=by simp[putL,fT_len];omega
 rw[hR];clear hR hat hset hfl hsl;generalize hRR:putL R (k*3) ((fT t).map D.v)=R' at*;obtain⟨tc,tv,tp⟩:=t;obtain⟨pc,pv,pp⟩:=p;simp only[fT,Th.cs,Th.vs,Th.ps,List.map_cons,List.map_nil]at hR1 hRR;rw[Th.V_eq,Th.V_eq]at q;rw[show c26A= .seq (.seq (.reg (oG 12 5) _) (.cond (.t 42 false) (.seq (.reg (oG 12 6) _) (.seq (.regD (oG 12 7) _ _) (.seq (.reg (oG 12 8) _) .ret))) .skip)) c26X from rfl];generalize c26X=C at*;simp only[awp_seq,awp_reg,awp_cond,Zge 12 5,e26,z26];simp[hlen];refine⟨_,_,q1 _,?_⟩;simp[ha];simp only[Zge 12 6];simp;refine⟨_,_,q2 _,?_⟩;simp;simp only[awp_regD,Zge 12 7];have hbR:k*3+3≤R.length:=by omega
 simp[hkl,hR1,hbR];refine⟨_,_,⟨rfl,rfl⟩,_,q,?_⟩;have hbR':k*3+3≤R'.length:=by omega
 simp[hRR];simp only[Zge 12 8];simp[Th.cells];simp[putL,awp_ret];rw[←hP];refine⟨trivial,[.v (.list (cs.map (.int .i64))),.v (.list (vs.map Val.V)),.sref 3 ps.length],R',2,3,ps.length,3,(ps.set k (Th.mk tc tv tp)).map Th.V,?_,rfl,rfl,by simp,?_,?_,?_⟩
 ·simp[Zgr 12,D.one?]
 ·intro x hx;obtain⟨⟨c,v,y⟩,_,rfl⟩:=List.mem_map.1 hx;rw[Th.V_eq];rfl
 ·rw[hR2,fT_flat];exact vs_mapT _
 ·simp[nums]
theorem rr26 (hps:ps≠[]) (ha:0 <aroundI a 3) (k:Nat) (hk:aroundI (IntKind.i64.wrap (a.tdiv 3)) ps.length=k) (p t:Th) (hp:ps[k]?=some p)
  (q:PSp Tryz.prog GLx 12 [p.V,.int .i64 (IntKind.i64.wrap (a.tdiv 9)),.int .i64 h,.int .i64 b] [t.V]):
  PSp Tryz.prog GLx 12 [(Th.mk cs vs ps).V,.int .i64 a,.int .i64 h,.int .i64 b] [(Th.mk cs vs (ps.set k t)).V]:=by
 rw[Th.V_eq cs vs (ps.set k t)];have f:FSp Tryz.prog GLx 12 [.v (Th.mk cs vs ps).V,.v (.int .i64 a),.v (.int .i64 h),.v (.int .i64 b)] [] [.v (.agg [nums .i64 cs,.list (vs.map Val.V),.list ((ps.set k t).map Th.V)])] []:=fsp_frz (Zkk 12) rfl (r26w h1 h2 h3 a h b hps ha k hk p t hp q);exact psp_of_fsp (args:=[_,_,_,_]) (rets:=[_]) f
end
theorem p26 {n:Nat} (hn:n≤5000) {t:Th} (hw:t.wb n):∀a h b:Int,i64 a→i64 h→i64 b→T26 n t a h b:=by
 induction hw with
 | @mk cs vs ps h0c k1 k2 k3 h4 h5 ih=>
  intro a h b ha hh hb;have hw:(Th.mk cs vs ps).wb n:= .mk h0c k1 k2 k3 h4 h5;have h1:cs.length≤5000:=by omega
  have h2:vs.length≤5000:=by omega
  have h3:ps.length≤5000:=by omega
  by_cases hps:ps=[]
  ·exact t26 h1 h2 h3 a h b hw (.inl hps) hh hb
  by_cases h0:0 <aroundI a 3
  ·have hlen:0 <ps.length:=List.length_pos_iff.2 hps;have g1:=aroundI_nn (IntKind.i64.wrap (a.tdiv 3)) ps.length (wrap_ok _);have g2:=(aroundI_b (IntKind.i64.wrap (a.tdiv 3)) ps.length (by omega)).2;obtain⟨k,hk⟩:∃k:Nat,aroundI (IntKind.i64.wrap (a.tdiv 3)) ps.length=k:=⟨(aroundI (IntKind.i64.wrap (a.tdiv 3)) ps.length).toNat,by omega⟩;obtain⟨p,hp⟩:∃p,ps[k]?=some p:=⟨_,List.getElem?_eq_getElem (by omega)⟩;obtain⟨t2,wd2,sz2,q⟩:=ih p (List.mem_of_getElem? hp) (IntKind.i64.wrap (a.tdiv 9)) h b (wrap_ok _) hh hb;have hs:=sizes_set ps k p t2 hp;refine T26.of hw (cs2:=cs) (vs2:=vs) (ps2:=ps.set k t2) h0c (by omega) (by omega) (by simp;omega) h4 (λx hx=>?_) (by omega) (rr26 h1 h2 h3 a h b hps h0 k hk p t2 hp q);rcases List.mem_or_eq_of_mem_set hx with hx|rfl
   ·exact(h5 x hx).mono (by omega)
   ·exact wd2
  ·exact t26 h1 h2 h3 a h b hw (.inr h0) hh hb
theorem partsG_all (f:Nat→Th×Nat) (len:Nat) (p:Th→Prop) (hf:∀a,p (f a).1):∀n at_,∀x∈(partsG f len n at_).1,p x
 |0,at_,x,hx=>by simp[partsG]at hx
 |n+1,at_,x,hx=>by
  rw[partsG]at hx;split at hx
  ·rcases List.mem_cons.1 hx with rfl|hx
   ·exact hf at_
   ·exact partsG_all f len p hf n _ x hx
  ·cases hx
theorem partsG_len (f:Nat→Th×Nat) (len:Nat):∀n at_,(partsG f len n at_).1.length≤n
 |0,at_=>by simp[partsG]
 |n+1,at_=>by
  rw[partsG];split
  ·have:=partsG_len f len n (f at_).2;simp only[List.length_cons];omega
  ·simp
theorem tabR_ok:∀r∈tabR,(-9223372036854775808≤r.1∧r.1 <9223372036854775808)∧ -9223372036854775808≤r.2∧r.2 <9223372036854775808:=by decide
theorem tabR_mem (j:Nat):(tabR[j]?).getD (0,1)∈tabR:=by
 cases h:tabR[j]? with
 |none=>simp[tabR]
 |some r=>exact List.mem_of_getElem? h
theorem valsG_ok (l:List Int) (a:Nat):(valsG l a 3).length≤3∧∀x∈valsG l a 3,x.ok:=by
 refine⟨?_,λx hx=>?_⟩
 ·have:=List.length_filterMap_le (valG l a) (List.range 3);simpa[valsG]using this
 ·obtain⟨i,hi,hx⟩:=List.mem_filterMap.1 hx;have hi:=List.mem_range.1 hi;unfold valG at hx;simp only at hx;split at hx
  ·simp only[Option.some.injEq]at hx;have hm:=tabR_mem ((IntKind.i64.wrap ((pickI l ((a+i:Nat):Int) 1048576).tdiv 3)).tmod 8).toNat;generalize (tabR[((IntKind.i64.wrap ((pickI l ((a+i:Nat):Int) 1048576).tdiv 3)).tmod 8).toNat]?).getD (0,1)=r at hx hm;subst hx;obtain⟨h2,h3⟩:=tabR_ok r hm;exact⟨by simp only[i64];omega,h2,h3⟩
  ·cases hx
theorem clsN_in (nc:Nat) (k:Int):(clsN nc k).length≤nc∧∀c∈clsN nc k,0≤c∧c <nc:=by
 refine⟨?_,λc hc=>?_⟩
 ·unfold clsN;rw[List.length_map];have:=List.length_filter_le (λ(c:Nat)=>(k.fdiv (2^(min c IntKind.i64.bits))).tmod 3==1) (List.range nc);simpa using this
 ·unfold clsN at hc;obtain⟨n,hn,rfl⟩:=List.mem_map.1 hc;have:=List.mem_range.1 (List.mem_filter.1 hn).1;omega
theorem sizes_le (B:Nat):∀ps:List Th,(∀p∈ps,p.size≤B)→Th.sizes ps≤ps.length*B
 |[],_=>by simp[Th.sizes]
 |p::ps,h=>by
  have h1:=h p (by simp);have h2:=sizes_le B ps λq hq=>h q (by simp[hq]);rw[Th.sizes,List.length_cons,Nat.succ_mul];omega
theorem thN_wb {nc:Nat} (hnc:nc≤20) (l:List Int):∀d at_,(thN nc l d at_).1.wb 1000∧(thN nc l d at_).1.size≤4^(d+1)
 |0,at_=>by
  obtain⟨c2,c3⟩:=clsN_in nc (pickI l at_ 1048576);obtain⟨v3,v4⟩:=valsG_ok l (at_+1);rw[thN];exact⟨.mk (λc hc=>by have:=c3 c hc;unfold i64;omega) (by omega) (by omega) (by simp) v4 (by simp),by simp[Th.size,Th.sizes]⟩
 |d+1,at_=>by
  obtain⟨c2,c3⟩:=clsN_in nc (pickI l at_ 1048576);obtain⟨v3,v4⟩:=valsG_ok l (at_+1);have hp:=partsG_all (thN nc l d) l.length (λt=>t.wb 1000∧t.size≤4^(d+1)) (thN_wb hnc l d) (pickI l ((at_+4:Nat):Int) 4).toNat (at_+5);have hn:=partsG_len (thN nc l d) l.length (pickI l ((at_+4:Nat):Int) 4).toNat (at_+5);have h3:=many4 l ((at_+4:Nat):Int);rw[thN];generalize (partsG (thN nc l d) l.length (pickI l ((at_+4:Nat):Int) 4).toNat (at_+5)).1=ps at*;have hs:=sizes_le (4^(d+1)) ps λp h=>(hp p h).2;have h4:ps.length*4^(d+1)≤3*4^(d+1):=Nat.mul_le_mul_right _ (by omega);have h5:1≤4^(d+1):=Nat.one_le_pow _ _ (by decide);have h6:4^(d+1+1)=4*4^(d+1):=by rw[Nat.pow_succ 4 (d+1)];omega
  exact⟨.mk (λc hc=>by have:=c3 c hc;unfold i64;omega) (by omega) (by omega) (by omega) v4 λp h=>(hp p h).1,by rw[Th.size];omega⟩
end Go.Va
