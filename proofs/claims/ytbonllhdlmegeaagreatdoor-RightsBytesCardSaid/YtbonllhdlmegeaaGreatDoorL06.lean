/- Laws, part 6. No condition. -/
import Derived.RangeFuncRecord
import Derived.KernelRfl
import Derived.Test.YtbonllhdlmegeaaGreatDoorProg
import Derived.Test.YtbonllhdlmegeaaGreatDoorL03
set_option linter.all false
set_option maxRecDepth 100000
set_option maxHeartbeats 4000000
noncomputable section
namespace Go.Va
def Opd.clr (e:Env):Opd→Env
 | .t n true=>[(n,(find e n).copy)]
 |_=>[]
theorem clear_eq (x:Opd) (e:Env):x.clear e=x.clr e++e:=by
 cases x with
 |t n mv=>cases mv<;>rfl
 |_=>rfl
theorem Same.clr {e e2:Env} {x:Opd} (h:Same e e2 x.rd):x.clr e2=x.clr e:=by
 cases x with
 |t n mv=>cases mv<;>simp[Opd.clr,h n (by simp[Opd.rd])]
 |_=>rfl
theorem clr_wr {x:Opd} {e:Env} {p:Nat×D} (h:p∈x.clr e):p.1∈x.wr:=by
 cases x with
 |t n mv=>cases mv<;>simp_all [Opd.clr,Opd.wr]
 |_=>simp[Opd.clr]at h
structure Local (R:St→St→Prop) (rd wr:List Nat) (kd:Kd) (s:St) (δ:Env) (h':List Row):Prop where
 wr:∀p∈δ,p.1∈wr
 here:∀e2,Same s.e e2 rd→R ⟨e2,s.h⟩ ⟨δ++e2,h'⟩
 n:kd= .n→h'=s.h∧∀e2 h2,Same s.e e2 rd→R ⟨e2,h2⟩ ⟨δ++e2,h2⟩
 r:kd= .r→h'=s.h∧(∀e2 t,Same s.e e2 rd→R ⟨e2,s.h++t⟩ ⟨δ++e2,s.h++t⟩)∧∀e2 h2,LoadEq s.h h2→Same s.e e2 rd→R ⟨e2,h2⟩ ⟨δ++e2,h2⟩
 a:kd= .a→∃t,h'=s.h++t
 t:kd= .t→LoadEq s.h h'
theorem Local.ofN {R:St→St→Prop} {rd wr:List Nat} {s:St} {δ:Env} {kd:Kd} (hwr:∀p∈δ,p.1∈wr) (h:∀e2 h2,Same s.e e2 rd→R ⟨e2,h2⟩ ⟨δ++e2,h2⟩):Local R rd wr kd s δ s.h where
 wr:=hwr
 here:=λe2 hs=>h e2 s.h hs
 n:=λ_=>⟨rfl,h⟩
 r:=λ_=>⟨rfl,λe2 t hs=>h e2 _ hs,λe2 h2 _ hs=>h e2 h2 hs⟩
 a:=λ_=>⟨[],by simp⟩
 t:=λ_=>⟨rfl,λr=> .inl rfl⟩
theorem step_local {i:AI} {s s':St} (h:i.step s=some s'):∃δ h',s'=⟨δ++s.e,h'⟩∧Local (λs s'=>i.step s=some s') i.rd i.wr i.kd s δ h':=by
 cases i with
 |p d i=>
  simp only[AI.step,Option.map_eq_some_iff]at h;obtain⟨x,hx,rfl⟩:=h;cases hk:i.kd with
  |n=>
   refine⟨[(d,x)],s.h,rfl,.ofN (by simp[AI.wr]) λe2 h2 hs=>?_⟩;simp only[AI.step,PI.val_congr (i:=i) hs,PI.val_heap (h:=s.h) (h2:=h2) hk,hx,Option.map_some];rfl
  |r=>
   have hkd:(AI.p d i).kd= .r:=by cases i<;>first|rfl|cases hk
   refine⟨[(d,x)],s.h,rfl,by simp[AI.wr],λe2 hs=>?_,λh=>(by rw[hkd]at h;cases h),λ_=>⟨rfl,λe2 t hs=>?_,λe2 h2 hq hs=>?_⟩,λh=>(by rw[hkd]at h;cases h),λh=>(by rw[hkd]at h;cases h)⟩
   ·simp only[AI.step,PI.val_congr (i:=i) hs,hx,Option.map_some];rfl
   ·simp only[AI.step,PI.val_congr (i:=i) hs,PI.val_grow hx,Option.map_some];rfl
   ·simp only[AI.step,PI.val_congr (i:=i) hs,PI.val_same hq hx,Option.map_some];rfl
  |a=>cases i<;>cases hk
  |w=>cases i<;>cases hk
  |t=>cases i<;>cases hk
 |mv d x=>
  simp only[AI.step,Option.some.injEq]at h;subst h;refine⟨(d,x.ev s.e)::x.clr s.e,s.h,by rw[clear_eq];rfl,.ofN ?_ λe2 h2 hs=>?_⟩
  ·intro p hp;rcases List.mem_cons.1 hp with rfl|hp
   ·simp[AI.wr]
   ·exact List.mem_cons_of_mem _ (clr_wr hp)
  ·simp only[AI.step,Same.ev (x:=x) hs,clear_eq,Same.clr (x:=x) hs];rfl
 |alloc d zs=>
  simp only[AI.step,Option.some.injEq]at h;subst h;refine⟨[(d,.ref s.h.length 0)],_,rfl,by simp[AI.wr],λe2 hs=>rfl,(λh=>by cases h),(λh=>by cases h),(λ_=>⟨_,rfl⟩),(λh=>by cases h)⟩
 |box d x=>
  simp only[AI.step]at h;split at h
  ·rename_i cs hcs;simp only[Option.some.injEq]at h;subst h;refine⟨[(d,.ref s.h.length 0)],_,rfl,by simp[AI.wr],λe2 hs=>?_,(λh=>by cases h),(λh=>by cases h),(λ_=>⟨_,rfl⟩),(λh=>by cases h)⟩;simp only[AI.step,Same.ev (x:=x) hs,hcs];rfl
  ·cases h
 |store a x n=>
  have e0:∀e2,Same s.e e2 (AI.store a x n).rd→a.ev e2=a.ev s.e∧x.ev e2=x.ev s.e:=λe2 hs=>⟨(Same.left hs).ev,(Same.right hs).ev⟩;simp only[AI.step]at h;split at h
  ·rename_i r off ha;split at h
   ·rename_i ds hr;split at h
    ·rename_i e sz xs hx;split at h
     ·rename_i m;split at h
      ·rename_i hc;simp only[Option.some.injEq]at h;subst h;refine⟨[(m,.any)],_,rfl,by simp[AI.wr,Opd.wr],λe2 hs=>?_,(λh=>by cases h),(λh=>by cases h),(λh=>by cases h),(λh=>by cases h)⟩;simp only[AI.step,(e0 e2 hs).1,ha,hr,(e0 e2 hs).2,hx,hc,and_self,if_true];rfl
      ·cases h
     ·cases h
    ·rename_i bb e sz xs hx;split at h
     ·rename_i m;split at h
      ·rename_i hc;simp only[Option.some.injEq]at h;subst h;refine⟨[(m,.pptr bb 0 xs.length)],_,rfl,by simp[AI.wr,Opd.wr],λe2 hs=>?_,(λh=>by cases h),(λh=>by cases h),(λh=>by cases h),(λh=>by cases h)⟩;simp only[AI.step,(e0 e2 hs).1,ha,hr,(e0 e2 hs).2,hx,hc,and_self,if_true];rfl
      ·cases h
     ·cases h
    ·rename_i hne hne2;split at h
     ·rename_i cs hcs;split at h
      ·rename_i hc;simp only[Option.some.injEq]at h;subst h;refine⟨[],_,rfl,by simp,λe2 hs=>?_,(λh=>by cases h),(λh=>by cases h),(λh=>by cases h),(λh=>by cases h)⟩;simp only[AI.step,(e0 e2 hs).1,ha,hr,(e0 e2 hs).2,hcs];generalize hxe:x.ev s.e=X at hne hne2 hcs;cases X<;>simp_all
      ·cases h
     ·cases h
   ·cases h
  ·cases h
 |take d a=>
  simp only[AI.step]at h;split at h
  ·rename_i r off ha;split at h
   ·rename_i ds hr;split at h
    ·rename_i e sz xs hx;simp only[Option.some.injEq]at h;subst h;refine⟨[(d,.own e sz xs)],_,rfl,by simp[AI.wr],λe2 hs=>?_,(λh=>by cases h),(λh=>by cases h),(λh=>by cases h),λ_=>LoadEq.take hr hx⟩;simp only[AI.step,Same.ev (x:=a) hs,ha,hr,hx];rfl
    ·cases h
   ·cases h
  ·cases h
 |app d x y e sz b=>
  have e0:∀e2,Same s.e e2 (AI.app d x y e sz b).rd→x.ev e2=x.ev s.e∧y.ev e2=y.ev s.e:=λe2 hs=>⟨(Same.left hs).ev,(Same.right hs).ev⟩;simp only[AI.step]at h;split at h
  ·rename_i xs ys hx hy;split at h
   ·rename_i hc;simp only[Option.some.injEq]at h;subst h;refine⟨(d,.own e sz (xs++ys))::x.clr s.e,s.h,by rw[clear_eq];rfl,.ofN ?_ λe2 h2 hs=>?_⟩
    ·intro p hp;rcases List.mem_cons.1 hp with rfl|hp
     ·simp[AI.wr]
     ·exact List.mem_cons_of_mem _ (clr_wr hp)
    ·simp only[AI.step,(e0 e2 hs).1,(e0 e2 hs).2,hx,hy,hc,and_self,if_true,clear_eq,Same.clr (x:=x) (Same.left hs)];rfl
   ·cases h
  ·cases h
 |appS d x y e b=>
  have e0:∀e2,Same s.e e2 (AI.appS d x y e b).rd→x.ev e2=x.ev s.e∧y.ev e2=y.ev s.e:=λe2 hs=>⟨(Same.left hs).ev,(Same.right hs).ev⟩;simp only[AI.step]at h;split at h
  ·rename_i xs ys hx hy;split at h
   ·rename_i hc;simp only[Option.some.injEq]at h;subst h;refine⟨(d,.own e 1 (xs++ys.data.toList.map λc=> .int .u8 c.toNat))::x.clr s.e,s.h,by rw[clear_eq];rfl,.ofN ?_ λe2 h2 hs=>?_⟩
    ·intro p hp;rcases List.mem_cons.1 hp with rfl|hp
     ·simp[AI.wr]
     ·exact List.mem_cons_of_mem _ (clr_wr hp)
    ·simp only[AI.step,(e0 e2 hs).1,(e0 e2 hs).2,hx,hy,hc,if_true,clear_eq,Same.clr (x:=x) (Same.left hs)];rfl
   ·cases h
  ·cases h
 |bsl d e sz ps=>
  simp only[AI.step]at h;split at h
  ·rename_i vs hvs;split at h
   ·rename_i hall;cases vs with
    |nil=>
     simp only[Option.some.injEq]at h;subst h;refine⟨[(d,.nil e sz)],s.h,rfl,.ofN (by simp[AI.wr]) λe2 h2 hs=>?_⟩;simp only[AI.step,Same.toVs (xs:=ps) hs,hvs];rfl
    |cons v vs=>
     simp only[Option.some.injEq]at h;subst h;refine⟨[(d,.own e sz (v::vs))],s.h,rfl,.ofN (by simp[AI.wr]) λe2 h2 hs=>?_⟩;simp only[AI.step,Same.toVs (xs:=ps) hs,hvs,hall,if_true];rfl
   ·cases h
  ·cases h
 |bsr d sz ps=>
  simp only[AI.step]at h;split at h
  ·rename_i cs hcs;simp only[Option.some.injEq]at h;subst h;refine⟨[(d,.sref s.h.length ps.length)],_,rfl,by simp[AI.wr],λe2 hs=>?_,(λh=>by cases h),(λh=>by cases h),(λ_=>⟨_,rfl⟩),(λh=>by cases h)⟩;simp only[AI.step,Same.toCells (xs:=ps) hs,hcs];rfl
  ·cases h
 |s2b d x=>
  simp only[AI.step]at h;split at h
  ·rename_i b hb;simp only[Option.some.injEq]at h;subst h;refine⟨[(d,.v (.list (b.data.toList.map λc=> .int .u8 c.toNat)))],s.h,rfl,.ofN (by simp[AI.wr]) λe2 h2 hs=>?_⟩;simp only[AI.step,Same.ev (x:=x) hs,hb];rfl
  ·cases h
 |nilS d ne x=>cases h
 |mksl d x z=>
  simp only[AI.step]at h;split at h
  ·rename_i k n hn;split at h
   ·rename_i hc;simp only[Option.some.injEq]at h;subst h;refine⟨[(d,.sref s.h.length n.toNat)],_,rfl,by simp[AI.wr],λe2 hs=>?_,(λh=>by cases h),(λh=>by cases h),(λ_=>⟨_,rfl⟩),(λh=>by cases h)⟩;simp only[AI.step,Same.ev (x:=x) hs,hn,if_pos hc];rfl
   ·cases h
  ·cases h
 |mkm d=>
  simp only[AI.step,Option.some.injEq]at h;subst h;exact⟨[(d,.mref s.h.length)],_,rfl,by simp[AI.wr],λe2 hs=>rfl,(λh=>by cases h),(λh=>by cases h),(λ_=>⟨_,rfl⟩),(λh=>by cases h)⟩
 |ment d m k st ks=>
  have e0:∀e2,Same s.e e2 (AI.ment d m k st ks).rd→m.ev e2=m.ev s.e∧k.ev e2=k.ev s.e:=λe2 hs=>⟨(Same.left hs).ev,(Same.right hs).ev⟩;have hh:∃x,s'=⟨(d,x)::s.e,s.h⟩∧∀e2,Same s.e e2 (AI.ment d m k st ks).rd→(AI.ment d m k st ks).step ⟨e2,s.h⟩=some ⟨(d,x)::e2,s.h⟩:=by
   simp only[AI.step]at h;split at h
   ·rename_i r hm;split at h
    ·rename_i es bs ck hr;split at h
     ·rename_i kv hkv;split at h
      ·rename_i hko;split at h
       ·rename_i i hi;split at h
        ·rename_i p n hp hn;simp only[Option.some.injEq]at h;subst h;exact⟨_,rfl,λe2 hs=>by simp only[AI.step,(e0 e2 hs).1,(e0 e2 hs).2,hm,hr,hkv,hko,if_true,hi,hp,hn]⟩
        ·cases h
       ·cases h
      ·cases h
     ·cases h
    ·cases h
   ·cases h
  obtain⟨x,rfl,hh⟩:=hh;exact⟨[(d,x)],s.h,rfl,by simp[AI.wr],hh,(λh=>by cases h),(λh=>by cases h),(λh=>by cases h),(λh=>by cases h)⟩
 |mest m b v=>
  have e0:∀e2,Same s.e e2 (AI.mest m b v).rd→m.ev e2=m.ev s.e∧b.ev e2=b.ev s.e∧v.ev e2=v.ev s.e:=λe2 hs=>⟨(Same.left hs).ev,(Same.left (Same.right hs)).ev,(Same.right (Same.right hs)).ev⟩;have hh:∃h',s'=⟨s.e,h'⟩∧∀e2,Same s.e e2 (AI.mest m b v).rd→(AI.mest m b v).step ⟨e2,s.h⟩=some ⟨e2,h'⟩:=by
   simp only[AI.step]at h;split at h
   ·rename_i r hm;split at h
    ·rename_i es bs ck hr;split at h
     ·rename_i kk n vv hb hv;split at h
      ·rename_i i hi;split at h
       ·rename_i p hp;simp only[Option.some.injEq]at h;subst h;exact⟨_,rfl,λe2 hs=>by simp only[AI.step,(e0 e2 hs).1,(e0 e2 hs).2.1,(e0 e2 hs).2.2,hm,hr,hb,hv,hi,hp]⟩
       ·cases h
      ·cases h
     ·cases h
    ·cases h
   ·cases h
  obtain⟨h',rfl,hh⟩:=hh;exact⟨[],h',rfl,by simp,hh,(λh=>by cases h),(λh=>by cases h),(λh=>by cases h),(λh=>by cases h)⟩
 |mput m k v st ks=>
  have e0:∀e2,Same s.e e2 (AI.mput m k v st ks).rd→m.ev e2=m.ev s.e∧k.ev e2=k.ev s.e∧v.ev e2=v.ev s.e:=λe2 hs=>⟨(Same.left hs).ev,(Same.left (Same.right hs)).ev,(Same.right (Same.right hs)).ev⟩;have hh:∃h',s'=⟨s.e,h'⟩∧∀e2,Same s.e e2 (AI.mput m k v st ks).rd→(AI.mput m k v st ks).step ⟨e2,s.h⟩=some ⟨e2,h'⟩:=by
   simp only[AI.step]at h;split at h
   ·rename_i r hm;split at h
    ·rename_i es hr;split at h
     ·rename_i kv vv hkv hvv;split at h
      ·rename_i hko;split at h
       ·rename_i hf;simp only[Option.some.injEq]at h;subst h;exact⟨_,rfl,λe2 hs=>by simp only[AI.step,(e0 e2 hs).1,(e0 e2 hs).2.1,(e0 e2 hs).2.2,hm,hr,hkv,hvv,hko,hf,if_true]⟩
       ·rename_i j hf;simp only[Option.some.injEq]at h;subst h;exact⟨_,rfl,λe2 hs=>by simp only[AI.step,(e0 e2 hs).1,(e0 e2 hs).2.1,(e0 e2 hs).2.2,hm,hr,hkv,hvv,hko,hf,if_true]⟩
       ·cases h
      ·cases h
     ·cases h
    ·cases h
   ·cases h
  obtain⟨h',rfl,hh⟩:=hh;exact⟨[],h',rfl,by simp,hh,(λh=>by cases h),(λh=>by cases h),(λh=>by cases h),(λh=>by cases h)⟩
 |mdel d m k st ks=>
  have e0:∀e2,Same s.e e2 (AI.mdel d m k st ks).rd→m.ev e2=m.ev s.e∧k.ev e2=k.ev s.e:=λe2 hs=>⟨(Same.left hs).ev,(Same.right hs).ev⟩;have hh:∃h',s'=⟨setO s.e d (.tup []),h'⟩∧∀e2,Same s.e e2 (AI.mdel d m k st ks).rd→(AI.mdel d m k st ks).step ⟨e2,s.h⟩=some ⟨setO e2 d (.tup []),h'⟩:=by
   simp only[AI.step]at h;split at h
   ·rename_i r hm;split at h
    ·rename_i es hr;split at h
     ·rename_i kv hkv;split at h
      ·rename_i hko;split at h
       ·rename_i hf;simp only[Option.some.injEq]at h;subst h;exact⟨_,rfl,λe2 hs=>by simp only[AI.step,(e0 e2 hs).1,(e0 e2 hs).2,hm,hr,hkv,hko,hf,if_true]⟩
       ·rename_i j hf;simp only[Option.some.injEq]at h;subst h;exact⟨_,rfl,λe2 hs=>by simp only[AI.step,(e0 e2 hs).1,(e0 e2 hs).2,hm,hr,hkv,hko,hf,if_true]⟩
       ·cases h
      ·cases h
     ·cases h
    ·cases h
   ·cases h
  obtain⟨h',rfl,hh⟩:=hh;cases d with
  |none=>exact⟨[],h',rfl,by simp,hh,(λh=>by cases h),(λh=>by cases h),(λh=>by cases h),(λh=>by cases h)⟩
  |some d=>exact⟨[(d,.tup [])],h',rfl,by simp[AI.wr],hh,(λh=>by cases h),(λh=>by cases h),(λh=>by cases h),(λh=>by cases h)⟩
 |call d f args=>cases h
 |callF d f args=>cases h
 |callC d f args=>cases h
 |callO d f q args=>cases h
 |appR d x y e s b=>cases h
 |frz d x s=>cases h
 |callN d f args=>cases h
 |appP d x y e s b=>cases h
 |itr k d x=>cases h
 |fin m ad p x sz=>
  have e0:∀e2,Same s.e e2 (AI.fin m ad p x sz).rd→find e2 m=find s.e m∧ad.ev e2=ad.ev s.e∧p.ev e2=p.ev s.e∧x.ev e2=x.ev s.e:=λe2 hs=>
   ⟨hs m (by simp[AI.rd]),(Same.left (Same.right hs)).ev,(Same.left (Same.right (Same.right hs))).ev,(Same.right (Same.right (Same.right hs))).ev⟩
  have hh:∃δ h',s'=⟨δ++s.e,h'⟩∧(∀q∈δ,q.1=m)∧∀e2,Same s.e e2 (AI.fin m ad p x sz).rd→(AI.fin m ad p x sz).step ⟨e2,s.h⟩=some ⟨δ++e2,h'⟩:=by
   simp only[AI.step]at h;split at h
   ·rename_i b s0 n y hp hx;split at h
    ·rename_i b' e s2 xs hf;split at h
     ·rename_i hc;simp only[Option.some.injEq]at h;subst h;refine⟨[(m,.own e sz (xs++[y]))],s.h,rfl,by simp,λe2 hs=>?_⟩;obtain⟨q1,q2,q3,q4⟩:=e0 e2 hs;simp only[AI.step,q3,q4,hp,hx,q1,hf,if_pos hc];rfl
     ·cases h
    ·rename_i hnp;split at h
     ·rename_i r off ha;split at h
      ·rename_i ds hr;split at h
       ·rename_i b' e s2 xs hd;split at h
        ·rename_i hc;simp only[Option.some.injEq]at h;subst h;refine⟨[],_,rfl,by simp,λe2 hs=>?_⟩;obtain⟨q1,q2,q3,q4⟩:=e0 e2 hs;simp only[AI.step,q3,q4,hp,hx,q1,q2,ha];cases hfm:find s.e m with
         |pend b3 e3 s3 xs3=>exact absurd hfm (hnp _ _ _ _)
         |_=>simp only[hr,hd,if_pos hc];rfl
        ·cases h
       ·cases h
      ·cases h
     ·cases h
   ·cases h
  obtain⟨δ,h',rfl,hw,hh⟩:=hh;exact⟨δ,h',rfl,λq hq=>by simp[AI.wr,hw q hq],hh,(λh=>by cases h),(λh=>by cases h),(λh=>by cases h),(λh=>by cases h)⟩
 |mksz d x zs=>
  simp only[AI.step]at h;split at h
  ·rename_i k n hn;split at h
   ·rename_i hc;simp only[Option.some.injEq]at h;subst h;refine⟨[(d,.sref s.h.length n.toNat)],_,rfl,by simp[AI.wr],λe2 hs=>?_,(λh=>by cases h),(λh=>by cases h),(λ_=>⟨_,rfl⟩),(λh=>by cases h)⟩;simp only[AI.step,Same.ev (x:=x) hs,hn,if_pos hc];rfl
   ·cases h
  ·cases h
 |clr d x zs=>
  have hh:∃v h',s'=⟨setO s.e d v,h'⟩∧∀e2,Same s.e e2 (AI.clr d x zs).rd→(AI.clr d x zs).step ⟨e2,s.h⟩=some ⟨setO e2 d v,h'⟩:=by
   simp only[AI.step]at h;split at h
   ·rename_i r n hx;split at h
    ·rename_i ds hr;split at h
     ·rename_i hc;simp only[Option.some.injEq]at h;subst h;exact⟨_,_,rfl,λe2 hs=>by simp only[AI.step,Same.ev (x:=x) hs,hx,hr,if_pos hc]⟩
     ·cases h
    ·cases h
   ·cases h
  obtain⟨v,h',rfl,hh⟩:=hh;cases d with
  |none=>exact⟨[],h',rfl,by simp,hh,(λh=>by cases h),(λh=>by cases h),(λh=>by cases h),(λh=>by cases h)⟩
  |some d=>exact⟨[(d,v)],h',rfl,by simp[AI.wr],hh,(λh=>by cases h),(λh=>by cases h),(λh=>by cases h),(λh=>by cases h)⟩
 |cpy d x y sz=>
  have e0:∀e2,Same s.e e2 (AI.cpy d x y sz).rd→x.ev e2=x.ev s.e∧y.ev e2=y.ev s.e:=λe2 hs=>⟨(Same.left hs).ev,(Same.right hs).ev⟩;have hh:∃v h',s'=⟨setO s.e d v,h'⟩∧∀e2,Same s.e e2 (AI.cpy d x y sz).rd→(AI.cpy d x y sz).step ⟨e2,s.h⟩=some ⟨setO e2 d v,h'⟩:=by
   simp only[AI.step]at h;split at h
   ·rename_i r n hx;split at h
    ·rename_i ys hy;split at h
     ·rename_i ds hr;split at h
      ·rename_i hc;simp only[Option.some.injEq]at h;subst h;exact⟨_,_,rfl,λe2 hs=>by simp only[AI.step,(e0 e2 hs).1,(e0 e2 hs).2,hx,hy,hr,if_pos hc]⟩
      ·cases h
     ·cases h
    ·cases h
   ·cases h
  obtain⟨v,h',rfl,hh⟩:=hh;cases d with
  |none=>exact⟨[],h',rfl,by simp,hh,(λh=>by cases h),(λh=>by cases h),(λh=>by cases h),(λh=>by cases h)⟩
  |some d=>exact⟨[(d,v)],h',rfl,by simp[AI.wr],hh,(λh=>by cases h),(λh=>by cases h),(λh=>by cases h),(λh=>by cases h)⟩
section
variable (P:Program) (GL:Globals)
def CallS (fd:D) (args:List D) (h:List Row) (rets:List D) (h':List Row):Prop:=
 match fd with
 | .yld r=>∃b,YSp P GL r args h b h'∧rets=[.v (.bool b)]
 | .meth fid fs=>FSp P GL fid (fs++args) h rets h'
 |fd=>∃fid caps,fnOf fd=some (fid,caps)∧FSp P GL fid (args++caps) h rets h'
def stepJ (i:AI) (s s':St):Prop:=
 i.step s=some s'∨(∃d f args fid caps vs rets,i= .call d f args∧(f.ev s.e).toV=some (.func fid caps)∧toVs s.e args=some vs∧PSp P GL fid (vs++caps) rets∧s'=⟨setO s.e d (retD rets),s.h⟩)∨
 (∃d f args rets h',(i= .callF d f args∨i= .callC d f args∧∃t,h'=s.h++t)∧CallS P GL (f.ev s.e) (argsOf s.e args) s.h rets h'∧s'=⟨setO s.e d (retDs rets),h'⟩)∨
 ∃d f q args fid rets,i= .callO d f q args∧fnOf (f.ev s.e)=some (fid,[])∧OSp P GL fid (q.ev s.e::argsOf s.e args) rets∧s'=⟨setO (q.clear s.e) d (retDs rets),s.h⟩
def gstepJ (x:GI) (s s':St):Prop:=
 match x.g with
 |none=>stepJ P GL x.i s s'
 |some (t,want)=>match find s.e t with
  | .v (.bool b)=>if b=want then stepJ P GL x.i s s' else s'=⟨setO s.e x.i.dst (.tup []),s.h⟩
  | .tup []=>s'=⟨setO s.e x.i.dst (.tup []),s.h⟩
  |_=>False
def runJ:List GI→St→St→Prop
 |[],s,s'=>s'=s
 |x::rest,s,s'=>∃s1,gstepJ P GL x s s1∧runJ rest s1 s'
end
section
variable {P:Program} {GL:Globals}
def dO (d:Option Nat) (x:D):Env:=match d with|some d=>[(d,x)]|none=>[]
theorem setO_eq (e:Env) (d:Option Nat) (x:D):setO e d x=dO d x++e:=by cases d<;>rfl
theorem dO_wr {d:Option Nat} {x:D} {p:Nat×D} (h:p∈dO d x):p.1∈d.toList:=by cases d<;>simp_all [dO]
theorem stepJ_local {i:AI} {s s':St} (h:stepJ P GL i s s'):∃δ h',s'=⟨δ++s.e,h'⟩∧Local (stepJ P GL i) i.rd i.wr i.kd s δ h':=by
 rcases h with h|⟨d,f,args,fid,caps,vs,rets,rfl,hf,hv,hp,rfl⟩|⟨d,f,args,rets,h',hi,hc,rfl⟩|⟨d,f,q,args,fid,rets,rfl,hf,hp,rfl⟩
 ·obtain⟨δ,h',hs,l⟩:=step_local h;exact⟨δ,h',hs,l.wr,λe2 x=> .inl (l.here e2 x),λk=>⟨(l.n k).1,λe2 h2 x=> .inl ((l.n k).2 e2 h2 x)⟩,λk=>⟨(l.r k).1,λe2 h2 x=> .inl ((l.r k).2.1 e2 h2 x),λe2 h2 hq x=> .inl ((l.r k).2.2 e2 h2 hq x)⟩,l.a,l.t⟩
 ·refine⟨dO d (retD rets),s.h,by rw[setO_eq],.ofN (λp hp=>dO_wr hp) λe2 h2 hs=> .inr (.inl ⟨d,f,args,fid,caps,vs,rets,rfl,?_,?_,hp,by rw[setO_eq]⟩)⟩
  ·rw[Same.ev (x:=f) (Same.left hs)];exact hf
  ·rw[Same.toVs (xs:=args) (Same.right hs)];exact hv
 ·rcases hi with rfl|⟨rfl,ht⟩
  ·refine⟨dO d (retDs rets),h',by rw[setO_eq],λp hp=>dO_wr hp,λe2 hs=> .inr (.inr (.inl ⟨d,f,args,rets,h',.inl rfl,?_,by rw[setO_eq]⟩)),(λh=>by cases h),(λh=>by cases h),(λh=>by cases h),(λh=>by cases h)⟩;rw[Same.ev (x:=f) (Same.left hs),Same.argsOf (xs:=args) (Same.right hs)];exact hc
  ·refine⟨dO d (retDs rets),h',by rw[setO_eq],λp hp=>dO_wr hp,λe2 hs=> .inr (.inr (.inl ⟨d,f,args,rets,h',.inr ⟨rfl,ht⟩,?_,by rw[setO_eq]⟩)),(λh=>by cases h),(λh=>by cases h),(λ_=>ht),(λh=>by cases h)⟩;rw[Same.ev (x:=f) (Same.left hs),Same.argsOf (xs:=args) (Same.right hs)];exact hc
 ·refine⟨dO d (retDs rets)++q.clr s.e,s.h,by rw[setO_eq,clear_eq,List.append_assoc],.ofN (λp hp=>?_) λe2 h2 hs=> .inr (.inr (.inr ⟨d,f,q,args,fid,rets,rfl,?_,?_,by rw[setO_eq,clear_eq,Same.clr (x:=q) (Same.left (Same.right hs)),List.append_assoc]⟩))⟩
  ·rcases List.mem_append.1 hp with h|h
   ·exact List.mem_append_left _ (dO_wr h)
   ·exact List.mem_append_right _ (clr_wr h)
  ·rw[Same.ev (x:=f) (Same.left hs)];exact hf
  ·rw[Same.ev (x:=q) (Same.left (Same.right hs)),Same.argsOf (xs:=args) (Same.right (Same.right hs))];exact hp
theorem gstepJ_local {x:GI} {s s':St} (h:gstepJ P GL x s s'):∃δ h',s'=⟨δ++s.e,h'⟩∧Local (gstepJ P GL x) x.rd x.wr x.i.kd s δ h':=by
 obtain⟨g,i⟩:=x;cases g with
 |none=>
  obtain⟨δ,h',hs,l⟩:=stepJ_local (i:=i) h;have hr:∀e2,Same s.e e2 (GI.rd ⟨none,i⟩)→Same s.e e2 i.rd:=λe2 hs=>by simpa[GI.rd]using hs
  exact⟨δ,h',hs,λp hp=>List.mem_append_right _ (l.wr p hp),λe2 x=>l.here e2 (hr e2 x),λk=>⟨(l.n k).1,λe2 h2 x=>(l.n k).2 e2 h2 (hr e2 x)⟩,λk=>⟨(l.r k).1,λe2 h2 x=>(l.r k).2.1 e2 h2 (hr e2 x),λe2 h2 hq x=>(l.r k).2.2 e2 h2 hq (hr e2 x)⟩,l.a,l.t⟩
 |some tw=>
  obtain⟨t,want⟩:=tw;have hr:∀ {e2},Same s.e e2 (GI.rd ⟨some (t,want),i⟩)→Same s.e e2 i.rd:=λhs=>Same.right hs;have ht:∀ {e2},Same s.e e2 (GI.rd ⟨some (t,want),i⟩)→find e2 t=find s.e t:=λhs=>hs t (by simp[GI.rd]);have skip:∀ {s':St},s'=⟨setO s.e i.dst (.tup []),s.h⟩→(∀e2 h2,find e2 t=find s.e t→gstepJ P GL ⟨some (t,want),i⟩ ⟨e2,h2⟩ ⟨setO e2 i.dst (.tup []),h2⟩)→
    ∃δ h',s'=⟨δ++s.e,h'⟩∧Local (gstepJ P GL ⟨some (t,want),i⟩) (GI.rd ⟨some (t,want),i⟩) (GI.wr ⟨some (t,want),i⟩) i.kd s δ h':=by
   rintro s' rfl hall;refine⟨dO i.dst (.tup []),s.h,by rw[setO_eq],.ofN (λp hp=>List.mem_append_left _ (dO_wr hp)) λe2 h2 hs=>?_⟩;have:=hall e2 h2 (ht hs);rw[setO_eq]at this;exact this
  simp only[gstepJ]at h;split at h
  ·rename_i b hb;split at h
   ·rename_i hbw;obtain⟨δ,h',hs,l⟩:=stepJ_local (i:=i) h;have go:∀ {e2:Env} {h2:List Row} {s2:St},Same s.e e2 (GI.rd ⟨some (t,want),i⟩)→stepJ P GL i ⟨e2,h2⟩ s2→gstepJ P GL ⟨some (t,want),i⟩ ⟨e2,h2⟩ s2:=by
     intro e2 h2 s2 hs hj;simp only[gstepJ,ht hs,hb,hbw,if_true];exact hj
    exact⟨δ,h',hs,λp hp=>List.mem_append_right _ (l.wr p hp),λe2 x=>go x (l.here e2 (hr x)),λk=>⟨(l.n k).1,λe2 h2 x=>go x ((l.n k).2 e2 h2 (hr x))⟩,λk=>⟨(l.r k).1,λe2 h2 x=>go x ((l.r k).2.1 e2 h2 (hr x)),λe2 h2 hq x=>go x ((l.r k).2.2 e2 h2 hq (hr x))⟩,l.a,l.t⟩
   ·rename_i hbw;refine skip h λe2 h2 hf=>?_;simp only[gstepJ,hf,hb,hbw,if_false]
  ·rename_i hb;refine skip h λe2 h2 hf=>?_;simp only[gstepJ,hf,hb]
  ·exact h.elim
def EqS (s s':St):Prop:=(∀n,find s.e n=find s'.e n)∧s.h=s'.h
theorem EqS.refl (s:St):EqS s s:=⟨λ_=>rfl,rfl⟩
theorem EqS.trans {a b c:St} (h:EqS a b) (h':EqS b c):EqS a c:=⟨λn=>(h.1 n).trans (h'.1 n),h.2.trans h'.2⟩
theorem find_append_congr {δ:Env} {e e':Env} (h:∀n,find e n=find e' n) (n:Nat):find (δ++e) n=find (δ++e') n:=by
 induction δ with
 |nil=>exact h n
 |cons p δ ih=>simp only[List.cons_append,find];split<;>first|rfl|exact ih
theorem find_append_not {δ:Env} {e:Env} {n:Nat} (h:∀p∈δ,p.1≠n):find (δ++e) n=find e n:=by
 induction δ with
 |nil=>rfl
 |cons p δ ih=>
  simp only[List.cons_append,find];rw[if_neg (h p (by simp)),ih λq hq=>h q (by simp[hq])]
theorem find_skip {δ':Env} {e:Env} {p:Nat×D} {n:Nat} (h:p.1≠n):find (δ'++p::e) n=find (δ'++e) n:=by
 induction δ' with
 |nil=>simp[find,h]
 |cons q δ' ih=>simp only[List.cons_append,find];split<;>first|rfl|exact ih
theorem find_swap {δ δ':Env} {e:Env} (h:∀p∈δ,∀q∈δ',p.1≠q.1) (n:Nat):find (δ++(δ'++e)) n=find (δ'++(δ++e)) n:=by
 induction δ with
 |nil=>rfl
 |cons p δ ih=>
  have ih:=ih λq hq=>h q (by simp[hq]);simp only[List.cons_append,find];by_cases hn:p.1=n
  ·rw[if_pos hn,find_append_not (δ:=δ') λq hq=>by rw[←hn];exact(h p (by simp) q hq).symm];simp[find,hn]
  ·rw[if_neg hn,ih,find_skip hn]
theorem run_congr:∀ {l:List GI} {s s2 t:St},runJ P GL l s t→EqS s s2→∃t2,runJ P GL l s2 t2∧EqS t t2
 |[],s,s2,t,h,he=>by cases h;exact⟨s2,rfl,he⟩
 |x::l,s,s2,t,⟨s1,h1,h⟩,he=>by
  obtain⟨δ,h',rfl,loc⟩:=gstepJ_local h1;have h2:gstepJ P GL x s2 ⟨δ++s2.e,h'⟩:=by
   have:=loc.here s2.e (λn _=>(he.1 n).symm);rw[he.2]at this;exact this
  obtain⟨t2,h3,h4⟩:=run_congr (s2:=⟨δ++s2.e,h'⟩) h ⟨λn=>find_append_congr he.1 n,rfl⟩;exact⟨t2,⟨_,h2,h3⟩,h4⟩
def disj (a b:List Nat):Bool:=a.all λn=> !b.contains n
theorem disj_spec {a b:List Nat} (h:disj a b=true) {n:Nat} (ha:n∈a) (hb:n∈b):False:=by
 have:=List.all_eq_true.1 h n ha;simp[hb]at this
def okKd:Kd→Kd→Bool
 | .n,_=>true
 |_,.n=>true
 | .r,.r=>true
 | .r,.a=>true
 | .r,.t=>true
 | .t,.r=>true
 |_,_=>false
def indep (y x:GI):Bool:=disj y.wr x.rd&&disj x.wr y.rd&&disj y.wr x.wr&&okKd y.i.kd x.i.kd
theorem swapJ {y x:GI} (hi:indep y x=true) {s s1 s2:St} (hy:gstepJ P GL y s s1) (hx:gstepJ P GL x s1 s2):∃s1' s2',gstepJ P GL x s s1'∧gstepJ P GL y s1' s2'∧EqS s2 s2':=by
 simp only[indep,Bool.and_eq_true]at hi;obtain⟨⟨⟨d1,d2⟩,d3⟩,hk⟩:=hi;obtain⟨δy,hy',rfl,ly⟩:=gstepJ_local hy;obtain⟨δx,hx',rfl,lx⟩:=gstepJ_local hx;have sx:Same (δy++s.e) s.e x.rd:=λn hn=>(find_append_not λp hp hpn=>disj_spec d1 (ly.wr p hp) (hpn▸hn)).symm;have sy:Same s.e (δx++s.e) y.rd:=λn hn=>find_append_not λp hp hpn=>disj_spec d2 (lx.wr p hp) (hpn▸hn);have hend:∀n,find (δx++(δy++s.e)) n=find (δy++(δx++s.e)) n:=λn=>find_swap (λp hp q hq h=>disj_spec d3 (ly.wr q hq) (h▸lx.wr p hp)) n;cases hky:y.i.kd with
 |n=>
  obtain⟨rfl,hn⟩:=ly.n hky;exact⟨_,_,lx.here s.e sx,hn _ _ sy,hend,rfl⟩
 |r=>
  obtain⟨rfl,hr⟩:=ly.r hky;cases hkx:x.i.kd with
  |n=>
   obtain⟨rfl,hn⟩:=lx.n hkx;exact⟨_,_,hn _ _ sx,ly.here _ sy,hend,rfl⟩
  |r=>
   obtain⟨rfl,hn⟩:=lx.r hkx;have:=hn.1 s.e [] sx;simp only[List.append_nil]at this;exact⟨_,_,this,ly.here _ sy,hend,rfl⟩
  |a=>
   obtain⟨t,rfl⟩:=lx.a hkx;exact⟨_,_,lx.here s.e sx,hr.1 _ t sy,hend,rfl⟩
  |t=>exact⟨_,_,lx.here s.e sx,hr.2 _ _ (lx.t hkx) sy,hend,rfl⟩
  |w=>rw[hky,hkx]at hk;cases hk
 |a=>
  cases hkx:x.i.kd with
  |n=>
   obtain⟨rfl,hn⟩:=lx.n hkx;exact⟨_,_,hn _ s.h sx,ly.here _ sy,hend,rfl⟩
  |_=>rw[hky,hkx]at hk;cases hk
 |t=>
  cases hkx:x.i.kd with
  |n=>
   obtain⟨rfl,hn⟩:=lx.n hkx;exact⟨_,_,hn _ s.h sx,ly.here _ sy,hend,rfl⟩
  |r=>
   obtain⟨rfl,hn⟩:=lx.r hkx;exact⟨_,_,hn.2 _ s.h (ly.t hky).symm sx,ly.here _ sy,hend,rfl⟩
  |_=>rw[hky,hkx]at hk;cases hk
 |w=>
  cases hkx:x.i.kd with
  |n=>
   obtain⟨rfl,hn⟩:=lx.n hkx;exact⟨_,_,hn _ s.h sx,ly.here _ sy,hend,rfl⟩
  |_=>rw[hky,hkx]at hk;cases hk
theorem frontJ {x:GI} {post:List GI}:∀ {pre:List GI} {s t:St},(∀y∈pre,indep y x=true)→runJ P GL (pre++x::post) s t→∃t',runJ P GL (x::(pre++post)) s t'∧EqS t t'
 |[],s,t,_,h=>⟨t,h,EqS.refl t⟩
 |y::pre,s,t,hp,⟨s1,h1,h⟩=>by
  obtain⟨t',⟨s2,h2,h3⟩,he⟩:=frontJ (λz hz=>hp z (by simp[hz])) h;obtain⟨s1',s2',h4,h5,he2⟩:=swapJ (hp y (by simp)) h1 h2;obtain⟨t'',h6,he3⟩:=run_congr h3 he2;exact⟨t'',⟨s1',h4,s2',h5,h6⟩,he.trans he3⟩
end
inductive AT where
 |done
 |take (i:Nat) (t:AT)
 |pick (c:AT)
 |alt (i:Nat) (t rest:AT)
 |none
 deriving Inhabited
inductive AC where
 |skip
 |reg (ops:List GI) (keep:List Nat)
 |regD (ops:List GI) (keep:List Nat) (clos:List (List Nat))
 |regA (ops:List GI) (keep:List Nat) (clos:List (List Nat)) (t:AT)
 |regV (ops:List GI) (keep:List Nat) (clos:List (List Nat))
 |seq (a b:AC)
 |cond (x:Opd) (a b:AC)
 |block (id:Nat) (c:AC)
 |loop (c:AC)
 |exit (id:Nat)
 |ret
 |rangeF (g:Opd) (ps:List Nat) (asg body:AC)
 |scope (c:AC)
 |never
 deriving Inhabited
def AC.flat:AC→Bool
 | .rangeF _ _ _ _=>false
 | .seq a b=>a.flat&&b.flat
 | .cond _ a b=>a.flat&&b.flat
 | .block _ c=>c.flat
 | .loop c=>c.flat
 | .scope c=>c.flat
 |_=>true
section
variable (P:Program) (GL:Globals)
def AT.ok (is:List GI):AT→(St→Prop)→St→Prop
 | .done,K,s=>K s
 | .take i t,K,s=>∃s1,gstepJ P GL (is.getD i default) s s1∧t.ok is K s1
 | .pick c,K,s=>c.ok is K s
 | .alt i t r,K,s=>(∃s1,gstepJ P GL (is.getD i default) s s1∧t.ok is K s1)∧r.ok is K s
 | .none,_,_=>True
def AnyJ (is:List GI) (clos:List (List Nat)) (K:St→Prop):Nat→List Nat→St→Prop
 |0,_,s=>K s
 |n+1,rem,s=>∀i∈rem,(∀j∈(clos[i]?).getD [],j∉rem)→∃s1,gstepJ P GL (is.getD i default) s s1∧AnyJ is clos K n (rem.erase i) s1
def AnyD (is:List GI) (clos:List (List Nat)) (K:St→Prop):Nat→List Nat→St→Prop
 |0,_,s=>K s
 |n+1,rem,s=>∀i∈rem,(∀j∈(clos[i]?).getD [],j∉rem)→awpG P GL (is.getD i default) (λs1=>AnyD is clos K n (rem.erase i) s1) s
end
def chkD (ops:Array Oper) (is:List GI) (clos:List (List Nat)):Bool:=
 (List.range ops.size).all λi=>match ops[i]?,clos[i]?,is[i]? with
  |some o,some cl,some x=>o.after.all (λe=> !Region.binds .any e||decide (e.on <i))&&
    cl.all (λj=>o.after.any λe=>Region.binds .any e&&(e.on==j||((clos[e.on]?).getD []).contains j))&&
    (List.range i).all (λj=>cl.contains j||(match is[j]? with|some y=>indep y x|none=>false))
  |_,_,_=>false
def chkE (ops:Array Oper) (is:List GI) (clos:List (List Nat)):Bool:=
 (List.range ops.size).all λi=>match ops[i]?,clos[i]?,is[i]? with
  |some o,some cl,some _=>o.after.all (λe=> !Region.binds .any e||decide (e.on <i))&&
    cl.all (λj=>o.after.any λe=>Region.binds .any e&&(e.on==j||((clos[e.on]?).getD []).contains j))
  |_,_,_=>false
def rdy (clos:List (List Nat)) (rem:List Nat) (i:Nat):Bool:=rem.contains i&&((clos[i]?).getD []).all λj=> !rem.contains j
def AT.heads:AT→List Nat
 | .alt i _ r=>i::r.heads
 |_=>[]
def AT.good:AT→Bool
 | .alt _ _ _=>false
 | .none=>false
 |_=>true
def AT.chk (is:List GI) (clos:List (List Nat)):AT→List Nat→Bool
 | .done,rem=>rem.isEmpty
 | .take i t,rem=>rdy clos rem i&&t.good&&rem.all (λj=>j==i||((clos[j]?).getD []).contains i||indep (is.getD i default) (is.getD j default))&&t.chk is clos (rem.erase i)
 | .pick c,rem=> !rem.isEmpty&&rem.all (λj=> !rdy clos rem j||c.heads.contains j)&&c.chk is clos rem
 | .alt i t r,rem=>rdy clos rem i&&t.good&&t.chk is clos (rem.erase i)&&r.chk is clos rem
 | .none,_=>true
def chkC (P:Program) (GL:Globals) (N:Nat):Code→AC→Bool
 |_,.never=>true
 | .skip,.skip=>true
 | .label _,.skip=>true
 | .scope c,.scope c'=>chkC P GL N c c'
 | .region _ ops false,.reg is _=>zipOK (chkG P GL N ops) (List.range ops.size) is
 | .region _ ops true,.regD is _ clos=>zipOK (chkG P GL N ops) (List.range ops.size) is&&chkD ops is clos&&P.follows .mixedOrders
 | .region _ ops true,.regA is _ clos t=>zipOK (chkG P GL N ops) (List.range ops.size) is&&chkE ops is clos&&t.chk is clos (List.range ops.size)&&t.good&&P.follows .mixedOrders
 | .region _ ops true,.regV is _ clos=>zipOK (chkG P GL N ops) (List.range ops.size) is&&chkE ops is clos&&P.follows .mixedOrders
 | .seq a b,.seq a' b'=>chkC P GL N a a'&&chkC P GL N b b'
 | .cond x a b,.cond x' a' b'=>oe GL x x'&&chkC P GL N a a'&&chkC P GL N b b'
 | .block id c,.block id' c'=>id==id'&&chkC P GL N c c'
 | .loop c,.loop c'=>chkC P GL N c c'
 | .exit id,.exit id'=>id==id'
 | .ret,.ret=>true
 | .rangeFunc g ps asg body,.rangeF g' ps' asg' body'=>oe GL g g'&&ps.toList==ps'&&ps'.all (λp=>decide (p <N))&&asg'.flat&&body'.flat&&chkC P GL N asg asg'&&chkC P GL N body body'
 |_,_=>false
def cpE (e:Env):Env:=e.map λp=>(p.1,p.2.copy)
def TagOK:Tag→Loop→Prop
 | .ready,l=>l.state= .ready∧l.pending=none
 | .busy,l=>l.state= .busy
 | .done none,l=>l.state≠ .busy∧l.pending=some .ret
 | .done (some i),l=>l.state≠ .busy∧l.pending=some (.exit i)
def LoopP (P:Program) (GL:Globals) (tag:Tag) (e:Env) (ps:List Nat) (asg body:AC) (g:Gh) (μ:List Nat) (o:Obj):Prop:=
 ∃(l:Loop) (N:Nat),o= .loop l∧l.params=ps.toArray∧l.tmps.size=N∧(∀n w,RepD g w μ (find e n) (l.tmps.getD n undef)∧∀k,ownAt (find e n) (l.tmps.getD n undef) k=none)∧
  chkC P GL N l.assign asg=true∧chkC P GL N l.body body=true∧asg.flat=true∧body.flat=true∧(∀p∈ps,p <N)∧TagOK tag l
theorem LoopP.mono {P:Program} {GL:Globals} {tag:Tag} {e:Env} {ps:List Nat} {asg body:AC} (g g':Gh) (μ μ':List Nat) (o:Obj) (hl:g.le g') (hμ:μ <+: μ')
  (h:LoopP P GL tag e ps asg body g μ o):LoopP P GL tag e ps asg body g' μ' o:=by
 obtain⟨l,N,h1,h2,h3,h4,h5⟩:=h;refine⟨l,N,h1,h2,h3,λn w=>⟨?_,(h4 n w).2⟩,h5⟩;exact(h4 n w).1.chg (M:=λ_=>True) ⟨hl,Nat.le_refl _,λ_ _ h=>absurd trivial h,λ_ _ h=>absurd trivial h,rfl,rfl⟩ hμ λk b hb=>by rw[(h4 n w).2 k]at hb;cases hb
def recRow (P:Program) (GL:Globals) (tag:Tag) (e:Env) (ps:List Nat) (asg body:AC):Row:= .obj tag (LoopP P GL tag e ps asg body) LoopP.mono
def rangeEnd (Q:AExit→St→Prop) (s:St):Tag→Prop
 | .ready=>Q .normal s
 | .busy=>False
 | .done none=>Q .ret s
 | .done (some i)=>Q (.exit i) s
section
variable (P:Program) (GL:Globals)
def awp:AC→(AExit→St→Prop)→St→Prop
 | .skip,Q,s=>Q .normal s
 | .reg ops keep,Q,s=>awpOps P GL ops (λs'=>Q .normal ⟨normE s'.e keep,s'.h⟩) s
 | .regD ops keep _,Q,s=>∃s',runJ P GL ops s s'∧Q .normal ⟨normE s'.e keep,s'.h⟩
 | .regA ops keep _ t,Q,s=>t.ok P GL ops (λs'=>∃s2,RenS s.h.length s' s2∧Q .normal ⟨normE s2.e keep,s2.h⟩) s
 | .regV ops keep cl,Q,s=>AnyD P GL ops cl (λs'=>Q .normal ⟨normE s'.e keep,s'.h⟩) ops.length (List.range ops.length) s
 | .seq a b,Q,s=>awp a (λe s'=>match e with| .normal=>awp b Q s'|e=>Q e s') s
 | .cond x a b,Q,s=>match x.ev s.e with
  | .v (.bool t)=>if t then awp a Q s else awp b Q s
  |_=>False
 | .block id c,Q,s=>awp c (λe s'=>match e with| .exit id'=>if id'=id then Q .normal s' else Q (.exit id') s'|e=>Q e s') s
 | .loop c,Q,s=>∃I:Nat→St→Prop,(∃m,I m s)∧∀m s,I m s→awp c (λe s'=>match e with| .normal=>∃m',m' <m∧I m' s'|e=>Q e s') s
 | .scope c,Q,s=>awp c Q s
 | .never,_,_=>False
 | .exit id,Q,s=>Q (.exit id) s
 | .ret,Q,s=>Q .ret s
 | .rangeF q ps asg body,Q,s=>∃fid caps rets h' tag,fnOf (q.ev s.e)=some (fid,caps)∧
   FSp P GL fid (.yld s.h.length::caps) (s.h++[recRow P GL .ready (cpE s.e) ps asg body]) rets h'∧h'[s.h.length]?=some (recRow P GL tag (cpE s.e) ps asg body)∧
   rangeEnd Q ⟨s.e,h'.set s.h.length .dead⟩ tag
end
section
variable {P:Program} {GL:Globals} {N:Nat} {r:Option Nat}
theorem normE_congr {e e':Env} (h:∀n,find e n=find e' n):∀ns,normE e ns=normE e' ns
 |[]=>rfl
 |n::ns=>by simp only[normE,findF_eq,h n,normE_congr h ns]
theorem stepJ_awpI {i:AI} {s s1:St} (h:stepJ P GL i s s1):awpI P GL i (λx=>x=s1) s:=by
 rcases h with h|⟨d,f,args,fid,caps,vs,rets,rfl,hf,hv,hp,rfl⟩|⟨d,f,args,rets,h',hi,hc,rfl⟩|⟨d,f,q,args,fid,rets,rfl,hf,hp,rfl⟩
 ·unfold awpI;split
  ·cases h
  ·cases h
  ·cases h
  ·cases h
  ·cases h
  ·cases h
  ·cases h
  ·cases h
  ·cases h
  ·cases h
  ·rw[h]
 ·have hny:∀r,f.ev s.e≠ .yld r:=λr hr=>by rw[hr]at hf;simp[D.toV,D.v?]at hf
  have hnm:∀g fs,f.ev s.e≠ .meth g fs:=λg fs hr=>by rw[hr]at hf;simp[D.toV,D.v?]at hf
  simp only[awpI,awpCall,fnOf_of hf];refine⟨rets.map .v,s.h,?_,by rw[retDs_map]⟩;rw[argsOf_of hv,←List.map_append];exact hp.fsp s.h
 ·have e0:awpI P GL i=awpCall P GL d f args:=by rcases hi with rfl|⟨rfl,_⟩<;>rfl
  rw[e0];simp only[awpCall];unfold CallS at hc;split at hc
  ·rename_i r hf;obtain⟨b,hy,rfl⟩:=hc
   first|(rw[hf];exact⟨b,h',hy,rfl⟩)|exact⟨b,h',hy,rfl⟩
  ·rename_i fid fs hf
   first|(rw[hf];exact⟨rets,h',hc,rfl⟩)|exact⟨rets,h',hc,rfl⟩
  ·rename_i h1 h2;obtain⟨fid,caps,hf,hs⟩:=hc
   first
    |(simp only[hf];exact⟨rets,h',hs,rfl⟩)
    |(split
      ·rename_i r hr;exact absurd hr (h1 r)
      ·rename_i a b hr;exact absurd hr (h2 a b)
      ·simp only[hf];exact⟨rets,h',hs,rfl⟩)
 ·exact⟨fid,rets,hf,hp,rfl⟩
theorem gstepJ_awpG {x:GI} {s s1:St} (h:gstepJ P GL x s s1):awpG P GL x (λx=>x=s1) s:=by
 unfold gstepJ at h;unfold awpG;split
 ·rename_i hx;rw[hx]at h;exact stepJ_awpI h
 ·rename_i t want hx;rw[hx]at h;simp only at h;split
  ·rename_i b hb;rw[hb]at h;simp only at h;split
   ·rename_i hw;rw[if_pos hw]at h;exact stepJ_awpI h
   ·rename_i hw;rw[if_neg hw]at h;exact h.symm
  ·rename_i hb;rw[hb]at h;exact h.symm
  ·rename_i h1 h2;split at h
   ·rename_i b hb;exact h1 b hb
   ·rename_i hb;exact h2 hb
   ·exact h
theorem any_sound {ops:Array Oper} {is:List GI} {clos:List (List Nat)} (hk:∀(i:Nat) x,is[i]?=some x→chkG P GL N ops i x=true) (hlen:is.length=ops.size) (hd:chkD ops is clos=true)
  {K:St→Prop} (hK:∀s1 s2,EqS s1 s2→K s1→K s2) {Q:Exit→Act→World→Prop}:∀(fuel:Nat) (rem:List Nat) (listed:Array Bool) {g:Gh} {w:World} {μ:List Nat} {s:St} {a:Act} {O:Nat→Prop},
  rem.length=fuel→rem.Pairwise (· <·)→(∀i,i∈rem↔i <ops.size∧listed.getD i true=false)→listed.size=ops.size→
  (∀i cl,listed.getD i false=true→clos[i]?=some cl→∀j∈cl,listed.getD j false=true)→
  Gs GL N g w μ s a O→(∃t,runJ P GL (rem.map λi=>is.getD i default) s t∧K t)→(∀a' w',After GL N K g w μ a O a' w'→Q .normal a' w')→
  wpAnyIn (WF r) 0 P .any ops Q fuel listed a w:=by
 have hspec:∀i,i <ops.size→∃o cl x,ops[i]?=some o∧clos[i]?=some cl∧is[i]?=some x∧(∀e∈o.after,Region.binds .any e=true→e.on <i)∧
   (∀j∈cl,∃e∈o.after,Region.binds .any e=true∧(e.on=j∨∃cl',clos[e.on]?=some cl'∧j∈cl'))∧(∀j,j <i→j∈cl∨∃y,is[j]?=some y∧indep y x=true):=by
  intro i hi;have h:=List.all_eq_true.1 hd i (List.mem_range.2 hi);split at h
  ·rename_i o cl x ho hcl hx;simp only[Bool.and_eq_true]at h;obtain⟨⟨h1,h2⟩,h3⟩:=h;refine⟨o,cl,x,ho,hcl,hx,λe he hb=>?_,λj hj=>?_,λj hj=>?_⟩
   ·rw[Array.all_eq_true']at h1;have:=h1 e he;simpa[hb]using this
   ·have h4:=List.all_eq_true.1 h2 j hj;rw[Array.any_eq_true']at h4;obtain⟨e,he,h5⟩:=h4;simp only[Bool.and_eq_true,Bool.or_eq_true,beq_iff_eq]at h5;refine⟨e,he,h5.1,?_⟩;rcases h5.2 with h6|h6
    ·exact .inl h6
    ·cases hc:clos[e.on]? with
     |none=>simp[hc]at h6
     |some cl'=>exact .inr ⟨cl',rfl,by simpa[hc]using h6⟩
   ·have h4:=List.all_eq_true.1 h3 j (List.mem_range.2 hj);simp only[Bool.or_eq_true]at h4;rcases h4 with h5|h5
    ·exact .inl (by simpa using h5)
    ·split at h5
     ·rename_i y hy;exact .inr ⟨y,hy,h5⟩
     ·cases h5
  ·cases h
 intro fuel;induction fuel with
 |zero=>
  intro rem listed g w μ s a O hl _ hmem _ _ hg h hq;have:rem=[]:=List.eq_nil_of_length_eq_zero hl;subst this;obtain⟨t,rfl,hKt⟩:=h;refine⟨?_,hq a w ⟨_,g,μ,hKt,hg,Chg.refl _ _ _,List.prefix_refl _,rfl⟩⟩;rw[List.eq_nil_iff_forall_not_mem];intro i hi;rw[mem_ready]at hi;obtain⟨h1,o,ho,_⟩:=hi;have:=(hmem i).2 ⟨(Array.getElem?_eq_some_iff.1 ho).1,h1⟩;simp at this
 |succ fuel ih=>
  intro rem listed g w μ s a O hl hsort hmem hsz hcl hg h hq;refine⟨λhnil=>?_,λi hi=>?_⟩
  ·exfalso;cases rem with
   |nil=>simp at hl
   |cons i0 rem'=>
    obtain⟨hi0,hun⟩:=(hmem i0).1 (by simp);obtain⟨o,cl,x,ho,_,_,he,_⟩:=hspec i0 hi0;have:i0∈Region.ready .any ops listed:=by
     rw[mem_ready];refine⟨hun,o,ho,λe hee hb=>?_⟩;have hlt:=he e hee hb;have hns:e.on <listed.size:=by omega
     cases hv:listed.getD e.on true with
     |true=>simp[hns]at hv ⊢;exact hv
     |false=>
      have h1:=(hmem e.on).2 ⟨by omega,hv⟩;rcases List.mem_cons.1 h1 with h2|h2
      ·omega
      ·have:=List.rel_of_pairwise_cons hsort h2;omega
    rw[hnil]at this;simp at this
  ·have hi':=mem_ready.1 hi;obtain⟨hun,o',ho',hedge⟩:=hi';have hin:i <ops.size:=(Array.getElem?_eq_some_iff.1 ho').1;have him:=(hmem i).2 ⟨hin,hun⟩;obtain⟨pre,post,rfl⟩:=List.append_of_mem him;obtain⟨o,cl,x,ho,hcli,hx,_,hcl2,hind⟩:=hspec i hin;rw[ho']at ho;cases ho;have hclist:∀j∈cl,listed.getD j false=true:=by
    intro j hj;obtain⟨e,he,hb,h6⟩:=hcl2 j hj;have h7:=hedge e he hb;rcases h6 with rfl|⟨cl',hc',hj'⟩
    ·exact h7
    ·exact hcl e.on cl' h7 hc' j hj'
   have hxd:is.getD i default=x:=by simp[List.getD,hx]
   obtain⟨t,hrun,hKt⟩:=h;rw[List.map_append,List.map_cons,hxd]at hrun;have hpre:∀y∈pre.map (λi=>is.getD i default),indep y x=true:=by
    intro y hy;obtain⟨j,hj,rfl⟩:=List.mem_map.1 hy;have hji:j <i:=(List.pairwise_append.1 hsort).2.2 j hj i (by simp);obtain⟨hjn,hjun⟩:=(hmem j).1 (by simp[hj]);rcases hind j hji with h1|⟨y',hy',h2⟩
    ·have:=hclist j h1;have hns:j <listed.size:=by omega
     simp[hns]at this hjun;rw[hjun]at this;cases this
    ·simpa[List.getD,hy']using h2
   obtain⟨t',⟨s1,hs1,hrun'⟩,he⟩:=frontJ hpre hrun;refine awpG_sound (hk i x hx) hg (gstepJ_awpG hs1) ?_;rintro s' g' w' μ' a' rfl hgs hch hμ hdf;refine ih (pre++post) _ ?_ ?_ ?_ (by simp[hsz]) ?_ hgs ⟨t',by rw[List.map_append];exact hrun',hK _ _ he hKt⟩ λa2 w2 h2=>hq a2 w2 (h2.trans hch hμ hdf)
   ·simp at hl ⊢;omega
   ·exact hsort.sublist (List.Sublist.append_left (List.sublist_cons_self i post) pre)
   ·intro j;have hnd:i∉pre++post:=by
     intro hm;rcases List.mem_append.1 hm with hm|hm
     ·have:=(List.pairwise_append.1 hsort).2.2 i hm i (by simp);omega
     ·have:=List.rel_of_pairwise_cons (List.pairwise_append.1 hsort).2.1 hm;omega
    by_cases hji:j=i
    ·subst hji;refine⟨λhm=>absurd hm hnd,λhm=>?_⟩;have h2:=hm.2;have hns:j <listed.size:=by omega
     simp[hns]at h2
    ·have hsame:(listed.setIfInBounds i true).getD j true=listed.getD j true:=by
      simp[Array.getD_eq_getD_getElem?,Array.getElem?_setIfInBounds,Ne.symm hji]
     rw[hsame];have:=hmem j;simp only[List.mem_append,List.mem_cons,hji,false_or]at this ⊢;exact this
   ·intro k cl' hk' hc' j hj;by_cases hki:k=i
    ·subst hki;rw[hcli]at hc';cases hc';have:=hclist j hj;by_cases hjk:j=k
     ·subst hjk;have hns:j <listed.size:=by omega
      simp[Array.getD_eq_getD_getElem?,Array.getElem?_setIfInBounds,hns]
     ·rw[Array.getD_eq_getD_getElem?,Array.getElem?_setIfInBounds,if_neg (Ne.symm hjk),←Array.getD_eq_getD_getElem?];exact this
    ·rw[Array.getD_eq_getD_getElem?,Array.getElem?_setIfInBounds,if_neg (Ne.symm hki),←Array.getD_eq_getD_getElem?]at hk';have:=hcl k cl' hk' hc' j hj;by_cases hji:j=i
     ·subst hji;have hns:j <listed.size:=by omega
      simp[Array.getD_eq_getD_getElem?,Array.getElem?_setIfInBounds,hns]
     ·rw[Array.getD_eq_getD_getElem?,Array.getElem?_setIfInBounds,if_neg (Ne.symm hji),←Array.getD_eq_getD_getElem?];exact this
theorem anyJ_sound {ops:Array Oper} {is:List GI} {clos:List (List Nat)} (hk:∀(i:Nat) x,is[i]?=some x→chkG P GL N ops i x=true) (hlen:is.length=ops.size) (hd:chkE ops is clos=true)
  {K:St→Prop} {Q:Exit→Act→World→Prop}:∀(fuel:Nat) (rem:List Nat) (listed:Array Bool) {g:Gh} {w:World} {μ:List Nat} {s:St} {a:Act} {O:Nat→Prop},
  rem.length=fuel→rem.Pairwise (· <·)→(∀i,i∈rem↔i <ops.size∧listed.getD i true=false)→listed.size=ops.size→
  (∀i cl,listed.getD i false=true→clos[i]?=some cl→∀j∈cl,listed.getD j false=true)→
  Gs GL N g w μ s a O→AnyJ P GL is clos K fuel rem s→(∀a' w',After GL N K g w μ a O a' w'→Q .normal a' w')→
  wpAnyIn (WF r) 0 P .any ops Q fuel listed a w:=by
 have hspec:∀i,i <ops.size→∃o cl x,ops[i]?=some o∧clos[i]?=some cl∧is[i]?=some x∧(∀e∈o.after,Region.binds .any e=true→e.on <i)∧
   (∀j∈cl,∃e∈o.after,Region.binds .any e=true∧(e.on=j∨∃cl',clos[e.on]?=some cl'∧j∈cl')):=by
  intro i hi;have h:=List.all_eq_true.1 hd i (List.mem_range.2 hi);split at h
  ·rename_i o cl x ho hcl hx;simp only[Bool.and_eq_true]at h;obtain⟨h1,h2⟩:=h;refine⟨o,cl,x,ho,hcl,hx,λe he hb=>?_,λj hj=>?_⟩
   ·rw[Array.all_eq_true']at h1;have:=h1 e he;simpa[hb]using this
   ·have h4:=List.all_eq_true.1 h2 j hj;rw[Array.any_eq_true']at h4;obtain⟨e,he,h5⟩:=h4;simp only[Bool.and_eq_true,Bool.or_eq_true,beq_iff_eq]at h5;refine⟨e,he,h5.1,?_⟩;rcases h5.2 with h6|h6
    ·exact .inl h6
    ·cases hc:clos[e.on]? with
     |none=>simp[hc]at h6
     |some cl'=>exact .inr ⟨cl',rfl,by simpa[hc]using h6⟩
  ·cases h
 intro fuel;induction fuel with
 |zero=>
  intro rem listed g w μ s a O hl _ hmem _ _ hg h hq;have:rem=[]:=List.eq_nil_of_length_eq_zero hl;subst this;refine⟨?_,hq a w ⟨_,g,μ,h,hg,Chg.refl _ _ _,List.prefix_refl _,rfl⟩⟩;rw[List.eq_nil_iff_forall_not_mem];intro i hi;rw[mem_ready]at hi;obtain⟨h1,o,ho,_⟩:=hi;have:=(hmem i).2 ⟨(Array.getElem?_eq_some_iff.1 ho).1,h1⟩;simp at this
 |succ fuel ih=>
  intro rem listed g w μ s a O hl hsort hmem hsz hcl hg h hq;refine⟨λhnil=>?_,λi hi=>?_⟩
  ·exfalso;cases rem with
   |nil=>simp at hl
   |cons i0 rem'=>
    obtain⟨hi0,hun⟩:=(hmem i0).1 (by simp);obtain⟨o,cl,x,ho,_,_,he,_⟩:=hspec i0 hi0;have:i0∈Region.ready .any ops listed:=by
     rw[mem_ready];refine⟨hun,o,ho,λe hee hb=>?_⟩;have hlt:=he e hee hb;have hns:e.on <listed.size:=by omega
     cases hv:listed.getD e.on true with
     |true=>simp[hns]at hv ⊢;exact hv
     |false=>
      have h1:=(hmem e.on).2 ⟨by omega,hv⟩;rcases List.mem_cons.1 h1 with h2|h2
      ·omega
      ·have:=List.rel_of_pairwise_cons hsort h2;omega
    rw[hnil]at this;simp at this
  ·have hi':=mem_ready.1 hi;obtain⟨hun,o',ho',hedge⟩:=hi';have hin:i <ops.size:=(Array.getElem?_eq_some_iff.1 ho').1;have him:=(hmem i).2 ⟨hin,hun⟩;obtain⟨pre,post,rfl⟩:=List.append_of_mem him;obtain⟨o,cl,x,ho,hcli,hx,_,hcl2⟩:=hspec i hin;rw[ho']at ho;cases ho;have hclist:∀j∈cl,listed.getD j false=true:=by
    intro j hj;obtain⟨e,he,hb,h6⟩:=hcl2 j hj;have h7:=hedge e he hb;rcases h6 with rfl|⟨cl',hc',hj'⟩
    ·exact h7
    ·exact hcl e.on cl' h7 hc' j hj'
   have hxd:is.getD i default=x:=by simp[List.getD,hx]
   have hcg:(clos[i]?).getD []=cl:=by rw[hcli];rfl
   obtain⟨s1,hs1,hrun'⟩:=h i him (λj hj hjm=>by
    rw[hcg]at hj;have h1:=hclist j hj;obtain⟨hjn,hjun⟩:=(hmem j).1 hjm;have hns:j <listed.size:=by omega
    simp[hns]at h1 hjun;rw[hjun]at h1;cases h1)
   rw[hxd]at hs1;have herase:(pre++i::post).erase i=pre++post:=by
    have hnp:i∉pre:=λhm=>by have:=(List.pairwise_append.1 hsort).2.2 i hm i (by simp);omega
    rw[List.erase_append_right _ hnp];simp
   rw[herase]at hrun';refine awpG_sound (hk i x hx) hg (gstepJ_awpG hs1) ?_;rintro s' g' w' μ' a' rfl hgs hch hμ hdf;refine ih (pre++post) _ ?_ ?_ ?_ (by simp[hsz]) ?_ hgs hrun' λa2 w2 h2=>hq a2 w2 (h2.trans hch hμ hdf)
   ·simp at hl ⊢;omega
   ·exact hsort.sublist (List.Sublist.append_left (List.sublist_cons_self i post) pre)
   ·intro j;have hnd:i∉pre++post:=by
     intro hm;rcases List.mem_append.1 hm with hm|hm
     ·have:=(List.pairwise_append.1 hsort).2.2 i hm i (by simp);omega
     ·have:=List.rel_of_pairwise_cons (List.pairwise_append.1 hsort).2.1 hm;omega
    by_cases hji:j=i
    ·subst hji;refine⟨λhm=>absurd hm hnd,λhm=>?_⟩;have h2:=hm.2;have hns:j <listed.size:=by omega
     simp[hns]at h2
    ·have hsame:(listed.setIfInBounds i true).getD j true=listed.getD j true:=by
      simp[Array.getD_eq_getD_getElem?,Array.getElem?_setIfInBounds,Ne.symm hji]
     rw[hsame];have:=hmem j;simp only[List.mem_append,List.mem_cons,hji,false_or]at this ⊢;exact this
   ·intro k cl' hk' hc' j hj;by_cases hki:k=i
    ·subst hki;rw[hcli]at hc';cases hc';have:=hclist j hj;by_cases hjk:j=k
     ·subst hjk;have hns:j <listed.size:=by omega
      simp[Array.getD_eq_getD_getElem?,Array.getElem?_setIfInBounds,hns]
     ·rw[Array.getD_eq_getD_getElem?,Array.getElem?_setIfInBounds,if_neg (Ne.symm hjk),←Array.getD_eq_getD_getElem?];exact this
    ·rw[Array.getD_eq_getD_getElem?,Array.getElem?_setIfInBounds,if_neg (Ne.symm hki),←Array.getD_eq_getD_getElem?]at hk';have:=hcl k cl' hk' hc' j hj;by_cases hji:j=i
     ·subst hji;have hns:j <listed.size:=by omega
      simp[Array.getD_eq_getD_getElem?,Array.getElem?_setIfInBounds,hns]
     ·rw[Array.getD_eq_getD_getElem?,Array.getElem?_setIfInBounds,if_neg (Ne.symm hji),←Array.getD_eq_getD_getElem?];exact this
theorem anyD_sound {ops:Array Oper} {is:List GI} {clos:List (List Nat)} (hk:∀(i:Nat) x,is[i]?=some x→chkG P GL N ops i x=true) (hlen:is.length=ops.size) (hd:chkE ops is clos=true)
  {K:St→Prop} {Q:Exit→Act→World→Prop}:∀(fuel:Nat) (rem:List Nat) (listed:Array Bool) {g:Gh} {w:World} {μ:List Nat} {s:St} {a:Act} {O:Nat→Prop},
  rem.length=fuel→rem.Pairwise (· <·)→(∀i,i∈rem↔i <ops.size∧listed.getD i true=false)→listed.size=ops.size→
  (∀i cl,listed.getD i false=true→clos[i]?=some cl→∀j∈cl,listed.getD j false=true)→
  Gs GL N g w μ s a O→AnyD P GL is clos K fuel rem s→(∀a' w',After GL N K g w μ a O a' w'→Q .normal a' w')→
  wpAnyIn (WF r) 0 P .any ops Q fuel listed a w:=by
 have hspec:∀i,i <ops.size→∃o cl x,ops[i]?=some o∧clos[i]?=some cl∧is[i]?=some x∧(∀e∈o.after,Region.binds .any e=true→e.on <i)∧
   (∀j∈cl,∃e∈o.after,Region.binds .any e=true∧(e.on=j∨∃cl',clos[e.on]?=some cl'∧j∈cl')):=by
  intro i hi;have h:=List.all_eq_true.1 hd i (List.mem_range.2 hi);split at h
  ·rename_i o cl x ho hcl hx;simp only[Bool.and_eq_true]at h;obtain⟨h1,h2⟩:=h;refine⟨o,cl,x,ho,hcl,hx,λe he hb=>?_,λj hj=>?_⟩
   ·rw[Array.all_eq_true']at h1;have:=h1 e he;simpa[hb]using this
   ·have h4:=List.all_eq_true.1 h2 j hj;rw[Array.any_eq_true']at h4;obtain⟨e,he,h5⟩:=h4;simp only[Bool.and_eq_true,Bool.or_eq_true,beq_iff_eq]at h5;refine⟨e,he,h5.1,?_⟩;rcases h5.2 with h6|h6
    ·exact .inl h6
    ·cases hc:clos[e.on]? with
     |none=>simp[hc]at h6
     |some cl'=>exact .inr ⟨cl',rfl,by simpa[hc]using h6⟩
  ·cases h
 intro fuel;induction fuel with
 |zero=>
  intro rem listed g w μ s a O hl _ hmem _ _ hg h hq;have:rem=[]:=List.eq_nil_of_length_eq_zero hl;subst this;refine⟨?_,hq a w ⟨_,g,μ,h,hg,Chg.refl _ _ _,List.prefix_refl _,rfl⟩⟩;rw[List.eq_nil_iff_forall_not_mem];intro i hi;rw[mem_ready]at hi;obtain⟨h1,o,ho,_⟩:=hi;have:=(hmem i).2 ⟨(Array.getElem?_eq_some_iff.1 ho).1,h1⟩;simp at this
 |succ fuel ih=>
  intro rem listed g w μ s a O hl hsort hmem hsz hcl hg h hq;refine⟨λhnil=>?_,λi hi=>?_⟩
  ·exfalso;cases rem with
   |nil=>simp at hl
   |cons i0 rem'=>
    obtain⟨hi0,hun⟩:=(hmem i0).1 (by simp);obtain⟨o,cl,x,ho,_,_,he,_⟩:=hspec i0 hi0;have:i0∈Region.ready .any ops listed:=by
     rw[mem_ready];refine⟨hun,o,ho,λe hee hb=>?_⟩;have hlt:=he e hee hb;have hns:e.on <listed.size:=by omega
     cases hv:listed.getD e.on true with
     |true=>simp[hns]at hv ⊢;exact hv
     |false=>
      have h1:=(hmem e.on).2 ⟨by omega,hv⟩;rcases List.mem_cons.1 h1 with h2|h2
      ·omega
      ·have:=List.rel_of_pairwise_cons hsort h2;omega
    rw[hnil]at this;simp at this
  ·have hi':=mem_ready.1 hi;obtain⟨hun,o',ho',hedge⟩:=hi';have hin:i <ops.size:=(Array.getElem?_eq_some_iff.1 ho').1;have him:=(hmem i).2 ⟨hin,hun⟩;obtain⟨pre,post,rfl⟩:=List.append_of_mem him;obtain⟨o,cl,x,ho,hcli,hx,_,hcl2⟩:=hspec i hin;rw[ho']at ho;cases ho;have hclist:∀j∈cl,listed.getD j false=true:=by
    intro j hj;obtain⟨e,he,hb,h6⟩:=hcl2 j hj;have h7:=hedge e he hb;rcases h6 with rfl|⟨cl',hc',hj'⟩
    ·exact h7
    ·exact hcl e.on cl' h7 hc' j hj'
   have hxd:is.getD i default=x:=by simp[List.getD,hx]
   have hcg:(clos[i]?).getD []=cl:=by rw[hcli];rfl
   have hs1:=h i him (λj hj hjm=>by
    rw[hcg]at hj;have h1:=hclist j hj;obtain⟨hjn,hjun⟩:=(hmem j).1 hjm;have hns:j <listed.size:=by omega
    simp[hns]at h1 hjun;rw[hjun]at h1;cases h1)
   rw[hxd]at hs1;have herase:(pre++i::post).erase i=pre++post:=by
    have hnp:i∉pre:=λhm=>by have:=(List.pairwise_append.1 hsort).2.2 i hm i (by simp);omega
    rw[List.erase_append_right _ hnp];simp
   rw[herase]at hs1;refine awpG_sound (hk i x hx) hg hs1 ?_;rintro s' g' w' μ' a' hrun' hgs hch hμ hdf;refine ih (pre++post) _ ?_ ?_ ?_ (by simp[hsz]) ?_ hgs hrun' λa2 w2 h2=>hq a2 w2 (h2.trans hch hμ hdf)
   ·simp at hl ⊢;omega
   ·exact hsort.sublist (List.Sublist.append_left (List.sublist_cons_self i post) pre)
   ·intro j;have hnd:i∉pre++post:=by
     intro hm;rcases List.mem_append.1 hm with hm|hm
     ·have:=(List.pairwise_append.1 hsort).2.2 i hm i (by simp);omega
     ·have:=List.rel_of_pairwise_cons (List.pairwise_append.1 hsort).2.1 hm;omega
    by_cases hji:j=i
    ·subst hji;refine⟨λhm=>absurd hm hnd,λhm=>?_⟩;have h2:=hm.2;have hns:j <listed.size:=by omega
     simp[hns]at h2
    ·have hsame:(listed.setIfInBounds i true).getD j true=listed.getD j true:=by
      simp[Array.getD_eq_getD_getElem?,Array.getElem?_setIfInBounds,Ne.symm hji]
     rw[hsame];have:=hmem j;simp only[List.mem_append,List.mem_cons,hji,false_or]at this ⊢;exact this
   ·intro k cl' hk' hc' j hj;by_cases hki:k=i
    ·subst hki;rw[hcli]at hc';cases hc';have:=hclist j hj;by_cases hjk:j=k
     ·subst hjk;have hns:j <listed.size:=by omega
      simp[Array.getD_eq_getD_getElem?,Array.getElem?_setIfInBounds,hns]
     ·rw[Array.getD_eq_getD_getElem?,Array.getElem?_setIfInBounds,if_neg (Ne.symm hjk),←Array.getD_eq_getD_getElem?];exact this
    ·rw[Array.getD_eq_getD_getElem?,Array.getElem?_setIfInBounds,if_neg (Ne.symm hki),←Array.getD_eq_getD_getElem?]at hk';have:=hcl k cl' hk' hc' j hj;by_cases hji:j=i
     ·subst hji;have hns:j <listed.size:=by omega
      simp[Array.getD_eq_getD_getElem?,Array.getElem?_setIfInBounds,hns]
     ·rw[Array.getD_eq_getD_getElem?,Array.getElem?_setIfInBounds,if_neg (Ne.symm hji),←Array.getD_eq_getD_getElem?];exact this
theorem AnyJ.congr {is:List GI} {clos:List (List Nat)} {K:St→Prop} (hK:∀s1 s2,EqS s1 s2→K s1→K s2):∀(n:Nat) (rem:List Nat) {s s2:St},EqS s s2→AnyJ P GL is clos K n rem s→AnyJ P GL is clos K n rem s2
 |0,_,_,_,he,h=>hK _ _ he h
 |n+1,rem,s,s2,he,h=>by
  intro i hi hr;obtain⟨s1,h1,h2⟩:=h i hi hr;obtain⟨t2,⟨x,h3,h4⟩,h5⟩:=run_congr (l:=[is.getD i default]) (t:=s1) ⟨s1,h1,rfl⟩ he;cases h4;exact⟨t2,h3,AnyJ.congr hK n _ h5 h2⟩
theorem AnyJ.take {is:List GI} {clos:List (List Nat)} {K:St→Prop} (hK:∀s1 s2,EqS s1 s2→K s1→K s2) {i:Nat}:∀(n:Nat) (rem:List Nat) {s s1:St},rem.length=n+1→rem.Nodup→i∈rem→
  (∀j∈rem,j=i∨i∈(clos[j]?).getD []∨indep (is.getD i default) (is.getD j default)=true)→gstepJ P GL (is.getD i default) s s1→AnyJ P GL is clos K n (rem.erase i) s1→(∀j∈(clos[i]?).getD [],j∉rem)→AnyJ P GL is clos K (n+1) rem s:=by
 intro n;induction n with
 |zero=>
  intro rem s s1 hl hnd hi _ h1 h2 _ j hj hr;have:rem=[i]:=by
   match rem,hl with
   |[x],_=>simp at hi;rw[hi]
  subst this;simp at hj;subst hj;exact⟨s1,h1,h2⟩
 |succ n ih=>
  intro rem s s1 hl hnd hi hind h1 h2 hri j hj hr;by_cases hji:j=i
  ·subst hji;exact⟨s1,h1,h2⟩
  ·have hje:j∈rem.erase i:=(List.mem_erase_of_ne hji).2 hj;obtain⟨s2,h3,h4⟩:=h2 j hje λk hk hkm=>hr k hk (List.mem_of_mem_erase hkm);have hin:indep (is.getD i default) (is.getD j default)=true:=by
    rcases hind j hj with h|h|h
    ·exact absurd h hji
    ·exact absurd hi (hr i h)
    ·exact h
   obtain⟨s1',s2',h5,h6,he⟩:=swapJ hin h1 h3;refine⟨s1',h5,ih (rem.erase j) (by rw[List.length_erase_of_mem hj];omega) (hnd.erase _) ((List.mem_erase_of_ne (Ne.symm hji)).2 hi) (λk hk=>hind k (List.mem_of_mem_erase hk)) h6 ?_ λk hk hkm=>hri k hk (List.mem_of_mem_erase hkm)⟩;rw[List.erase_comm];exact AnyJ.congr hK n _ he h4
theorem rdy_spec {clos:List (List Nat)} {rem:List Nat} {i:Nat}:rdy clos rem i=true↔i∈rem∧∀j∈(clos[i]?).getD [],j∉rem:=by
 simp[rdy]
theorem AT.any {is:List GI} {clos:List (List Nat)} {K:St→Prop} (hK:∀s1 s2,EqS s1 s2→K s1→K s2):∀(t:AT) (rem:List Nat) {s:St},rem.Nodup→t.chk is clos rem=true→t.ok P GL is K s→
  (t.good=true→AnyJ P GL is clos K rem.length rem s)∧
  (∀i∈t.heads,i∈rem→∃s1,gstepJ P GL (is.getD i default) s s1∧AnyJ P GL is clos K (rem.length-1) (rem.erase i) s1):=by
 intro t;induction t with
 |done=>
  intro rem s _ hc h;have:rem=[]:=by simpa[AT.chk]using hc
  subst this;exact⟨λ_=>h,λi hi=>by simp[AT.heads]at hi⟩
 |take i t ih=>
  intro rem s hnd hc h;simp only[AT.chk,Bool.and_eq_true]at hc;obtain⟨⟨⟨h1,h0⟩,h2⟩,h3⟩:=hc;obtain⟨s1,h4,h5⟩:=h;obtain⟨hi,hr⟩:=rdy_spec.1 h1;have hlen:(rem.erase i).length=rem.length-1:=List.length_erase_of_mem hi;have hpos:0 <rem.length:=List.length_pos_of_mem hi;refine⟨λ_=>?_,λj hj=>by simp[AT.heads]at hj⟩;have:=(ih (rem.erase i) (hnd.erase _) h3 h5).1 h0;rw[hlen]at this;have h6:=AnyJ.take hK (rem.length-1) rem (by omega) hnd hi (λj hj=>by
    have:=List.all_eq_true.1 h2 j hj;simp only[Bool.or_eq_true,beq_iff_eq]at this;rcases this with (h|h)|h
    ·exact .inl h
    ·exact .inr (.inl (by simpa using h))
    ·exact .inr (.inr h)) h4 this hr
  rwa [show rem.length-1+1=rem.length by omega]at h6
 |pick c ih=>
  intro rem s hnd hc h;simp only[AT.chk,Bool.and_eq_true]at hc;obtain⟨⟨h0,h1⟩,h2⟩:=hc;have hpos:0 <rem.length:=by cases rem<;>simp at h0 ⊢
  refine⟨λ_=>?_,λj hj=>by simp[AT.heads]at hj⟩;have h3:=(ih rem hnd h2 h).2;obtain⟨n,hn⟩:∃n,rem.length=n+1:=⟨rem.length-1,by omega⟩;rw[hn];intro i hi hr;have h4:=List.all_eq_true.1 h1 i hi;simp only[rdy_spec.2 ⟨hi,hr⟩,Bool.not_true,Bool.false_or]at h4;have:=h3 i (by simpa using h4) hi
  rwa [hn]at this
 |alt i t r iht ihr=>
  intro rem s hnd hc h;simp only[AT.chk,Bool.and_eq_true]at hc;obtain⟨⟨⟨h1,h2⟩,h3⟩,h4⟩:=hc;refine⟨λh=>by simp[AT.good]at h,λj hj hjm=>?_⟩;simp only[AT.heads,List.mem_cons]at hj;rcases hj with rfl|hj
  ·obtain⟨⟨s1,h5,h6⟩,_⟩:=h;have hlen:(rem.erase j).length=rem.length-1:=List.length_erase_of_mem hjm;have:=(iht (rem.erase j) (hnd.erase _) h3 h6).1 h2;rw[hlen]at this;exact⟨s1,h5,this⟩
  ·exact(ihr rem hnd h4 h.2).2 j hj hjm
 |none=>intro rem s _ _ _;exact⟨λh=>by simp[AT.good]at h,λi hi=>by simp[AT.heads]at hi⟩
theorem regD_sound {ops:Array Oper} {is:List GI} {clos:List (List Nat)} (hk:zipOK (chkG P GL N ops) (List.range ops.size) is=true) (hd:chkD ops is clos=true)
  {K:St→Prop} (hK:∀s1 s2,EqS s1 s2→K s1→K s2) {Q:Exit→Act→World→Prop} {g:Gh} {w:World} {μ:List Nat} {s:St} {a:Act} {O:Nat→Prop}
  (hg:Gs GL N g w μ s a O) (h:∃t,runJ P GL is s t∧K t) (hq:∀a' w',After GL N K g w μ a O a' w'→Q .normal a' w'):
  wpAnyIn (WF r) 0 P .any ops Q ops.size (Array.replicate ops.size false) a w:=by
 have hall:All2 (λy x=>chkG P GL N ops x y=true) is (List.range ops.size):=zipOK_all2 (λx y h=>h) hk;have hlen:is.length=ops.size:=by have:=hall.1;simp at this;omega
 refine any_sound (λi x hx=>?_) hlen hd hK ops.size (List.range ops.size) _ (by simp) List.pairwise_lt_range (λi=>?_) (by simp) (λi cl hi=>?_) hg ?_ hq
 ·have hlt:=(List.getElem?_eq_some_iff.1 hx).1;have hri:(List.range ops.size)[i]?=some i:=List.getElem?_range (by omega);exact hall.2 i x i hx hri
 ·rw[List.mem_range]
  constructor
  ·intro h;exact⟨h,by simp[Array.getD_eq_getD_getElem?,h]⟩
  ·exact λh=>h.1
 ·exfalso;by_cases hin:i <ops.size<;>simp[Array.getD_eq_getD_getElem?,hin]at hi
 ·have:(List.range ops.size).map (λi=>is.getD i default)=is:=by
   apply List.ext_getElem?;intro i;by_cases hin:i <ops.size
   ·have:i <is.length:=by omega
    simp[hin,List.getD,this]
   ·have:is[i]?=none:=by rw[List.getElem?_eq_none];omega
    rw[this];simp;omega
  rw[this];exact h
theorem regA_sound {ops:Array Oper} {is:List GI} {clos:List (List Nat)} {t:AT} (hk:zipOK (chkG P GL N ops) (List.range ops.size) is=true) (hd:chkE ops is clos=true) (ht:t.chk is clos (List.range ops.size)=true)
  (ht2:t.good=true)
  {K:St→Prop} (hK:∀s1 s2,EqS s1 s2→K s1→K s2) {Q:Exit→Act→World→Prop} {g:Gh} {w:World} {μ:List Nat} {s:St} {a:Act} {O:Nat→Prop}
  (hg:Gs GL N g w μ s a O) (h:t.ok P GL is K s) (hq:∀a' w',After GL N K g w μ a O a' w'→Q .normal a' w'):
  wpAnyIn (WF r) 0 P .any ops Q ops.size (Array.replicate ops.size false) a w:=by
 have hall:All2 (λy x=>chkG P GL N ops x y=true) is (List.range ops.size):=zipOK_all2 (λx y h=>h) hk;have hlen:is.length=ops.size:=by have:=hall.1;simp at this;omega
 refine anyJ_sound (λi x hx=>?_) hlen hd ops.size (List.range ops.size) _ (by simp) List.pairwise_lt_range (λi=>?_) (by simp) (λi cl hi=>?_) hg ?_ hq
 ·have hlt:=(List.getElem?_eq_some_iff.1 hx).1;have hri:(List.range ops.size)[i]?=some i:=List.getElem?_range (by omega);exact hall.2 i x i hx hri
 ·rw[List.mem_range]
  constructor
  ·intro h;exact⟨h,by simp[Array.getD_eq_getD_getElem?,h]⟩
  ·exact λh=>h.1
 ·exfalso;by_cases hin:i <ops.size<;>simp[Array.getD_eq_getD_getElem?,hin]at hi
 ·have:=(AT.any hK t (List.range ops.size) List.nodup_range ht h).1 ht2;simpa using this
theorem regV_sound {ops:Array Oper} {is:List GI} {clos:List (List Nat)} (hk:zipOK (chkG P GL N ops) (List.range ops.size) is=true) (hd:chkE ops is clos=true)
  {K:St→Prop} {Q:Exit→Act→World→Prop} {g:Gh} {w:World} {μ:List Nat} {s:St} {a:Act} {O:Nat→Prop}
  (hg:Gs GL N g w μ s a O) (h:AnyD P GL is clos K is.length (List.range is.length) s) (hq:∀a' w',After GL N K g w μ a O a' w'→Q .normal a' w'):
  wpAnyIn (WF r) 0 P .any ops Q ops.size (Array.replicate ops.size false) a w:=by
 have hall:All2 (λy x=>chkG P GL N ops x y=true) is (List.range ops.size):=zipOK_all2 (λx y h=>h) hk;have hlen:is.length=ops.size:=by have:=hall.1;simp at this;omega
 refine anyD_sound (λi x hx=>?_) hlen hd ops.size (List.range ops.size) _ (by simp) List.pairwise_lt_range (λi=>?_) (by simp) (λi cl hi=>?_) hg ?_ hq
 ·have hlt:=(List.getElem?_eq_some_iff.1 hx).1;have hri:(List.range ops.size)[i]?=some i:=List.getElem?_range (by omega);exact hall.2 i x i hx hri
 ·rw[List.mem_range]
  constructor
  ·intro h;exact⟨h,by simp[Array.getD_eq_getD_getElem?,h]⟩
  ·exact λh=>h.1
 ·exfalso;by_cases hin:i <ops.size<;>simp[Array.getD_eq_getD_getElem?,hin]at hi
 ·rw[hlen]at h;exact h
theorem chg_drawn (g:Gh) (w:World) (n:Nat) (M:Nat→Prop):Chg M g w g {w with drawn:=n}:=⟨Gh.le.refl g,Nat.le_refl _,λ_ _ _=>rfl,λ_ _ _ _=>rfl,rfl,rfl⟩
theorem Gs.drawn {g:Gh} {w:World} {μ:List Nat} {s:St} {a:Act} {O:Nat→Prop} (hg:Gs GL N g w μ s a O):Gs GL N g {w with drawn:=w.drawn+1} μ s a O:=
 ⟨hg.inv.chg (chg_drawn g w _ _) hg.inv.agree,hg.glob,hg.sz⟩
theorem wpIn_scope {F:Fence} {n:Nat} {c:Code} {Q:Exit→Act→World→Prop} {a:Act} {w:World} (h:c.wpIn F n P (λe a w=>(∀l,e≠ .goto l)∧Q e a w) a w):(Code.scope c).wpIn F n P Q a w:=by
 intro b k cs hro hb hr;have s1:∀a w,step P (lone (b.atR a (.code (.scope c)::k)) cs w)= .next (lone (b.atR a (.code c:: .inScope c::k)) cs w):=λa w=>step_lone_go (by simp[stepG,stepG.exec,Frame.atR]);have s2:∀a w,step P (lone (b.atR a (.inScope c::k)) cs w)= .next (lone (b.atR a k) cs w):=λa w=>step_lone_go (by simp[stepG,stepG.exec,Frame.atR]);obtain⟨e,a₁,w₁,⟨hg,hq⟩,harr⟩:=h b (.inScope c::k) cs hro hb hr;cases e with
 |normal=>exact⟨.normal,a₁,w₁,hq,.of_steps (.one (fenced_calm hb hr rfl) (s1 _ _)) (StepsIn.trans harr (.one (fenced_calm hb hr rfl) (s2 _ _)))⟩
 |exit id=>exact⟨_,a₁,w₁,hq,.of_steps (.one (fenced_calm hb hr rfl) (s1 _ _)) ⟨λk' hk=>harr.1 k' (by simp[exitTo,hk]),λhr hk=>harr.2 hr (by simpa[exitTo]using hk)⟩⟩
 |goto l=>exact(hg l rfl).elim
 |ret=>exact⟨_,a₁,w₁,hq,.of_steps (.one (fenced_calm hb hr rfl) (s1 _ _)) harr⟩
 |panic ch=>exact⟨_,a₁,w₁,hq,.of_steps (.one (fenced_calm hb hr rfl) (s1 _ _)) harr⟩
 |outgrown=>exact⟨_,a₁,w₁,hq,.of_steps (.one (fenced_calm hb hr rfl) (s1 _ _)) harr⟩
theorem wpIn_loop_rel {F:Fence} {n:Nat} {c:Code} {Q:Exit→Act→World→Prop} (I:Nat→Act→World→Prop)
  (round:∀m a w,I m a w→c.wpIn F n P (Exit.then (λa' w'=>∃m',m' <m∧I m' a' w') Q) a w):∀m a w,I m a w→(Code.loop c).wpIn F n P Q a w:=by
 intro m a w h₀ b k cs hro hb hr;have key:∀j a w,I j a w→
   ∃e a' w',Q e a' w'∧ArrivesIn (Machine.fenced P F) P (lone (b.atR a (.code c:: .inLoop c::k)) cs w) b k cs e a' w':=by
  intro j;induction j using Nat.strongRecOn with
  |_ j ih=>
   intro a w hI;obtain⟨e,a₁,w₁,hq,harr⟩:=round j a w hI b (.inLoop c::k) cs hro hb hr;cases e with
   |normal=>
    obtain⟨m',hlt,hI₁⟩:=hq;obtain⟨e₂,a₂,w₂,hq₂,harr₂⟩:=ih m' hlt a₁ w₁ hI₁;exact⟨e₂,a₂,w₂,hq₂,.of_steps (StepsIn.trans harr (.one (fenced_calm hb hr rfl) stepR_inLoop)) harr₂⟩
   |exit id=>exact⟨_,a₁,w₁,hq,.pass (x:= .inLoop c) rfl (λ_ _=> .inl (by simp)) harr⟩
   |goto l=>exact⟨_,a₁,w₁,hq,.pass (x:= .inLoop c) rfl (λ_ _=> .inl (by simp)) harr⟩
   |ret=>exact⟨_,a₁,w₁,hq,.pass (x:= .inLoop c) rfl (λ_ _=> .inl (by simp)) harr⟩
   |panic ch=>exact⟨_,a₁,w₁,hq,.pass (x:= .inLoop c) rfl (λ_ _=> .inl (by simp)) harr⟩
   |outgrown=>exact⟨_,a₁,w₁,hq,.pass (x:= .inLoop c) rfl (λ_ _=> .inl (by simp)) harr⟩
 obtain⟨e,a',w',hq,harr⟩:=key m a w h₀;exact⟨e,a',w',hq,.of_steps (.one (fenced_calm hb hr rfl) stepR_loop) harr⟩
end
section
variable {P:Program} {GL:Globals} {N:Nat} {r:Option Nat}
theorem find_cpE:∀(e:Env) (n:Nat),find (cpE e) n=(find e n).copy
 |[],n=>rfl
 |(k,d)::e,n=>by
  simp only[cpE,List.map_cons,find];by_cases h:k=n
  ·simp[h]
  ·rw[if_neg h,if_neg h];exact find_cpE e n
theorem repE_any {g:Gh} {w w':World} {μ:List Nat} {d:D} {u:Value} (h:RepE g w μ d u) (h0:∀v,own1 d v=none):RepE g w' μ d u:=by
 cases d<;>first
  |exact h
  |(have:=h0 (.slice (some ⟨0,0,none⟩) 0 1);simp[own1]at this;done)
theorem copy_anyW {g:Gh} {w w':World} {μ:List Nat} {d:D} {u:Value} (h:RepD g w μ d.copy u):RepD g w' μ d.copy u:=by
 cases d<;>simp only[D.copy]at h ⊢ <;>first
  |exact h
  |exact repE_any h λv=>rfl
  |trivial
  |(obtain⟨vs,rfl,ha,h1,h2⟩:=h
    exact⟨vs,rfl,⟨ha.1,λi x v hx hv=>repE_any (ha.2 i x v hx hv) (h2 x (List.mem_of_getElem? hx))⟩,h1,h2⟩)
def mark (b:Nat):Deferred:={target:= .collected b,args:= #[]}
def Marks (O':Nat→Prop) (w w':World) (ds ds':List Deferred):Prop:=
 ∃ms:List Nat,ds'=ms.map mark++ds∧ms.Nodup∧∀b∈ms,O' b∧w.heap.size≤b∧w'.heap[b]?=some (.deferred (some []))
def AfterM (GL:Globals) (N:Nat) (Q:St→Prop) (g:Gh) (w:World) (μ:List Nat) (a:Act) (O:Nat→Prop) (a':Act) (w':World):Prop:=
 ∃s' g' μ' O',Q s'∧Gs GL N g' w' μ' s' a' O'∧(∀b,O b→O' b)∧Chg (λb=>¬O b) g w g' w'∧μ <+: μ'∧Marks O' w w' a.defers a'.defers
theorem Marks.nil {O':Nat→Prop} {w w':World} {ds ds':List Deferred} (h:ds'=ds):Marks O' w w' ds ds':=⟨[],by simp[h],List.nodup_nil,by simp⟩
theorem After.up {Q:St→Prop} {g:Gh} {w:World} {μ:List Nat} {a:Act} {O:Nat→Prop} {a':Act} {w':World} (h:After GL N Q g w μ a O a' w'):AfterM GL N Q g w μ a O a' w':=by
 obtain⟨s',g',μ',hq,hg,hc,hμ,hd⟩:=h;exact⟨s',g',μ',O,hq,hg,λ_ h=>h,hc,hμ,.nil hd⟩
theorem Marks.trans {O1 O2:Nat→Prop} {g1 g2:Gh} {w w1 w2:World} {d0 d1 d2:List Deferred} (h1:Marks O1 w w1 d0 d1) (hs:w.heap.size≤w1.heap.size) (hO:∀b,O1 b→O2 b) (hc:Chg (λb=>¬O1 b) g1 w1 g2 w2)
  (h2:Marks O2 w1 w2 d1 d2):Marks O2 w w2 d0 d2:=by
 obtain⟨m1,rfl,n1,p1⟩:=h1;obtain⟨m2,rfl,n2,p2⟩:=h2;refine⟨m2++m1,by simp,?_,λb hb=>?_⟩
 ·rw[List.nodup_append];refine⟨n2,n1,λa ha b hb hab=>?_⟩;subst hab;have:=lt_of_heap (p1 a hb).2.2;have:=(p2 a ha).2.1;omega
 ·rcases List.mem_append.1 hb with hb|hb
  ·obtain⟨q1,q2,q3⟩:=p2 b hb;exact⟨q1,by omega,q3⟩
  ·obtain⟨q1,q2,q3⟩:=p1 b hb;exact⟨hO b q1,q2,(hc.heap b (lt_of_heap q3) (λh=>h q1)).trans q3⟩
theorem AfterM.trans {Q:St→Prop} {g:Gh} {w:World} {μ:List Nat} {a:Act} {O O1:Nat→Prop} {g1:Gh} {w1:World} {μ1:List Nat} {a1:Act} {a2:Act} {w2:World}
  (hO:∀b,O b→O1 b) (hc:Chg (λb=>¬O b) g w g1 w1) (hμ:μ <+: μ1) (hd:Marks O1 w w1 a.defers a1.defers) (h:AfterM GL N Q g1 w1 μ1 a1 O1 a2 w2):AfterM GL N Q g w μ a O a2 w2:=by
 obtain⟨s',g',μ',O2,hq,hg,hO',hc',hμ',hd'⟩:=h;exact⟨s',g',μ',O2,hq,hg,λb hb=>hO' b (hO b hb),hc.trans (hc'.mono λb h hb=>h (hO b hb)),hμ.trans hμ',hd.trans hc.size hO' hc' hd'⟩
def PostM (GL:Globals) (N:Nat) (Q:AExit→St→Prop) (g:Gh) (w:World) (μ:List Nat) (a:Act) (O:Nat→Prop) (e':Exit) (a':Act) (w':World):Prop:=
 ∃e,ExOK e e'∧AfterM GL N (Q e) g w μ a O a' w'
theorem PostM.trans {Q:AExit→St→Prop} {g:Gh} {w:World} {μ:List Nat} {a:Act} {O O1:Nat→Prop} {g1:Gh} {w1:World} {μ1:List Nat} {a1:Act}
  (hO:∀b,O b→O1 b) (hc:Chg (λb=>¬O b) g w g1 w1) (hμ:μ <+: μ1) (hd:Marks O1 w w1 a.defers a1.defers) {e':Exit} {a2:Act} {w2:World} (h:PostM GL N Q g1 w1 μ1 a1 O1 e' a2 w2):PostM GL N Q g w μ a O e' a2 w2:=by
 obtain⟨e,he,h2⟩:=h;exact⟨e,he,h2.trans hO hc hμ hd⟩
theorem Inv.addO {g:Gh} {w:World} {μ:List Nat} {t:Nat→D} {u:Nat→Value} {h:List Row} {O:Nat→Prop} (hi:Inv g w μ t u h O) {b0:Nat} (hb0:b0 <w.heap.size) (hm:b0∉μ) (hp:∀p,blk t u h w μ p≠some b0):
  Inv g w μ t u h (λb=>O b∨b=b0) where
 agree:=hi.agree
 olt:=λb h=>by rcases h with h|rfl;exact hi.olt b h;exact hb0
 rep:=hi.rep
 len:=hi.len
 rows:=hi.rows
 nod:=hi.nod
 mo:=λb hb ho=>by rcases ho with ho|ho;exact hi.mo b hb ho;exact hm (ho▸hb)
 uniq:=hi.uniq
 sep:=λp b h=>⟨(hi.sep p b h).1,λho=>by rcases ho with ho|ho;exact(hi.sep p b h).2 ho;exact hp p (ho▸h)⟩
theorem Inv.subO {g:Gh} {w:World} {μ:List Nat} {t:Nat→D} {u:Nat→Value} {h:List Row} {O O':Nat→Prop} (hi:Inv g w μ t u h O) (hs:∀b,O' b→O b):Inv g w μ t u h O' where
 agree:=hi.agree
 olt:=λb h=>hi.olt b (hs b h)
 rep:=hi.rep
 len:=hi.len
 rows:=hi.rows
 nod:=hi.nod
 mo:=λb hb ho=>hi.mo b hb (hs b ho)
 uniq:=hi.uniq
 sep:=λp b h=>⟨(hi.sep p b h).1,λho=>(hi.sep p b h).2 (hs b ho)⟩
theorem putObj_chg {w:World} {b:Nat} {o:Obj} (g:Gh):Chg (λx=>x=b) g w g (w.putObj b o):=
 ⟨Gh.le.refl g,by simp,λb' _ hne=>World.putObj_heap_other hne,λ_ _ _ _=>rfl,rfl,rfl⟩
theorem putObj_agree {w:World} {b:Nat} {o:Obj} {g:Gh} (hg:∀o,g.m b o=none) (hag:∀b o v,g.m b o=some v→w.cell? ⟨b,o,none⟩=some v):
  ∀b' o' v,g.m b' o'=some v→(w.putObj b o).cell? ⟨b',o',none⟩=some v:=by
 intro b' o' v hv;by_cases hbb:b'=b
 ·subst hbb;rw[hg]at hv;cases hv
 ·rw[World.cell?_of_block (a:=⟨b',o',none⟩) (World.putObj_heap_other hbb)];exact hag b' o' v hv
theorem range_sound {g0:Operand} {ps0:Array Tmp} {asg0 body0:Code} {q:Opd} {ps:List Nat} {asg body:AC} (hk:chkC P GL N (.rangeFunc g0 ps0 asg0 body0) (.rangeF q ps asg body)=true)
  {Q:AExit→St→Prop} {g:Gh} {w:World} {μ:List Nat} {s:St} {a:Act} {O:Nat→Prop} (hg:Gs GL N g w μ s a O) (h:awp P GL (.rangeF q ps asg body) Q s):
  (Code.rangeFunc g0 ps0 asg0 body0).wpIn (WF none) 0 P (PostM GL N Q g w μ a O) a w:=by
 simp only[chkC,Bool.and_eq_true,beq_iff_eq]at hk;obtain⟨⟨⟨⟨⟨⟨k1,k2⟩,k3⟩,k4⟩,k5⟩,k6⟩,k7⟩:=hk;obtain⟨fid,caps,rets,h',tag,hf,⟨hok,hsp⟩,hrow,hend⟩:=h;refine wpIn_rangeFunc λfn _=>?_;obtain⟨cvs,hcv,hcr,hct⟩:=fnOf_rep ((hg.gd P).ev k1) hf;have hsz1:(w.alloc (.deferred (some []))).heap.size=w.heap.size+1:=by simp
 have hsz2:∀lp,((w.alloc (.deferred (some []))).alloc (.loop lp)).heap.size=w.heap.size+2:=λlp=>by simp
 have i1:Inv g (w.alloc (.deferred (some []))) μ (find s.e) (λn=>a.tmps.getD n undef) s.h O:=hg.inv.chg (chg_alloc _ g w _) (agree_alloc hg.inv.agree _);have hμlt:∀b,b∈μ→b <w.heap.size:=λb hb=>hg.inv.mem_lt hb;have i2:Inv g (w.alloc (.deferred (some []))) μ (find s.e) (λn=>a.tmps.getD n undef) s.h (λb=>O b∨b=w.heap.size):=by
  refine i1.addO (by omega) (λhm=>by have:=hμlt _ hm;omega) λp hp=>?_;have hp':blk (find s.e) (λn=>a.tmps.getD n undef) s.h w μ p=some w.heap.size:=by
   cases p with
   |tmp n k=>exact hp
   |cell r k=>
    simp only[blk]at hp ⊢;have e2:cellU (w.alloc (.deferred (some []))) μ r k=cellU w μ r k:=by
     simp only[cellU];cases hm:μ[r]? with
     |none=>rfl
     |some b'=>
      simp only[Option.bind_some];rw[World.cell?_alloc_lt w _ ⟨b',k,none⟩ (hμlt b' (List.mem_of_getElem? hm))]
    rw[e2]at hp;exact hp
  have:=hg.inv.blk_lt hp';omega
 let lp:Loop:={state:= .ready,pending:=none,fn,tmps:=a.tmps,params:=ps0,assign:=asg0,body:=body0,defers:=w.heap.size}
 have hpre:μ <+: μ++[(w.alloc (.deferred (some []))).heap.size]:=List.prefix_append _ _;have hloop:LoopP P GL .ready (cpE s.e) ps asg body g (μ++[(w.alloc (.deferred (some []))).heap.size]) (.loop lp):=by
  refine⟨lp,N,rfl,by rw[←k2],hg.sz,λn w'=>⟨?_,λk=>?_⟩,k6,k7,k4,k5,λp hp=>by simpa using List.all_eq_true.1 k3 p hp,rfl,rfl⟩
  ·rw[find_cpE];refine copy_anyW (w:=w) ?_;exact(hg.inv.rep n).copy.chg (M:=λ_=>True) (Chg.refl _ _ _) hpre λk b hb=>by rw[copy_tame]at hb;cases hb
  ·rw[find_cpE];exact copy_tame _ _ _
 have i3:=i2.newAny (recRow P GL .ready (cpE s.e) ps asg body) (.loop lp) ⟨.loop lp,heap_alloc_new _ _,hloop,λo=>Gh.lt_of i2.agree (Nat.le_refl _) o⟩ (λk ds d h=>by cases h);have i4:=i3.call;have hμr:(μ++[(w.alloc (.deferred (some []))).heap.size])[s.h.length]?=some (w.heap.size+1):=by rw[←hg.inv.len,hsz1];simp
 have hcr':All2 (RepG g ((w.alloc (.deferred (some []))).alloc (.loop lp)) (μ++[(w.alloc (.deferred (some []))).heap.size])) caps cvs:=by
  refine⟨hcr.1,λi x v hx hv=>?_⟩;have hch:Chg (λ_=>False) g w g ((w.alloc (.deferred (some []))).alloc (.loop lp)):=(chg_alloc _ g w _).trans (chg_alloc _ g _ _);exact(hcr.2 i x v hx hv).chg hch hpre λb hb=>by rw[hct i x v hx hv]at hb;cases hb
 have hcall:=hsp g _ _ (.func (.yield (w.heap.size+1)) #[] #[]::cvs) _ i4 hg.glob (.cons ⟨w.heap.size+1,hμr,rfl⟩ hcr') (λi d v hd hv=>by
  cases i with
  |zero=>simp at hd hv;subst hd;rfl
  |succ i=>exact hct i d v (by simpa using hd) (by simpa using hv))
 have hinvoke:(invoke (.fn (.func fid) cvs.toArray) #[.func (.yield (w.heap.size+1)) #[] #[]]).run P ((w.alloc (.deferred (some []))).alloc (.loop lp))=
   .ok (.enter fid (Value.func (.yield (w.heap.size+1)) #[] #[]::cvs).toArray) ((w.alloc (.deferred (some []))).alloc (.loop lp)):=by
  unfold okF at hok;split at hok
  ·rename_i fn hfn;simp only[Bool.and_eq_true,Bool.not_eq_true']at hok;have h1:¬fn.body=none:=by cases hb:fn.body<;>simp_all
   have h3:¬fn.name= "runtime.NumGoroutine" :=by simpa using hok.2
   have h2:(#[Value.func (.yield (w.heap.size+1)) #[] #[]]++cvs.toArray)=(Value.func (.yield (w.heap.size+1)) #[] #[]::cvs).toArray:=by
    rw[←Array.toList_inj];simp
   simp[invoke,callFunc,hfn,h3,h1,h2]
  ·cases hok
 have hres:(resolve a.eval (rangeCall g0 (w.heap.size+1)) 0).run P ((w.alloc (.deferred (some []))).alloc (.loop lp))=
   .ok {target:= .fn (.func fid) cvs.toArray,args:= #[.func (.yield (w.heap.size+1)) #[] #[]]} ((w.alloc (.deferred (some []))).alloc (.loop lp)):=by
  have hcv':a.eval g0= .func (.func fid) #[] cvs.toArray:=hcv;have he:∀v,a.eval (.const v)=v:=λ_=>rfl;simp[resolve,rangeCall,hcv',Deferred.ofValue,he]
 refine⟨w.heap.size+1,[mark w.heap.size],(w.alloc (.deferred (some []))).alloc (.loop lp),_,_,fid,_,_,run_enterLoop_outer ..,hres,λ_ _=>trivial,hinvoke,(λh=>by simp[WF,Fence.wide]at h),callsIn_wf ?_⟩;refine hcall.mono ?_;rintro e w3 ⟨v,g',μ',rfl,hinvR,hch,hμ⟩;have hinv:=hinvR.leave;have hb3:μ'[s.h.length]?=some (w.heap.size+1):=pre_get hμ hμr;obtain⟨o,ho,⟨lp',N',rfl,l1,l2,l3,l4,l5,l6,l7,l8,htag⟩,hgn⟩:=hinv.rows s.h.length _ _ hrow hb3;have hbusy:tag≠ .busy:=by rintro rfl;exact hend
 have hstate:lp'.state≠ .busy:=by
  cases tag with
  |ready=>intro h;rw[htag.1]at h;cases h
  |busy=>exact absurd rfl hbusy
  |done e=>cases e<;>exact htag.1
 have i5:=i3.ret hinv hch hμ;have i6:=i5.setAny hrow hb3 .dead (putObj_chg g') (putObj_agree (o:= .loop {lp' with state:= .exhausted}) hgn i5.agree) (show _ <_ by rw[World.putObj_size];exact lt_of_heap ho) (λk ds d h=>by cases h);have hgs:Gs GL N g' (w3.putObj (w.heap.size+1) (.loop {lp' with state:= .exhausted})) μ' ⟨s.e,h'.set s.h.length .dead⟩ {a with defers:=[mark w.heap.size]++a.defers} (λb=>O b∨b=w.heap.size):=
  ⟨i6,hg.glob.mono hch.le,hg.sz⟩
 have hOlt:∀b,O b→b <w.heap.size:=hg.inv.olt;have hc1:Chg (λb=>¬O b) g w g ((w.alloc (.deferred (some []))).alloc (.loop lp)):=(chg_alloc _ g w _).trans (chg_alloc _ g _ _);have hc2:Chg (λb=>¬O b) g ((w.alloc (.deferred (some []))).alloc (.loop lp)) g' w3:=hch.mono λb h hb=>h (.inl (.inl hb));have hc3:Chg (λb=>¬O b) g' w3 g' (w3.putObj (w.heap.size+1) (.loop {lp' with state:= .exhausted})):=(putObj_chg g').mono λb h hb=>by subst h;have:=hOlt _ hb;omega
 have hmarks:Marks (λb=>O b∨b=w.heap.size) w (w3.putObj (w.heap.size+1) (.loop {lp' with state:= .exhausted})) a.defers ([mark w.heap.size]++a.defers):=by
  refine⟨[w.heap.size],rfl,by simp,λb hb=>?_⟩;simp only[List.mem_singleton]at hb;subst hb;refine⟨.inr rfl,Nat.le_refl _,?_⟩;rw[World.putObj_heap_other (by omega),hch.heap w.heap.size (by rw[hsz2];omega) (λh=>h (.inl (.inr rfl)))];have e1:((w.alloc (.deferred (some []))).alloc (.loop lp)).heap[w.heap.size]?=(w.alloc (.deferred (some []))).heap[w.heap.size]?:=
   (chg_alloc (λ_=>False) g (w.alloc (.deferred (some []))) (.loop lp)).heap w.heap.size (by omega) (λh=>h)
  rw[e1];exact heap_alloc_new _ _
 have fin:∀e,Q e ⟨s.e,h'.set s.h.length .dead⟩→AfterM GL N (Q e) g w μ a O {a with defers:=[mark w.heap.size]++a.defers} (w3.putObj (w.heap.size+1) (.loop {lp' with state:= .exhausted})):=λe he=>
  ⟨_,g',μ',_,he,hgs,λb h=> .inl h,hc1.trans (hc2.trans hc3),hpre.trans hμ,hmarks⟩
 refine⟨lp'.pending,_,run_endLoop ho hstate,?_⟩;generalize w3.putObj (w.heap.size+1) (.loop {lp' with state:= .exhausted})=w4 at fin ⊢;cases tag with
 |ready=>rw[htag.2];exact⟨.normal,trivial,fin _ hend⟩
 |busy=>exact absurd rfl hbusy
 |done e=>
  cases e with
  |none=>rw[htag.2];exact wpIn_ret ⟨.ret,trivial,fin _ hend⟩
  |some i=>rw[htag.2];exact wpIn_exit ⟨.exit i,rfl,fin _ hend⟩
end
section
variable {P:Program} {GL:Globals} {N:Nat} {r:Option Nat}
theorem awp_sound:∀(ac:AC) {c:Code},chkC P GL N c ac=true→(r=none∨ac.flat=true)→∀ {Q:AExit→St→Prop} {g:Gh} {w:World} {μ:List Nat} {s:St} {a:Act} {O:Nat→Prop},
  Gs GL N g w μ s a O→awp P GL ac Q s→c.wpIn (WF r) 0 P (PostM GL N Q g w μ a O) a w
 | .skip,c,hk,hr,Q,g,w,μ,s,a,O,hg,h=>by
  cases c<;>simp[chkC]at hk
  ·exact wpIn_skip ⟨.normal,trivial,s,g,μ,O,h,hg,λ_ h=>h,Chg.refl _ _ _,List.prefix_refl _,.nil rfl⟩
  ·exact wpIn_label ⟨.normal,trivial,s,g,μ,O,h,hg,λ_ h=>h,Chg.refl _ _ _,List.prefix_refl _,.nil rfl⟩
 | .scope x,c,hk,hr,Q,g,w,μ,s,a,O,hg,h=>by
  cases c<;>simp only[chkC,Bool.false_eq_true]at hk
  refine wpIn_scope (wpIn_mono (awp_sound x hk hr hg h) ?_);rintro e a' w' ⟨e1,he,s',g',μ',O',hq,hgs,hO,hch,hμ,hd⟩;refine⟨λl hl=>?_,⟨e1,he,s',g',μ',O',hq,hgs,hO,hch,hμ,hd⟩⟩;subst hl;cases e1<;>simp only[ExOK]at he
 | .reg is keep,c,hk,hr,Q,g,w,μ,s,a,O,hg,h=>by
  cases c<;>(try simp only[chkC,Bool.false_eq_true]at hk)
  rename_i id ops dr;cases dr with
  |true=>simp[chkC]at hk
  |false=>
  simp only[chkC]at hk;refine wpIn_region (awpOps_sound _ _ hk hg h λa' w' h2=>?_);obtain⟨s',g',μ',hq,hgs,hch,hμ,hd⟩:=h2;exact⟨.normal,trivial,_,g',μ',O,hq,hgs.norm keep,λ_ h=>h,hch,hμ,.nil hd⟩
 | .regD is keep clos,c,hk,hr,Q,g,w,μ,s,a,O,hg,h=>by
  cases c<;>(try simp only[chkC,Bool.false_eq_true]at hk)
  rename_i id ops dr;cases dr with
  |false=>simp[chkC]at hk
  |true=>
  simp only[chkC,Bool.and_eq_true]at hk;refine wpIn_region_any hk.2 (regD_sound hk.1.1 hk.1.2 (K:=λs'=>Q .normal ⟨normE s'.e keep,s'.h⟩) ?_ hg.drawn h λa' w' h2=>?_)
  ·intro s1 s2 he h;rw[←normE_congr he.1,←he.2];exact h
  ·obtain⟨s',g',μ',hq,hgs,hch,hμ,hd⟩:=h2;exact⟨.normal,trivial,_,g',μ',O,hq,hgs.norm keep,λ_ h=>h,(chg_drawn g w _ _).trans hch,hμ,.nil hd⟩
 | .regA is keep clos t,c,hk,hr,Q,g,w,μ,s,a,O,hg,h=>by
  cases c<;>(try simp only[chkC,Bool.false_eq_true]at hk)
  rename_i id ops dr;cases dr with
  |false=>simp[chkC]at hk
  |true=>
  simp only[chkC,Bool.and_eq_true]at hk;refine wpIn_region_any hk.2 (regA_sound hk.1.1.1.1 hk.1.1.1.2 hk.1.1.2 hk.1.2 (K:=λs'=>∃s2,RenS s.h.length s' s2∧Q .normal ⟨normE s2.e keep,s2.h⟩) ?_ hg.drawn h λa' w' h2=>?_)
  ·rintro s1 s2 he ⟨s3,hr,hq⟩;rcases hr with rfl|⟨π,hp,ho,hf,hh⟩
   ·exact⟨s2,.inl rfl,by rw[←normE_congr he.1,←he.2];exact hq⟩
   ·exact⟨s3,.inr ⟨π,by rw[←he.2];exact hp,by rw[←he.2];exact ho,λn=>by rw[←he.1];exact hf n,by rw[←he.2];exact hh⟩,hq⟩
  ·obtain⟨s',g',μ',⟨s2,hr,hq⟩,hgs,hch,hμ,hd⟩:=h2;obtain⟨μ2,hgs2,hpre⟩:=hgs.ren hr;exact⟨.normal,trivial,_,g',μ2,O,hq,hgs2.norm keep,λ_ h=>h,(chg_drawn g w _ _).trans hch,hpre μ (by rw[hg.inv.len];exact Nat.le_refl _) hμ,.nil hd⟩
 | .regV is keep clos,c,hk,hr,Q,g,w,μ,s,a,O,hg,h=>by
  cases c<;>(try simp only[chkC,Bool.false_eq_true]at hk)
  rename_i id ops dr;cases dr with
  |false=>simp[chkC]at hk
  |true=>
  simp only[chkC,Bool.and_eq_true]at hk;refine wpIn_region_any hk.2 (regV_sound hk.1.1 hk.1.2 (K:=λs'=>Q .normal ⟨normE s'.e keep,s'.h⟩) hg.drawn h λa' w' h2=>?_);obtain⟨s',g',μ',hq,hgs,hch,hμ,hd⟩:=h2;exact⟨.normal,trivial,_,g',μ',O,hq,hgs.norm keep,λ_ h=>h,(chg_drawn g w _ _).trans hch,hμ,.nil hd⟩
 | .seq x y,c,hk,hr,Q,g,w,μ,s,a,O,hg,h=>by
  cases c<;>simp only[chkC,Bool.false_eq_true,Bool.and_eq_true]at hk
  have hr1:r=none∨x.flat=true:=hr.imp_right λh=>by simp only[AC.flat,Bool.and_eq_true]at h;exact h.1
  have hr2:r=none∨y.flat=true:=hr.imp_right λh=>by simp only[AC.flat,Bool.and_eq_true]at h;exact h.2
  refine wpIn_seq (wpIn_mono (awp_sound x hk.1 hr1 hg h) ?_);rintro e a' w' ⟨e1,he,s',g',μ',O',hq,hgs,hO,hch,hμ,hd⟩;cases e1 with
  |normal=>
   cases e<;>simp only[ExOK]at he
   exact wpIn_mono (awp_sound y hk.2 hr2 hgs hq) λe2 a2 w2 h2=>h2.trans hO hch hμ hd
  |exit i=>
   cases e<;>simp only[ExOK]at he
   subst he;exact⟨.exit i,rfl,s',g',μ',O',hq,hgs,hO,hch,hμ,hd⟩
  |ret=>
   cases e<;>simp only[ExOK]at he
   exact⟨.ret,trivial,s',g',μ',O',hq,hgs,hO,hch,hμ,hd⟩
 | .cond x y z,c,hk,hr,Q,g,w,μ,s,a,O,hg,h=>by
  cases c<;>simp only[chkC,Bool.false_eq_true,Bool.and_eq_true]at hk
  simp only[awp]at h;have hr1:r=none∨y.flat=true:=hr.imp_right λh=>by simp only[AC.flat,Bool.and_eq_true]at h;exact h.1
  have hr2:r=none∨z.flat=true:=hr.imp_right λh=>by simp only[AC.flat,Bool.and_eq_true]at h;exact h.2
  have hrx:=(hg.gd P).ev hk.1.1;split at h
  ·rename_i t ht;rw[ht]at hrx;refine wpIn_cond (rep_bool hrx) ?_;cases t with
   |true=>exact awp_sound y hk.1.2 hr1 hg h
   |false=>exact awp_sound z hk.2 hr2 hg h
  ·exact h.elim
 | .block id x,c,hk,hr,Q,g,w,μ,s,a,O,hg,h=>by
  cases c<;>simp only[chkC,Bool.false_eq_true,Bool.and_eq_true,beq_iff_eq]at hk
  obtain⟨rfl,hk⟩:=hk;refine wpIn_block (wpIn_mono (awp_sound x hk hr hg h) ?_);rintro e a' w' ⟨e1,he,s',g',μ',O',hq,hgs,hO,hch,hμ,hd⟩;cases e1 with
  |normal=>
   cases e<;>simp only[ExOK]at he
   exact⟨.normal,trivial,s',g',μ',O',hq,hgs,hO,hch,hμ,hd⟩
  |exit i=>
   cases e<;>simp only[ExOK]at he
   subst he;simp only[Exit.inBlock];split
   ·rename_i hi;simp only[hi,if_true]at hq;exact⟨.normal,trivial,s',g',μ',O',hq,hgs,hO,hch,hμ,hd⟩
   ·rename_i hi;simp only[hi,if_false]at hq;exact⟨.exit i,rfl,s',g',μ',O',hq,hgs,hO,hch,hμ,hd⟩
  |ret=>
   cases e<;>simp only[ExOK]at he
   exact⟨.ret,trivial,s',g',μ',O',hq,hgs,hO,hch,hμ,hd⟩
 | .loop x,c,hk,hr,Q,g,w,μ,s,a,O,hg,h=>by
  cases c<;>simp only[chkC,Bool.false_eq_true]at hk
  obtain⟨I,⟨m,hm⟩,hround⟩:=h;refine wpIn_loop_rel (λm a' w'=>∃s' g' μ' O',I m s'∧Gs GL N g' w' μ' s' a' O'∧(∀b,O b→O' b)∧Chg (λb=>¬O b) g w g' w'∧μ <+: μ'∧Marks O' w w' a.defers a'.defers) ?_ m a w ⟨s,g,μ,O,hm,hg,λ_ h=>h,Chg.refl _ _ _,List.prefix_refl _,.nil rfl⟩;rintro m a1 w1 ⟨s1,g1,μ1,O1,hI,hgs1,hO1,hch1,hμ1,hd1⟩;refine wpIn_mono (awp_sound x hk hr hgs1 (hround m s1 hI)) ?_;rintro e a' w' ⟨e1,he,s',g',μ',O',hq,hgs,hO,hch,hμ,hd⟩;cases e1 with
  |normal=>
   cases e<;>simp only[ExOK]at he
   obtain⟨m',hlt,hI'⟩:=hq;exact⟨m',hlt,s',g',μ',O',hI',hgs,λb hb=>hO b (hO1 b hb),hch1.trans (hch.mono λb h hb=>h (hO1 b hb)),hμ1.trans hμ,hd1.trans hch1.size hO hch hd⟩
  |exit i=>
   cases e<;>simp only[ExOK]at he
   subst he;exact⟨.exit i,rfl,s',g',μ',O',hq,hgs,λb hb=>hO b (hO1 b hb),hch1.trans (hch.mono λb h hb=>h (hO1 b hb)),hμ1.trans hμ,hd1.trans hch1.size hO hch hd⟩
  |ret=>
   cases e<;>simp only[ExOK]at he
   exact⟨.ret,trivial,s',g',μ',O',hq,hgs,λb hb=>hO b (hO1 b hb),hch1.trans (hch.mono λb h hb=>h (hO1 b hb)),hμ1.trans hμ,hd1.trans hch1.size hO hch hd⟩
 | .exit id,c,hk,hr,Q,g,w,μ,s,a,O,hg,h=>by
  cases c<;>simp[chkC]at hk
  subst hk;exact wpIn_exit ⟨.exit _,rfl,s,g,μ,O,h,hg,λ_ h=>h,Chg.refl _ _ _,List.prefix_refl _,.nil rfl⟩
 | .ret,c,hk,hr,Q,g,w,μ,s,a,O,hg,h=>by
  cases c<;>simp[chkC]at hk
  exact wpIn_ret ⟨.ret,trivial,s,g,μ,O,h,hg,λ_ h=>h,Chg.refl _ _ _,List.prefix_refl _,.nil rfl⟩
 | .never,c,hk,hr,Q,g,w,μ,s,a,O,hg,h=>h.elim
 | .rangeF q ps asg body,c,hk,hr,Q,g,w,μ,s,a,O,hg,h=>by
  have hrn:r=none:=by
   rcases hr with h|h
   ·exact h
   ·simp[AC.flat]at h
  subst hrn;cases c<;>(try (simp only[chkC,Bool.false_eq_true]at hk;done))
  exact range_sound hk hg h
def setPs (e:Env) (ps:List Nat) (args:List D):Env:=(ps.zip args).foldl (λe p=>p::e) e
def roundEnd (P:Program) (GL:Globals) (e0:Env) (ps:List Nat) (asg body:AC) (rr:Nat):AExit→List Row→Bool→List Row→Prop
 | .normal,h,b,h'=>b=true∧h'=h.set rr (recRow P GL .ready e0 ps asg body)
 | .ret,h,b,h'=>b=false∧h'=h.set rr (recRow P GL (.done none) e0 ps asg body)
 | .exit i,h,b,h'=>b=false∧h'=h.set rr (recRow P GL (.done (some i)) e0 ps asg body)
abbrev GoodE (g:Gh) (w:World) (μ:List Nat) (e:Env) (ts:Array Value):Prop:=∀n,RepD g w μ (find e n) (ts.getD n undef)∧∀k,ownAt (find e n) (ts.getD n undef) k=none
theorem setPs_good {g:Gh} {w:World} {μ:List Nat} {N:Nat}:∀ {ps:List Nat} {args:List D} {us:List Value} {e:Env} {ts:Array Value},args.length=ps.length→(∀p∈ps,p <N)→All2 (RepG g w μ) args us→Tame args us→ts.size=N→
  GoodE g w μ e ts→GoodE g w μ (setPs e ps args) ((ps.zip us).foldl (λt p=>t.setIfInBounds p.1 p.2) ts)∧((ps.zip us).foldl (λt p=>t.setIfInBounds p.1 p.2) ts).size=N
 |[],args,us,e,ts,_,_,_,_,hs,hg=>by simpa[setPs]using ⟨hg,hs⟩
 |p::ps,[],us,e,ts,hl,_,_,_,_,_=>by simp at hl
 |p::ps,a::args,[],e,ts,_,_,ha,_,_,_=>by have:=ha.1;simp at this
 |p::ps,a::args,u::us,e,ts,hl,hp,ha,ht,hs,hg=>by
  rw[All2.cons_iff]at ha;have:=setPs_good (ps:=ps) (args:=args) (us:=us) (e:=(p,a)::e) (ts:=ts.setIfInBounds p u) (by simpa using hl) (λq hq=>hp q (by simp[hq])) ha.2
   (λi d v hd hv=>ht (i+1) d v (by simpa using hd) (by simpa using hv)) (by simpa using hs) (λn=>by
    simp only[find];by_cases h:p=n
    ·subst h;have hlt:p <ts.size:=hs▸hp p (by simp);have e1:(ts.setIfInBounds p u).getD p undef=u:=by simp[Array.getD_eq_getD_getElem?,hlt]
     rw[if_pos rfl,e1];exact⟨ha.1.toD,ownAt_of1 ha.1 (ht 0 a u rfl rfl)⟩
    ·have e1:(ts.setIfInBounds p u).getD n undef=ts.getD n undef:=by simp[Array.getD_eq_getD_getElem?,Array.getElem?_setIfInBounds,h]
     rw[if_neg h,e1];exact hg n)
  exact this
theorem ysp_of_awp {rr:Nat} {e0:Env} {ps:List Nat} {asg body:AC} {args:List D} {h h':List Row} {b:Bool} (hrow:h[rr]?=some (recRow P GL .ready e0 ps asg body)) (hl:args.length=ps.length)
  (hw:awp P GL asg (λe s=>e= .normal∧s.h[rr]?=some (recRow P GL .ready e0 ps asg body)∧
   awp P GL body (λe s'=>s'.h[rr]?=some (recRow P GL .busy e0 ps asg body)∧roundEnd P GL e0 ps asg body rr e s'.h b h') ⟨s.e,s.h.set rr (recRow P GL .busy e0 ps asg body)⟩) ⟨setPs e0 ps args,h⟩):
  YSp P GL rr args h b h':=by
 intro g w μ us O hinv hgl hall htame bl hbl;obtain⟨o,ho,⟨lp,N,rfl,l1,l2,l3,l4,l5,l6,l7,l8,htag⟩,hgn⟩:=hinv.rows rr _ bl hrow hbl;have hlen:us.length=args.length:=hall.1;have hsz:us.toArray.size=lp.params.size:=by rw[l1];simp[hlen,hl]
 refine⟨_,_,_,_,run_yield ho hsz,?_⟩;obtain⟨hgood,hsz2⟩:=setPs_good hl l8 hall htame l2 λn=>l3 n w;have e1:(lp.params.zip us.toArray).foldl (λtmps x=>match x with|(t,a)=>tmps.setIfInBounds t a) lp.tmps=(ps.zip us).foldl (λt p=>t.setIfInBounds p.1 p.2) lp.tmps:=by
  rw[l1,←Array.foldl_toList];simp
 refine roundIn_of_wpIn trivial ?_;rw[e1];generalize (ps.zip us).foldl (λt p=>t.setIfInBounds p.1 p.2) lp.tmps=ts at hgood hsz2;have hgs:Gs GL N g w μ ⟨setPs e0 ps args,h⟩ {tmps:=ts,defers:=[]} O:=⟨hinv.enter (λn=>(hgood n).1) (λn=>(hgood n).2),hgl,hsz2⟩;refine wpIn_mono (awp_sound (r:=some bl) asg l4 (.inr l6) hgs hw) ?_;rintro e a1 w1 ⟨ee,he,s1,g1,μ1,O1,⟨rfl,hrow1,hw1⟩,hgs1,hO1,hch1,hμ1,_⟩;cases e<;>simp only[ExOK]at he
 have hbl1:μ1[rr]?=some bl:=pre_get hμ1 hbl;obtain⟨o1,ho1,⟨lp1,N1,rfl,j1,j2,j3,j4,j5,j6,j7,j8,htag1⟩,hgn1⟩:=hgs1.inv.rows rr _ bl hrow1 hbl1;refine⟨_,run_beginRound ho1 htag1.1,?_⟩;have i2:=hgs1.inv.setAny hrow1 hbl1 (recRow P GL .busy e0 ps asg body) (putObj_chg g1) (putObj_agree (o:= .loop {lp1 with state:= .busy}) hgn1 hgs1.inv.agree)
  ⟨_,World.putObj_heap_same (lt_of_heap ho1),⟨_,N1,rfl,j1,j2,j3,j4,j5,j6,j7,j8,rfl⟩,hgn1⟩ (λk ds d h=>by cases h)
 have hgs2:Gs GL N g1 (w1.putObj bl (.loop {lp1 with state:= .busy})) μ1 ⟨s1.e,s1.h.set rr (recRow P GL .busy e0 ps asg body)⟩ a1 O1:=⟨i2,hgs1.glob,hgs1.sz⟩;refine wpIn_mono (awp_sound (r:=some bl) body l5 (.inr l7) hgs2 hw1) ?_;rintro e a3 w3 ⟨ee,he,s3,g3,μ3,O3,⟨hrow3,hend⟩,hgs3,hO3,hch3,hμ3,_⟩;have hbl3:μ3[rr]?=some bl:=pre_get hμ3 hbl1;obtain⟨o3,ho3,⟨lp3,N3,rfl,m1,m2,m3,m4,m5,m6,m7,m8,htag3⟩,hgn3⟩:=hgs3.inv.rows rr _ bl hrow3 hbl3;have hnO:¬O bl:=hinv.mo bl (List.mem_of_getElem? hbl);have fin:∀(jump:Option Code) (tag:Tag),TagOK tag {lp3 with state:=if jump.isNone then .ready else .done,pending:=jump}→b=jump.isNone→h'=s3.h.set rr (recRow P GL tag e0 ps asg body)→
   ∃v w',(Instr.endRound bl jump).run P w3= .ok v w'∧∃g' μ',Ending.returned v= .returned (.bool b)∧Inv g' w' μ' anyT anyU h' O∧Chg (λb=>¬O b) g w g' w'∧μ <+: μ':=by
  intro jump tag htg hb hh;have i4:=hgs3.inv.setAny hrow3 hbl3 (recRow P GL tag e0 ps asg body) (putObj_chg g3) (putObj_agree (o:= .loop {lp3 with state:=if jump.isNone then .ready else .done,pending:=jump}) hgn3 hgs3.inv.agree)
   ⟨_,World.putObj_heap_same (lt_of_heap ho3),⟨_,N3,rfl,m1,m2,m3,m4,m5,m6,m7,m8,htg⟩,hgn3⟩ (λk ds d h=>by cases h)
  refine⟨_,_,run_endRound jump ho3,g3,μ3,by rw[hb],?_,?_,hμ1.trans (hμ3)⟩
  ·rw[hh];exact(i4.leave).subO λb hb=>hO3 b (hO1 b hb)
  ·have hm:∀x,x=bl→¬O x:=λx h hb=>hnO (h▸hb);exact hch1.trans (Chg.trans ((putObj_chg g1).mono hm) (Chg.trans (hch3.mono λb h hb=>h (hO1 b hb)) ((putObj_chg g3).mono hm)))
 cases ee with
 |normal=>
  cases e<;>simp only[ExOK]at he
  exact fin none .ready ⟨rfl,rfl⟩ hend.1 hend.2
 |exit i=>
  cases e<;>simp only[ExOK]at he
  subst he;exact fin (some (.exit i)) (.done (some i)) ⟨by simp,rfl⟩ hend.1 hend.2
 |ret=>
  cases e<;>simp only[ExOK]at he
  exact fin (some .ret) (.done none) ⟨by simp,rfl⟩ hend.1 hend.2
end
inductive AR where
 |t (n:Nat)
 |c (n sz:Nat) (ag:Bool)
def AR.val (s:St):AR→Option V
 | .t n=>(find s.e n).toV
 | .c n sz ag=>((PI.load (.t n false) sz ag).val s.e s.h).bind D.toV
def resVs (s:St):List AR→Option (List V)
 |[]=>some []
 |r::rs=>match r.val s,resVs s rs with
  |some x,some xs=>some (x::xs)
  |_,_=>none
def entry (args:List V):Env:=args.zipIdx.map λp=>(p.2,.v p.1)
def D.one?:D→Option D
 | .tup _=>none
 |d=>some d
def D.keep:D→D
 | .own e s xs=> .own e s xs
 |d=>d.arg
def AR.d (s:St):AR→Option D
 | .t n=>some (find s.e n).keep
 | .c n sz ag=>((PI.load (.t n false) sz ag).val s.e s.h).bind λd=>d.arg.one?
def resDs (s:St):List AR→Option (List D)
 |[]=>some []
 |r::rs=>match r.d s,resDs s rs with
  |some x,some xs=>some (x::xs)
  |_,_=>none
def entryD (args:List D):Env:=args.zipIdx.map λp=>(p.2,p.1)
def chkR (P:Program):ResultVar→AR→Bool
 | .tmp t,.t n=>t==n
 | .cell a T,.c n sz ag=>a==n&&sizeIs P T sz&&aggIs P T ag&&(ag||sz==1)
 |_,_=>false
def arTmps:List AR→List Nat
 |[]=>[]
 | .t n::rs=>n::arTmps rs
 | .c _ _ _::rs=>arTmps rs
def chkF (P:Program) (GL:Globals) (f n:Nat) (ac:AC) (rs:List AR):Bool:=
 match P.funcs[f]? with
 |some fn=> !(fn.name== "runtime.NumGoroutine")&&(match fn.body with|some c=>chkC P GL fn.ntmps c ac|none=>false)&&zipOK (chkR P) fn.results.toList rs&&decide (n≤fn.ntmps)&&decide (arTmps rs).Nodup
 |none=>false
def arRun (tmps:Array Value):ResultVar→Sem Value
 | .tmp t=>pure (tmps.getD t undef)
 | .cell a t=>do loadVar t (←asAddr (tmps.getD a undef))
theorem results_eq (fn:Func) (tmps:Array Value):results fn tmps=(do
  let vs ←fn.results.mapM (arRun tmps)
  pure (if h:vs.size=1 then vs[0] else .tuple vs)):=by
 unfold results
 congr 1
section
variable {P:Program} {GL:Globals}
theorem find_entry_from:∀(args:List V) (k n:Nat),find ((args.zipIdx k).map λp=>(p.2,D.v p.1)) n=if k≤n then ((args[n-k]?).map D.v).getD .any else .any
 |[],k,n=>by simp[find]
 |x::xs,k,n=>by
  simp only[List.zipIdx_cons,List.map_cons,find];by_cases h:k=n
  ·subst h;simp
  ·rw[if_neg h,find_entry_from xs (k+1) n];by_cases h2:k+1≤n
   ·rw[if_pos h2,if_pos (by omega),show n-k=(n-(k+1))+1 by omega,List.getElem?_cons_succ]
   ·rw[if_neg h2,if_neg (by omega)]
theorem find_entry (args:List V) (n:Nat):find (entry args) n=((args[n]?).map D.v).getD .any:=by
 have:=find_entry_from args 0 n;simpa[entry]using this
theorem ar_run {g:Gh} {w:World} {μ:List Nat} {s:St} {a:Act} {O:Nat→Prop} {N:Nat} (hg:Gs GL N g w μ s a O) {rv:ResultVar} {r:AR} (hk:chkR P rv r=true) {x:V} (hx:r.val s=some x):
  ∃v,(arRun a.tmps rv).run P w= .ok v w∧RepV g x v:=by
 cases rv with
 |tmp t=>
  cases r with
  |t n=>
   have:t=n:=by simpa[chkR]using hk
   subst this;exact⟨_,rfl,toV_rep (hg.inv.rep t) hx⟩
  |c n sz ag=>simp[chkR]at hk
 |cell b t=>
  cases r with
  |t n=>simp[chkR]at hk
  |c n sz ag=>
   simp only[chkR,Bool.and_eq_true,beq_iff_eq]at hk;obtain⟨⟨⟨rfl,hs⟩,hag⟩,h1⟩:=hk;simp only[AR.val,Option.bind_eq_some_iff]at hx;obtain⟨d,hd,hdx⟩:=hx;have:=load_ok (P:=P) (GL:=GL) (a:= .tmp b) (a':= .t b false) (t:=t) (by simp[oe]) hs hag h1 (hg.gd P) hd
    {(default:Oper)with op:= .load t (.tmp b)} rfl
   obtain⟨v,hrun,hrep,_⟩:=this;refine⟨v,?_,toV_rep hrep hdx⟩;have hev:a.eval (.tmp b)=a.tmps.getD b undef:=rfl;simp only[execOp,Instr.loadAt,hev,Sem.run_bind,Sem.run_map]at hrun;simp only[arRun,Sem.run_bind];cases hp:a.tmps.getD b undef with
   |pointer p=>
    cases p with
    |none=>simp[hp,Instr.sureAddr]at hrun
    |some p=>
     simp only[hp,Instr.sureAddr,Sem.run_pure,Result.andThen_ok,asAddr]at hrun ⊢;cases hl:(loadVar t p).run P w with
     |ok v' w'=>simp[hl]at hrun;obtain⟨rfl,rfl⟩:=hrun;rfl
     |halt h w'=>simp[hl]at hrun
   |_=>simp[hp,Instr.sureAddr]at hrun
theorem results_run {g:Gh} {w:World} {μ:List Nat} {s:St} {a:Act} {O:Nat→Prop} {N:Nat} (hg:Gs GL N g w μ s a O):∀ {rvs:List ResultVar} {rs:List AR} {xs:List V},zipOK (chkR P) rvs rs=true→resVs s rs=some xs→
  ∃vs:List Value,(rvs.mapM (arRun a.tmps)).run P w= .ok vs w∧All2 (RepV g) xs vs
 |[],[],xs,_,h=>by
  simp only[resVs,Option.some.injEq]at h;subst h;exact⟨[],rfl,.nil⟩
 |rv::rvs,r::rs,xs,hk,h=>by
  simp only[zipOK,Bool.and_eq_true]at hk;simp only[resVs]at h;split at h
  ·rename_i y ys hy hys;simp only[Option.some.injEq]at h;subst h;obtain⟨v,h1,h2⟩:=ar_run hg hk.1 hy;obtain⟨vs,h3,h4⟩:=results_run hg hk.2 hys;refine⟨v::vs,?_,.cons h2 h4⟩;rw[List.mapM_cons,Sem.run_bind,h1,Result.andThen_ok,Sem.run_bind,h3];rfl
  ·cases h
 |[],_::_,_,hk,_=>by simp[zipOK]at hk
 |_::_,[],_,hk,_=>by simp[zipOK]at hk
theorem retD_of {g:Gh} {w:World} {xs:List V} {vs:List Value} (h:All2 (RepV g) xs vs):RepD g w [] (retD xs) (if h:vs.toArray.size=1 then vs.toArray[0] else .tuple vs.toArray):=by
 unfold retD;split
 ·rename_i x;have hl:=h.1
  match vs,hl with
  |[v],_=>
   simp only[List.size_toArray,List.length_cons,List.length_nil,dite_true];exact(All2.cons_iff.1 h).1
 ·rename_i hne;have hl:¬vs.toArray.size=1:=by
   intro h1;have:xs.length=1:=by rw[←h.1];simpa using h1
   match xs,this with
   |[x],_=>exact hne x rfl
  rw[dif_neg hl];exact⟨vs,rfl,by simp[h.1],λi x v hx hv=>by
   simp only[List.getElem?_map,Option.map_eq_some_iff]at hx;obtain⟨y,hy,rfl⟩:=hx;exact h.2 i y v hy hv⟩
theorem Inv.chgO {g:Gh} {w:World} {μ:List Nat} {t:Nat→D} {u:Nat→Value} {h:List Row} {O:Nat→Prop} (hi:Inv g w μ t u h O) {M:Nat→Prop} {g':Gh} {w':World} (hc:Chg M g w g' w') (hM:∀b,M b→O b)
  (hag:∀b o v,g'.m b o=some v→w'.cell? ⟨b,o,none⟩=some v):Inv g' w' μ t u h O:=by
 have hcellU:∀r k,cellU w' μ r k=cellU w μ r k:=by
  intro r k;simp only[cellU];cases hm:μ[r]? with
  |none=>rfl
  |some b=>
   have hbm:=List.mem_of_getElem? hm;simp only[Option.bind_some];rw[World.cell?_of_block (a:=⟨b,k,none⟩) (hc.heap b (hi.mem_lt hbm) (λh=>hi.mo b hbm (hM b h)))]
 refine hi.upd hc hag (λn=>chg_tmp hi hc (List.prefix_refl μ) n λk b' hb' h=>(hi.sep _ b' hb').2 (hM b' h)) hi.len
  (λr row b hr hb=>hi.rowChg hc (List.prefix_refl μ) hr hb (λh=>hi.mo b (List.mem_of_getElem? hb) (hM b h)) (λp b' hp h=>absurd (hM b' h) (hi.sep p b' hp).2)) hi.nod (λb hb=> .inl hb)
  (λp=>some p) (λp q r hp hq=>by simp at hp hq;rw[hp,hq]) (.tmp 0 0) ?_
 intro p b hp;cases p with
 |tmp m j=>exact .inl ⟨.tmp m j,rfl,hp⟩
 |cell r k=>simp only[blk,hcellU]at hp;exact .inl ⟨.cell r k,rfl,hp⟩
theorem leaves_marks {F:Fence} {n:Nat} {fn:Func} {tmps:Array Value} {R:Ending→World→Prop}:∀(ms:List Nat) {w:World},ms.Nodup→(∀b∈ms,w.heap[b]?=some (.deferred (some [])))→
  (∀w':World,w'.heap.size=w.heap.size→w'.os=w.os→w'.output=w.output→(∀b,b∉ms→w'.heap[b]?=w.heap[b]?)→∃v,(results fn tmps).run P w'= .ok v w'∧R (.returned v) w')→LeavesInM F n P fn tmps R (ms.map mark) .returning w
 |[],w,_,_,h=>h w rfl rfl rfl λ_ _=>rfl
 |b::ms,w,hn,hd,h=>by
  rw[List.nodup_cons]at hn;refine⟨by simp,.inl ⟨b,_,rfl,run_takeDeferred (hd b (by simp)),?_⟩⟩;refine leaves_marks ms hn.2 (λb' hb'=>?_) λw' hs ho hu hw=>h w' (hs.trans World.putObj_size) ho hu λb' hb'=>?_
  ·rw[World.putObj_heap_other (λ(h:b'=b)=>hn.1 (h▸hb'))];exact hd b' (by simp[hb'])
  ·simp only[List.mem_cons,not_or]at hb';rw[hw b' hb'.2,World.putObj_heap_other hb'.1]
theorem body_end {F:Fence} {n:Nat} {fn:Func} {N:Nat} {g:Gh} {w:World} {μ:List Nat} {a:Act} {O:Nat→Prop} {Q:St→Prop} {R:Ending→World→Prop} {a':Act} {w1:World} (hd:a.defers=[]) (hOlt:∀b,O b→b <w.heap.size)
  (h:AfterM GL N Q g w μ a O a' w1) (hR:∀s' g' μ' w',Q s'→Gs GL N g' w' μ' s' a' O→Chg (λb=>¬O b) g w g' w'→μ <+: μ'→∃v,(results fn a'.tmps).run P w'= .ok v w'∧R (.returned v) w'):
  LeavesInM F n P fn a'.tmps R a'.defers .returning w1:=by
 obtain⟨s',g',μ',O',hq,hg,hO,hc,hμ,ms,hms,hnd,hp⟩:=h;rw[hms,hd,List.append_nil];have hnone:∀b∈ms,∀o,g'.m b o=none:=by
  intro b hb o;cases hx:g'.m b o with
  |none=>rfl
  |some v=>
   have:=hg.inv.agree b o v hx;simp[World.cell?,(hp b hb).2.2]at this
 have hnO:∀b∈ms,¬O b∨False:=λb hb=> .inl λho=>by
  have h1:=(hp b hb).2.1;have h3:=hOlt b ho;omega
 refine leaves_marks ms hnd (λb hb=>(hp b hb).2.2) λw' hs ho hu hw=>?_;have hc2:Chg (λb=>b∈ms) g' w1 g' w':=⟨Gh.le.refl _,by omega,λb _ hb=>hw b hb,λ_ _ _ _=>rfl,ho,hu⟩;have hag:∀b o v,g'.m b o=some v→w'.cell? ⟨b,o,none⟩=some v:=by
  intro b o v hv;by_cases hb:b∈ms
  ·rw[hnone b hb]at hv;cases hv
  ·rw[World.cell?_of_block (a:=⟨b,o,none⟩) (hw b hb)];exact hg.inv.agree b o v hv
 have hinv:=(hg.inv.chgO hc2 (λb hb=>(hp b hb).1) hag).subO hO;exact hR s' g' μ' w' hq ⟨hinv,hg.glob,hg.sz⟩ (hc.trans (hc2.mono λb hb ho=>(hnO b hb).elim (λh=>h ho) id)) hμ
theorem psp_of_awp {f n:Nat} {ac:AC} {rs:List AR} {args rets:List V} (hk:chkF P GL f n ac rs=true) (hn:args.length=n)
  (h:awp P GL ac (λe s=>(match e with| .exit _=>False|_=>True)∧resVs s rs=some rets) ⟨entry args,[]⟩):PSp P GL f args rets:=by
 unfold chkF at hk;split at hk
 ·rename_i fn hfn;simp only[Bool.and_eq_true]at hk;obtain⟨⟨⟨⟨hnm,hbody⟩,hres⟩,hnn⟩,_⟩:=hk;have hnt:args.length≤fn.ntmps:=by rw[hn];simpa using hnn
  split at hbody
  ·rename_i c hc;refine⟨by simp[okF,hfn,hc,hnm],λg w us hag hgl hall=>(callsIn_wide (n:=0)).1 ?_⟩;have hlen:us.length=args.length:=hall.1;refine callsIn_of_wp_marks hfn hc trivial ?_ rfl;have hinv:Gs GL fn.ntmps g w [] ⟨entry args,[]⟩ {tmps:=us.toArray++Array.replicate (fn.ntmps-us.toArray.size) undef,defers:=[]} (λb=>b <w.heap.size):=by
    refine⟨⟨hag,λb hb=>hb,λn=>?_,rfl,λr row b hr=>by simp at hr,λr r' b hr=>by simp at hr,λb hb=>by simp at hb,λp q b hp=>?_,λp b hp=>?_⟩,hgl,by simp;omega⟩
    ·simp only[find_entry];cases hx:args[n]? with
     |none=>simp[RepD,RepG,RepE]
     |some x=>
      obtain⟨v,hv,hr⟩:=hall.get hx;have hlt:=(List.getElem?_eq_some_iff.1 hv).1;have:(us.toArray++Array.replicate (fn.ntmps-us.toArray.size) undef).getD n undef=v:=by
       simp[Array.getElem?_append,hlt];exact(List.getElem?_eq_some_iff.1 hv).2
      simp only[Option.map_some,Option.getD_some,this];exact hr
    ·exfalso;cases p with
     |tmp n k=>
      simp only[blk,find_entry]at hp;cases hx:args[n]?<;>simp only[hx,Option.map_none,Option.map_some,Option.getD_none,Option.getD_some]at hp<;>cases k<;>simp[ownAt,own1]at hp
     |cell r k=>simp[blk,cellD,own1]at hp
    ·exfalso;cases p with
     |tmp n k=>
      simp only[blk,find_entry]at hp;cases hx:args[n]?<;>simp only[hx,Option.map_none,Option.map_some,Option.getD_none,Option.getD_some]at hp<;>cases k<;>simp[ownAt,own1]at hp
     |cell r k=>simp[blk,cellD,own1]at hp
   refine wpIn_mono (awp_sound (r:=none) ac hbody (.inl rfl) hinv h) ?_;rintro e a' w1 ⟨e1,he,haft⟩;have fin:(match e1 with| .exit _=>False|_=>True)→LeavesInM (WF none) 0 P fn a'.tmps (λe w'=>∃v g',e= .returned v∧RepD g' w' [] (retD rets) v∧Chg (λ_=>False) g w g' w'∧Agree g' w') a'.defers .returning w1:=by
    intro _;refine body_end rfl (λb hb=>hb) haft ?_;rintro s' g' μ' w' ⟨_,hrv⟩ hgs hch _;obtain⟨vs,hrun,hrep⟩:=results_run hgs hres hrv;have hresult:(results fn a'.tmps).run P w'= .ok (if h:vs.toArray.size=1 then vs.toArray[0] else .tuple vs.toArray) w':=by
     rw[results_eq,Array.mapM_eq_mapM_toList];simp only[Sem.run_bind,Sem.run_map];rw[hrun];rfl
    have hch':Chg (λ_=>False) g w g' w':=⟨hch.le,hch.size,λb hb _=>hch.heap b hb (λh=>h hb),λb hb _=>hch.gh b hb (λh=>h hb),hch.os,hch.out⟩;exact⟨_,hresult,_,g',rfl,retD_of hrep,hch',hgs.inv.agree⟩
   cases e1 with
   |normal=>cases e<;>simp only[ExOK]at he;exact fin trivial
   |exit i=>obtain⟨_,_,_,_,⟨hnx,_⟩,_⟩:=haft;exact hnx.elim
   |ret=>cases e<;>simp only[ExOK]at he;exact fin trivial
  ·cases hbody
 ·cases hk
theorem find_entryD_from:∀(args:List D) (k n:Nat),find ((args.zipIdx k).map λp=>(p.2,p.1)) n=if k≤n then (args[n-k]?).getD .any else .any
 |[],k,n=>by simp[find]
 |x::xs,k,n=>by
  simp only[List.zipIdx_cons,List.map_cons,find];by_cases h:k=n
  ·subst h;simp
  ·rw[if_neg h,find_entryD_from xs (k+1) n];by_cases h2:k+1≤n
   ·rw[if_pos h2,if_pos (by omega),show n-k=(n-(k+1))+1 by omega,List.getElem?_cons_succ]
   ·rw[if_neg h2,if_neg (by omega)]
theorem find_entryD (args:List D) (n:Nat):find (entryD args) n=(args[n]?).getD .any:=by
 have:=find_entryD_from args 0 n;simpa[entryD]using this
theorem keep_rep {g:Gh} {w:World} {μ:List Nat} {d:D} {u:Value} (h:RepD g w μ d u):RepG g w μ d.keep u:=by
 have:=h.arg;cases d<;>first
  |exact h
  |exact this
theorem keep_own (d:D) (u:Value) (b:Nat) (h:own1 d.keep u=some b):ownAt d u 0=some b:=by
 cases d<;>first
  |(simp only[D.keep]at h;rw[own1_arg]at h;cases h;done)
  |exact h
theorem arD_run {g:Gh} {w:World} {μ:List Nat} {s:St} {a:Act} {O:Nat→Prop} {N:Nat} (hg:Gs GL N g w μ s a O) {rv:ResultVar} {r:AR} (hk:chkR P rv r=true) {x:D} (hx:r.d s=some x):
  ∃v,(arRun a.tmps rv).run P w= .ok v w∧RepG g w μ x v∧∀b,own1 x v=some b→∃n,r= .t n∧ownAt (find s.e n) (a.tmps.getD n undef) 0=some b:=by
 cases rv with
 |tmp t=>
  cases r with
  |t n=>
   have:t=n:=by simpa[chkR]using hk
   subst this;simp only[AR.d,Option.some.injEq]at hx;subst hx;exact⟨_,rfl,keep_rep (hg.inv.rep t),λb hb=>⟨t,rfl,keep_own _ _ _ hb⟩⟩
  |c n sz ag=>simp[chkR]at hk
 |cell b t=>
  cases r with
  |t n=>simp[chkR]at hk
  |c n sz ag=>
   simp only[chkR,Bool.and_eq_true,beq_iff_eq]at hk;obtain⟨⟨⟨rfl,hs⟩,hag⟩,h1⟩:=hk;simp only[AR.d,Option.bind_eq_some_iff]at hx;obtain⟨d,hd,hdx⟩:=hx;have hxe:d.arg=x:=by
    cases hq:d.arg<;>rw[hq]at hdx<;>simp[D.one?]at hdx<;>exact hdx
   subst hxe;have:=load_ok (P:=P) (GL:=GL) (a:= .tmp b) (a':= .t b false) (t:=t) (by simp[oe]) hs hag h1 (hg.gd P) hd
    {(default:Oper)with op:= .load t (.tmp b)} rfl
   obtain⟨v,hrun,hrep,_⟩:=this;refine⟨v,?_,hrep.arg,λb' hb'=>by rw[own1_arg]at hb';cases hb'⟩;have hev:a.eval (.tmp b)=a.tmps.getD b undef:=rfl;simp only[execOp,Instr.loadAt,hev,Sem.run_bind,Sem.run_map]at hrun;simp only[arRun,Sem.run_bind];cases hp:a.tmps.getD b undef with
   |pointer p=>
    cases p with
    |none=>simp[hp,Instr.sureAddr]at hrun
    |some p=>
     simp only[hp,Instr.sureAddr,Sem.run_pure,Result.andThen_ok,asAddr]at hrun ⊢;cases hl:(loadVar t p).run P w with
     |ok v' w'=>simp[hl]at hrun;obtain⟨rfl,rfl⟩:=hrun;rfl
     |halt h w'=>simp[hl]at hrun
   |_=>simp[hp,Instr.sureAddr]at hrun
theorem resultsD_run {g:Gh} {w:World} {μ:List Nat} {s:St} {a:Act} {O:Nat→Prop} {N:Nat} (hg:Gs GL N g w μ s a O):∀ {rvs:List ResultVar} {rs:List AR} {xs:List D},zipOK (chkR P) rvs rs=true→resDs s rs=some xs→
  ∃vs:List Value,(rvs.mapM (arRun a.tmps)).run P w= .ok vs w∧All2 (RepG g w μ) xs vs∧∀(k:Nat) d v b,xs[k]?=some d→vs[k]?=some v→own1 d v=some b→∃n,rs[k]?=some (.t n)∧ownAt (find s.e n) (a.tmps.getD n undef) 0=some b
 |[],[],xs,_,h=>by
  simp only[resDs,Option.some.injEq]at h;subst h;exact⟨[],rfl,.nil,λi d v b h=>by simp at h⟩
 |rv::rvs,r::rs,xs,hk,h=>by
  simp only[zipOK,Bool.and_eq_true]at hk;simp only[resDs]at h;split at h
  ·rename_i y ys hy hys;simp only[Option.some.injEq]at h;subst h;obtain⟨v,h1,h2,h2'⟩:=arD_run hg hk.1 hy;obtain⟨vs,h3,h4,h4'⟩:=resultsD_run hg hk.2 hys;refine⟨v::vs,?_,.cons h2 h4,λi d u b hd hu hb=>?_⟩
   ·rw[List.mapM_cons,Sem.run_bind,h1,Result.andThen_ok,Sem.run_bind,h3];rfl
   ·cases i with
    |zero=>
     simp at hd hu;subst hd;subst hu;obtain⟨n,rfl,h⟩:=h2' b hb;exact⟨n,rfl,h⟩
    |succ i=>exact h4' i d u b (by simpa using hd) (by simpa using hu) hb
  ·cases h
 |[],_::_,_,hk,_=>by simp[zipOK]at hk
 |_::_,[],_,hk,_=>by simp[zipOK]at hk
theorem retDs_of {g:Gh} {w:World} {μ:List Nat} {xs:List D} {vs:List Value} (h:All2 (RepG g w μ) xs vs):
  RepD g w μ (retDs xs) (if h:vs.toArray.size=1 then vs.toArray[0] else .tuple vs.toArray)∧
   ∀k b,ownAt (retDs xs) (if h:vs.toArray.size=1 then vs.toArray[0] else .tuple vs.toArray) k=some b→∃d v,xs[k]?=some d∧vs[k]?=some v∧own1 d v=some b:=by
 unfold retDs;split
 ·rename_i x;have hl:=h.1
  match vs,hl with
  |[v],_=>
   simp only[List.size_toArray,List.length_cons,List.length_nil,dite_true];have hx:=(All2.cons_iff.1 h).1;refine⟨hx.toD,λk b hb=>?_⟩;have hnt:∀ds,x≠ .tup ds:=λds he=>by subst he;exact hx.elim
   cases k with
   |zero=>
    refine⟨x,v,rfl,rfl,?_⟩;cases x<;>first
     |exact hb
     |exact absurd rfl (hnt _)
   |succ k=>
    exfalso;cases x<;>first
     |(simp[ownAt]at hb;done)
     |exact absurd rfl (hnt _)
 ·rename_i hne;have hl:¬vs.toArray.size=1:=by
   intro h1;have:xs.length=1:=by rw[←h.1];simpa using h1
   match xs,this with
   |[x],_=>exact hne x rfl
  rw[dif_neg hl];refine⟨⟨vs,rfl,h⟩,λk b hb=>?_⟩;simp only[ownAt,List.toList_toArray]at hb;cases hx:xs[k]? with
  |none=>simp[hx,own1]at hb
  |some x=>
   obtain⟨v,hv,_⟩:=h.get hx;simp only[hx,hv,Option.getD_some]at hb;exact⟨x,v,rfl,hv,hb⟩
theorem arTmps_mem:∀ {rs:List AR} {k n:Nat},rs[k]?=some (.t n)→n∈arTmps rs
 |[],k,n,h=>by simp at h
 | .t m::rs,0,n,h=>by simp at h;simp[arTmps,h]
 | .t m::rs,k+1,n,h=>by simp only[arTmps,List.mem_cons];exact .inr (arTmps_mem (rs:=rs) (k:=k) (by simpa using h))
 | .c _ _ _::rs,0,n,h=>by simp at h
 | .c _ _ _::rs,k+1,n,h=>by simp only[arTmps];exact arTmps_mem (rs:=rs) (k:=k) (by simpa using h)
theorem arTmps_inj:∀ {rs:List AR},(arTmps rs).Nodup→∀ {k k' n:Nat},rs[k]?=some (.t n)→rs[k']?=some (.t n)→k=k'
 |[],_,k,k',n,h,_=>by simp at h
 | .t m::rs,hd,k,k',n,h,h'=>by
  simp only[arTmps,List.nodup_cons]at hd;cases k with
  |zero=>cases k' with
   |zero=>rfl
   |succ k'=>
    simp at h;subst h;exact absurd (arTmps_mem (rs:=rs) (k:=k') (by simpa using h')) hd.1
  |succ k=>cases k' with
   |zero=>
    simp at h';subst h';exact absurd (arTmps_mem (rs:=rs) (k:=k) (by simpa using h)) hd.1
   |succ k'=>rw[arTmps_inj hd.2 (k:=k) (k':=k') (by simpa using h) (by simpa using h')]
 | .c _ _ _::rs,hd,k,k',n,h,h'=>by
  simp only[arTmps]at hd;cases k with
  |zero=>simp at h
  |succ k=>cases k' with
   |zero=>simp at h'
   |succ k'=>rw[arTmps_inj hd (k:=k) (k':=k') (by simpa using h) (by simpa using h')]
theorem ret_inv {g:Gh} {w:World} {μ:List Nat} {t:Nat→D} {u:Nat→Value} {h:List Row} {O:Nat→Prop} (hi:Inv g w μ t u h O) {rs:List AR} (hnd:(arTmps rs).Nodup) {x:D} {v:Value} (hx:RepD g w μ x v)
  (ho:∀k b,ownAt x v k=some b→∃n,rs[k]?=some (.t n)∧ownAt (t n) (u n) 0=some b):Inv g w μ (at0 .any x) (at0 (.bool false) v) h O:=by
 refine hi.upd (Chg.refl (λ_=>False) g w) hi.agree (λn=>?_) hi.len hi.rows hi.nod (λb hb=> .inl hb)
  (λp=>match p with| .tmp 0 k=>(match rs[k]? with|some (.t n)=>some (.tmp n 0)|_=>none)| .tmp (_+1) _=>none| .cell r k=>some (.cell r k)) ?_ (.tmp 0 0) ?_
 ·simp only[at0];split
  ·exact hx
  ·trivial
 ·intro p q z hp hq;cases p with
  |tmp n k=>
   cases n with
   |succ n=>cases hp
   |zero=>
    simp only at hp;split at hp
    ·rename_i n hn;simp only[Option.some.injEq]at hp;subst hp;cases q with
     |tmp n' k'=>
      cases n' with
      |succ n'=>cases hq
      |zero=>
       simp only at hq;split at hq
       ·rename_i n' hn';simp only[Option.some.injEq,Pl.tmp.injEq,and_true]at hq;subst hq;rw[arTmps_inj hnd hn hn']
       ·cases hq
     |cell r k'=>simp at hq
    ·cases hp
  |cell r k=>
   simp only[Option.some.injEq]at hp;subst hp;cases q with
   |tmp n' k'=>
    cases n' with
    |succ n'=>cases hq
    |zero=>
     simp only at hq;split at hq
     ·simp at hq
     ·cases hq
   |cell r' k'=>simpa[eq_comm]using hq
 ·intro p b hb;refine .inl ?_;cases p with
  |tmp n k=>
   cases n with
   |succ n=>simp only[blk,at0]at hb;cases k<;>simp[ownAt,own1]at hb
   |zero=>
    have hb':ownAt x v k=some b:=by simpa[blk,at0]using hb
    obtain⟨n,hn,hbn⟩:=ho k b hb';exact⟨.tmp n 0,by simp only[hn],hbn⟩
  |cell r k=>exact⟨.cell r k,rfl,hb⟩
theorem calls_core {f n:Nat} {ac:AC} {rs:List AR} {args rets:List D} {h h':List Row} (hk:chkF P GL f n ac rs=true) (hn:args.length=n)
  (hw:awp P GL ac (λe s=>(match e with| .exit _=>False|_=>True)∧∃y,resDs s rs=some y∧∀g w μ v O,Inv g w μ (at0 .any (retDs y)) (at0 (.bool false) v) s.h O→
   ∃g2 μ2,(∀μ0:List Nat,μ0.length=h.length→μ0 <+: μ→μ0 <+: μ2)∧Inv g2 w μ2 (at0 .any (retDs rets)) (at0 (.bool false) v) h' O∧Chg (λb=>¬O b) g w g2 w) ⟨entryD args,h⟩):
  okF P f=true∧∀(g:Gh) (w:World) (μ:List Nat) (us:List Value) (O:Nat→Prop),us.length=args.length→Inv g w μ (atL .any args) (atL undef us) h O→GlobOK GL g→
  Calls P f us.toArray w λe w'=>∃v g' μ',e= .returned v∧Inv g' w' μ' (at0 .any (retDs rets)) (at0 (.bool false) v) h' O∧Chg (λb=>¬O b) g w g' w'∧μ <+: μ':=by
 unfold chkF at hk;split at hk
 ·rename_i fn hfn;simp only[Bool.and_eq_true]at hk;obtain⟨⟨⟨⟨hnm,hbody⟩,hres⟩,hnn⟩,hndp⟩:=hk;have hndp:(arTmps rs).Nodup:=by simpa using hndp
  have hnt:args.length≤fn.ntmps:=by rw[hn];simpa using hnn
  split at hbody
  ·rename_i c hc;refine⟨by simp[okF,hfn,hc,hnm],λg w μ us O hlen hinv0 hgl=>(callsIn_wide (n:=0)).1 ?_⟩;refine callsIn_of_wp_marks hfn hc trivial ?_ rfl;have hu:(λn=>(us.toArray++Array.replicate (fn.ntmps-us.toArray.size) undef).getD n undef)=atL undef us:=by
    funext n
    by_cases hlt:n <us.length
    ·simp[atL,Array.getElem?_append,hlt]
    ·have e2:(us.toArray++Array.replicate (fn.ntmps-us.toArray.size) undef)[n]?.getD undef=undef:=by
      rw[Array.getElem?_append_right (by simpa using hlt),Array.getElem?_replicate];split<;>rfl
     have e3:atL undef us n=undef:=by simp[atL,List.getElem?_eq_none (Nat.le_of_not_lt hlt)]
     rw[e3,Array.getD_eq_getD_getElem?];exact e2
   have hinv:Gs GL fn.ntmps g w μ ⟨entryD args,h⟩ {tmps:=us.toArray++Array.replicate (fn.ntmps-us.toArray.size) undef,defers:=[]} O:=by
    refine⟨?_,hgl,by simp;omega⟩;show Inv g w μ (find (entryD args)) (λn=>(us.toArray++Array.replicate (fn.ntmps-us.toArray.size) undef).getD n undef) h O;rw[hu,show find (entryD args)=atL .any args from funext (find_entryD args)];exact hinv0
   refine wpIn_mono (awp_sound (r:=none) ac hbody (.inl rfl) hinv hw) ?_;rintro e a' w1 ⟨e1,he,haft⟩;have fin:(match e1 with| .exit _=>False|_=>True)→LeavesInM (WF none) 0 P fn a'.tmps (λe w'=>∃v g' μ',e= .returned v∧Inv g' w' μ' (at0 .any (retDs rets)) (at0 (.bool false) v) h' O∧Chg (λb=>¬O b) g w g' w'∧μ <+: μ') a'.defers .returning w1:=by
    intro _;refine body_end rfl hinv.inv.olt haft ?_;rintro s' g' μ' w' ⟨_,y,hrv,hweak⟩ hgs hch hμ;obtain⟨vs,hrun,hrep,hown⟩:=resultsD_run hgs hres hrv;have hresult:(results fn a'.tmps).run P w'= .ok (if h:vs.toArray.size=1 then vs.toArray[0] else .tuple vs.toArray) w':=by
     rw[results_eq,Array.mapM_eq_mapM_toList];simp only[Sem.run_bind,Sem.run_map];rw[hrun];rfl
    obtain⟨r1,r2⟩:=retDs_of hrep;have hret:=ret_inv hgs.inv hndp r1 (λk b hb=>by
     obtain⟨d,v,hd,hv,ho⟩:=r2 k b hb;exact hown k d v b hd hv ho)
    obtain⟨g2,μ2,hμ2,hinv2,hch2⟩:=hweak _ _ _ _ _ hret;exact⟨_,hresult,_,g2,μ2,rfl,hinv2,hch.trans hch2,hμ2 μ hinv0.len hμ⟩
   cases e1 with
   |normal=>cases e<;>simp only[ExOK]at he;exact fin trivial
   |exit i=>obtain⟨_,_,_,_,⟨hnx,_⟩,_⟩:=haft;exact hnx.elim
   |ret=>cases e<;>simp only[ExOK]at he;exact fin trivial
  ·cases hbody
 ·cases hk
end
attribute [simp] Opd.moved awpI awpCall AI.step AI.dst setO Opd.ev Opd.clear find D.copy PI.val V.bin D.isNil D.isNilP bndI D.cells? fillD capsOf D.isCap D.toRow D.toRowX toVs toCells ownOf normE D.toV D.v? D.vs? resVs AR.val V.part D.part V.getI retD
section
variable {P:Program} {GL:Globals}
@[simp] theorem awpOps_nil (K:St→Prop) (s:St):awpOps P GL [] K s=K s:=rfl
@[simp] theorem awpOps_plain (i:AI) (rest:List GI) (K:St→Prop) (s:St):awpOps P GL (⟨none,i⟩::rest) K s=awpI P GL i (awpOps P GL rest K) s:=rfl
@[simp] theorem awpOps_guard (t:Nat) (want:Bool) (i:AI) (rest:List GI) (K:St→Prop) (s:St):awpOps P GL (⟨some (t,want),i⟩::rest) K s=
  match find s.e t with
  | .v (.bool b)=>if b=want then awpI P GL i (awpOps P GL rest K) s else awpOps P GL rest K ⟨setO s.e i.dst (.tup []),s.h⟩
  | .tup []=>awpOps P GL rest K ⟨setO s.e i.dst (.tup []),s.h⟩
  |_=>False:=rfl
def awpJI (P:Program) (GL:Globals) (i:AI) (K:St→Prop) (s:St):Prop:=
 match i with
 | .call d f args=>∃fid caps vs rets,(f.ev s.e).toV=some (.func fid caps)∧toVs s.e args=some vs∧PSp P GL fid (vs++caps) rets∧K ⟨setO s.e d (retD rets),s.h⟩
 | .callF d f args=>awpCall P GL d f args K s
 | .callC d f args=>awpCall P GL d f args (λs'=>(∃t,s'.h=s.h++t)∧K s') s
 | .callO d f q args=>∃fid rets,fnOf (f.ev s.e)=some (fid,[])∧OSp P GL fid (q.ev s.e::argsOf s.e args) rets∧K ⟨setO (q.clear s.e) d (retDs rets),s.h⟩
 |i=>match i.step s with
  |some s'=>K s'
  |none=>False
def awpJ (P:Program) (GL:Globals) (ops:List GI) (K:St→Prop) (s:St):Prop:=∃s',runJ P GL ops s s'∧K s'
theorem callS_of {d:Option Nat} {f:Opd} {args:List Opd} {K:St→Prop} {s:St} (h:awpCall P GL d f args K s):∃rets h',CallS P GL (f.ev s.e) (argsOf s.e args) s.h rets h'∧K ⟨setO s.e d (retDs rets),h'⟩:=by
 unfold awpCall at h;split at h
 ·rename_i r hf;obtain⟨b,h',hy,hK⟩:=h;exact⟨[.v (.bool b)],h',by simp only[CallS,hf];exact⟨b,hy,rfl⟩,hK⟩
 ·rename_i fid fs hf;obtain⟨rets,h',hs,hK⟩:=h;exact⟨rets,h',by simp only[CallS,hf];exact hs,hK⟩
 ·rename_i h1 h2;split at h
  ·rename_i fid caps hf;obtain⟨rets,h',hs,hK⟩:=h;refine⟨rets,h',?_,hK⟩;unfold CallS;split
   ·rename_i r hr;exact absurd hr (h1 r)
   ·rename_i a b hr;exact absurd hr (h2 a b)
   ·exact⟨fid,caps,hf,hs⟩
  ·exact h.elim
theorem stepJ_iff {i:AI} {K:St→Prop} {s:St}:(∃s1,stepJ P GL i s s1∧K s1)↔awpJI P GL i K s:=by
 constructor
 ·rintro⟨s1,h|⟨d,f,args,fid,caps,vs,rets,rfl,hf,hv,hp,rfl⟩|⟨d,f,args,rets,h',hi,hc,rfl⟩|⟨d,f,q,args,fid,rets,rfl,hf,hp,rfl⟩,hK⟩
  ·unfold awpJI;split
   ·cases h
   ·cases h
   ·cases h
   ·cases h
   ·rw[h];exact hK
  ·exact⟨fid,caps,vs,rets,hf,hv,hp,hK⟩
  ·have key:∀K:St→Prop,K ⟨setO s.e d (retDs rets),h'⟩→awpCall P GL d f args K s:=by
    intro K hK;simp only[awpCall];unfold CallS at hc;split at hc
    ·rename_i r hf;obtain⟨b,hy,rfl⟩:=hc
     first|(rw[hf];exact⟨b,h',hy,hK⟩)|exact⟨b,h',hy,hK⟩
    ·rename_i fid fs hf
     first|(rw[hf];exact⟨rets,h',hc,hK⟩)|exact⟨rets,h',hc,hK⟩
    ·rename_i h1 h2;obtain⟨fid,caps,hf,hs⟩:=hc
     first
      |(simp only[hf];exact⟨rets,h',hs,hK⟩)
      |(split
        ·rename_i r hr;exact absurd hr (h1 r)
        ·rename_i a b hr;exact absurd hr (h2 a b)
        ·simp only[hf];exact⟨rets,h',hs,hK⟩)
   rcases hi with rfl|⟨rfl,ht⟩
   ·exact key K hK
   ·exact key (λs'=>(∃t,s'.h=s.h++t)∧K s') ⟨ht,hK⟩
  ·exact⟨fid,rets,hf,hp,hK⟩
 ·intro h;unfold awpJI at h;split at h
  ·rename_i d f args;obtain⟨fid,caps,vs,rets,hf,hv,hp,hK⟩:=h;exact⟨_,.inr (.inl ⟨d,f,args,fid,caps,vs,rets,rfl,hf,hv,hp,rfl⟩),hK⟩
  ·rename_i d f args;obtain⟨rets,h',hc,hK⟩:=callS_of h;exact⟨_,.inr (.inr (.inl ⟨d,f,args,rets,h',.inl rfl,hc,rfl⟩)),hK⟩
  ·rename_i d f args;obtain⟨rets,h',hc,hq⟩:=callS_of (K:=λs'=>(∃t,s'.h=s.h++t)∧K s') h;obtain⟨ht,hK⟩:=hq;exact⟨_,.inr (.inr (.inl ⟨d,f,args,rets,h',.inr ⟨rfl,ht⟩,hc,rfl⟩)),hK⟩
  ·rename_i d f q args;obtain⟨fid,rets,hf,hp,hK⟩:=h;exact⟨_,.inr (.inr (.inr ⟨d,f,q,args,fid,rets,rfl,hf,hp,rfl⟩)),hK⟩
  ·split at h
   ·rename_i s' hs;exact⟨s',.inl hs,h⟩
   ·exact h.elim
@[simp] theorem awpJ_nil (K:St→Prop) (s:St):awpJ P GL [] K s↔K s:=⟨λ⟨_,h,hK⟩=>by cases h;exact hK,λh=>⟨s,rfl,h⟩⟩
@[simp] theorem awpJ_plain (i:AI) (rest:List GI) (K:St→Prop) (s:St):awpJ P GL (⟨none,i⟩::rest) K s↔awpJI P GL i (awpJ P GL rest K) s:=by
 rw[←stepJ_iff]
 constructor
 ·rintro⟨t,⟨s1,h1,h2⟩,hK⟩;exact⟨s1,h1,t,h2,hK⟩
 ·rintro⟨s1,h1,t,h2,hK⟩;exact⟨t,⟨s1,h1,h2⟩,hK⟩
@[simp] theorem awpJ_guard (t:Nat) (want:Bool) (i:AI) (rest:List GI) (K:St→Prop) (s:St):awpJ P GL (⟨some (t,want),i⟩::rest) K s↔
  match find s.e t with
  | .v (.bool b)=>if b=want then awpJI P GL i (awpJ P GL rest K) s else awpJ P GL rest K ⟨setO s.e i.dst (.tup []),s.h⟩
  | .tup []=>awpJ P GL rest K ⟨setO s.e i.dst (.tup []),s.h⟩
  |_=>False:=by
 have h0:awpJ P GL (⟨some (t,want),i⟩::rest) K s↔∃s1,gstepJ P GL ⟨some (t,want),i⟩ s s1∧awpJ P GL rest K s1:=by
  constructor
  ·rintro⟨t,⟨s1,h1,h2⟩,hK⟩;exact⟨s1,h1,t,h2,hK⟩
  ·rintro⟨s1,h1,t,h2,hK⟩;exact⟨t,⟨s1,h1,h2⟩,hK⟩
 rw[h0];simp only[gstepJ];cases hf:find s.e t with
 |v x=>
  cases x with
  |bool b=>
   simp only[];by_cases hw:b=want
   ·simp only[hw,if_true];exact stepJ_iff
   ·simp only[hw,if_false];exact⟨λ⟨_,h1,h2⟩=>h1▸h2,λh=>⟨_,rfl,h⟩⟩
  |_=>simp only[];exact⟨λ⟨_,h1,_⟩=>h1,λh=>h.elim⟩
 |tup ds=>
  cases ds with
  |nil=>simp only[];exact⟨λ⟨_,h1,h2⟩=>h1▸h2,λh=>⟨_,rfl,h⟩⟩
  |cons d ds=>simp only[];exact⟨λ⟨_,h1,_⟩=>h1,λh=>h.elim⟩
 |_=>simp only[];exact⟨λ⟨_,h1,_⟩=>h1,λh=>h.elim⟩
attribute [simp] awpJI
theorem awp_regD (ops:List GI) (keep:List Nat) (cl:List (List Nat)) (Q:AExit→St→Prop) (s:St):awp P GL (.regD ops keep cl) Q s=awpJ P GL ops (λs'=>Q .normal ⟨normE s'.e keep,s'.h⟩) s:=rfl
theorem awp_regA (ops:List GI) (keep:List Nat) (cl:List (List Nat)) (t:AT) (Q:AExit→St→Prop) (s:St):awp P GL (.regA ops keep cl t) Q s=t.ok P GL ops (λs'=>∃s2,RenS s.h.length s' s2∧Q .normal ⟨normE s2.e keep,s2.h⟩) s:=rfl
@[simp] theorem atok_done (is:List GI) (K:St→Prop) (s:St):AT.done.ok P GL is K s=K s:=rfl
@[simp] theorem atok_take (is:List GI) (i:Nat) (t:AT) (K:St→Prop) (s:St):(AT.take i t).ok P GL is K s↔awpJ P GL [is.getD i default] (t.ok P GL is K) s:=
 ⟨λ⟨s1,h1,h2⟩=>⟨s1,⟨s1,h1,rfl⟩,h2⟩,λ⟨s1,⟨s2,h1,h2⟩,h3⟩=>by cases h2;exact⟨_,h1,h3⟩⟩
@[simp] theorem atok_pick (is:List GI) (c:AT) (K:St→Prop) (s:St):(AT.pick c).ok P GL is K s=c.ok P GL is K s:=rfl
@[simp] theorem atok_alt (is:List GI) (i:Nat) (t r:AT) (K:St→Prop) (s:St):(AT.alt i t r).ok P GL is K s↔awpJ P GL [is.getD i default] (t.ok P GL is K) s∧r.ok P GL is K s:=
 ⟨λ⟨⟨s1,h1,h2⟩,h⟩=>⟨⟨s1,⟨s1,h1,rfl⟩,h2⟩,h⟩,λ⟨⟨s1,⟨s2,h1,h2⟩,h3⟩,h⟩=>by cases h2;exact⟨⟨_,h1,h3⟩,h⟩⟩
@[simp] theorem atok_none (is:List GI) (K:St→Prop) (s:St):AT.none.ok P GL is K s=True:=rfl
theorem atok_mono {is:List GI} (t:AT):∀ {K K':St→Prop} {s:St},(∀s,K s→K' s)→t.ok P GL is K s→t.ok P GL is K' s:=by
 induction t with
 |done=>intro K K' s hk h;exact hk _ h
 |take i t ih=>rintro K K' s hk ⟨s1,h1,h2⟩;exact⟨s1,h1,ih hk h2⟩
 |pick c ih=>intro K K' s hk h;exact ih (s:=s) hk h
 |alt i t r iht ihr=>rintro K K' s hk ⟨⟨s1,h1,h2⟩,h⟩;exact⟨⟨s1,h1,iht hk h2⟩,ihr hk h⟩
 |none=>intro K K' s hk h;trivial
theorem awp_reg (ops:List GI) (keep:List Nat) (Q:AExit→St→Prop) (s:St):awp P GL (.reg ops keep) Q s=awpOps P GL ops (λs'=>Q .normal ⟨normE s'.e keep,s'.h⟩) s:=rfl
theorem awp_seq (a b:AC) (Q:AExit→St→Prop) (s:St):awp P GL (.seq a b) Q s=awp P GL a (λe s'=>match e with| .normal=>awp P GL b Q s'|e=>Q e s') s:=rfl
theorem awp_cond (x:Opd) (a b:AC) (Q:AExit→St→Prop) (s:St):awp P GL (.cond x a b) Q s=match x.ev s.e with| .v (.bool t)=>if t then awp P GL a Q s else awp P GL b Q s|_=>False:=rfl
theorem awp_block (id:Nat) (c:AC) (Q:AExit→St→Prop) (s:St):awp P GL (.block id c) Q s=awp P GL c (λe s'=>match e with| .exit id'=>if id'=id then Q .normal s' else Q (.exit id') s'|e=>Q e s') s:=rfl
theorem awp_skip (Q:AExit→St→Prop) (s:St):awp P GL .skip Q s=Q .normal s:=rfl
theorem awp_exit (id:Nat) (Q:AExit→St→Prop) (s:St):awp P GL (.exit id) Q s=Q (.exit id) s:=rfl
theorem awp_ret (Q:AExit→St→Prop) (s:St):awp P GL .ret Q s=Q .ret s:=rfl
theorem awp_rangeF (q:Opd) (ps:List Nat) (asg body:AC) (Q:AExit→St→Prop) (s:St):awp P GL (.rangeF q ps asg body) Q s=
  ∃fid caps rets h' tag,fnOf (q.ev s.e)=some (fid,caps)∧FSp P GL fid (.yld s.h.length::caps) (s.h++[recRow P GL .ready (cpE s.e) ps asg body]) rets h'∧
   h'[s.h.length]?=some (recRow P GL tag (cpE s.e) ps asg body)∧rangeEnd Q ⟨s.e,h'.set s.h.length .dead⟩ tag:=rfl
theorem awp_regV (ops:List GI) (keep:List Nat) (cl:List (List Nat)) (Q:AExit→St→Prop) (s:St):awp P GL (.regV ops keep cl) Q s=AnyD P GL ops cl (λs'=>Q .normal ⟨normE s'.e keep,s'.h⟩) ops.length (List.range ops.length) s:=rfl
theorem awpI_mono {i:AI} {K K':St→Prop} {s:St} (hk:∀s,K s→K' s) (h:awpI P GL i K s):awpI P GL i K' s:=by
 have hcall:∀ {d f args},awpCall P GL d f args K s→awpCall P GL d f args K' s:=by
  intro d f args h;unfold awpCall at h ⊢;split at h
  ·obtain⟨a,b,h1,h3⟩:=h;exact⟨a,b,h1,hk _ h3⟩
  ·obtain⟨a,b,h1,h3⟩:=h;exact⟨a,b,h1,hk _ h3⟩
  ·split at h
   ·obtain⟨a,b,h1,h3⟩:=h;exact⟨a,b,h1,hk _ h3⟩
   ·exact h
 unfold awpI at h ⊢;split at h
 ·exact hcall h
 ·exact hcall h
 ·exact hcall h
 ·obtain⟨a,b,h1,h2,h3⟩:=h;exact⟨a,b,h1,h2,hk _ h3⟩
 ·split at h
  ·exact⟨h.1,h.2.1,λb=>hk _ (h.2.2 b)⟩
  ·exact h
 ·split at h
  ·split at h
   ·split at h
    ·exact hk _ h
    ·exact h
   ·exact hk _ h
   ·exact h
  ·rcases h with ⟨r,h1,h2,h3⟩|⟨r,q,c,seen,es,st,h1,h2,h3,h4,h5⟩
   ·exact .inl ⟨r,h1,h2,hk _ h3⟩
   exact .inr ⟨r,q,c,seen,es,st,h1,h2,h3,λh=>hk _ (h4 h),λi y kv a1 a2 a3=>hk _ (h5 i y kv a1 a2 a3)⟩
  ·obtain⟨r,q,c,seen,es,st,i,y,kv,h1,h2,h3,h4,h5,h6⟩:=h;exact⟨r,q,c,seen,es,st,i,y,kv,h1,h2,h3,h4,h5,hk _ h6⟩
  ·exact h
 ·obtain⟨a,b,c,h1,h2,h3⟩:=h;exact⟨a,b,c,h1,h2,hk _ h3⟩
 ·split at h
  ·refine⟨h.1,h.2.1,?_⟩;rcases h.2.2 with ⟨h1,h2⟩|h
   ·exact .inl ⟨h1,hk _ h2⟩
   ·refine .inr ?_;split at h
    ·rename_i hy;rw[if_pos hy];exact hk _ h
    ·rename_i hy;rw[if_neg hy];exact hk _ h
  ·refine⟨h.1,h.2.1,?_⟩;rcases h.2.2 with ⟨h1,h2,h3⟩|h
   ·exact .inl ⟨h1,h2,hk _ h3⟩
   ·refine .inr ⟨h.1,?_⟩;have h:=h.2;split at h
    ·rename_i hy;rw[if_pos hy];exact hk _ h
    ·rename_i hy;rw[if_neg hy];exact hk _ h
  ·exact hk _ h
  ·exact h
 ·split at h
  ·exact hk _ h
  ·exact hk _ h
  ·split at h
   ·obtain⟨h0,xs,h1,h2,h3,h4⟩:=h;exact⟨h0,xs,h1,h2,h3,hk _ h4⟩
   ·exact h
  ·exact h
 ·split at h
  ·exact⟨hk _ h.1,hk _ h.2⟩
  ·exact⟨hk _ h.1,hk _ h.2⟩
  ·exact hk _ h
  ·exact h
 ·split at h
  ·exact hk _ h
  ·exact h
theorem awpG_mono {x:GI} {K K':St→Prop} {s:St} (hk:∀s,K s→K' s) (h:awpG P GL x K s):awpG P GL x K' s:=by
 unfold awpG at h ⊢;split at h
 ·exact awpI_mono hk h
 ·split at h
  ·split at h
   ·rename_i hw;rw[if_pos hw];exact awpI_mono hk h
   ·rename_i hw;rw[if_neg hw];exact hk _ h
  ·exact hk _ h
  ·exact h
theorem awpOps_mono:∀ {ops:List GI} {K K':St→Prop} {s:St},(∀s,K s→K' s)→awpOps P GL ops K s→awpOps P GL ops K' s
 |[],_,_,_,hk,h=>hk _ h
 |x::rest,_,_,_,hk,h=>awpG_mono (λs h=>awpOps_mono hk h) h
theorem anyD_mono {is:List GI} {cl:List (List Nat)}:∀(n:Nat) {rem:List Nat} {K K':St→Prop} {s:St},(∀s,K s→K' s)→AnyD P GL is cl K n rem s→AnyD P GL is cl K' n rem s
 |0,_,_,_,s,hk,h=>hk s h
 |n+1,rem,_,_,s,hk,h=>λi hi hj=>awpG_mono (λs h=>anyD_mono n hk h) (h i hi hj)
theorem awp_mono:∀(c:AC) {Q Q':AExit→St→Prop} {s:St},(∀e s,Q e s→Q' e s)→awp P GL c Q s→awp P GL c Q' s:=by
 intro c;induction c with
 |skip=>intro Q Q' s hq h;exact hq _ _ h
 |reg ops keep=>intro Q Q' s hq h;exact awpOps_mono (λs h=>hq _ _ h) h
 |regA ops keep cl t=>intro Q Q' s hq h;exact atok_mono t (λs ⟨s2,h1,h2⟩=>⟨s2,h1,hq _ _ h2⟩) h
 |regV ops keep cl=>intro Q Q' s hq h;exact anyD_mono _ (λs h=>hq _ _ h) h
 |regD ops keep cl=>rintro Q Q' s hq ⟨t,h1,h2⟩;exact⟨t,h1,hq _ _ h2⟩
 |seq a b iha ihb=>
  intro Q Q' s hq h;refine iha ?_ h;intro e s h;cases e with
  |normal=>exact ihb hq h
  |exit i=>exact hq _ _ h
  |ret=>exact hq _ _ h
 |cond x a b iha ihb=>
  intro Q Q' s hq h;simp only[awp]at h ⊢;split at h
  ·rename_i t ht;cases t with
   |true=>exact iha hq h
   |false=>exact ihb hq h
  ·exact h
 |block id c ih=>
  intro Q Q' s hq h;refine ih ?_ h;intro e s h;cases e with
  |exit i=>simp only at h ⊢;split at h<;>rename_i hi<;>simp only[hi,if_true,if_false]<;>exact hq _ _ h
  |normal=>exact hq _ _ h
  |ret=>exact hq _ _ h
 |loop c ih=>
  intro Q Q' s hq h;obtain⟨I,h0,h⟩:=h;refine⟨I,h0,λm s hi=>ih ?_ (h m s hi)⟩;intro e s h;cases e with
  |normal=>exact h
  |exit i=>exact hq _ _ h
  |ret=>exact hq _ _ h
 |exit id=>intro Q Q' s hq h;exact hq _ _ h
 |ret=>intro Q Q' s hq h;exact hq _ _ h
 |scope c ih=>intro Q Q' s hq h;exact ih hq h
 |never=>intro Q Q' s hq h;exact h
 |rangeF q ps asg body _ _=>
  rintro Q Q' s hq ⟨fid,caps,rets,h',tag,h1,h2,h3,h4⟩;refine⟨fid,caps,rets,h',tag,h1,h2,h3,?_⟩;cases tag with
  |ready=>exact hq _ _ h4
  |busy=>exact h4
  |done e=>cases e<;>exact hq _ _ h4
theorem fsp_calls {f:Nat} {args rets:List D} {h h':List Row} (H:okF P f=true∧∀(g:Gh) (w:World) (μ:List Nat) (us:List Value) (O:Nat→Prop),us.length=args.length→Inv g w μ (atL .any args) (atL undef us) h O→GlobOK GL g→
  Calls P f us.toArray w λe w'=>∃v g' μ',e= .returned v∧Inv g' w' μ' (at0 .any (retDs rets)) (at0 (.bool false) v) h' O∧Chg (λb=>¬O b) g w g' w'∧μ <+: μ'):FSp P GL f args h rets h':=by
 obtain⟨h1,h2⟩:=H;refine⟨h1,λg w μ us O hinv hgl hall htame=>h2 g w μ us O hall.1 (hinv.enter (λn=>?_) (λn k=>?_)) hgl⟩
 ·simp only[atL];cases hx:args[n]? with
  |none=>simp[RepD,RepG,RepE]
  |some x=>
   obtain⟨v,hv,hr⟩:=hall.get hx;rw[hv];exact hr.toD
 ·simp only[atL];cases hx:args[n]? with
  |none=>cases k<;>simp[ownAt,own1]
  |some x=>
   obtain⟨v,hv,hr⟩:=hall.get hx;rw[hv];exact ownAt_of1 hr (htame n x v hx hv) k
theorem fsp_tidy {f n:Nat} {ac:AC} {rs:List AR} {args rets:List D} {h h':List Row} (hk:chkF P GL f n ac rs=true) (hn:args.length=n)
  (hw:awp P GL ac (λe s=>(match e with| .exit _=>False|_=>True)∧∃y,resDs s rs=some y∧∀g w μ t u O,Inv g w μ t u s.h O→y=rets∧Inv g w μ t u h' O) ⟨entryD args,h⟩):FSp P GL f args h rets h':=by
 refine fsp_calls (calls_core (rets:=rets) (h':=h') hk hn (awp_mono ac (λe s=>by
  rintro⟨h1,y,h2,h3⟩;exact⟨h1,y,h2,λg w μ v O hi=>⟨g,μ,λ_ _ h=>h,by obtain⟨rfl,h4⟩:=h3 _ _ _ _ _ _ hi;exact h4,Chg.refl _ _ _⟩⟩) hw))
theorem fsp_of_awp {f n:Nat} {ac:AC} {rs:List AR} {args rets:List D} {h h':List Row} (hk:chkF P GL f n ac rs=true) (hn:args.length=n)
  (hw:awp P GL ac (λe s=>(match e with| .exit _=>False|_=>True)∧resDs s rs=some rets∧s.h=h') ⟨entryD args,h⟩):FSp P GL f args h rets h':=by
 refine fsp_tidy hk hn ?_;have hm:∀e s,((match e with|AExit.exit _=>False|_=>True)∧resDs s rs=some rets∧s.h=h')→((match e with|AExit.exit _=>False|_=>True)∧∃y,resDs s rs=some y∧∀g w μ t u O,Inv g w μ t u s.h O→y=rets∧Inv g w μ t u h' O):=by
  rintro e s ⟨h1,h2,rfl⟩;exact⟨h1,rets,h2,λ_ _ _ _ _ _ hi=>⟨rfl,hi⟩⟩
 exact awp_mono ac hm hw
theorem osp_of_awp {f n:Nat} {ac:AC} {rs:List AR} {args rets:List D} (hk:chkF P GL f n ac rs=true) (hn:args.length=n)
  (hw:∀h,awp P GL ac (λe s=>(match e with| .exit _=>False|_=>True)∧resDs s rs=some rets∧s.h=h) ⟨entryD args,h⟩):OSp P GL f args rets:=by
 have key:∀h,_:=λh=>calls_core (h':=h) hk hn (awp_mono ac (λe s=>by
  rintro⟨h1,h2,rfl⟩;exact⟨h1,rets,h2,λg _ μ _ _ hi=>⟨g,μ,λ_ _ h=>h,hi,Chg.refl _ _ _⟩⟩) (hw h))
 exact⟨(key []).1,λg w μ us O h hl hi hg=>(key h).2 g w μ us O hl hi hg⟩
theorem awp_to {c:AC} {Q:AExit→St→Prop} {s s0:St} {e0:AExit} (h:awp P GL c (λe s=>e=e0∧s=s0) s) (hq:Q e0 s0):awp P GL c Q s:=
 awp_mono c (λe s h=>by obtain⟨rfl,rfl⟩:=h;exact hq) h
theorem awp_loop_nat {c:AC} {Q:AExit→St→Prop} (n:Nat) (S:Nat→St)
  (h:∀k,k≤n→awp P GL c (λe s'=>match e with| .normal=>k <n∧s'=S (k+1)|e=>Q e s') (S k)) (k:Nat) (hk:k≤n):awp P GL (.loop c) Q (S k):=by
 refine⟨λm s=>∃k,k≤n∧m=n-k∧s=S k,⟨n-k,k,hk,rfl,rfl⟩,?_⟩;rintro m s ⟨k,hk,rfl,rfl⟩;refine awp_mono c ?_ (h k hk);intro e s' h;cases e with
 |normal=>obtain⟨hlt,rfl⟩:=h;exact⟨n-(k+1),by omega,k+1,hlt,rfl,rfl⟩
 |exit i=>exact h
 |ret=>exact h
end
def mb (n:Nat):Nat:=Nat.shiftLeft 1 n
def mh (m n:Nat):Bool:=Nat.beq (Nat.land (Nat.shiftRight m n) 1) 1
def md (m n:Nat):Nat:=Nat.xor (Nat.lor m (mb n)) (mb n)
def mbs:Nat→Nat→Nat→List Nat
 |0,_,_=>[]
 |k+1,m,i=>bif Nat.beq m 0 then [] else bif Nat.beq (Nat.land m 1) 1 then i::mbs k (Nat.shiftRight m 1) (Nat.add i 1) else mbs k (Nat.shiftRight m 1) (Nat.add i 1)
def ml (m:Nat):List Nat:=mbs 500 m 0
def um:List Operand→Nat
 |[]=>0
 | .tmp t::l=>Nat.lor (mb t) (um l)
 |_::l=>um l
def usO (o:Oper):Nat:=um o.op.operands.toList
def nth {α:Type}:List α→Nat→Option α
 |[],_=>none
 |x::_,0=>some x
 |_::l,n+1=>nth l n
inductive Tr (α:Type) where
 |lf
 |nd (l:Tr α) (x:α) (r:Tr α)
def Tr.get {α:Type}:Tr α→Nat→Option α
 | .lf,_=>none
 | .nd l x r,n=>bif Nat.beq n 0 then some x else bif Nat.beq (Nat.land n 1) 1 then l.get (Nat.shiftRight n 1) else r.get (Nat.sub (Nat.shiftRight n 1) 1)
def odds {α:Type}:List α→List α
 |x::_::l=>x::odds l
 |l=>l
def Tr.mk {α:Type}:Nat→List α→Tr α
 |n+1,x::l=> .nd (Tr.mk n (odds l)) x (Tr.mk n (odds l.tail))
 |_,_=> .lf
inductive Bx (α:Type) where
 |mk {x:α}
inductive TD where
 |none
 |bool
 |int (k:IntKind)
 |string
 |pointer (e:Nat)
 |slice (e:Nat)
 |array (n e:Nat)
 |map (k e:Nat)
 |struct (fs:List (Nat×Nat))
 |ref
 |tuple (es:List Nat)
 |func
 |named (u:Nat)
structure TI where
 d:TD
 size:Nat
 bytes:Nat
def tiO (i:TypeInfo):TI:=⟨match i.desc with
 | .bool=> .bool
 | .int k=> .int k
 | .string=> .string
 | .pointer e=> .pointer e
 | .slice e=> .slice e
 | .array n e=> .array n e
 | .map k e=> .map k e
 | .struct fs=> .struct (fs.toList.map λf=>(f.offset,f.type))
 | .interface _=> .ref
 | .chan _ _=> .ref
 | .tuple es=> .tuple es.toList
 | .func _ _ _=> .func
 | .named _ u=> .named u
 |_=> .none,i.size,i.bytes⟩
structure Pg where
 T:Tr TI
 F:Tr (Bx Func)
def Pg.inf (P:Pg) (t:Nat):Option TI:=P.T.get t
def Pg.und (P:Pg) (t:Nat):Option TD:=match P.inf t with
 |some ⟨.named u,_,_⟩=>(match P.inf u with|some i=>some i.d|none=>none)
 |some i=>some i.d
 |none=>none
def boxes:List Func→List (Bx Func)
 |[]=>[]
 |x::l=> @Bx.mk Func x::boxes l
section
variable (P:Pg)
def szT (t:Nat):Nat:=match P.inf t with|some i=>i.size|none=>0
def byT (t:Nat):Nat:=match P.inf t with|some i=>i.bytes|none=>0
def elT (t:Nat):Nat:=match P.und t with|some (.slice e)=>e|some (.pointer e)=>e|some (.map _ e)=>e|some (.array _ e)=>e|_=>0
def agT (t:Nat):Bool:=match P.und t with|some (.struct _)=>true|some (.array _ _)=>true|_=>false
def slT (t:Nat):Bool:=match P.und t with|some (.slice _)=>true|_=>false
def stT (t:Nat):Bool:=match P.und t with|some .string=>true|_=>false
def mvT (t:Nat):Bool:=match P.und t with|some (.slice _)=>true|some (.tuple _)=>true|_=>false
def fds (t:Nat):List (Nat×Nat):=match P.und t with|some (.struct fs)=>fs|_=>[]
def reps {α:Type}:Nat→List α→List α
 |0,_=>[]
 |n+1,l=>l++reps n l
def ceT:Nat→Nat→List Nat
 |0,t=>[t]
 |n+1,t=>match P.und t with
  |some (.struct fs)=>fs.flatMap λf=>ceT n f.2
  |some (.array k e)=>reps k (ceT n e)
  |_=>[t]
def reT:Nat→Nat→Bool
 |0,_=>false
 |n+1,t=>match P.und t with
  |some (.pointer _)=>true
  |some (.map _ _)=>true
  |some .func=>true
  |some .ref=>true
  |some (.struct fs)=>fs.any λf=>reT n f.2
  |some (.tuple es)=>es.any (reT n)
  |_=>false
variable (I J:Nat→Int) (GL:Globals)
def z0 (row:Bool) (t:Nat):D:=match P.und t with
 |some (.int k)=> .v (.int k (I 0))
 |some .bool=> .v (.bool false)
 |some .string=> .v (.str .empty)
 |some (.slice e)=>bif row then .own e (szT P e) [] else .nil e (szT P e)
 |some (.pointer _)=> .v .nilp
 |some (.map _ _)=> .v .nilm
 |some .func=> .v .nilf
 |_=> .any
def zs (row:Bool) (t:Nat):List D:=(ceT P 5 t).map (z0 P I row)
def cV:Value→V
 | .int k (.ofNat n)=> .int k (I n)
 | .int k (.negSucc n)=> .int k (J (Nat.add n 1))
 | .bool b=> .bool b
 | .string s=> .str s
 | .pointer _=> .nilp
 | .map _=> .nilm
 | .slice _ _ _=> .list []
 | .agg cs=> .agg (cs.toList.map fun
  | .int k (.ofNat n)=> .int k (I n)
  | .int k (.negSucc n)=> .int k (J (Nat.add n 1))
  | .bool b=> .bool b
  | .string s=> .str s
  | .map _=> .nilm
  | .slice _ _ _=> .list []
  | .nilFunc=> .nilf
  |_=> .nilp)
 |_=> .nilf
def oq (mv own:Bool) (t:Nat):Operand→Opd
 | .tmp n=> .t n mv
 | .const (.slice _ _ _)=> .c (bif own then .own (elT P t) (szT P (elT P t)) [] else .nil (elT P t) (szT P (elT P t)))
 | .const v=> .c (.v (cV I J v))
 | .func f=> .c (.v (.func f []))
 | .global g=> .g g (match GL.find? λp=>Nat.beq p.1 g with|some p=>p.2.map (cV I J)|none=>[])
def oqs (ts:List Nat):List Operand→List Opd
 |[]=>[]
 |x::xs=>(match ts with|t::_=>oq P I J GL false false t x|[]=>oq P I J GL false false 0 x)::oqs ts.tail xs
def oo:Option Operand→Option Opd
 |none=>none
 |some x=>some (oq P I J GL false false 0 x)
def kq (t:Nat):Nat:=match P.und t with|some .bool=>1|some .string=>2|_=>0
def kS (t:Nat):Bool:=match P.und t with|some (.map k _)=>agT P k|_=>false
def kK (t:Nat):List Nat:=match P.und t with|some (.map k _)=>(ceT P 5 k).map (kq P)|_=>[]
def isZ:Option Operand→Bool
 |some (.const (.int _ (.ofNat 0)))=>true
 |_=>false
def fOf (o:Operand):Nat:=match o with| .func f=>f|_=>1000000
def isT (o:Operand):Bool:=match o with| .tmp _=>true|_=>false
def neB:BinOp→Bool
 | .neq=>true
 |_=>false
abbrev Hint:=Nat→Nat→Nat
variable (H:Hint) (dr:Bool) (fn:Nat) (ops:List Oper)
def gcall (d:Option Nat) (ty:Nat) (f:Operand) (args:List Operand) (ats:List Nat):AI:=
 let q:=oq P I J GL false false 0 f
 let asx:=oqs P I J GL ats args
 match (bif Nat.beq (match d with|some t=>H fn (Nat.add 2000000 t)|none=>0) 5 then 5 else H fn (fOf f))with
 |3=> .callN d q asx
 |4=>match args with
  |x::xs=> .callO d q (oq P I J GL (isT x) false (ats.headD 0) x) (oqs P I J GL ats.tail xs)
  |[]=> .call d q asx
 |5=>bif dr then .callC d q asx else .call d q asx
 |7=> .call d q asx
 |6=>bif dr&&(ats.any (reT P 5)||reT P 5 ty||isT f) then .callC d q asx else .call d q asx
 |_=>bif dr&&(ats.any (reT P 5)||reT P 5 ty||isT f) then .callF d q asx else .call d q asx
def isBase (d:Nat) (o:Oper):Bool:=match o.op with
 | .call c=>(match c.callee with| .builtin .append=>(match c.args.toList with| .tmp n::_=>Nat.beq n d|_=>false)|_=>false)
 |_=>false
def genI (dd:Nat→Bool) (o:Oper):Option AI:=
 let O:=oq P I J GL false false
 let mO (t:Nat) (x:Operand):=match x with| .tmp n=> .t n (mvT P t&&dd n)|x=>O t x
 let d:=o.dst.getD 0
 let p (i:PI):Option AI:=some (.p d i)
 let h:=H fn (Nat.add 2000000 d)
 let mI (x:Operand):AI:=match h with
  |0=> .mv d (match x with| .tmp n=> .t n (mvT P o.type&&dd n)|x=>oq P I J GL false true o.type x)
  |1=> .mv d (oq P I J GL true true o.type x)
  |2=> .mv d (oq P I J GL false true o.type x)
  |s=> .frz d (O o.type x) (Nat.sub s 10)
 match o.op with
 | .move x=>some (mI x)
 | .assign x=>some (mI x)
 | .pick c a b=>p (.pick (O 0 c) (O o.type a) (O o.type b))
 | .alloc t=>some (.alloc d (zs P I true t))
 | .box t x=>some (.box d (O t x))
 | .build t ps=>p (.build (zs P I false t) (ps.toList.map λq=>match P.und t with
  |some (.array _ e)=>(Nat.mul q.1 (szT P e),szT P e,O e q.2)
  |_=>match nth (fds P t) q.1 with|some f=>(f.1,szT P f.2,O f.2 q.2)|none=>(0,0,O 0 q.2)))
 | .buildSlice t _ ps=>some (bif Nat.beq h 0 then .bsl d (elT P t) (szT P (elT P t)) (ps.toList.map λq=>O (elT P t) q.2) else .bsr d (szT P (elT P t)) (ps.toList.map λq=>O (elT P t) q.2))
 | .load t a=>bif slT P t&&ops.any (isBase d) then some (.take d (O 0 a)) else p (.load (O 0 a) (szT P t) (agT P t))
 | .store t a x=>some (.store (O 0 a) (mO t x) (szT P t))
 | .nilCheck x=>p (.nilc (O 0 x))
 | .binOp b t x y _=>match P.und t with
  |some (.int _)=>p (.bin b (O t x) (O t y))
  |some .string=>p (.bin b (O t x) (O t y))
  |some .bool=>p (.eqB (neB b) (O t x) (O t y))
  |some (.pointer _)=>p (.eqP (neB b) (O t x) (O t y))
  |some (.slice _)=>some (.nilS d (neB b) (O 0 x))
  |some (.struct _)=>p (.eqA (neB b) ((ceT P 5 t).map (kq P)) (O t x) (O t y))
  |_=>none
 | .unOp u _ x=>match u with
  | .not=>p (.not (O 0 x))
  | .neg=>p (.neg (O 0 x))
  | .xor=>p (.inv (O 0 x))
  |_=>none
 | .convert a b x=>match P.und b with
  |some (.int k)=>p (.cint k (O 0 x))
  |some (.slice _)=>some (.s2b d (O 0 x))
  |some .string=>p (.b2s (O a x))
  |_=>none
 | .fieldAddr t x i=>match nth (fds P t) i with
  |some f=>p (.faddr (O 0 x) f.1 (szT P f.2))
  |none=>none
 | .field t x i=>match nth (fds P t) i with
  |some f=>p (.fld (O 0 x) f.1 (szT P f.2) (agT P f.2))
  |none=>none
 | .indexAddr t x i=>match P.und t with
  |some (.slice e)=>p (.iaddr (O t x) (O 0 i) (szT P e))
  |some (.array n e)=>p (.iaddrA (O 0 x) (O 0 i) n (szT P e))
  |_=>none
 | .index t x i=>match P.und t with
  |some .string=>p (.idxS (O 0 x) (O 0 i))
  |some (.array n e)=>p (.idxA (O 0 x) (O 0 i) n (szT P e) (agT P e))
  |_=>none
 | .slice t x lo hi mx=>match P.und t with
  |some (.slice e)=>match mx with
   |none=>p (.slc (O t x) (oo P I J GL lo) (oo P I J GL hi) (szT P e))
   |m=>bif isZ hi&&isZ m then p (.slc0 (O t x) e (szT P e)) else none
  |some .string=>p (.slcS (O 0 x) (oo P I J GL lo) (oo P I J GL hi))
  |_=>none
 | .makeSlice t x _=>bif Nat.beq (szT P (elT P t)) 1&&Nat.beq (H fn 1000001) 0 then some (.mksl d (O 0 x) (z0 P I true (elT P t))) else some (.mksz d (O 0 x) (zs P I true (elT P t)))
 | .makeMap _ _=>some (.mkm d)
 | .lookup t x i ok=>p (.look (O 0 x) (O 0 i) (kS P t) (kK P t) (zs P I false (elT P t)) (agT P (elT P t)) ok)
 | .mapUpdate t x i v=>some (.mput (O 0 x) (O 0 i) (O (elT P t) v) (kS P t) (kK P t))
 | .insert t x i v=>some (.mput (O 0 x) (O 0 i) (O (elT P t) v) (kS P t) (kK P t))
 | .mapEntry t x i=>some (.ment d (O 0 x) (O 0 i) (kS P t) (kK P t))
 | .entryStore t x i v=>some (.mest (O 0 x) (O 0 i) (O (elT P t) v))
 | .extract x i=>p (.ext (O 0 x) i)
 | .range _ x=>some (.itr 0 d (O 0 x))
 | .next x s=>bif s then none else some (.itr 1 d (O 0 x))
 | .entry x=>some (.itr 2 d (O 0 x))
 | .makeFunc (.func f) first caps=>match first.toList with
  |[]=>p (.mkf f (oqs P I J GL [] caps.toList))
  |l=>p (.mkme f (oqs P I J GL [] l))
 | .call c=>
  let ats:=c.argTypes.toList
  let t0:=ats.headD 0
  match c.callee with
  | .value f=>some (gcall P I J GL H dr fn o.dst o.type f c.args.toList ats)
  | .builtin .len=>match c.args.toList with
   |x::_=>match P.und t0 with
    |some (.slice _)=>p (.alen (O t0 x))
    |some .string=>p (.lenS (O 0 x))
    |some (.map _ _)=>p (.mlen (O 0 x))
    |_=>none
   |[]=>none
  | .builtin .delete=>match c.args.toList with
   |x::y::_=>some (.mdel o.dst (O 0 x) (O 0 y) (kS P t0) (kK P t0))
   |_=>none
  | .builtin .max=>match c.args.toList with
   |[x,y]=>p (.minmax true (O o.type x) (O o.type y))
   |_=>none
  | .builtin .min=>match c.args.toList with
   |[x,y]=>p (.minmax false (O o.type x) (O o.type y))
   |_=>none
  | .builtin .append=>match c.args.toList with
   |x::y::_=>
    let t1:=ats.tail.headD 0
    let e:=elT P t0
    let b:=oq P I J GL (isT x) false t0 x
    bif stT P t1 then some (.appS d b (O 0 y) e (byT P e)) else match h with
     |0=>some (.app d b (O t1 y) e (szT P e) (byT P e))
     |1=>some (.appR d b (O t1 y) e (szT P e) (byT P e))
     |_=>some (.appR d (O t0 x) (O t1 y) e (szT P e) (byT P e))
   |_=>none
  | .builtin .clear=>match c.args.toList with
   |x::_=>some (.clr o.dst (O t0 x) (zs P I true (elT P t0)))
   |[]=>none
  | .builtin .copy=>match c.args.toList with
   |x::y::_=>some (.cpy o.dst (O t0 x) (O (ats.tail.headD 0) y) (szT P (elT P t0)))
   |_=>none
  |_=>none
 |_=>none
def gtm (j:Nat):Nat:=match nth ops j with|some o=>(match o.dst with|some t=>mb t|none=>0)|none=>0
def lvO:List Oper→Nat→Nat
 |[],out=>out
 |o::r,out=>match o.guard,o.dst with
  |none,some d=>Nat.lor (md (lvO r out) d) (usO o)
  |none,none=>Nat.lor (lvO r out) (usO o)
  |some g,some d=>bif mh (usO o) d then Nat.lor (Nat.lor (lvO r out) (usO o)) (gtm ops g.1) else md (Nat.lor (Nat.lor (lvO r out) (usO o)) (gtm ops g.1)) d
  |some g,none=>Nat.lor (Nat.lor (lvO r out) (usO o)) (gtm ops g.1)
def usG (o:Oper):Nat:=match o.guard with|some g=>Nat.lor (usO o) (gtm ops g.1)|none=>(usO o)
def deadO:List Oper→Nat→Nat→Bool
 |[],out,n=> !mh out n
 |o::r,out,n=>bif mh (usG ops o) n then false else match o.guard,o.dst with
  |none,some d=>bif Nat.beq d n then true else deadO r out n
  |_,_=>deadO r out n
def genG:Nat→List Oper→Option (List GI)
 |_,[]=>some []
 |out,o::r=>match genI P I J GL H dr fn ops (deadO ops r out) o,genG out r with
  |some i,some l=>some (⟨match o.guard with|none=>none|some g=>(match nth ops g.1 with|some q=>(match q.dst with|some t=>some (t,g.2)|none=>none)|none=>none),i⟩::l)
  |_,_=>none
end
def lkE:List (Nat×Nat)→Nat→Nat
 |[],_=>0
 |(k,m)::l,n=>bif Nat.beq k n then m else lkE l n
def exM (ex:List (Nat×Nat)) (ret:Nat):Code→Nat
 | .seq a b=>Nat.lor (exM ex ret a) (exM ex ret b)
 | .cond _ a b=>Nat.lor (exM ex ret a) (exM ex ret b)
 | .block _ c=>exM ex ret c
 | .loop c=>exM ex ret c
 | .scope c=>exM ex ret c
 | .rangeFunc _ _ a b=>Nat.lor (exM ex ret a) (exM ex ret b)
 | .exit i=>lkE ex i
 | .ret=>ret
 |_=>0
def mds (m:Nat):List Nat→Nat
 |[]=>m
 |t::l=>mds (md m t) l
def ex0:List (Nat×Nat)→List (Nat×Nat)
 |[]=>[]
 |(k,_)::l=>(k,0)::ex0 l
def lvC:List (Nat×Nat)→Nat→Code→Nat→Nat
 |_,ret,.ret,_=>ret
 |ex,ret,.seq a b,out=>lvC ex ret a (lvC ex ret b out)
 |_,_,.region _ ops _,out=>lvO ops.toList ops.toList out
 |ex,ret,.cond x a b,out=>Nat.lor (Nat.lor (lvC ex ret a out) (lvC ex ret b out)) (um [x])
 |ex,ret,.block i c,out=>lvC ((i,out)::ex) ret c out
 |ex,ret,.loop c,_=>lvC ex ret c 0
 |ex,ret,.scope c,out=>lvC ex ret c out
 |ex,ret,.rangeFunc g ps a b,out=>Nat.lor (Nat.lor (um [g]) (mds (lvC (ex0 ex) 0 a (lvC (ex0 ex) 0 b 0)) ps.toList)) (Nat.lor out (exM ex ret b))
 |ex,_,.exit i,_=>lkE ex i
 |_,_,_,out=>out
def bfO (acc:List Nat):List Edge→Nat
 |[]=>0
 |e::l=>bif Region.binds .any e then Nat.lor (Nat.lor (mb e.on) ((nth acc e.on).getD 0)) (bfO acc l) else bfO acc l
def cls:List Nat→List Oper→List Nat
 |acc,[]=>acc
 |acc,o::l=>cls (acc++[bfO acc o.after.toList]) l
def clos (ops:List Oper):List (List Nat):=(cls [] ops).map ml
def free (is:List GI) (cl:List (List Nat)):Bool:=
 (is.zipIdx.all λp=>match nth cl p.2 with
  |some c=>is.zipIdx.all λq=>bif Nat.blt q.2 p.2 then c.any (Nat.beq q.2)||indep q.1 p.1 else true
  |none=>false)
def tree (is:List GI) (cl:List (List Nat)):Nat→List Nat→AT
 |0,_=> .none
 |n+1,rem=>match rem with
  |[]=> .done
  |_=>match rem.find? λi=>rdy cl rem i&&rem.all λj=>Nat.beq j i||((nth cl j).getD []).any (Nat.beq i)||indep (is.getD i default) (is.getD j default)with
   |some i=> .take i (tree is cl n (rem.filter λj=> !Nat.beq j i))
   |none=> .pick ((rem.filter (rdy cl rem)).foldr (λi r=> .alt i (tree is cl n (rem.filter λj=> !Nat.beq j i)) r) .none)
def iP (n:Nat):Int:= @OfNat.ofNat Int n _
def iN (n:Nat):Int:= -@OfNat.ofNat Int n _
def regC (P:Pg) (GL:Globals) (H:Hint) (f:Nat) (r:Nat→List GI) (id:Nat) (ops:List Oper) (dr:Bool) (out:Nat):AC:=
 match genG P iP iN GL H dr f ops out ops with
 |none=> .never
 |some is=>bif Nat.beq (H f (Nat.add 3000000 id)) 1 then .regV (r id) (ml out) (clos ops) else bif dr then (bif free is (clos ops) then .regD (r id) (ml out) (clos ops) else .regA (r id) (ml out) (clos ops) (tree is (clos ops) (Nat.add is.length 1) (List.range is.length))) else .reg (r id) (ml out)
def nL:Code→Nat
 | .seq a b=>Nat.add (nL a) (nL b)
 | .cond _ a b=>Nat.add (nL a) (nL b)
 | .block _ c=>nL c
 | .loop c=>Nat.add (nL c) 1
 | .scope c=>nL c
 | .rangeFunc _ _ a b=>Nat.add (Nat.add (nL a) (nL b)) 1
 |_=>0
section
variable (P:Pg) (GL:Globals) (H:Hint) (f:Nat) (r:Nat→List GI) (l:Nat→AC)
def genC:List (Nat×Nat)→Nat→Code→Nat→Nat→AC
 |_,_,.skip,_,_=> .skip
 |_,_,.ret,_,_=> .ret
 |_,_,.exit i,_,_=> .exit i
 |_,_,.region id ops dr,out,_=>regC P GL H f r id ops.toList dr out
 |ex,ret,.seq a b,out,n=> .seq (genC ex ret a (lvC ex ret b out) n) (genC ex ret b out (Nat.add n (nL a)))
 |ex,ret,.cond x a b,out,n=> .cond (oq P iP iN GL false false 0 x) (genC ex ret a out n) (genC ex ret b out (Nat.add n (nL a)))
 |ex,ret,.block i c,out,n=> .block i (genC ((i,out)::ex) ret c out n)
 |_,_,.loop _,_,n=> .loop (l n)
 |ex,ret,.scope c,out,n=> .scope (genC ex ret c out n)
 |_,_,.label _,_,_=> .skip
 |_,_,.rangeFunc g ps _ _,_,n=> .rangeF (oq P iP iN GL false false 0 g) ps.toList (l n) (l (Nat.add n 1000))
 |_,_,_,_,_=> .never
def genL (k:Nat):List (Nat×Nat)→Nat→Code→Nat→Nat→AC
 |ex,ret,.seq a b,out,n=>bif Nat.blt (Nat.mod k 1000) (Nat.add n (nL a)) then genL k ex ret a (lvC ex ret b out) n else genL k ex ret b out (Nat.add n (nL a))
 |ex,ret,.cond _ a b,out,n=>bif Nat.blt (Nat.mod k 1000) (Nat.add n (nL a)) then genL k ex ret a out n else genL k ex ret b out (Nat.add n (nL a))
 |ex,ret,.block i c,out,n=>genL k ((i,out)::ex) ret c out n
 |ex,ret,.scope c,out,n=>genL k ex ret c out n
 |ex,ret,.loop c,_,n=>bif Nat.beq n k then genC P GL H f r l ex ret c (lvC ex ret c 0) (Nat.add n 1) else genL k ex ret c (lvC ex ret c 0) (Nat.add n 1)
 |ex,_,.rangeFunc _ _ a b,_,n=>bif Nat.beq n k then genC P GL H f r l (ex0 ex) 0 a (lvC (ex0 ex) 0 b 0) (Nat.add n 1)
  else bif Nat.beq (Nat.add n 1000) k then genC P GL H f r l (ex0 ex) 0 b 0 (Nat.add (Nat.add n 1) (nL a))
  else bif Nat.blt (Nat.mod k 1000) (Nat.add (Nat.add n 1) (nL a)) then genL k (ex0 ex) 0 a (lvC (ex0 ex) 0 b 0) (Nat.add n 1) else genL k (ex0 ex) 0 b 0 (Nat.add (Nat.add n 1) (nL a))
 |_,_,_,_,_=> .never
def fO (id:Nat):List (Nat×Nat)→Nat→Code→Nat→Option (List Oper×Bool×Nat)
 |ex,ret,.seq a b,out=>match fO id ex ret a (lvC ex ret b out)with
  |some x=>some x
  |none=>fO id ex ret b out
 |ex,ret,.cond _ a b,out=>match fO id ex ret a out with
  |some x=>some x
  |none=>fO id ex ret b out
 |ex,ret,.block i c,out=>fO id ((i,out)::ex) ret c out
 |ex,ret,.scope c,out=>fO id ex ret c out
 |ex,ret,.loop c,_=>fO id ex ret c (lvC ex ret c 0)
 |ex,_,.rangeFunc _ _ a b,_=>match fO id (ex0 ex) 0 a (lvC (ex0 ex) 0 b 0)with
  |some x=>some x
  |none=>fO id (ex0 ex) 0 b 0
 |_,_,.region j ops dr,out=>bif Nat.beq j id then some (ops.toList,dr,out) else none
 |_,_,_,_=>none
def fnB:Code:=match P.F.get f with|some (@Bx.mk _ fn)=>(match fn.body with|some c=>c|none=> .skip)|none=> .skip
def rtM:List ResultVar→Nat
 |[]=>0
 | .tmp t::l=>Nat.lor (mb t) (rtM l)
 | .cell t _::l=>Nat.lor (mb t) (rtM l)
def fnR:List ResultVar:=match P.F.get f with|some (@Bx.mk _ fn)=>fn.results.toList|none=>[]
def genF:AC:=genC P GL H f r l [] (rtM (fnR P f)) (fnB P f) (rtM (fnR P f)) 0
def genFL (k:Nat):AC:=genL P GL H f r l k [] (rtM (fnR P f)) (fnB P f) (rtM (fnR P f)) 0
def genFO (I J:Nat→Int) (k:Nat):List GI:=match fO k [] (rtM (fnR P f)) (fnB P f) (rtM (fnR P f))with
 |some (ops,dr,out)=>(genG P I J GL H dr f ops out ops).getD []
 |none=>[]
def genFR:List AR:=(fnR P f).map fun
 | .tmp t=> .t t
 | .cell a t=> .c a (szT P t) (agT P t)
def genFN:Nat:=match P.F.get f with|some (@Bx.mk _ fn)=>Nat.add fn.params.size fn.nfree|none=>0
end
abbrev GLx:Globals:=[(0,[.int .i64 655,.int .i64 1,.int .i64 1,.int .i64 257,.int .i64 61,.int .i64 20,.int .i64 17,.int .i64 17,.int .i64 49,.int .i64 17,.int .i64 1,.int .i64 1,.int .i64 5,.int .i64 281,.int .i64 5,.int .i64 257,.int .i64 77,.int .i64 29,.int .i64 17,.int .i64 1024,.int .i64 18,.int .i64 50]),(1,[.int .i64 0,.int .i64 120,.int .i64 0,.int .i64 120,.int .i64 0,.int .i64 120,.int .i64 0,.int .i64 120,.int .i64 0,.int .i64 120,.int .i64 0,.int .i64 120,.int .i64 0,.int .i64 120,.int .i64 1,.int .i64 100,.int .i64 1,.int .i64 100,.int .i64 0,.int .i64 1099511627776,.int .i64 0,.int .i64 1099511627776,.int .i64 0,.int .i64 1099511627776,.int .i64 0,.int .i64 1099511627776,.int .i64 0,.int .i64 1099511627776,.int .i64 0,.int .i64 1099511627776,.int .i64 0,.int .i64 1099511627776,.int .i64 0,.int .i64 1099511627776,.int .i64 0,.int .i64 100,.int .i64 0,.int .i64 100]),(2,[.int .i64 31,.int .i64 28,.int .i64 31,.int .i64 30,.int .i64 31,.int .i64 30,.int .i64 31,.int .i64 31,.int .i64 30,.int .i64 31,.int .i64 30,.int .i64 31]),(3,[.int .i64 10,.int .i64 2,.int .i64 11,.int .i64 12,.int .i64 3,.int .i64 12,.int .i64 14,.int .i64 4,.int .i64 13,.int .i64 18,.int .i64 5,.int .i64 14])]
def cIr0:List GI:=[⟨none,.mv 4 (.c (.v (.int .i64 0)))⟩]
def cIr1:List GI:=[⟨none,.mv 6 (.t 0 false)⟩,⟨none,.p 7 (.alen (.t 6 false))⟩,⟨none,.mv 8 (.c (.v (.int .i64 0)))⟩]
def cIr2:List GI:=[⟨none,.p 9 (.bin .lss (.t 8 false) (.t 7 false))⟩]
def cIr3:List GI:=[⟨none,.mv 10 (.t 8 false)⟩,⟨none,.mv 5 (.t 10 false)⟩]
def cIr4 (s:Nat) (g:Bool):List GI:=[⟨none,.mv 11 (.t 1 false)⟩,⟨none,.mv 12 (.t 0 false)⟩,⟨none,.mv 13 (.t 5 false)⟩,⟨none,.p 14 (.iaddr (.t 12 false) (.t 13 false) s)⟩,⟨none,.p 15 (.load (.t 14 false) s g)⟩,⟨none,.call (some 16) (.t 11 false) [(.t 15 false)]⟩]
def cIr5:List GI:=[⟨none,.mv 17 (.t 5 false)⟩,⟨none,.mv 4 (.t 17 false)⟩]
def cIr6:List GI:=[⟨none,.p 18 (.bin .add (.t 8 false) (.c (.v (.int .i64 1))))⟩,⟨none,.mv 8 (.t 18 false)⟩]
def cIr7:List GI:=[⟨none,.mv 4 (.c (.v (.int .i64 (-1))))⟩]
def cIl0 (s:Nat) (g:Bool):AC:=(.seq (.reg cIr2 [0,1,7,8,9]) (.seq (.cond (.t 9 false) .skip (.exit 0)) (.seq (.block 1 (.seq (.reg cIr3 [0,1,5,7,8]) (.seq (.reg (cIr4 s g) [0,1,5,7,8,16]) (.cond (.t 16 false) (.seq (.reg cIr5 [4]) .ret) .skip)))) (.reg cIr6 [0,1,7,8]))))
def cI (s:Nat) (g:Bool):AC:=(.seq (.reg cIr0 [0,1]) (.seq (.seq (.reg cIr1 [0,1,7,8]) (.block 0 (.loop (cIl0 s g)))) (.seq (.reg cIr7 [4]) .ret)))
def cIR:List AR:=[.t 4]
def cJr0:List GI:=[⟨none,.mv 4 (.c (.v (.bool false)))⟩]
def cJr1 (f:Nat):List GI:=[⟨none,.mv 5 (.t 0 true)⟩,⟨none,.mv 6 (.t 1 false)⟩,⟨none,.call (some 7) (.c (.v (.func f []))) [(.t 5 false),(.t 6 false)]⟩,⟨none,.p 8 (.bin .geq (.t 7 false) (.c (.v (.int .i64 0))))⟩,⟨none,.mv 4 (.t 8 false)⟩]
def cJ (f:Nat):AC:=(.seq (.reg cJr0 [0,1]) (.seq (.reg (cJr1 f) [4]) .ret))
abbrev PX:=PSp Go.Proofs.Tryz.prog GLx
abbrev FX:=FSp Go.Proofs.Tryz.prog GLx
open Go.Proofs
section
abbrev lit {α:Type} (l:α) {x:α} (_h:l=x:=by conv=>lhs;reduce):α:=x
set_option maxHeartbeats 2000000
noncomputable def tyL:List TypeInfo:=Tryz.prog.types.toList
noncomputable def fnL:List (Bx Func):=boxes Tryz.prog.funcs.toList
noncomputable def PT:Tr TI:=lit (Tr.mk 1000 (tyL.map tiO))
noncomputable def PF:Tr (Bx Func):=lit (Tr.mk 1000 fnL)
noncomputable def PG:Pg:=⟨PT,PF⟩
noncomputable def hints:Hint
 |318,390=>3
 |348,409=>3
 |202,3000003=>1
 |550,571=>3
 |240,3000004=>1
 |503,526=>7
 |503,527=>7
 |_,28=>4
 |120,84=>5
 |128,2000074=>2
 |3,2000158=>2
 |3,2000178=>11
 |_,_=>0
def c37r4:List GI:=[⟨none,.take 22 (.t 6 false)⟩,
 ⟨none,.p 23 (.load (.t 8 false) 4 true)⟩,
 ⟨none,.p 24 (.alen (.t 22 false))⟩,
 ⟨none,.bsl 25 70 4 [(.c (.v (.agg [.int .i64 0,.int .i64 0,.list [],.list []])))]⟩,
 ⟨none,.appP 26 (.t 22 true) (.t 25 false) 70 4 64⟩,
 ⟨none,.p 27 (.iaddrP (.t 26 true) (.t 24 false) 4)⟩,
 ⟨none,.fin 26 (.t 6 false) (.t 27 false) (.t 23 false) 4⟩,
 ⟨none,.store (.t 6 false) (.t 26 true) 1⟩]
def byH:Nat→Nat→Option (List GI)
 |240,4=>some c37r4
 |_,_=>none
noncomputable def oG (f k:Nat):List GI:=match byH f k with
 |some x=>x
 |none=>genFO PG GLx hints f iP iN k
theorem oG37:oG 240 4=c37r4:=rfl
noncomputable def lGn (f:Nat):Nat→Nat→AC
 |0,_=> .never
 |n+1,k=>genFL PG GLx hints f (oG f) (lGn f n) k
noncomputable def lG (f k:Nat):AC:=lGn f 9 k
noncomputable def gA (f:Nat):AC:=genF PG GLx hints f (oG f) (lG f)
noncomputable def gR (f:Nat):List AR:=genFR PG f
noncomputable def gN (f:Nat):Nat:=genFN PG f
theorem oGe (f k:Nat) (hn:byH f k=none):oG f k=genFO PG GLx hints f iP iN k:=by unfold oG;rw[hn]
theorem Zge (f k:Nat) {x:(Nat→Int)→(Nat→Int)→List GI} (h:(λI J=>genFO PG GLx hints f I J k)=x:=by conv=>lhs;reduce) (hn:byH f k=none:=by rfl):oG f k=x (λn=> @OfNat.ofNat Int n _) (λn=> -@OfNat.ofNat Int n _):=(oGe f k hn).trans (congrFun (congrFun h iP) iN)
theorem Zga (f:Nat) {x:(Nat→List GI)→(Nat→AC)→AC} (h:(λr l=>genF PG GLx hints f r l)=x:=by conv=>lhs;reduce):gA f=x (oG f) (lG f):=by subst h;rfl
theorem Zgl (f k:Nat) {x:(Nat→List GI)→(Nat→AC)→AC} (h:(λr l=>genFL PG GLx hints f r l k)=x:=by conv=>lhs;reduce) (h2:lG f k=x (oG f) (lG f):=by kernel_rfl):lG f k=x (oG f) (lG f):=h2
abbrev la (f:Nat) {x:(Nat→List GI)→(Nat→AC)→AC} (_h:(λr l=>genF PG GLx hints f r l)=x:=by conv=>lhs;reduce):AC:=x (oG f) (lG f)
abbrev ll (f k:Nat) {x:(Nat→List GI)→(Nat→AC)→AC} (_h:(λr l=>genFL PG GLx hints f r l k)=x:=by conv=>lhs;reduce):AC:=x (oG f) (lG f)
theorem Zgr (f:Nat) {x:List AR} (h:gR f=x:=by conv=>lhs;reduce):gR f=x:=h
theorem Zkk (f:Nat) (h:chkF Tryz.prog GLx f (gN f) (gA f) (gR f)=true:=by kernel_rfl):chkF Tryz.prog GLx f (gN f) (gA f) (gR f)=true:=h
end
theorem k149:chkF Tryz.prog GLx 165 2 (cJ 220) cIR=true:=by kernel_rfl
theorem k151:chkF Tryz.prog GLx 107 2 (cJ 159) cIR=true:=by kernel_rfl
theorem k183:chkF Tryz.prog GLx 109 2 (cJ 160) cIR=true:=by kernel_rfl
theorem k251:chkF Tryz.prog GLx 220 2 (cI 4 true) cIR=true:=by kernel_rfl
theorem k252:chkF Tryz.prog GLx 159 2 (cI 1 false) cIR=true:=by kernel_rfl
theorem k272:chkF Tryz.prog GLx 160 2 (cI 3 true) cIR=true:=by kernel_rfl
theorem k277:chkF Tryz.prog GLx 105 2 (cJ 158) cIR=true:=by kernel_rfl
theorem k293:chkF Tryz.prog GLx 113 2 (cJ 162) cIR=true:=by kernel_rfl
theorem k318:chkF Tryz.prog GLx 158 2 (cI 4 true) cIR=true:=by kernel_rfl
theorem k323:chkF Tryz.prog GLx 162 2 (cI 4 true) cIR=true:=by kernel_rfl
mutual
def V.beq:V→V→Bool
 | .int k n,.int k' n'=>decide (k=k')&&decide (n=n')
 | .bool b,.bool b'=>b==b'
 | .str s,.str s'=>decide (s=s')
 | .list xs,.list ys=>V.beqs xs ys
 | .agg xs,.agg ys=>V.beqs xs ys
 | .ptr xs,.ptr ys=>V.beqs xs ys
 | .nilp,.nilp=>true
 | .func f cs,.func g ds=>f==g&&V.beqs cs ds
 | .nilf,.nilf=>true
 | .nilm,.nilm=>true
 |_,_=>false
def V.beqs:List V→List V→Bool
 |[],[]=>true
 |x::xs,y::ys=>V.beq x y&&V.beqs xs ys
 |_,_=>false
end
mutual
theorem V.beq_eq:∀ {x y:V},V.beq x y=true→x=y
 | .int k n,y,h=>by cases y<;>simp_all [V.beq]
 | .bool b,y,h=>by cases y<;>simp_all [V.beq]
 | .str s,y,h=>by cases y<;>simp_all [V.beq]
 | .list xs,y,h=>by cases y<;>simp only[V.beq,Bool.false_eq_true]at h;rw[V.beqs_eq h]
 | .agg xs,y,h=>by cases y<;>simp only[V.beq,Bool.false_eq_true]at h;rw[V.beqs_eq h]
 | .ptr xs,y,h=>by cases y<;>simp only[V.beq,Bool.false_eq_true]at h;rw[V.beqs_eq h]
 | .nilp,y,h=>by cases y<;>simp_all [V.beq]
 | .func f cs,y,h=>by
  cases y<;>simp only[V.beq,Bool.false_eq_true,Bool.and_eq_true,beq_iff_eq]at h
  rw[h.1,V.beqs_eq h.2]
 | .nilf,y,h=>by cases y<;>simp_all [V.beq]
 | .nilm,y,h=>by cases y<;>simp_all [V.beq]
theorem V.beqs_eq:∀ {xs ys:List V},V.beqs xs ys=true→xs=ys
 |[],ys,h=>by cases ys<;>simp_all [V.beqs]
 |x::xs,ys,h=>by
  cases ys with
  |nil=>simp[V.beqs]at h
  |cons y ys=>
   simp only[V.beqs,Bool.and_eq_true]at h;rw[V.beq_eq h.1,V.beqs_eq h.2]
end
mutual
def D.beq:D→D→Bool
 | .v x,.v y=>V.beq x y
 | .any,.any=>true
 | .nil e s,.nil e' s'=>e==e'&&s==s'
 | .own e s xs,.own e' s' ys=>e==e'&&s==s'&&V.beqs xs ys
 | .agg ds,.agg es=>D.beqs ds es
 | .tup ds,.tup es=>D.beqs ds es
 | .ref r o,.ref r' o'=>r==r'&&o==o'
 | .sref r n,.sref r' n'=>r==r'&&n==n'
 | .mref r,.mref r'=>r==r'
 | .func f cs,.func g ds=>f==g&&D.beqs cs ds
 | .meth f cs,.meth g ds=>f==g&&D.beqs cs ds
 | .yld r,.yld r'=>r==r'
 |_,_=>false
def D.beqs:List D→List D→Bool
 |[],[]=>true
 |x::xs,y::ys=>D.beq x y&&D.beqs xs ys
 |_,_=>false
end
mutual
theorem D.beq_eq:∀ {x y:D},D.beq x y=true→x=y
 | .v x,y,h=>by cases y<;>simp only[D.beq,Bool.false_eq_true]at h;rw[V.beq_eq h]
 | .any,y,h=>by cases y<;>simp_all [D.beq]
 | .nil e s,y,h=>by cases y<;>simp_all [D.beq]
 | .own e s xs,y,h=>by
  cases y<;>simp only[D.beq,Bool.false_eq_true,Bool.and_eq_true,beq_iff_eq]at h
  rw[h.1.1,h.1.2,V.beqs_eq h.2]
 | .agg ds,y,h=>by cases y<;>simp only[D.beq,Bool.false_eq_true]at h;rw[D.beqs_eq h]
 | .tup ds,y,h=>by cases y<;>simp only[D.beq,Bool.false_eq_true]at h;rw[D.beqs_eq h]
 | .ref r o,y,h=>by cases y<;>simp_all [D.beq]
 | .sref r n,y,h=>by cases y<;>simp_all [D.beq]
 | .mref r,y,h=>by cases y<;>simp_all [D.beq]
 | .func f cs,y,h=>by
  cases y<;>simp only[D.beq,Bool.false_eq_true,Bool.and_eq_true,beq_iff_eq]at h
  rw[h.1,D.beqs_eq h.2]
 | .meth f cs,y,h=>by
  cases y<;>simp only[D.beq,Bool.false_eq_true,Bool.and_eq_true,beq_iff_eq]at h
  rw[h.1,D.beqs_eq h.2]
 | .yld r,y,h=>by cases y<;>simp_all [D.beq]
 | .pend b e s xs,y,h=>by simp[D.beq]at h
 | .pptr b s n,y,h=>by simp[D.beq]at h
theorem D.beqs_eq:∀ {xs ys:List D},D.beqs xs ys=true→xs=ys
 |[],ys,h=>by cases ys<;>simp_all [D.beqs]
 |x::xs,ys,h=>by
  cases ys with
  |nil=>simp[D.beqs]at h
  |cons y ys=>
   simp only[D.beqs,Bool.and_eq_true]at h;rw[D.beq_eq h.1,D.beqs_eq h.2]
end
def beqL {α:Type} (f:α→α→Bool):List α→List α→Bool
 |[],[]=>true
 |x::xs,y::ys=>f x y&&beqL f xs ys
 |_,_=>false
theorem beqL_eq {α:Type} {f:α→α→Bool} (hf:∀x y,f x y=true→x=y):∀ {xs ys:List α},beqL f xs ys=true→xs=ys
 |[],ys,h=>by cases ys<;>simp_all [beqL]
 |x::xs,ys,h=>by
  cases ys with
  |nil=>simp[beqL]at h
  |cons y ys=>
   simp only[beqL,Bool.and_eq_true]at h;rw[hf _ _ h.1,beqL_eq hf h.2]
def Row.beq:Row→Row→Bool
 | .cells ds,.cells es=>D.beqs ds es
 | .map es bs ck,.map fs cs dk=>beqL (λp q=>V.beq p.1 q.1&&V.beq p.2 q.2) es fs&&beqL (λa b:Nat=>a==b) bs cs&&ck==dk
 | .dead,.dead=>true
 |_,_=>false
theorem Row.beq_eq {x y:Row} (h:Row.beq x y=true):x=y:=by
 cases x<;>cases y<;>simp only[Row.beq,Bool.false_eq_true]at h
 ·rw[D.beqs_eq h]
 ·simp only[Bool.and_eq_true,beq_iff_eq]at h;rw[beqL_eq (λp q h=>by
   simp only[Bool.and_eq_true]at h;exact Prod.ext (V.beq_eq h.1) (V.beq_eq h.2)) h.1.1,beqL_eq (λa b h=>by simpa using h) h.1.2,h.2]
 ·rfl
mutual
def D.lt (n:Nat):D→Bool
 | .ref r _=>decide (r <n)
 | .sref r _=>decide (r <n)
 | .mref r=>decide (r <n)
 | .yld r=>decide (r <n)
 | .agg ds=>D.lts n ds
 | .tup ds=>D.lts n ds
 | .func _ ds=>D.lts n ds
 | .meth _ ds=>D.lts n ds
 |_=>true
def D.lts (n:Nat):List D→Bool
 |[]=>true
 |d::ds=>D.lt n d&&D.lts n ds
end
def Row.lt (n:Nat):Row→Bool
 | .cells ds=>D.lts n ds
 |_=>true
def kill (n:Nat) (h:List Row):List Row:=h.take n++List.replicate (h.length-n) .dead
theorem kill_len (n:Nat) (h:List Row):(kill n h).length=h.length:=by simp[kill];omega
theorem kill_get (n:Nat) (h:List Row) (r:Nat):(kill n h)[r]?=if r <n then h[r]? else if r <h.length then some .dead else none:=by
 simp only[kill];by_cases h1:r <n
 ·rw[if_pos h1];by_cases h2:r <h.length
  ·rw[List.getElem?_append_left (by simp;omega),List.getElem?_take,if_pos h1]
  ·rw[List.getElem?_eq_none (by simp;omega),List.getElem?_eq_none (by omega)]
 ·rw[if_neg h1];by_cases h2:r <h.length
  ·rw[if_pos h2,List.getElem?_append_right (by simp;omega),List.getElem?_replicate,if_pos (by simp;omega)]
  ·rw[if_neg h2,List.getElem?_eq_none (by simp;omega)]
theorem Inv.kill {g:Gh} {w:World} {μ:List Nat} {t:Nat→D} {u:Nat→Value} {h:List Row} {O:Nat→Prop} (hi:Inv g w μ t u h O) (n:Nat):Inv g w μ t u (Go.Va.kill n h) O:=by
 have hcell:∀r k v b,own1 (cellD (Go.Va.kill n h) r k) v=some b→own1 (cellD h r k) v=some b:=by
  intro r k v b hb;simp only[cellD,kill_get]at hb ⊢;by_cases h1:r <n
  ·simp only[h1,if_true]at hb;exact hb
  ·simp only[h1,if_false]at hb;by_cases h2:r <h.length
   ·simp[h2,own1]at hb
   ·simp[h2,own1]at hb
 have hblk:∀p b,blk t u (Go.Va.kill n h) w μ p=some b→blk t u h w μ p=some b:=by
  intro p b hp;cases p with
  |tmp m k=>exact hp
  |cell r k=>exact hcell r k _ b hp
 refine⟨hi.agree,hi.olt,hi.rep,by rw[kill_len];exact hi.len,?_,hi.nod,hi.mo,λp q b hp hq=>hi.uniq p q b (hblk p b hp) (hblk q b hq),λp b hp=>hi.sep p b (hblk p b hp)⟩;intro r row b hr hb;rw[kill_get]at hr;by_cases h1:r <n
 ·rw[if_pos h1]at hr;exact hi.rows r row b hr hb
 ·rw[if_neg h1]at hr;by_cases h2:r <h.length
  ·rw[if_pos h2]at hr;simp only[Option.some.injEq]at hr;subst hr;exact(hi.rows r _ b (List.getElem?_eq_getElem h2) hb).lt
  ·rw[if_neg h2]at hr;cases hr
theorem FSp.kill {P:Program} {GL:Globals} {f:Nat} {args rets:List D} {h h':List Row} (hf:FSp P GL f args h rets h') (n:Nat):FSp P GL f args h rets (Go.Va.kill n h'):=by
 refine⟨hf.1,λg w μ us O hinv hgl hall htame=>(hf.2 g w μ us O hinv hgl hall htame).mono ?_⟩;rintro e w' ⟨v,g',μ',rfl,h3,h4⟩;exact⟨v,g',μ',rfl,h3.kill n,h4⟩
structure LD where
 e:Env
 ps:List Nat
 asg:AC
 body:AC
abbrev Lp:=List (Nat×Tag×LD)
def Lp.get:Lp→Nat→Option (Tag×LD)
 |[],_=>none
 |x::t,r=>if x.1=r then some x.2 else Lp.get t r
def Lp.tag:Lp→Nat→Tag→Lp
 |[],_,_=>[]
 |x::t,r,g=>if x.1=r then (r,g,x.2.2)::t else x::Lp.tag t r g
def Tag.beq:Tag→Tag→Bool
 | .ready,.ready=>true
 | .busy,.busy=>true
 | .done none,.done none=>true
 | .done (some i),.done (some j)=>i==j
 |_,_=>false
theorem Tag.beq_eq {x y:Tag} (h:Tag.beq x y=true):x=y:=by
 unfold Tag.beq at h;split at h<;>simp_all
def Lp.beq:Lp→Lp→Bool
 |[],[]=>true
 |x::t,y::u=>x.1==y.1&&Tag.beq x.2.1 y.2.1&&Lp.beq t u
 |_,_=>false
structure ES where
 e:Env
 h:List Row
 t:Lp
section
variable (P:Program) (GL:Globals)
def Lp.ins:Lp→List Row→List Row
 |[],h=>h
 |x::t,h=>(Lp.ins t h).set x.1 (recRow P GL x.2.1 x.2.2.e x.2.2.ps x.2.2.asg x.2.2.body)
end
def Lp.has (t:Lp) (r:Nat):Prop:=r∈t.map (·.1)
structure OKT (t:Lp) (h:List Row):Prop where
 dead:∀r,t.has r→h[r]?=some .dead
 nod:(t.map (·.1)).Nodup
def Lp.kin:Lp→Lp→Prop
 |[],[]=>True
 |x::t,y::u=>x.1=y.1∧x.2.2=y.2.2∧Lp.kin t u
 |_,_=>False
theorem Lp.kin.refl:∀t:Lp,t.kin t
 |[]=>trivial
 |x::t=>⟨rfl,rfl,Lp.kin.refl t⟩
theorem Lp.kin.trans:∀ {a b c:Lp},a.kin b→b.kin c→a.kin c
 |[],[],[],_,_=>trivial
 |x::a,y::b,z::c,h,h'=>⟨h.1.trans h'.1,h.2.1.trans h'.2.1,Lp.kin.trans h.2.2 h'.2.2⟩
 |[],[],_::_,_,h=>h.elim
 |[],_::_,_,h,_=>h.elim
 |_::_,[],_,h,_=>h.elim
 |_::_,_::_,[],_,h=>h.elim
theorem Lp.kin.map:∀ {a b:Lp},a.kin b→a.map (·.1)=b.map (·.1)
 |[],[],_=>rfl
 |x::a,y::b,h=>by simp only[List.map_cons,h.1,Lp.kin.map h.2.2]
 |[],_::_,h=>h.elim
 |_::_,[],h=>h.elim
theorem Lp.kin_tag:∀(t:Lp) (r:Nat) (g:Tag),t.kin (t.tag r g)
 |[],_,_=>trivial
 |x::t,r,g=>by
  simp only[Lp.tag];split
  ·rename_i h;exact⟨h,rfl,Lp.kin.refl t⟩
  ·exact⟨rfl,rfl,Lp.kin_tag t r g⟩
theorem Lp.beq_eq:∀ {a t u:Lp},a.kin t→a.kin u→Lp.beq t u=true→t=u
 |[],[],[],_,_,_=>rfl
 |x::a,y::t,z::u,h,h',hb=>by
  simp only[Lp.beq,Bool.and_eq_true,beq_iff_eq]at hb;have h1:=Tag.beq_eq hb.1.2;have h2:=Lp.beq_eq h.2.2 h'.2.2 hb.2;have h3:y=z:=Prod.ext hb.1.1 (Prod.ext h1 (h.2.1.symm.trans h'.2.1));rw[h2,h3]
 |[],[],_::_,_,h,_=>h.elim
 |[],_::_,_,h,_,_=>h.elim
 |_::_,[],_,h,_,_=>h.elim
 |_::_,_::_,[],_,h,_=>h.elim
section
variable {P:Program} {GL:Globals}
theorem ins_len:∀(t:Lp) (h:List Row),(t.ins P GL h).length=h.length
 |[],h=>rfl
 |x::t,h=>by simp only[Lp.ins,List.length_set,ins_len t h]
theorem ins_get:∀(t:Lp) {h:List Row} {r:Nat},¬t.has r→(t.ins P GL h)[r]?=h[r]?
 |[],h,r,_=>rfl
 |x::t,h,r,hn=>by
  simp only[Lp.has,List.map_cons,List.mem_cons,not_or]at hn;simp only[Lp.ins];rw[List.getElem?_set_ne (Ne.symm hn.1)];exact ins_get t hn.2
theorem ins_loop:∀(t:Lp) {h:List Row} {r:Nat} {g:Tag} {l:LD},r <h.length→t.get r=some (g,l)→(t.ins P GL h)[r]?=some (recRow P GL g l.e l.ps l.asg l.body)
 |[],h,r,g,l,_,hg=>by simp[Lp.get]at hg
 |x::t,h,r,g,l,hl,hg=>by
  simp only[Lp.get]at hg;simp only[Lp.ins];by_cases hx:x.1=r
  ·simp only[hx,if_true,Option.some.injEq]at hg;rw[hx,List.getElem?_set_self (by rw[ins_len];exact hl),hg]
  ·simp only[hx,if_false]at hg;rw[List.getElem?_set_ne hx];exact ins_loop t hl hg
theorem ins_set:∀(t:Lp) {h:List Row} {r:Nat} (x:Row),¬t.has r→t.ins P GL (h.set r x)=(t.ins P GL h).set r x
 |[],h,r,x,_=>rfl
 |y::t,h,r,x,hn=>by
  simp only[Lp.has,List.map_cons,List.mem_cons,not_or]at hn;simp only[Lp.ins,ins_set t x hn.2];rw[List.set_comm _ _ hn.1]
theorem ins_append:∀(t:Lp) {h:List Row} (x:Row),(∀r,t.has r→r <h.length)→t.ins P GL (h++[x])=t.ins P GL h++[x]
 |[],h,x,_=>rfl
 |y::t,h,x,hn=>by
  simp only[Lp.ins];rw[ins_append t x λr hr=>hn r (by simp only[Lp.has,List.map_cons,List.mem_cons];exact .inr hr)];rw[List.set_append_left _ _ (by rw[ins_len];exact hn y.1 (by simp[Lp.has]))]
theorem ins_appendL:∀(t:Lp) {h:List Row} (l:List Row),(∀r,t.has r→r <h.length)→t.ins P GL (h++l)=t.ins P GL h++l
 |[],h,l,_=>rfl
 |y::t,h,l,hn=>by
  simp only[Lp.ins];rw[ins_appendL t l λr hr=>hn r (by simp only[Lp.has,List.map_cons,List.mem_cons];exact .inr hr)];rw[List.set_append_left _ _ (by rw[ins_len];exact hn y.1 (by simp[Lp.has]))]
theorem get_has:∀(t:Lp) {r:Nat} {x:Tag×LD},t.get r=some x→t.has r
 |[],r,x,h=>by simp[Lp.get]at h
 |y::t,r,x,h=>by
  simp only[Lp.get]at h;simp only[Lp.has,List.map_cons,List.mem_cons];split at h
  ·rename_i hy;exact .inl hy.symm
  ·exact .inr (get_has t h)
theorem ins_tag:∀(t:Lp) {h:List Row} {r:Nat} {g g':Tag} {l:LD},(t.map (·.1)).Nodup→t.get r=some (g,l)→(t.tag r g').ins P GL h=(t.ins P GL h).set r (recRow P GL g' l.e l.ps l.asg l.body)
 |[],h,r,g,g',l,_,hg=>by simp[Lp.get]at hg
 |x::t,h,r,g,g',l,hn,hg=>by
  simp only[List.map_cons,List.nodup_cons]at hn;simp only[Lp.get]at hg;simp only[Lp.tag,Lp.ins];by_cases hx:x.1=r
  ·simp only[hx,if_true,Option.some.injEq]at hg;simp only[hx,if_true,Lp.ins,List.set_set,hg]
  ·simp only[hx,if_false]at hg;simp only[hx,if_false,Lp.ins];rw[ins_tag t hn.2 hg,List.set_comm _ _ (Ne.symm hx)]
theorem get_kin:∀ {t u:Lp} {r:Nat} {g g':Tag} {l l':LD},t.kin u→t.get r=some (g,l)→u.get r=some (g',l')→l=l'
 |[],[],r,g,g',l,l',_,h,_=>by simp[Lp.get]at h
 |x::t,y::u,r,g,g',l,l',hk,h,h'=>by
  simp only[Lp.get]at h h';by_cases hx:x.1=r
  ·rw[←hk.1]at h';simp only[hx,if_true,Option.some.injEq]at h h';have:=hk.2.1;rw[h,h']at this;exact this
  ·rw[←hk.1]at h';simp only[hx,if_false]at h h';exact get_kin hk.2.2 h h'
 |[],_::_,_,_,_,_,_,h,_,_=>h.elim
 |_::_,[],_,_,_,_,_,h,_,_=>h.elim
theorem OKT.nothas {t:Lp} {h:List Row} (hk:OKT t h) {r:Nat} {x:Row} (hr:h[r]?=some x) (hx:x≠ .dead):¬t.has r:=λhh=>by
 rw[hk.dead r hh]at hr;simp only[Option.some.injEq]at hr;exact hx hr.symm
theorem OKT.get {t:Lp} {h:List Row} (hk:OKT t h) {r:Nat} {x:Row} (hr:h[r]?=some x) (hx:x≠ .dead):(t.ins P GL h)[r]?=some x:=by
 rw[ins_get t (hk.nothas hr hx)];exact hr
theorem OKT.set {t:Lp} {h:List Row} (hk:OKT t h) {r:Nat} {x y:Row} (hr:h[r]?=some x) (hx:x≠ .dead):OKT t (h.set r y)∧t.ins P GL (h.set r y)=(t.ins P GL h).set r y:=by
 refine⟨⟨λr' hr'=>?_,hk.nod⟩,ins_set t y (hk.nothas hr hx)⟩;have hne:r≠r':=λhe=>hk.nothas hr hx (he▸hr');rw[List.getElem?_set_ne hne];exact hk.dead r' hr'
theorem OKT.lt {t:Lp} {h:List Row} (hk:OKT t h) {r:Nat} (hr:t.has r):r <h.length:=(List.getElem?_eq_some_iff.1 (hk.dead r hr)).1
theorem OKT.append {t:Lp} {h:List Row} (hk:OKT t h) (x:Row):OKT t (h++[x])∧t.ins P GL (h++[x])=t.ins P GL h++[x]:=by
 refine⟨⟨λr hr=>?_,hk.nod⟩,ins_append t x λr hr=>hk.lt hr⟩;rw[List.getElem?_append_left (hk.lt hr)];exact hk.dead r hr
theorem OKT.kin {t u:Lp} {h:List Row} (hk:OKT t h) (hu:t.kin u):OKT u h:=by
 refine⟨λr hr=>hk.dead r ?_,?_⟩
 ·simp only[Lp.has,hu.map];exact hr
 ·rw[←hu.map];exact hk.nod
theorem OKT.kill {t:Lp} {h:List Row} (hk:OKT t h) {n:Nat} (hn:∀r,t.has r→r <n):OKT t (kill n h)∧t.ins P GL (kill n h)=kill n (t.ins P GL h):=by
 refine⟨⟨λr hr=>?_,hk.nod⟩,?_⟩
 ·rw[kill_get,if_pos (hn r hr)];exact hk.dead r hr
 ·have hget:∀(t:Lp),(∀r,t.has r→r <n)→t.ins P GL (Go.Va.kill n h)=Go.Va.kill n (t.ins P GL h):=by
   intro t;induction t with
   |nil=>intro _;rfl
   |cons x t ih=>
    intro hn;have hn':∀r,Lp.has t r→r <n:=λr hr=>hn r (by simp only[Lp.has,List.map_cons,List.mem_cons];exact .inr hr);simp only[Lp.ins,ih hn'];have hx:x.1 <n:=hn x.1 (by simp[Lp.has]);apply List.ext_getElem?;intro r;rw[kill_get,List.getElem?_set,List.getElem?_set,kill_get,kill_len,List.length_set];by_cases h1:x.1=r
    ·subst h1;simp[hx]
    ·simp[h1]
  exact hget t hn
theorem val_lift {t:Lp} {e:Env} {h:List Row} (hk:OKT t h) {i:PI} {x:D} (hv:i.val e h=some x):i.val e (t.ins P GL h)=some x:=by
 cases hkd:i.kd with
 |n=>rw[PI.val_heap (h2:=t.ins P GL h) hkd];exact hv
 |r=>
  cases i with
  |load a n ag=>
   simp only[PI.val]at hv ⊢;split at hv
   ·exact hv
   ·rename_i r off ha;split at hv
    ·rename_i ds hr;simp only[hk.get (P:=P) (GL:=GL) hr (by simp)];exact hv
    ·cases hv
   ·cases hv
  |look m k st ks zs ag ok=>
   simp only[PI.val]at hv ⊢;split at hv
   ·split at hv
    ·rename_i hok;rw[if_pos hok];split at hv
     ·rename_i z hz;split at hv
      ·exact hv
      ·rename_i r ha;split at hv
       ·rename_i es bs ck hr;simp only[hk.get (P:=P) (GL:=GL) hr (by simp)];exact hv
       ·cases hv
      ·cases hv
     ·cases hv
    ·cases hv
   ·cases hv
  |mlen m=>
   simp only[PI.val]at hv ⊢;split at hv
   ·exact hv
   ·rename_i r ha;split at hv
    ·rename_i es hr;simp only[hk.get (P:=P) (GL:=GL) hr (by simp)];exact hv
    ·cases hv
   ·cases hv
  |_=>cases hkd
 |a=>cases i<;>cases hkd
 |w=>cases i<;>cases hkd
 |t=>cases i<;>cases hkd
theorem step_lift {t:Lp} {e:Env} {h:List Row} (hk:OKT t h) {i:AI} {s':St} (hs:i.step ⟨e,h⟩=some s'):i.step ⟨e,t.ins P GL h⟩=some ⟨s'.e,t.ins P GL s'.h⟩∧OKT t s'.h:=by
 cases i with
 |p d i=>
  simp only[AI.step,Option.map_eq_some_iff]at hs ⊢;obtain⟨x,hx,rfl⟩:=hs;exact⟨⟨x,val_lift hk hx,rfl⟩,hk⟩
 |mv d x=>simp only[AI.step,Option.some.injEq]at hs ⊢;subst hs;exact⟨rfl,hk⟩
 |alloc d zs=>
  simp only[AI.step,Option.some.injEq]at hs ⊢;subst hs;obtain⟨h1,h2⟩:=hk.append (P:=P) (GL:=GL) (.cells zs);exact⟨by rw[h2,ins_len],h1⟩
 |box d x=>
  simp only[AI.step]at hs ⊢;split at hs
  ·rename_i cs hc;simp only[Option.some.injEq]at hs;subst hs;obtain⟨h1,h2⟩:=hk.append (P:=P) (GL:=GL) (.cells (cs.map D.toRow));exact⟨by rw[h2,ins_len],h1⟩
  ·cases hs
 |store a x n=>
  simp only[AI.step]at hs ⊢;split at hs
  ·rename_i r off ha;split at hs
   ·rename_i ds hr;simp only[hk.get (P:=P) (GL:=GL) hr (by simp)];split at hs
    ·rename_i e' sz xs hx;split at hs
     ·rename_i m;split at hs
      ·rename_i hc;simp only[Option.some.injEq]at hs;subst hs;obtain⟨h1,h2⟩:=hk.set (P:=P) (GL:=GL) (y:= .cells (ds.set off (.own e' sz xs))) hr (by simp);exact⟨by rw[if_pos hc,h2],h1⟩
      ·cases hs
     ·cases hs
    ·rename_i bb e' sz xs hx;split at hs
     ·rename_i m;split at hs
      ·rename_i hc;simp only[Option.some.injEq]at hs;subst hs;obtain⟨h1,h2⟩:=hk.set (P:=P) (GL:=GL) (y:= .cells (ds.set off (.pend bb e' sz xs))) hr (by simp);exact⟨by rw[if_pos hc,h2],h1⟩
      ·cases hs
     ·cases hs
    ·rename_i hne hne2;split at hs
     ·rename_i cs hc;split at hs
      ·rename_i hc2;simp only[Option.some.injEq]at hs;subst hs;obtain⟨h1,h2⟩:=hk.set (P:=P) (GL:=GL) (y:= .cells (putL ds off (cs.map (D.toRowX x n)))) hr (by simp);exact⟨by simp only[hc,hc2,h2];simp[hc2],h1⟩
      ·cases hs
     ·cases hs
   ·cases hs
  ·cases hs
 |take d a=>
  simp only[AI.step]at hs ⊢;split at hs
  ·rename_i r off ha;split at hs
   ·rename_i ds hr;simp only[hk.get (P:=P) (GL:=GL) hr (by simp)];split at hs
    ·rename_i e' sz xs hx;simp only[Option.some.injEq]at hs;subst hs;obtain⟨h1,h2⟩:=hk.set (P:=P) (GL:=GL) (y:= .cells (ds.set off (.v (.list xs)))) hr (by simp);exact⟨by simp only[h2],h1⟩
    ·cases hs
   ·cases hs
  ·cases hs
 |app d x y e' sz by_=>
  simp only[AI.step]at hs ⊢;split at hs
  ·split at hs
   ·rename_i hc;simp only[Option.some.injEq]at hs;subst hs;exact⟨by rw[if_pos hc],hk⟩
   ·cases hs
  ·cases hs
 |appS d x y e' by_=>
  simp only[AI.step]at hs ⊢;split at hs
  ·split at hs
   ·rename_i hc;simp only[Option.some.injEq]at hs;subst hs;exact⟨by rw[if_pos hc],hk⟩
   ·cases hs
  ·cases hs
 |bsl d e' sz ps=>
  simp only[AI.step]at hs ⊢;split at hs
  ·split at hs
   ·rename_i hc;rw[if_pos hc];split at hs<;>(simp only[Option.some.injEq]at hs;subst hs;exact⟨rfl,hk⟩)
   ·cases hs
  ·cases hs
 |bsr d sz ps=>
  simp only[AI.step]at hs ⊢;split at hs
  ·rename_i cs hcs;simp only[Option.some.injEq]at hs;subst hs;obtain⟨h1,h2⟩:=hk.append (P:=P) (GL:=GL) (.cells cs);exact⟨by rw[h2,ins_len],h1⟩
  ·cases hs
 |s2b d x=>
  simp only[AI.step]at hs ⊢;split at hs
  ·simp only[Option.some.injEq]at hs;subst hs;exact⟨rfl,hk⟩
  ·cases hs
 |mksl d x z=>
  simp only[AI.step]at hs ⊢;split at hs
  ·rename_i k n hn;split at hs
   ·rename_i hc;simp only[Option.some.injEq]at hs;subst hs;obtain⟨h1,h2⟩:=hk.append (P:=P) (GL:=GL) (.cells (List.replicate n.toNat z));exact⟨by rw[if_pos hc,h2,ins_len],h1⟩
   ·cases hs
  ·cases hs
 |nilS d ne x=>cases hs
 |mkm d=>
  simp only[AI.step,Option.some.injEq]at hs ⊢;subst hs;obtain⟨h1,h2⟩:=hk.append (P:=P) (GL:=GL) (.map [] [] 0);exact⟨by rw[h2,ins_len],h1⟩
 |mput m k v st ks=>
  simp only[AI.step]at hs ⊢;split at hs
  ·rename_i r hm;split at hs
   ·rename_i es bs ck hr;simp only[hk.get (P:=P) (GL:=GL) hr (by simp)];split at hs
    ·rename_i kv vv hkv hvv;split at hs
     ·rename_i hko;rw[if_pos hko];split at hs
      ·simp only[Option.some.injEq]at hs;subst hs;obtain⟨h1,h2⟩:=hk.set (P:=P) (GL:=GL) (y:= .map (es++[(kv,vv)]) (bs++[ck]) (ck+1)) hr (by simp);exact⟨by rw[h2],h1⟩
      ·rename_i i hi;simp only[Option.some.injEq]at hs;subst hs;obtain⟨h1,h2⟩:=hk.set (P:=P) (GL:=GL) (y:= .map (es.set i (kv,vv)) bs ck) hr (by simp);exact⟨by rw[h2],h1⟩
      ·cases hs
     ·cases hs
    ·cases hs
   ·cases hs
  ·cases hs
 |ment d m k st ks=>
  simp only[AI.step]at hs ⊢;split at hs
  ·rename_i r hm;split at hs
   ·rename_i es bs ck hr;simp only[hk.get (P:=P) (GL:=GL) hr (by simp)];split at hs
    ·rename_i kv hkv;split at hs
     ·rename_i hko;rw[if_pos hko];split at hs
      ·rename_i i hi;split at hs
       ·simp only[Option.some.injEq]at hs;subst hs;exact⟨rfl,hk⟩
       ·cases hs
      ·cases hs
     ·cases hs
    ·cases hs
   ·cases hs
  ·cases hs
 |mest m b v=>
  simp only[AI.step]at hs ⊢;split at hs
  ·rename_i r hm;split at hs
   ·rename_i es bs ck hr;simp only[hk.get (P:=P) (GL:=GL) hr (by simp)];split at hs
    ·rename_i kk n vv hb hv;split at hs
     ·rename_i i hi;split at hs
      ·rename_i p hp;simp only[Option.some.injEq]at hs;subst hs;obtain⟨h1,h2⟩:=hk.set (P:=P) (GL:=GL) (y:= .map (es.set i (p.1,vv)) bs ck) hr (by simp);exact⟨by rw[h2],h1⟩
      ·cases hs
     ·cases hs
    ·cases hs
   ·cases hs
  ·cases hs
 |mdel d m k st ks=>
  simp only[AI.step]at hs ⊢;split at hs
  ·rename_i r hm;split at hs
   ·rename_i es bs ck hr;simp only[hk.get (P:=P) (GL:=GL) hr (by simp)];split at hs
    ·rename_i kv hkv;split at hs
     ·rename_i hko;rw[if_pos hko];split at hs
      ·simp only[Option.some.injEq]at hs;subst hs;exact⟨rfl,hk⟩
      ·rename_i i hi;simp only[Option.some.injEq]at hs;subst hs;obtain⟨h1,h2⟩:=hk.set (P:=P) (GL:=GL) (y:= .map (es.eraseIdx i) (bs.eraseIdx i) ck) hr (by simp);exact⟨by rw[h2],h1⟩
      ·cases hs
     ·cases hs
    ·cases hs
   ·cases hs
  ·cases hs
 |call d f args=>cases hs
 |callF d f args=>cases hs
 |callC d f args=>cases hs
 |callO d f q args=>cases hs
 |appR d x y e s b=>cases hs
 |frz d x s=>cases hs
 |callN d f args=>cases hs
 |appP d x y e s b=>cases hs
 |itr k d x=>cases hs
 |fin m ad p x sz=>
  simp only[AI.step]at hs ⊢;split at hs
  ·rename_i b s0 n y hp hx;split at hs
   ·rename_i b' e' s2 xs hf;split at hs
    ·rename_i hc;simp only[Option.some.injEq]at hs;subst hs;exact⟨by rw[if_pos hc],hk⟩
    ·cases hs
   ·rename_i hnp;split at hs
    ·rename_i r off ha;split at hs
     ·rename_i ds hr;split at hs
      ·rename_i b' e' s2 xs hd;split at hs
       ·rename_i hc;simp only[Option.some.injEq]at hs;subst hs;obtain⟨h1,h2⟩:=hk.set (P:=P) (GL:=GL) (y:= .cells (ds.set off (.own e' sz (xs++[y])))) hr (by simp);refine⟨?_,h1⟩;simp only[hk.get (P:=P) (GL:=GL) hr (by simp),hd,if_pos hc,h2]
       ·cases hs
      ·cases hs
     ·cases hs
    ·cases hs
  ·cases hs
 |mksz d x zs=>
  simp only[AI.step]at hs ⊢;split at hs
  ·rename_i k n hn;split at hs
   ·rename_i hc;simp only[Option.some.injEq]at hs;subst hs;obtain⟨h1,h2⟩:=hk.append (P:=P) (GL:=GL) (.cells (List.replicate n.toNat zs).flatten);exact⟨by rw[if_pos hc,h2,ins_len],h1⟩
   ·cases hs
  ·cases hs
 |clr d x zs=>
  simp only[AI.step]at hs ⊢;split at hs
  ·rename_i r n hx;split at hs
   ·rename_i ds hr;simp only[hk.get (P:=P) (GL:=GL) hr (by simp)];split at hs
    ·rename_i hc;rw[if_pos hc];simp only[Option.some.injEq]at hs;subst hs;obtain⟨h1,h2⟩:=hk.set (P:=P) (GL:=GL) (y:= .cells (putL ds 0 (List.replicate n zs).flatten)) hr (by simp);exact⟨by rw[h2],h1⟩
    ·cases hs
   ·cases hs
  ·cases hs
 |cpy d x y sz=>
  simp only[AI.step]at hs ⊢;split at hs
  ·rename_i r n hx;split at hs
   ·rename_i ys hy;split at hs
    ·rename_i ds hr;simp only[hk.get (P:=P) (GL:=GL) hr (by simp)];split at hs
     ·rename_i hc;rw[if_pos hc];simp only[Option.some.injEq]at hs;subst hs;obtain⟨h1,h2⟩:=hk.set (P:=P) (GL:=GL) (y:= .cells ((ys.flatMap V.cells).map .v)) hr (by simp);exact⟨by rw[h2],h1⟩
     ·cases hs
    ·cases hs
   ·cases hs
  ·cases hs
end
structure Ev where
 F:Nat→List D→List Row→Lp→Option (List D×List Row×Lp)
 Pf:Nat→List V→Option (List V)
 C:AC→ES→Option (List (AExit×ES))
 np:Nat→Bool
abbrev Tbl:=Nat→Option (Nat×AC×List AR)
def bindL {α β:Type} (f:α→Option (List β)):List α→Option (List β)
 |[]=>some []
 |x::xs=>match f x,bindL f xs with
  |some ys,some zs=>some (ys++zs)
  |_,_=>none
def mapL {α β:Type} (f:α→Option β):List α→Option (List β)
 |[]=>some []
 |x::xs=>match f x,mapL f xs with
  |some y,some zs=>some (y::zs)
  |_,_=>none
def oneOf {α:Type} (eq:α→α→Bool):List α→Option α
 |[]=>none
 |x::xs=>if xs.all (eq x) then some x else none
theorem bindL_mem {α β:Type} {f:α→Option (List β)}:∀ {xs:List α} {ys:List β},bindL f xs=some ys→∀x∈xs,∃zs,f x=some zs∧∀z∈zs,z∈ys
 |[],ys,_,x,hx=>by simp at hx
 |x::xs,ys,h,y,hy=>by
  simp only[bindL]at h;split at h
  ·rename_i asx bs ha hb;simp only[Option.some.injEq]at h;subst h;rcases List.mem_cons.1 hy with rfl|hy
   ·exact⟨asx,ha,λz hz=>List.mem_append_left _ hz⟩
   ·obtain⟨zs,h1,h2⟩:=bindL_mem hb y hy;exact⟨zs,h1,λz hz=>List.mem_append_right _ (h2 z hz)⟩
  ·cases h
theorem mapL_mem {α β:Type} {f:α→Option β}:∀ {xs:List α} {ys:List β},mapL f xs=some ys→∀x∈xs,∃z,f x=some z∧z∈ys
 |[],ys,_,x,hx=>by simp at hx
 |x::xs,ys,h,y,hy=>by
  simp only[mapL]at h;split at h
  ·rename_i a bs ha hb;simp only[Option.some.injEq]at h;subst h;rcases List.mem_cons.1 hy with rfl|hy
   ·exact⟨a,ha,by simp⟩
   ·obtain⟨z,h1,h2⟩:=mapL_mem hb y hy;exact⟨z,h1,by simp[h2]⟩
  ·cases h
theorem mapL_inv {α β:Type} {f:α→Option β}:∀ {xs:List α} {ys:List β},mapL f xs=some ys→∀y∈ys,∃x∈xs,f x=some y
 |[],ys,h,y,hy=>by simp only[mapL,Option.some.injEq]at h;subst h;simp at hy
 |x::xs,ys,h,y,hy=>by
  simp only[mapL]at h;split at h
  ·rename_i a bs ha hb;simp only[Option.some.injEq]at h;subst h;rcases List.mem_cons.1 hy with rfl|hy
   ·exact⟨x,by simp,ha⟩
   ·obtain⟨z,h1,h2⟩:=mapL_inv hb y hy;exact⟨z,by simp[h1],h2⟩
  ·cases h
theorem oneOf_mem {α:Type} {eq:α→α→Bool} {xs:List α} {x:α} (h:oneOf eq xs=some x):x∈xs∧∀y∈xs,y=x∨eq x y=true:=by
 cases xs with
 |nil=>simp[oneOf]at h
 |cons a xs=>
  simp only[oneOf]at h;split at h
  ·rename_i hall;simp only[Option.some.injEq]at h;subst h;refine⟨by simp,λy hy=>?_⟩;rcases List.mem_cons.1 hy with rfl|hy
   ·exact .inl rfl
   ·exact .inr (List.all_eq_true.1 hall y hy)
  ·cases h
def yEnd (t:Lp) (r:Nat):AExit→Bool×Lp
 | .normal=>(true,t.tag r .ready)
 | .ret=>(false,t.tag r (.done none))
 | .exit i=>(false,t.tag r (.done (some i)))
def yEq (x y:Bool×List Row×Lp):Bool:=x.1==y.1&&beqL Row.beq x.2.1 y.2.1&&Lp.beq x.2.2 y.2.2
def fEq (x y:List D×List Row×Lp):Bool:=D.beqs x.1 y.1&&beqL Row.beq x.2.1 y.2.1&&Lp.beq x.2.2 y.2.2
def evY (E:Ev) (r:Nat) (args:List D) (h:List Row) (t:Lp):Option (Bool×List Row×Lp):=
 match t.get r with
 |some (.ready,l)=>if args.length=l.ps.length then
   match E.C l.asg ⟨setPs l.e l.ps args,h,t⟩with
   |some [(.normal,s1)]=>match s1.t.get r with
    |some (.ready,_)=>match E.C l.body ⟨s1.e,s1.h,s1.t.tag r .busy⟩with
     |some o2=>match mapL (λo=>match o.2.t.get r with
       |some (.busy,_)=>some ((yEnd o.2.t r o.1).1,o.2.h,(yEnd o.2.t r o.1).2)
       |_=>none) o2 with
      |some rs=>oneOf yEq rs
      |none=>none
     |none=>none
    |_=>none
   |_=>none
  else none
 |_=>none
def allV:List D→Option (List V)
 |[]=>some []
 | .v x::ds=>match allV ds with
  |some xs=>some (x::xs)
  |none=>none
 |_=>none
theorem allV_map:∀ {ds:List D} {vs:List V},allV ds=some vs→ds=vs.map .v
 |[],vs,h=>by simp only[allV,Option.some.injEq]at h;subst h;rfl
 |d::ds,vs,h=>by
  cases d<;>simp only[allV,reduceCtorEq]at h
  split at h
  ·rename_i xs hxs;simp only[Option.some.injEq]at h;subst h;simp only[List.map_cons,allV_map hxs]
  ·cases h
def evCall (E:Ev) (f:Nat) (args:List D) (h:List Row) (t:Lp):Option (List D×List Row×Lp):=
 match allV args with
 |some vs=>bif E.np f then E.F f args h t else match E.Pf f vs with
  |some rets=>some (rets.map .v,h,t)
  |none=>E.F f args h t
 |none=>E.F f args h t
def evIC (E:Ev) (d:Option Nat) (f:Opd) (args:List Opd) (s:ES):Option (List ES):=
 match f.ev s.e with
 | .yld r=>(evY E r (argsOf s.e args) s.h s.t).map λx=>[⟨setO s.e d (.v (.bool x.1)),x.2.1,x.2.2⟩]
 | .meth fid fs=>(evCall E fid (fs++argsOf s.e args) s.h s.t).map λx=>[⟨setO s.e d (retDs x.1),x.2.1,x.2.2⟩]
 |fd=>match fnOf fd with
  |some (fid,caps)=>(evCall E fid (argsOf s.e args++caps) s.h s.t).map λx=>[⟨setO s.e d (retDs x.1),x.2.1,x.2.2⟩]
  |none=>none
def appRs (d:Nat) (x y:Opd) (e sz by_:Nat) (s:St):Option St:=
 match (y.ev s.e).toV with
 |some (.list ys)=>if headOK sz ys=true∧roomy ys.length by_=true then
   (match x.ev s.e with
   | .nil _ _=>some (if ys.isEmpty=true then ⟨(d,.nil e sz)::s.e,s.h⟩ else ⟨(d,.sref s.h.length ys.length)::s.e,s.h++[.cells ((ys.flatMap V.cells).map .v)]⟩)
   | .own e' _ []=>if NoGrow e' then some (if ys.isEmpty=true then ⟨(d,.nil e sz)::s.e,s.h⟩ else ⟨(d,.sref s.h.length ys.length)::s.e,s.h++[.cells ((ys.flatMap V.cells).map .v)]⟩) else none
   | .v (.list xs)=>if ys.isEmpty=true then some ⟨(d,.v (.list xs))::s.e,s.h⟩ else none
   |_=>none)
  else none
 |_=>none
def chunk (sz:Nat):Nat→List V→List V
 |0,_=>[]
 |n+1,cs=>(bif Nat.beq sz 1 then cs.headD .nilp else .agg (cs.take sz))::chunk sz n (cs.drop sz)
def frzS (d:Nat) (x:Opd) (sz:Nat) (s:St):Option St:=
 match x.ev s.e with
 | .nil _ _=>some ⟨(d,.v (.list []))::s.e,s.h⟩
 | .v (.list xs)=>some ⟨(d,.v (.list xs))::s.e,s.h⟩
 | .sref r n=>match s.h[r]? with
  |some (.cells ds)=>match D.vs? (ds.take (n*sz))with
   |some cs=>if (0 <sz∧(chunk sz n cs).length=n)∧((chunk sz n cs).all λx=>x.cells.length==sz)=true∧V.beqs cs ((chunk sz n cs).flatMap V.cells)=true then some ⟨(d,.v (.list (chunk sz n cs)))::s.e,s.h.set r .dead⟩ else none
   |none=>none
  |_=>none
 |_=>none
def evI (E:Ev) (i:AI) (s:ES):Option (List ES):=
 match i with
 | .appR d x y e sz by_=>(appRs d x y e sz by_ ⟨s.e,s.h⟩).map λs'=>[⟨s'.e,s'.h,s.t⟩]
 | .frz d x sz=>(frzS d x sz ⟨s.e,s.h⟩).map λs'=>[⟨s'.e,s'.h,s.t⟩]
 | .call d f args=>evIC E d f args s
 | .callF d f args=>evIC E d f args s
 | .callC d f args=>evIC E d f args s
 | .nilS d ne x=>match (x.ev s.e).copy with
  | .v (.list [])| .nil _ _=>some [⟨(d,.v (.bool (true != ne)))::s.e,s.h,s.t⟩,⟨(d,.v (.bool (false != ne)))::s.e,s.h,s.t⟩]
  | .v (.list (_::_))=>some [⟨(d,.v (.bool (false != ne)))::s.e,s.h,s.t⟩]
  |_=>none
 |i=>(i.step ⟨s.e,s.h⟩).map λs'=>[⟨s'.e,s'.h,s.t⟩]
def evG (E:Ev) (x:GI) (s:ES):Option (List ES):=
 match x.g with
 |none=>evI E x.i s
 |some (t,want)=>match find s.e t with
  | .v (.bool b)=>if b=want then evI E x.i s else some [⟨setO s.e x.i.dst (.tup []),s.h,s.t⟩]
  | .tup []=>some [⟨setO s.e x.i.dst (.tup []),s.h,s.t⟩]
  |_=>none
def evOps (E:Ev):List GI→ES→Option (List ES)
 |[],s=>some [s]
 |x::xs,s=>match evG E x s with
  |some ss=>bindL (evOps E xs) ss
  |none=>none
def evJC (E:Ev) (t:Lp) (fd:D) (args:List D) (h:List Row):Option (List D×List Row):=
 match (match fd with
  | .yld r=>(evY E r args h t).map λx=>([.v (.bool x.1)],x.2)
  | .meth fid fs=>evCall E fid (fs++args) h t
  |fd=>match fnOf fd with
   |some (fid,caps)=>evCall E fid (args++caps) h t
   |none=>none:Option (List D×List Row×Lp))with
 |some x=>if Lp.beq t x.2.2 then some (x.1,x.2.1) else none
 |none=>none
def evJI (E:Ev) (t:Lp) (i:AI) (s:St):Option St:=
 match i with
 | .callF d f args=>(evJC E t (f.ev s.e) (argsOf s.e args) s.h).map λx=>⟨setO s.e d (retDs x.1),x.2⟩
 | .callC d f args=>match evJC E t (f.ev s.e) (argsOf s.e args) s.h with
  |some x=>if beqL Row.beq (x.2.take s.h.length) s.h then some ⟨setO s.e d (retDs x.1),x.2⟩ else none
  |none=>none
 | .call d f args=>match (f.ev s.e).toV,toVs s.e args with
  |some (.func fid caps),some vs=>(E.Pf fid (vs++caps)).map λrets=>⟨setO s.e d (retD rets),s.h⟩
  |_,_=>none
 |i=>i.step s
def evJG (E:Ev) (t0:Lp) (x:GI) (s:St):Option St:=
 match x.g with
 |none=>evJI E t0 x.i s
 |some (t,want)=>match find s.e t with
  | .v (.bool b)=>if b=want then evJI E t0 x.i s else some ⟨setO s.e x.i.dst (.tup []),s.h⟩
  | .tup []=>some ⟨setO s.e x.i.dst (.tup []),s.h⟩
  |_=>none
def evJ (E:Ev) (t0:Lp):List GI→St→Option St
 |[],s=>some s
 |x::xs,s=>match evJG E t0 x s with
  |some s1=>evJ E t0 xs s1
  |none=>none
def evT (E:Ev) (t0:Lp) (is:List GI):AT→St→Option (List St)
 | .done,s=>some [s]
 | .take i t,s=>match evJG E t0 (is.getD i default) s with
  |some s1=>evT E t0 is t s1
  |none=>none
 | .pick c,s=>evT E t0 is c s
 | .alt i t r,s=>match evJG E t0 (is.getD i default) s with
  |some s1=>match evT E t0 is t s1,evT E t0 is r s with
   |some a,some b=>some (a++b)
   |_,_=>none
  |none=>none
 | .none,_=>some []
def mkPi (o s1:St):List (Nat×Nat):=s1.e.filterMap λp=>match p.2,find o.e p.1 with
 | .ref a _,.ref b _=>some (b,a)
 | .sref a _,.sref b _=>some (b,a)
 | .mref a,.mref b=>some (b,a)
 |_,_=>none
def renSt (π:List (Nat×Nat)) (s:St):St:=⟨s.e.map λp=>(p.1,p.2.ren π),renRows π s.h⟩
def endEq (keep:List Nat) (a b:St):Bool:=D.beqs ((normE a.e keep).map (·.2)) ((normE b.e keep).map (·.2))&&beqL Row.beq a.h b.h
def alike (n0:Nat) (t:Lp) (keep:List Nat) (o s1:St):Bool:=
 endEq keep o s1||(t.isEmpty&&(let π:=mkPi o s1;permOK n0 o.h.length π&&noObj o.h&&endEq keep (renSt π o) s1))
def mergeA (n0:Nat) (t:Lp) (keep:List Nat):List St→List St
 |[]=>[]
 |s1::ss=>s1::ss.filter λo=> !alike n0 t keep o s1
def evC (E:Ev) (ac:AC) (s:ES):Option (List (AExit×ES)):=
 match ac with
 | .skip=>some [(.normal,s)]
 | .reg ops keep=>(evOps E ops s).map λss=>ss.map λs'=>(.normal,⟨normE s'.e keep,s'.h,s'.t⟩)
 | .regD ops keep _=>(evJ E s.t ops ⟨s.e,s.h⟩).map λs'=>[(.normal,⟨normE s'.e keep,s'.h,s.t⟩)]
 | .regA ops keep _ t=>(evT E s.t ops t ⟨s.e,s.h⟩).map λss=>(mergeA s.h.length s.t keep ss).map λs'=>(.normal,⟨normE s'.e keep,s'.h,s.t⟩)
 | .regV _ _ _=>none
 | .seq a b=>match E.C a s with
  |some os=>bindL (λo=>match o.1 with| .normal=>E.C b o.2|e=>some [(e,o.2)]) os
  |none=>none
 | .cond x a b=>match x.ev s.e with
  | .v (.bool t)=>if t then E.C a s else E.C b s
  |_=>none
 | .block id c=>(E.C c s).map λos=>os.map λo=>match o.1 with| .exit id'=>if id'=id then (.normal,o.2) else o|_=>o
 | .loop c=>match E.C c s with
  |some os=>bindL (λo=>match o.1 with| .normal=>E.C (.loop c) o.2|e=>some [(e,o.2)]) os
  |none=>none
 | .scope c=>E.C c s
 | .never=>none
 | .exit id=>some [(.exit id,s)]
 | .ret=>some [(.ret,s)]
 | .rangeF q ps asg body=>match fnOf (q.ev s.e)with
  |some (fid,caps)=>match E.F fid (.yld s.h.length::caps) (s.h++[.dead]) ((s.h.length,.ready,⟨cpE s.e,ps,asg,body⟩)::s.t)with
   |some (_,h',x::t')=>match x.2.1 with
    | .ready=>some [(.normal,⟨s.e,h',t'⟩)]
    | .busy=>none
    | .done none=>some [(.ret,⟨s.e,h',t'⟩)]
    | .done (some i)=>some [(.exit i,⟨s.e,h',t'⟩)]
   |_=>none
  |none=>none
abbrev Prims:=Nat→List D→List Row→Option (List D×List Row)
def tidy (n:Nat) (x:List D×List Row×Lp):List D×List Row×Lp:=
 if D.lts n x.1&&(x.2.1.take n).all (Row.lt n) then (x.1,kill n x.2.1,x.2.2) else x
def evF (T:Tbl) (Pr:Prims) (E:Ev) (f:Nat) (args:List D) (h:List Row) (t:Lp):Option (List D×List Row×Lp):=
 match T f with
 |some (n,ac,rs)=>if args.length=n then
   match E.C ac ⟨entryD args,h,t⟩with
   |some os=>match mapL (λo=>match o.1 with
     | .exit _=>none
     |_=>(resDs ⟨o.2.e,o.2.h⟩ rs).map λr=>tidy h.length (r,o.2.h,o.2.t)) os with
    |some xs=>oneOf fEq xs
    |none=>none
   |none=>none
  else none
 |none=>(Pr f args h).map λx=>(x.1,h++x.2,t)
def evP (T:Tbl) (M:Nat→List V→Option (List V)) (E:Ev) (f:Nat) (vs:List V):Option (List V):=
 match T f with
 |some (n,ac,rs)=>if vs.length=n then
   match E.C ac ⟨entry vs,[],[]⟩with
   |some os=>match mapL (λo=>match o.1 with
     | .exit _=>none
     |_=>resVs ⟨o.2.e,o.2.h⟩ rs) os with
    |some xs=>oneOf V.beqs xs
    |none=>none
   |none=>none
  else none
 |none=>M f vs
def evn (np:Nat→Bool) (M:Nat→List V→Option (List V)) (T:Tbl) (Pr:Prims):Nat→Ev
 |0=>⟨λ_ _ _ _=>none,λ_ _=>none,λ_ _=>none,np⟩
 |n+1=>⟨evF T Pr (evn np M T Pr n),evP T M (evn np M T Pr n),evC (evn np M T Pr n),np⟩
abbrev ev (T:Tbl) (Pr:Prims):Nat→Ev:=evn (λ_=>false) (λ_ _=>none) T Pr
section
variable (P:Program) (GL:Globals)
def ES.real (s:ES):St:=⟨s.e,s.t.ins P GL s.h⟩
structure Snd (E:Ev):Prop where
 F:∀ {f args h t r},E.F f args h t=some r→OKT t h→FSp P GL f args (t.ins P GL h) r.1 (r.2.2.ins P GL r.2.1)∧t.kin r.2.2∧OKT r.2.2 r.2.1
 Pf:∀ {f vs rets},E.Pf f vs=some rets→PSp P GL f vs rets
 K:∀ {ac s os},E.C ac s=some os→OKT s.t s.h→∀o∈os,s.t.kin o.2.t∧OKT o.2.t o.2.h
 C:∀ {ac s os},E.C ac s=some os→OKT s.t s.h→awp P GL ac (λe s'=>∃o∈os,e=o.1∧s'=o.2.real P GL) (s.real P GL)
end
section
variable {P:Program} {GL:Globals} {E:Ev} {T:Tbl} {Pr:Prims}
theorem row_eq {h h':List Row} (hb:beqL Row.beq h h'=true):h=h':=beqL_eq (λ_ _ h=>Row.beq_eq h) hb
theorem yEnd_kin (t:Lp) (r:Nat) (e:AExit):t.kin (yEnd t r e).2:=by cases e<;>exact Lp.kin_tag _ _ _
theorem evY_sound (hE:Snd P GL E) {r:Nat} {args:List D} {h:List Row} {t:Lp} {x:Bool×List Row×Lp} (he:evY E r args h t=some x) (hk:OKT t h):
  YSp P GL r args (t.ins P GL h) x.1 (x.2.2.ins P GL x.2.1)∧t.kin x.2.2∧OKT x.2.2 x.2.1:=by
 unfold evY at he;split at he
 ·rename_i l hget;split at he
  ·rename_i hlen;split at he
   ·rename_i s1 h1;split at he
    ·rename_i l1 hget1;split at he
     ·rename_i o2 h2;split at he
      ·rename_i rs hrs;obtain⟨hmem,hall⟩:=oneOf_mem he;have hlt:r <h.length:=hk.lt (get_has t hget);have hasg:=hE.C h1 hk;obtain⟨hk1,hok1⟩:=hE.K h1 hk (.normal,s1) (by simp);simp only at hk1 hok1;have hl1:l1=l:=(get_kin hk1 hget hget1).symm;subst hl1;have hokb:OKT (s1.t.tag r .busy) s1.h:=hok1.kin (Lp.kin_tag _ _ _);have hbody:=hE.C h2 hokb;have hK:=hE.K h2 hokb;have hkin:∀o∈o2,t.kin o.2.t∧OKT o.2.t o.2.h:=λo ho=>⟨(hk1.trans (Lp.kin_tag _ _ _)).trans (hK o ho).1,(hK o ho).2⟩;have hkx:t.kin x.2.2∧OKT x.2.2 x.2.1:=by
        obtain⟨o,ho,hz⟩:=mapL_inv hrs x hmem;split at hz
        ·simp only[Option.some.injEq]at hz;subst hz;exact⟨(hkin o ho).1.trans (yEnd_kin _ _ _),(hkin o ho).2.kin (yEnd_kin _ _ _)⟩
        ·cases hz
       have hend:∀o∈o2,∃lb,o.2.t.get r=some (.busy,lb)∧lb=l1∧(yEnd o.2.t r o.1).1=x.1∧o.2.h=x.2.1∧(yEnd o.2.t r o.1).2=x.2.2:=by
        intro o ho;obtain⟨z,hz,hzm⟩:=mapL_mem hrs o ho;split at hz
        ·rename_i lb hgb;simp only[Option.some.injEq]at hz;subst hz;refine⟨lb,hgb,(get_kin (hkin o ho).1 hget hgb).symm,?_⟩;rcases hall _ hzm with rfl|heq
         ·exact⟨rfl,rfl,rfl⟩
         ·simp only[yEq,Bool.and_eq_true,beq_iff_eq]at heq;exact⟨heq.1.1.symm,(row_eq heq.1.2).symm,(Lp.beq_eq hkx.1 ((hkin o ho).1.trans (yEnd_kin _ _ _)) heq.2).symm⟩
        ·cases hz
       refine⟨?_,hkx⟩;refine ysp_of_awp (ins_loop t hlt hget) hlen (awp_mono _ ?_ hasg);rintro e s' ⟨o,ho,rfl,rfl⟩;simp only[List.mem_singleton]at ho;subst ho;have hlt1:r <s1.h.length:=hok1.lt (get_has _ hget1);refine⟨rfl,ins_loop _ hlt1 hget1,?_⟩;have e1:(s1.t.tag r .busy).ins P GL s1.h=(s1.t.ins P GL s1.h).set r (recRow P GL .busy l1.e l1.ps l1.asg l1.body):=ins_tag _ hok1.nod hget1;simp only[ES.real,←e1];refine awp_mono _ ?_ hbody;rintro e s' ⟨o,ho,rfl,rfl⟩;obtain⟨lb,hgb,rfl,q1,q2,q3⟩:=hend o ho;have hok:=(hkin o ho).2;have hlt2:r <o.2.h.length:=hok.lt (get_has _ hgb);refine⟨ins_loop _ hlt2 hgb,?_⟩;rw[←q1,←q2,←q3];cases o.1<;>exact⟨rfl,ins_tag _ hok.nod hgb⟩
      ·cases he
     ·cases he
    ·cases he
   ·cases he
  ·cases he
 ·cases he
theorem evCall_sound (hE:Snd P GL E) {f:Nat} {args:List D} {h:List Row} {t:Lp} {r:List D×List Row×Lp} (he:evCall E f args h t=some r) (hk:OKT t h):
  FSp P GL f args (t.ins P GL h) r.1 (r.2.2.ins P GL r.2.1)∧t.kin r.2.2∧OKT r.2.2 r.2.1:=by
 unfold evCall at he;split at he
 ·rename_i vs hvs;cases hnp:E.np f with
  |true=>rw[hnp]at he;exact hE.F he hk
  |false=>
   rw[hnp,cond_false]at he;split at he
   ·rename_i rets hr;simp only[Option.some.injEq]at he;subst he;rw[allV_map hvs];exact⟨(hE.Pf hr).fsp _,Lp.kin.refl _,hk⟩
   ·exact hE.F he hk
 ·exact hE.F he hk
theorem evIC_sound (hE:Snd P GL E) {d:Option Nat} {f:Opd} {args:List Opd} {s:ES} {os:List ES} (he:evIC E d f args s=some os) (hk:OKT s.t s.h):
  (∀o∈os,s.t.kin o.t∧OKT o.t o.h)∧∀K:St→Prop,(∀o∈os,K (o.real P GL))→awpCall P GL d f args K (s.real P GL):=by
 unfold evIC at he;split at he
 ·rename_i r hf;simp only[Option.map_eq_some_iff]at he;obtain⟨x,hx,rfl⟩:=he;obtain⟨h1,h2,h3⟩:=evY_sound hE hx hk;refine⟨λo ho=>by simp only[List.mem_singleton]at ho;subst ho;exact⟨h2,h3⟩,λK hK=>?_⟩;have hf':f.ev (s.real P GL).e= .yld r:=hf;simp only[awpCall,hf'];have hK':=hK _ (List.mem_singleton.2 rfl);exact⟨x.1,_,h1,hK'⟩
 ·rename_i fid fs hf;simp only[Option.map_eq_some_iff]at he;obtain⟨x,hx,rfl⟩:=he;obtain⟨h1,h2,h3⟩:=evCall_sound hE hx hk;refine⟨λo ho=>by simp only[List.mem_singleton]at ho;subst ho;exact⟨h2,h3⟩,λK hK=>?_⟩;have hf':f.ev (s.real P GL).e= .meth fid fs:=hf;simp only[awpCall,hf'];have hK':=hK _ (List.mem_singleton.2 rfl);exact⟨x.1,_,h1,hK'⟩
 ·rename_i hny hnm;split at he
  ·rename_i fid caps hfn;simp only[Option.map_eq_some_iff]at he;obtain⟨x,hx,rfl⟩:=he;obtain⟨h1,h2,h3⟩:=evCall_sound hE hx hk;refine⟨λo ho=>by simp only[List.mem_singleton]at ho;subst ho;exact⟨h2,h3⟩,λK hK=>?_⟩;simp only[awpCall];split
   ·rename_i r hr;exact absurd hr (hny r)
   ·rename_i a b hr;exact absurd hr (hnm a b)
   ·have hfn':fnOf (f.ev (s.real P GL).e)=some (fid,caps):=hfn;simp only[hfn'];have hK':=hK _ (List.mem_singleton.2 rfl);exact⟨x.1,_,h1,hK'⟩
  ·cases he
theorem appRs_awp {d e sz by_:Nat} {x y:Opd} {s s':St} (h:appRs d x y e sz by_ s=some s') {K:St→Prop} (hK:K s'):awpI P GL (.appR d x y e sz by_) K s:=by
 unfold appRs at h;split at h
 ·rename_i ys hy;split at h
  ·rename_i hc;split at h
   ·rename_i e' s2 hx;simp only[Option.some.injEq]at h;subst h;simp only[awpI,hx,hy];refine⟨hc.1,hc.2,.inr ?_⟩;split
    ·rename_i h0;rw[if_pos h0]at hK;exact hK
    ·rename_i h0;rw[if_neg h0]at hK;exact hK
   ·rename_i e' s2 hx;split at h
    ·rename_i hne;simp only[Option.some.injEq]at h;subst h;simp only[awpI,hx,hy];refine⟨hc.1,hc.2,.inr ⟨hne,?_⟩⟩;split
     ·rename_i h0;rw[if_pos h0]at hK;exact hK
     ·rename_i h0;rw[if_neg h0]at hK;exact hK
    ·cases h
   ·rename_i xs hx;split at h
    ·rename_i h0;simp only[Option.some.injEq]at h;subst h;have:ys=[]:=List.isEmpty_iff.1 h0;subst this;simp only[awpI,hx,hy];exact hK
    ·cases h
   ·cases h
  ·cases h
 ·cases h
theorem frzS_awp {d sz:Nat} {x:Opd} {s s':St} (h:frzS d x sz s=some s') {K:St→Prop} (hK:K s'):awpI P GL (.frz d x sz) K s:=by
 unfold frzS at h;split at h
 ·rename_i e' s2 hx;simp only[Option.some.injEq]at h;subst h;simp only[awpI,hx];exact hK
 ·rename_i xs hx;simp only[Option.some.injEq]at h;subst h;simp only[awpI,hx];exact hK
 ·rename_i r n hx;split at h
  ·rename_i ds hr;split at h
   ·rename_i cs hcs;split at h
    ·rename_i hc;obtain⟨⟨h0,h1⟩,h2,h3⟩:=hc;simp only[Option.some.injEq]at h;subst h;simp only[awpI,hx,hr];refine⟨h0,_,h1,λx hx=>?_,by rw[hcs,←V.beqs_eq h3],hK⟩;simpa using List.all_eq_true.1 h2 x hx
    ·cases h
   ·cases h
  ·cases h
 ·cases h
theorem appRs_lift {t:Lp} {d e sz by_:Nat} {x y:Opd} {en:Env} {h:List Row} {s':St} (hk:OKT t h) (hs:appRs d x y e sz by_ ⟨en,h⟩=some s'):
  appRs d x y e sz by_ ⟨en,t.ins P GL h⟩=some ⟨s'.e,t.ins P GL s'.h⟩∧OKT t s'.h:=by
 have row:∀(ys:List V),OKT t (h++[.cells ((ys.flatMap V.cells).map .v)])∧t.ins P GL (h++[.cells ((ys.flatMap V.cells).map .v)])=t.ins P GL h++[.cells ((ys.flatMap V.cells).map .v)]:=λys=>hk.append _;unfold appRs at hs;split at hs
 ·rename_i ys hy;change (y.ev en).toV=_ at hy;split at hs
  ·rename_i hc;split at hs
   ·rename_i e' s2 hx;change x.ev en=_ at hx;simp only[Option.some.injEq]at hs;subst hs;simp only[appRs,hy,hx,if_pos hc];by_cases h0:ys.isEmpty=true
    ·simp only[if_pos h0];exact⟨trivial,hk⟩
    ·simp only[if_neg h0,(row ys).2,ins_len];exact⟨trivial,(row ys).1⟩
   ·rename_i e' s2 hx;change x.ev en=_ at hx;split at hs
    ·rename_i hne;simp only[Option.some.injEq]at hs;subst hs;simp only[appRs,hy,hx,if_pos hc,if_pos hne];by_cases h0:ys.isEmpty=true
     ·simp only[if_pos h0];exact⟨trivial,hk⟩
     ·simp only[if_neg h0,(row ys).2,ins_len];exact⟨trivial,(row ys).1⟩
    ·cases hs
   ·rename_i xs hx;change x.ev en=_ at hx;split at hs
    ·rename_i h0;simp only[Option.some.injEq]at hs;subst hs;simp only[appRs,hy,hx,if_pos hc,if_pos h0];exact⟨trivial,hk⟩
    ·cases hs
   ·cases hs
  ·cases hs
 ·cases hs
theorem frzS_lift {t:Lp} {d sz:Nat} {x:Opd} {en:Env} {h:List Row} {s':St} (hk:OKT t h) (hs:frzS d x sz ⟨en,h⟩=some s'):
  frzS d x sz ⟨en,t.ins P GL h⟩=some ⟨s'.e,t.ins P GL s'.h⟩∧OKT t s'.h:=by
 unfold frzS at hs;split at hs
 ·rename_i e' s2 hx;change x.ev en=_ at hx;simp only[Option.some.injEq]at hs;subst hs;simp only[frzS,hx];exact⟨trivial,hk⟩
 ·rename_i xs hx;change x.ev en=_ at hx;simp only[Option.some.injEq]at hs;subst hs;simp only[frzS,hx];exact⟨trivial,hk⟩
 ·rename_i r n hx;change x.ev en=_ at hx;split at hs
  ·rename_i ds hr;change h[r]?=_ at hr;split at hs
   ·rename_i cs hcs;split at hs
    ·rename_i hc;simp only[Option.some.injEq]at hs;subst hs;obtain⟨h1,h2⟩:=hk.set (P:=P) (GL:=GL) (y:= .dead) hr (by simp);simp only[frzS,hx,hk.get (P:=P) (GL:=GL) hr (by simp),hcs,if_pos hc,h2];exact⟨trivial,h1⟩
    ·cases hs
   ·cases hs
  ·cases hs
 ·cases hs
theorem evI_sound (hE:Snd P GL E) {i:AI} {s:ES} {os:List ES} (he:evI E i s=some os) (hk:OKT s.t s.h):
  (∀o∈os,s.t.kin o.t∧OKT o.t o.h)∧∀K:St→Prop,(∀o∈os,K (o.real P GL))→awpI P GL i K (s.real P GL):=by
 by_cases ha:∃d x y e sz b,i= .appR d x y e sz b
 ·obtain⟨d,x,y,e,sz,b,rfl⟩:=ha;simp only[evI,Option.map_eq_some_iff]at he;obtain⟨s',hs',rfl⟩:=he;obtain⟨h1,h2⟩:=appRs_lift (P:=P) (GL:=GL) hk hs';refine⟨λo ho=>by simp only[List.mem_singleton]at ho;subst ho;exact⟨Lp.kin.refl _,h2⟩,λK hK=>?_⟩;exact appRs_awp (s:=s.real P GL) h1 (hK _ (List.mem_singleton.2 rfl))
 by_cases hz:∃d x sz,i= .frz d x sz
 ·obtain⟨d,x,sz,rfl⟩:=hz;simp only[evI,Option.map_eq_some_iff]at he;obtain⟨s',hs',rfl⟩:=he;obtain⟨h1,h2⟩:=frzS_lift (P:=P) (GL:=GL) hk hs';refine⟨λo ho=>by simp only[List.mem_singleton]at ho;subst ho;exact⟨Lp.kin.refl _,h2⟩,λK hK=>?_⟩;exact frzS_awp (s:=s.real P GL) h1 (hK _ (List.mem_singleton.2 rfl))
 by_cases hc:∃d f args,i= .call d f args∨i= .callF d f args∨i= .callC d f args
 ·obtain⟨d,f,args,rfl|rfl|rfl⟩:=hc
  ·exact evIC_sound hE he hk
  ·exact evIC_sound hE he hk
  ·exact evIC_sound hE he hk
 ·by_cases hn:∃d ne x,i= .nilS d ne x
  ·obtain⟨d,ne,x,rfl⟩:=hn;simp only[evI]at he;have hx:∀(s':ES),(x.ev (ES.real P GL s').e)=x.ev s'.e:=λ_=>rfl;split at he<;>simp only[Option.some.injEq,reduceCtorEq]at he<;>subst he
   all_goals
    rename_i hcp;refine⟨λo ho=>?_,λK hK=>?_⟩
    ·simp only[List.mem_cons,List.not_mem_nil,or_false]at ho
     first
      |(rcases ho with rfl|rfl<;>exact⟨Lp.kin.refl _,hk⟩)
      |(subst ho;exact⟨Lp.kin.refl _,hk⟩)
    ·simp only[awpI,hx,hcp]
     first
      |(have h1:=hK _ (List.mem_cons_self ..)
        have h2:=hK _ (List.mem_cons_of_mem _ (List.mem_cons_self ..));exact⟨h1,h2⟩)
      |(have h1:=hK _ (List.mem_cons_self ..)
        exact h1)
  ·have hs:evI E i s=(i.step ⟨s.e,s.h⟩).map λs'=>[⟨s'.e,s'.h,s.t⟩]:=by
    unfold evI;split
    ·exact absurd ⟨_,_,_,_,_,_,rfl⟩ ha
    ·exact absurd ⟨_,_,_,rfl⟩ hz
    ·exact absurd ⟨_,_,_,.inl rfl⟩ hc
    ·exact absurd ⟨_,_,_,.inr (.inl rfl)⟩ hc
    ·exact absurd ⟨_,_,_,.inr (.inr rfl)⟩ hc
    ·exact absurd ⟨_,_,_,rfl⟩ hn
    ·rfl
   rw[hs]at he;simp only[Option.map_eq_some_iff]at he;obtain⟨s',hs',rfl⟩:=he;obtain⟨h1,h2⟩:=step_lift (P:=P) (GL:=GL) hk hs';refine⟨λo ho=>by simp only[List.mem_singleton]at ho;subst ho;exact⟨Lp.kin.refl _,h2⟩,λK hK=>?_⟩;unfold awpI;split
   ·exact absurd ⟨_,_,_,.inl rfl⟩ hc
   ·exact absurd ⟨_,_,_,.inr (.inl rfl)⟩ hc
   ·exact absurd ⟨_,_,_,.inr (.inr rfl)⟩ hc
   ·cases hs'
   ·cases hs'
   ·cases hs'
   ·cases hs'
   ·cases hs'
   ·cases hs'
   ·exact absurd ⟨_,_,_,rfl⟩ hn
   ·have hK':=hK _ (List.mem_singleton.2 rfl);simp only[ES.real,h1];exact hK'
theorem evG_sound (hE:Snd P GL E) {x:GI} {s:ES} {os:List ES} (he:evG E x s=some os) (hk:OKT s.t s.h):
  (∀o∈os,s.t.kin o.t∧OKT o.t o.h)∧∀K:St→Prop,(∀o∈os,K (o.real P GL))→awpG P GL x K (s.real P GL):=by
 unfold evG at he;split at he
 ·rename_i hg;obtain⟨h1,h2⟩:=evI_sound hE he hk;refine⟨h1,λK hK=>?_⟩;simp only[awpG,hg];exact h2 K hK
 ·rename_i t want hg;have skip:some [(⟨setO s.e x.i.dst (.tup []),s.h,s.t⟩:ES)]=some os→(∀o∈os,s.t.kin o.t∧OKT o.t o.h)∧∀K:St→Prop,(∀o∈os,K (o.real P GL))→K ⟨setO s.e x.i.dst (.tup []),s.t.ins P GL s.h⟩:=by
   intro h;simp only[Option.some.injEq]at h;subst h;exact⟨λo ho=>by simp only[List.mem_singleton]at ho;subst ho;exact⟨Lp.kin.refl _,hk⟩,λK hK=>by have hK':=hK _ (List.mem_singleton.2 rfl);exact hK'⟩
  have hfe:find (s.real P GL).e t=find s.e t:=rfl;split at he
  ·rename_i b hb;split at he
   ·rename_i hbw;obtain⟨h1,h2⟩:=evI_sound hE he hk;refine⟨h1,λK hK=>?_⟩;simp only[awpG,hg,hfe,hb,hbw,if_true];exact h2 K hK
   ·rename_i hbw;obtain⟨h1,h2⟩:=skip he;refine⟨h1,λK hK=>?_⟩;simp only[awpG,hg,hfe,hb,hbw,if_false];exact h2 K hK
  ·rename_i hb;obtain⟨h1,h2⟩:=skip he;refine⟨h1,λK hK=>?_⟩;simp only[awpG,hg,hfe,hb];exact h2 K hK
  ·cases he
theorem evOps_sound (hE:Snd P GL E):∀ {ops:List GI} {s:ES} {os:List ES},evOps E ops s=some os→OKT s.t s.h→
  (∀o∈os,s.t.kin o.t∧OKT o.t o.h)∧∀K:St→Prop,(∀o∈os,K (o.real P GL))→awpOps P GL ops K (s.real P GL)
 |[],s,os,he,hk=>by
  simp only[evOps,Option.some.injEq]at he;subst he;exact⟨λo ho=>by simp only[List.mem_singleton]at ho;subst ho;exact⟨Lp.kin.refl _,hk⟩,λK hK=>hK _ (by simp)⟩
 |x::xs,s,os,he,hk=>by
  simp only[evOps]at he;split at he
  ·rename_i ss hss;obtain⟨h1,h2⟩:=evG_sound hE hss hk;refine⟨λo ho=>?_,λK hK=>?_⟩
   ·have:∃y∈ss,∃zs,evOps E xs y=some zs∧o∈zs:=by
     clear h1 h2 hss;induction ss generalizing os with
     |nil=>simp only[bindL,Option.some.injEq]at he;subst he;simp at ho
     |cons y ss ih=>
      simp only[bindL]at he;split at he
      ·rename_i asx bs ha hb;simp only[Option.some.injEq]at he;subst he;rcases List.mem_append.1 ho with ho|ho
       ·exact⟨y,by simp,asx,ha,ho⟩
       ·obtain⟨y',hy',zs,q1,q2⟩:=ih _ hb ho;exact⟨y',by simp[hy'],zs,q1,q2⟩
      ·cases he
    obtain⟨y,hy,zs,q1,q2⟩:=this;obtain⟨r1,_⟩:=evOps_sound hE q1 (h1 y hy).2;exact⟨(h1 y hy).1.trans (r1 o q2).1,(r1 o q2).2⟩
   ·refine h2 _ λy hy=>?_;obtain⟨zs,q1,q2⟩:=bindL_mem he y hy;exact(evOps_sound hE q1 (h1 y hy).2).2 K λo ho=>hK o (q2 o ho)
  ·cases he
theorem bindL_inv {α β:Type} {f:α→Option (List β)}:∀ {xs:List α} {ys:List β},bindL f xs=some ys→∀y∈ys,∃x∈xs,∃zs,f x=some zs∧y∈zs
 |[],ys,h,y,hy=>by simp only[bindL,Option.some.injEq]at h;subst h;simp at hy
 |x::xs,ys,h,y,hy=>by
  simp only[bindL]at h;split at h
  ·rename_i asx bs ha hb;simp only[Option.some.injEq]at h;subst h;rcases List.mem_append.1 hy with hy|hy
   ·exact⟨x,by simp,asx,ha,hy⟩
   ·obtain⟨x',hx',zs,q1,q2⟩:=bindL_inv hb y hy;exact⟨x',by simp[hx'],zs,q1,q2⟩
  ·cases h
theorem evJI_sound (hE:Snd P GL E) {i:AI} {e:Env} {h:List Row} {t:Lp} {s':St} (he:evJI E t i ⟨e,h⟩=some s') (hk:OKT t h):stepJ P GL i ⟨e,t.ins P GL h⟩ ⟨s'.e,t.ins P GL s'.h⟩∧OKT t s'.h:=by
 unfold evJI at he;have call:∀ {d:Option Nat} {f:Opd} {args:List Opd} {x:List D×List Row},evJC E t (f.ev e) (argsOf e args) h=some x→CallS P GL (f.ev e) (argsOf e args) (t.ins P GL h) x.1 (t.ins P GL x.2)∧OKT t x.2:=by
  intro d f args x hx;unfold evJC at hx;split at hx
  ·rename_i y hy;split at hx
   ·rename_i hb;simp only[Option.some.injEq]at hx;subst hx;have fin:∀ {rets:List D} {z:List Row×Lp},CallS P GL (f.ev e) (argsOf e args) (t.ins P GL h) rets (z.2.ins P GL z.1)→t.kin z.2→OKT z.2 z.1→Lp.beq t z.2=true→
      CallS P GL (f.ev e) (argsOf e args) (t.ins P GL h) rets (t.ins P GL z.1)∧OKT t z.1:=by
     intro rets z hc hkin hok hb;have:=Lp.beq_eq (Lp.kin.refl t) hkin hb;rw[←this]at hc hok;exact⟨hc,hok⟩
    split at hy
    ·rename_i r hf;simp only[Option.map_eq_some_iff]at hy;obtain⟨z,hz,rfl⟩:=hy;obtain⟨h1,h2,h3⟩:=evY_sound hE hz hk;have hf':f.ev e= .yld r:=hf;exact fin (z:=z.2) (by simp only[CallS,hf'];exact⟨z.1,h1,rfl⟩) h2 h3 hb
    ·rename_i fid fs hf;obtain⟨h1,h2,h3⟩:=evCall_sound hE hy hk;have hf':f.ev e= .meth fid fs:=hf;exact fin (z:=y.2) (by simp only[CallS,hf'];exact h1) h2 h3 hb
    ·rename_i hny hnm;split at hy
     ·rename_i fid caps hfn;obtain⟨h1,h2,h3⟩:=evCall_sound hE hy hk;refine fin (z:=y.2) ?_ h2 h3 hb;unfold CallS;split
      ·rename_i r hr;exact absurd hr (hny r)
      ·rename_i a b hr;exact absurd hr (hnm a b)
      ·exact⟨fid,caps,hfn,h1⟩
     ·cases hy
   ·cases hx
  ·cases hx
 split at he
 ·rename_i d f args;simp only[Option.map_eq_some_iff]at he;obtain⟨x,hx,rfl⟩:=he;obtain⟨h1,h2⟩:=call (d:=d) hx;exact⟨.inr (.inr (.inl ⟨d,f,args,x.1,_,.inl rfl,h1,rfl⟩)),h2⟩
 ·rename_i d f args;split at he
  ·rename_i x hx;split at he
   ·rename_i hb;simp only[Option.some.injEq]at he;subst he;obtain⟨h1,h2⟩:=call (d:=d) hx;refine⟨.inr (.inr (.inl ⟨d,f,args,x.1,_,.inr ⟨rfl,x.2.drop h.length,?_⟩,h1,rfl⟩)),h2⟩;have e1:x.2=h++x.2.drop h.length:=by
     have:=row_eq hb;conv=>lhs;rw[←List.take_append_drop h.length x.2,this]
    have e2:∀(l:List Row),Lp.ins P GL t (h++l)=Lp.ins P GL t h++l:=λl=>ins_appendL t l λr hr=>hk.lt hr;show Lp.ins P GL t x.2=Lp.ins P GL t h++x.2.drop h.length;rw[←e2,←e1]
   ·cases he
  ·cases he
 ·rename_i d f args;split at he
  ·rename_i fid caps vs hf hv;simp only[Option.map_eq_some_iff]at he;obtain⟨rets,hr,rfl⟩:=he;exact⟨.inr (.inl ⟨d,f,args,fid,caps,vs,rets,rfl,hf,hv,hE.Pf hr,rfl⟩),hk⟩
  ·cases he
 ·obtain⟨h1,h2⟩:=step_lift (P:=P) (GL:=GL) hk he;exact⟨.inl h1,h2⟩
theorem evJG_sound (hE:Snd P GL E) {x:GI} {e:Env} {h:List Row} {t:Lp} {s':St} (he:evJG E t x ⟨e,h⟩=some s') (hk:OKT t h):gstepJ P GL x ⟨e,t.ins P GL h⟩ ⟨s'.e,t.ins P GL s'.h⟩∧OKT t s'.h:=by
 unfold evJG at he;split at he
 ·rename_i hg;simp only[gstepJ,hg];exact evJI_sound hE he hk
 ·rename_i tt want hg;split at he
  ·rename_i b hb;have hb':find e tt= .v (.bool b):=hb;split at he
   ·rename_i hbw;simp only[gstepJ,hg,hb',hbw,if_true];exact evJI_sound hE he hk
   ·rename_i hbw;simp only[Option.some.injEq]at he;subst he;simp only[gstepJ,hg,hb',hbw,if_false];exact⟨trivial,hk⟩
  ·rename_i hb;have hb':find e tt= .tup []:=hb;simp only[Option.some.injEq]at he;subst he;simp only[gstepJ,hg,hb'];exact⟨trivial,hk⟩
  ·cases he
theorem evJ_sound (hE:Snd P GL E) {t:Lp}:∀ {ops:List GI} {e:Env} {h:List Row} {s':St},evJ E t ops ⟨e,h⟩=some s'→OKT t h→runJ P GL ops ⟨e,t.ins P GL h⟩ ⟨s'.e,t.ins P GL s'.h⟩∧OKT t s'.h
 |[],e,h,s',he,hk=>by
  simp only[evJ,Option.some.injEq]at he;subst he;exact⟨rfl,hk⟩
 |x::xs,e,h,s',he,hk=>by
  simp only[evJ]at he;split at he
  ·rename_i s1 h1;obtain⟨q1,q2⟩:=evJG_sound hE h1 hk;obtain⟨q3,q4⟩:=evJ_sound hE he q2;exact⟨⟨_,q1,q3⟩,q4⟩
  ·cases he
theorem evT_sound (hE:Snd P GL E) {t:Lp} {is:List GI}:∀(tr:AT) {e:Env} {h:List Row} {os:List St},evT E t is tr ⟨e,h⟩=some os→OKT t h→
  (∀o∈os,OKT t o.h)∧∀K:St→Prop,(∀o∈os,K ⟨o.e,t.ins P GL o.h⟩)→tr.ok P GL is K ⟨e,t.ins P GL h⟩:=by
 intro tr;induction tr with
 |done=>
  intro e h os he hk;simp only[evT,Option.some.injEq]at he;subst he;exact⟨λo ho=>by simp only[List.mem_singleton]at ho;subst ho;exact hk,λK hK=>by have hK':=hK _ (List.mem_singleton.2 rfl);exact hK'⟩
 |take i tr ih=>
  intro e h os he hk;simp only[evT]at he;split at he
  ·rename_i s1 h1;obtain⟨q1,q2⟩:=evJG_sound hE h1 hk;obtain⟨q3,q4⟩:=ih he q2;exact⟨q3,λK hK=>⟨_,q1,q4 K hK⟩⟩
  ·cases he
 |pick c ih=>intro e h os he hk;exact ih he hk
 |alt i tr r iht ihr=>
  intro e h os he hk;simp only[evT]at he;split at he
  ·rename_i s1 h1;obtain⟨q1,q2⟩:=evJG_sound hE h1 hk;split at he
   ·rename_i a b ha hb;simp only[Option.some.injEq]at he;subst he;obtain⟨q3,q4⟩:=iht ha q2;obtain⟨q5,q6⟩:=ihr hb hk;refine⟨λo ho=>(List.mem_append.1 ho).elim (q3 o) (q5 o),λK hK=>⟨⟨_,q1,q4 K λo ho=>hK o (List.mem_append_left _ ho)⟩,q6 K λo ho=>hK o (List.mem_append_right _ ho)⟩⟩
   ·cases he
  ·cases he
 |none=>
  intro e h os he hk;simp only[evT,Option.some.injEq]at he;subst he;exact⟨by simp,λK _=>trivial⟩
theorem mergeA_sub {n0:Nat} {t:Lp} {keep:List Nat} {ss:List St} {o:St} (h:o∈mergeA n0 t keep ss):o∈ss:=by
 cases ss with
 |nil=>exact h
 |cons s1 ss=>
  simp only[mergeA,List.mem_cons,List.mem_filter]at h ⊢;rcases h with h|h
  ·exact .inl h
  ·exact .inr h.1
theorem normE_map:∀(e e':Env) (keep:List Nat),(normE e keep).map (·.2)=(normE e' keep).map (·.2)→normE e keep=normE e' keep
 |_,_,[],_=>rfl
 |e,e',n::ns,h=>by
  simp only[normE,List.map_cons,List.cons.injEq]at h ⊢;exact⟨by rw[h.1],normE_map e e' ns h.2⟩
theorem endEq_eq {keep:List Nat} {a b:St} (h:endEq keep a b=true):normE a.e keep=normE b.e keep∧a.h=b.h:=by
 simp only[endEq,Bool.and_eq_true]at h;exact⟨normE_map _ _ _ (D.beqs_eq h.1),row_eq h.2⟩
theorem find_ren (π:List (Nat×Nat)):∀(e:Env) (n:Nat),find (e.map λp=>(p.1,p.2.ren π)) n=(find e n).ren π
 |[],n=>by simp only[List.map_nil,find,D.ren]
 |p::e,n=>by
  simp only[List.map_cons,find];by_cases h:p.1=n
  ·simp[h]
  ·rw[if_neg h,if_neg h,find_ren π e n]
theorem mergeA_sound {n0:Nat} {t:Lp} {keep:List Nat} {ss:List St} {o:St} (h:o∈ss):
  ∃s1∈mergeA n0 t keep ss,∃s2,RenS n0 ⟨o.e,t.ins P GL o.h⟩ s2∧(⟨normE s2.e keep,s2.h⟩:St)=ES.real P GL ⟨normE s1.e keep,s1.h,t⟩:=by
 cases ss with
 |nil=>simp at h
 |cons s1 ss=>
  have own:∀o,o∈mergeA n0 t keep (s1::ss)→∃s1'∈mergeA n0 t keep (s1::ss),∃s2,RenS n0 ⟨o.e,t.ins P GL o.h⟩ s2∧(⟨normE s2.e keep,s2.h⟩:St)=ES.real P GL ⟨normE s1'.e keep,s1'.h,t⟩:=
   λo ho=>⟨o,ho,_,.inl rfl,rfl⟩
  rcases List.mem_cons.1 h with rfl|h
  ·exact own _ (by simp[mergeA])
  ·cases ha:alike n0 t keep o s1 with
   |false=>exact own o (by simp only[mergeA,List.mem_cons,List.mem_filter];exact .inr ⟨h,by simp[ha]⟩)
   |true=>
    refine⟨s1,by simp[mergeA],?_⟩;simp only[alike,Bool.or_eq_true,Bool.and_eq_true]at ha;rcases ha with ha|⟨hte,⟨hp,hno⟩,he⟩
    ·obtain⟨h1,h2⟩:=endEq_eq ha;exact⟨⟨o.e,t.ins P GL o.h⟩,.inl rfl,by simp only[ES.real,h1,h2]⟩
    ·have htn:t=[]:=by simpa using hte
     subst htn;obtain⟨h1,h2⟩:=endEq_eq he;refine⟨renSt (mkPi o s1) o,.inr ⟨mkPi o s1,hp,hno,λn=>find_ren _ _ _,rfl⟩,?_⟩;simp only[ES.real,Lp.ins,h1,h2]
theorem evC_K (hE:Snd P GL E) {ac:AC} {s:ES} {os:List (AExit×ES)} (he:evC E ac s=some os) (hk:OKT s.t s.h):∀o∈os,s.t.kin o.2.t∧OKT o.2.t o.2.h:=by
 have here:∀(e:AExit),∀o∈[(e,s)],s.t.kin o.2.t∧OKT o.2.t o.2.h:=λe o ho=>by simp only[List.mem_singleton]at ho;subst ho;exact⟨Lp.kin.refl _,hk⟩
 cases ac with
 |skip=>simp only[evC,Option.some.injEq]at he;subst he;exact here _
 |reg ops keep=>
  simp only[evC,Option.map_eq_some_iff]at he;obtain⟨ss,hs,rfl⟩:=he;intro o ho;obtain⟨y,hy,rfl⟩:=List.mem_map.1 ho;exact(evOps_sound hE hs hk).1 y hy
 |regD ops keep cl=>
  simp only[evC,Option.map_eq_some_iff]at he;obtain⟨s',hs,rfl⟩:=he;intro o ho;simp only[List.mem_singleton]at ho;subst ho;exact⟨Lp.kin.refl _,(evJ_sound hE hs hk).2⟩
 |regV ops keep cl=>simp[evC]at he
 |regA ops keep cl t=>
  simp only[evC,Option.map_eq_some_iff]at he;obtain⟨ss,hs,rfl⟩:=he;intro o ho;obtain⟨y,hy,rfl⟩:=List.mem_map.1 ho;exact⟨Lp.kin.refl _,(evT_sound hE t hs hk).1 y (mergeA_sub hy)⟩
 |seq a b=>
  simp only[evC]at he;split at he
  ·rename_i o1 h1;intro o ho;obtain⟨x,hx,zs,q1,q2⟩:=bindL_inv he o ho;have k1:=hE.K h1 hk x hx;split at q1
   ·have k2:=hE.K q1 k1.2 o q2;exact⟨k1.1.trans k2.1,k2.2⟩
   ·simp only[Option.some.injEq]at q1;subst q1;simp only[List.mem_singleton]at q2;subst q2;exact k1
  ·cases he
 |cond x a b=>
  simp only[evC]at he;split at he
  ·split at he
   ·exact hE.K he hk
   ·exact hE.K he hk
  ·cases he
 |block id c=>
  simp only[evC,Option.map_eq_some_iff]at he;obtain⟨ss,hs,rfl⟩:=he;intro o ho;obtain⟨y,hy,rfl⟩:=List.mem_map.1 ho;have:=hE.K hs hk y hy;split
  ·split
   ·exact this
   ·exact this
  ·exact this
 |loop c=>
  simp only[evC]at he;split at he
  ·rename_i o1 h1;intro o ho;obtain⟨x,hx,zs,q1,q2⟩:=bindL_inv he o ho;have k1:=hE.K h1 hk x hx;split at q1
   ·have k2:=hE.K q1 k1.2 o q2;exact⟨k1.1.trans k2.1,k2.2⟩
   ·simp only[Option.some.injEq]at q1;subst q1;simp only[List.mem_singleton]at q2;subst q2;exact k1
  ·cases he
 |scope c=>exact hE.K he hk
 |never=>cases he
 |exit id=>simp only[evC,Option.some.injEq]at he;subst he;exact here _
 |ret=>simp only[evC,Option.some.injEq]at he;subst he;exact here _
 |rangeF q ps asg body=>
  simp only[evC]at he;split at he
  ·rename_i fid caps hf;split at he
   ·rename_i rets h' x t' hF;have hk0:OKT ((s.h.length,Tag.ready,(⟨cpE s.e,ps,asg,body⟩:LD))::s.t) (s.h++[.dead]):=by
     obtain⟨h1,_⟩:=hk.append (P:=P) (GL:=GL) .dead;refine⟨λr hr=>?_,?_⟩
     ·simp only[Lp.has,List.map_cons,List.mem_cons]at hr;rcases hr with rfl|hr
      ·simp
      ·exact h1.dead r hr
     ·rw[List.map_cons,List.nodup_cons];exact⟨λhh=>by have:=hk.lt hh;simp at this,hk.nod⟩
    obtain⟨_,k2,k3⟩:=hE.F hF hk0;have k4:s.t.kin t':=k2.2.2;have k5:OKT t' h':=⟨λr hr=>k3.dead r (by simp only[Lp.has,List.map_cons,List.mem_cons];exact .inr hr),by have:=k3.nod;rw[List.map_cons,List.nodup_cons]at this;exact this.2⟩;intro o ho;split at he<;>simp only[Option.some.injEq,reduceCtorEq]at he<;>subst he<;>simp only[List.mem_singleton]at ho<;>subst ho<;>exact⟨k4,k5⟩
   ·cases he
  ·cases he
def LoopW (P:Program) (GL:Globals) (c:AC) (Q:AExit→St→Prop):Nat→St→Prop
 |0,_=>False
 |n+1,s=>awp P GL c (λe s'=>match e with| .normal=>LoopW P GL c Q n s'|e=>Q e s') s
theorem LoopW.step {c:AC} {Q:AExit→St→Prop}:∀ {n:Nat} {s:St},LoopW P GL c Q n s→LoopW P GL c Q (n+1) s
 |0,s,h=>h.elim
 |n+1,s,h=>by
  refine awp_mono c ?_ h;intro e s' h;cases e with
  |normal=>exact LoopW.step h
  |exit i=>exact h
  |ret=>exact h
theorem LoopW.le {c:AC} {Q:AExit→St→Prop} {n m:Nat} {s:St} (h:LoopW P GL c Q n s) (hm:n≤m):LoopW P GL c Q m s:=by
 induction hm with
 |refl=>exact h
 |step _ ih=>exact ih.step
theorem LoopW.awp {c:AC} {Q:AExit→St→Prop} {n:Nat} {s:St} (h:LoopW P GL c Q n s):Go.Va.awp P GL (.loop c) Q s:=by
 refine⟨λm s=>LoopW P GL c Q m s,⟨n,h⟩,λm s h=>?_⟩;cases m with
 |zero=>exact h.elim
 |succ m=>
  refine awp_mono c ?_ h;intro e s' h;cases e with
  |normal=>exact⟨m,by omega,h⟩
  |exit i=>exact h
  |ret=>exact h
theorem awp_loopW {c:AC} {Q:AExit→St→Prop} {s:St} (h:awp P GL (.loop c) Q s):∃n,LoopW P GL c Q n s:=by
 obtain⟨I,⟨m,hm⟩,h⟩:=h
 suffices ∀m s,I m s→LoopW P GL c Q (m+1) s from⟨_,this m s hm⟩
 intro m;induction m using Nat.strongRecOn with
 |_ m ih=>
  intro s hs;refine awp_mono c ?_ (h m s hs);intro e s' h;cases e with
  |normal=>obtain⟨m',hlt,hI⟩:=h;exact(ih m' hlt s' hI).le hlt
  |exit i=>exact h
  |ret=>exact h
theorem all_max {α:Type} {p:Nat→α→Prop} (hp:∀n m x,n≤m→p n x→p m x):∀ {xs:List α},(∀x∈xs,∃n,p n x)→∃n,∀x∈xs,p n x
 |[],_=>⟨0,by simp⟩
 |x::xs,h=>by
  obtain⟨n,hn⟩:=h x (by simp);obtain⟨m,hm⟩:=all_max hp (xs:=xs) λy hy=>h y (by simp[hy]);refine⟨max n m,λy hy=>?_⟩;rcases List.mem_cons.1 hy with rfl|hy
  ·exact hp _ _ _ (Nat.le_max_left _ _) hn
  ·exact hp _ _ _ (Nat.le_max_right _ _) (hm y hy)
theorem evC_sound (hE:Snd P GL E) {ac:AC} {s:ES} {os:List (AExit×ES)} (he:evC E ac s=some os) (hk:OKT s.t s.h):awp P GL ac (λe s'=>∃o∈os,e=o.1∧s'=o.2.real P GL) (s.real P GL):=by
 cases ac with
 |skip=>
  simp only[evC,Option.some.injEq]at he;subst he;exact⟨_,List.mem_singleton.2 rfl,rfl,rfl⟩
 |reg ops keep=>
  simp only[evC,Option.map_eq_some_iff]at he;obtain⟨ss,hs,rfl⟩:=he;rw[awp_reg];exact(evOps_sound hE hs hk).2 _ λo ho=>⟨_,List.mem_map.2 ⟨o,ho,rfl⟩,rfl,rfl⟩
 |regD ops keep cl=>
  simp only[evC,Option.map_eq_some_iff]at he;obtain⟨s',hs,rfl⟩:=he;exact⟨_,(evJ_sound hE hs hk).1,_,List.mem_singleton.2 rfl,rfl,rfl⟩
 |regV ops keep cl=>simp[evC]at he
 |regA ops keep cl t=>
  simp only[evC,Option.map_eq_some_iff]at he;obtain⟨ss,hs,rfl⟩:=he;rw[awp_regA];obtain⟨hok,hall⟩:=evT_sound hE t hs hk;refine hall _ λo ho=>?_;obtain⟨s1,hs1,hr⟩:=mergeA_sound (P:=P) (GL:=GL) (n0:=s.h.length) (t:=s.t) (keep:=keep) ho;obtain⟨s2,hren,heq⟩:=hr;have hl:(s.real P GL).h.length=s.h.length:=ins_len _ _;rw[hl];exact⟨s2,hren,_,List.mem_map.2 ⟨s1,hs1,rfl⟩,rfl,heq⟩
 |seq a b=>
  simp only[evC]at he;split at he
  ·rename_i o1 h1;rw[awp_seq];refine awp_mono _ ?_ (hE.C h1 hk);rintro e s' ⟨o,ho,rfl,rfl⟩;obtain⟨zs,q1,q2⟩:=bindL_mem he o ho;have hko:=(hE.K h1 hk o ho).2;split at q1
   ·rename_i hn
    try rw[hn]
    refine awp_mono _ ?_ (hE.C q1 hko);rintro e s' ⟨o',ho',r⟩;exact⟨o',q2 o' ho',r⟩
   ·rename_i hn;simp only[Option.some.injEq]at q1;subst q1;have:=q2 _ (List.mem_singleton.2 rfl);cases he1:o.1 with
    |normal=>exact absurd he1 hn
    |exit i=>exact⟨_,this,he1.symm▸rfl,rfl⟩
    |ret=>exact⟨_,this,he1.symm▸rfl,rfl⟩
  ·cases he
 |cond x a b=>
  simp only[evC]at he;rw[awp_cond];have hx:x.ev (s.real P GL).e=x.ev s.e:=rfl;split at he
  ·rename_i t ht;rw[hx,ht];simp only[];split at he
   ·rename_i htt;rw[if_pos htt];exact hE.C he hk
   ·rename_i htt;rw[if_neg htt];exact hE.C he hk
  ·cases he
 |block id c=>
  simp only[evC,Option.map_eq_some_iff]at he;obtain⟨ss,hs,rfl⟩:=he;rw[awp_block];refine awp_mono _ ?_ (hE.C hs hk);rintro e s' ⟨o,ho,rfl,rfl⟩;have hm:=List.mem_map_of_mem (f:=λo:AExit×ES=>match o.1 with| .exit id'=>if id'=id then ((.normal,o.2):AExit×ES) else o|_=>o) ho
  obtain⟨e,s'⟩:=o;cases e with
  |normal=>exact⟨_,hm,rfl,rfl⟩
  |ret=>exact⟨_,hm,rfl,rfl⟩
  |exit i=>
   simp only at hm ⊢;by_cases hi:i=id
   ·simp only[hi,if_true]at hm ⊢;exact⟨_,hm,rfl,rfl⟩
   ·simp only[hi,if_false]at hm ⊢;exact⟨_,hm,rfl,rfl⟩
 |loop c=>
  simp only[evC]at he;split at he
  ·rename_i o1 h1;have hb:∀o∈o1,∃n,(match o.1 with| .normal=>LoopW P GL c (λe s'=>∃o∈os,e=o.1∧s'=o.2.real P GL) n (o.2.real P GL)|e=>∃o'∈os,e=o'.1∧o.2.real P GL=o'.2.real P GL):=by
    intro o ho;obtain⟨zs,q1,q2⟩:=bindL_mem he o ho;have hko:=(hE.K h1 hk o ho).2;split at q1
    ·rename_i hn;refine awp_loopW (awp_mono _ ?_ (hE.C q1 hko));rintro e s' ⟨o',ho',r⟩;exact⟨o',q2 o' ho',r⟩
    ·rename_i hn;simp only[Option.some.injEq]at q1;subst q1;have:=q2 _ (List.mem_singleton.2 rfl);cases he1:o.1 with
     |normal=>exact absurd he1 hn
     |exit i=>exact⟨0,_,this,he1.symm▸rfl,rfl⟩
     |ret=>exact⟨0,_,this,he1.symm▸rfl,rfl⟩
   obtain⟨n,hn⟩:=all_max (λn m x hnm h=>by
    cases hx:x.1 with
    |normal=>simp only[hx]at h ⊢;exact h.le hnm
    |exit i=>simp only[hx]at h ⊢;exact h
    |ret=>simp only[hx]at h ⊢;exact h) hb
   refine LoopW.awp (n:=n+1) (awp_mono _ ?_ (hE.C h1 hk));rintro e s' ⟨o,ho,rfl,rfl⟩;have:=hn o ho;cases he1:o.1 with
   |normal=>simp only[he1]at this ⊢;exact this
   |exit i=>simp only[he1]at this ⊢;exact this
   |ret=>simp only[he1]at this ⊢;exact this
  ·cases he
 |scope c=>
  have he':E.C c s=some os:=he;have h:=hE.C (ac:=c) he' hk;exact h
 |never=>cases he
 |exit id=>
  simp only[evC,Option.some.injEq]at he;subst he;exact⟨_,List.mem_singleton.2 rfl,rfl,rfl⟩
 |ret=>
  simp only[evC,Option.some.injEq]at he;subst he;exact⟨_,List.mem_singleton.2 rfl,rfl,rfl⟩
 |rangeF q ps asg body=>
  simp only[evC]at he;split at he
  ·rename_i fid caps hf;split at he
   ·rename_i rets h' x t' hF;obtain⟨h1,h2⟩:=hk.append (P:=P) (GL:=GL) .dead;have hnl:¬s.t.has s.h.length:=λhh=>by have:=hk.lt hh;simp at this
    have hk0:OKT ((s.h.length,Tag.ready,(⟨cpE s.e,ps,asg,body⟩:LD))::s.t) (s.h++[.dead]):=by
     refine⟨λr hr=>?_,?_⟩
     ·simp only[Lp.has,List.map_cons,List.mem_cons]at hr;rcases hr with rfl|hr
      ·simp
      ·exact h1.dead r hr
     ·rw[List.map_cons,List.nodup_cons];exact⟨hnl,hk.nod⟩
    obtain⟨k1,k2,k3⟩:=hE.F hF hk0;have hx1:s.h.length=x.1:=k2.1;have hx2:(⟨cpE s.e,ps,asg,body⟩:LD)=x.2.2:=k2.2.1;have hl:(s.real P GL).h.length=s.h.length:=ins_len _ _;have e0:Lp.ins P GL ((s.h.length,Tag.ready,(⟨cpE s.e,ps,asg,body⟩:LD))::s.t) (s.h++[.dead])=(s.real P GL).h++[recRow P GL .ready (cpE s.e) ps asg body]:=by
     simp only[Lp.ins,h2,ES.real];rw[List.set_append_right _ _ (by rw[ins_len];exact Nat.le_refl _),ins_len,Nat.sub_self];rfl
    have e1:Lp.ins P GL (x::t') h'=(Lp.ins P GL t' h').set s.h.length (recRow P GL x.2.1 (cpE s.e) ps asg body):=by
     simp only[Lp.ins,←hx1,←hx2]
    have hd:=k3.dead x.1 (by simp[Lp.has]);have hlt:s.h.length <h'.length:=by rw[hx1];exact(List.getElem?_eq_some_iff.1 hd).1
    have hnt:¬Lp.has t' s.h.length:=by
     have:=k3.nod;rw[List.map_cons,List.nodup_cons]at this;rw[hx1];exact this.1
    simp only[e0,e1]at k1;rw[awp_rangeF];have hq:∀Q:AExit→St→Prop,rangeEnd Q ⟨s.e,Lp.ins P GL t' h'⟩ x.2.1→
      ∃fid caps rets h' tag,fnOf (q.ev (s.real P GL).e)=some (fid,caps)∧FSp P GL fid (.yld (s.real P GL).h.length::caps) ((s.real P GL).h++[recRow P GL .ready (cpE (s.real P GL).e) ps asg body]) rets h'∧
       h'[(s.real P GL).h.length]?=some (recRow P GL tag (cpE (s.real P GL).e) ps asg body)∧rangeEnd Q ⟨(s.real P GL).e,h'.set (s.real P GL).h.length .dead⟩ tag:=by
     intro Q hQ;refine⟨fid,caps,rets,(Lp.ins P GL t' h').set s.h.length (recRow P GL x.2.1 (cpE s.e) ps asg body),x.2.1,hf,?_,?_,?_⟩
     ·rw[hl];exact k1
     ·rw[hl,List.getElem?_set_self (by rw[ins_len];exact hlt)];rfl
     ·rw[hl,List.set_set];have:(Lp.ins P GL t' h').set s.h.length .dead=Lp.ins P GL t' h':=set_self (by rw[ins_get t' hnt,hx1];exact hd);rw[this];exact hQ
    refine hq _ ?_;split at he<;>simp only[Option.some.injEq,reduceCtorEq]at he<;>subst he<;>rename_i hxt<;>rw[hxt]<;>exact⟨_,List.mem_singleton.2 rfl,rfl,rfl⟩
   ·cases he
  ·cases he
theorem arD_lift {t:Lp} {e:Env} {h:List Row} (hk:OKT t h):∀ {rs:List AR} {xs:List D},resDs ⟨e,h⟩ rs=some xs→resDs ⟨e,t.ins P GL h⟩ rs=some xs
 |[],xs,hx=>hx
 |r::rs,xs,hx=>by
  simp only[resDs]at hx ⊢;split at hx
  ·rename_i y ys hy hys;rw[arD_lift hk hys];have:r.d ⟨e,t.ins P GL h⟩=some y:=by
    cases r with
    |t n=>exact hy
    |c n sz ag=>
     simp only[AR.d,Option.bind_eq_some_iff]at hy ⊢;obtain⟨d,hd,hd2⟩:=hy;exact⟨d,val_lift hk hd,hd2⟩
   rw[this];exact hx
  ·cases hx
theorem tidy_sound {f:Nat} {args:List D} {h:List Row} {t:Lp} {n:Nat} {x:List D×List Row×Lp} (hk:t.kin x.2.2) (hok:OKT x.2.2 x.2.1) (hn:∀r,t.has r→r <n):
  t.kin (tidy n x).2.2∧OKT (tidy n x).2.2 (tidy n x).2.1∧(FSp P GL f args h x.1 (x.2.2.ins P GL x.2.1)→FSp P GL f args h (tidy n x).1 ((tidy n x).2.2.ins P GL (tidy n x).2.1)):=by
 unfold tidy;split
 ·have hn':∀r,Lp.has x.2.2 r→r <n:=λr hr=>hn r (by simp only[Lp.has,hk.map];exact hr);obtain⟨h1,h2⟩:=hok.kill (P:=P) (GL:=GL) hn';exact⟨hk,h1,λhf=>by simp only[h2];exact hf.kill n⟩
 ·exact⟨hk,hok,id⟩
theorem evF_sound (hT:∀f n ac rs,T f=some (n,ac,rs)→chkF P GL f n ac rs=true)
  (hP:∀f args h x,Pr f args h=some x→∀t,OKT t h→FSp P GL f args (t.ins P GL h) x.1 (t.ins P GL h++x.2)) (hE:Snd P GL E) {f:Nat} {args:List D} {h:List Row} {t:Lp} {r:List D×List Row×Lp} (he:evF T Pr E f args h t=some r) (hk:OKT t h):
  FSp P GL f args (t.ins P GL h) r.1 (r.2.2.ins P GL r.2.1)∧t.kin r.2.2∧OKT r.2.2 r.2.1:=by
 unfold evF at he;split at he
 ·rename_i n ac rs htb;split at he
  ·rename_i hlen;split at he
   ·rename_i os hos;split at he
    ·rename_i xs hxs;obtain⟨hmem,hall⟩:=oneOf_mem he;have hK:=hE.K hos hk;have hC:=hE.C hos hk;simp only at hK;have hn:∀r,t.has r→r <h.length:=λr hr=>hk.lt hr;have outs:∀o∈os,∃y,(∀i,o.1≠ .exit i)∧resDs ⟨o.2.e,o.2.h⟩ rs=some y∧tidy h.length (y,o.2.h,o.2.t)∈xs:=by
      intro o ho;obtain⟨z,hz,hzm⟩:=mapL_mem hxs o ho;split at hz
      ·cases hz
      ·rename_i hne;simp only[Option.map_eq_some_iff]at hz;obtain⟨y,hy,rfl⟩:=hz;exact⟨y,λi hi=>hne i hi,hy,hzm⟩
     have kinx:∀y∈xs,t.kin y.2.2∧OKT y.2.2 y.2.1:=by
      intro y hy;obtain⟨o,ho,hz⟩:=mapL_inv hxs y hy;have hko:=hK o ho;split at hz
      ·cases hz
      ·simp only[Option.map_eq_some_iff]at hz;obtain⟨z,_,rfl⟩:=hz;obtain⟨q1,q2,_⟩:=tidy_sound (P:=P) (GL:=GL) (f:=f) (args:=args) (h:=h) (n:=h.length) (x:=(z,o.2.h,o.2.t)) hko.1 hko.2 hn;exact⟨q1,q2⟩
     have same:∀y∈xs,y=r:=by
      intro y hy;rcases hall y hy with h|h
      ·exact h
      ·simp only[fEq,Bool.and_eq_true]at h;exact(Prod.ext (D.beqs_eq h.1.1) (Prod.ext (row_eq h.1.2) (Lp.beq_eq (kinx r hmem).1 (kinx y hy).1 h.2))).symm
     refine⟨?_,kinx r hmem⟩;refine fsp_tidy (hT f n ac rs htb) hlen (awp_mono _ ?_ hC);rintro e s' ⟨o,ho,rfl,rfl⟩;obtain⟨y,hne,hy,hym⟩:=outs o ho;have hok:=hK o ho;obtain⟨_,_,q3⟩:=tidy_sound (P:=P) (GL:=GL) (f:=f) (args:=args) (h:=t.ins P GL h) (n:=h.length) (x:=(y,o.2.h,o.2.t)) hok.1 hok.2 hn;refine⟨?_,y,arD_lift hok.2 hy,λg w μ t' u' O hi=>?_⟩
     ·cases hoe:o.1 with
      |normal=>trivial
      |ret=>trivial
      |exit i=>exact absurd hoe (hne i)
     ·rw[←same _ hym];unfold tidy;split
      ·have hn':∀r,Lp.has o.2.t r→r <h.length:=λr hr=>hn r (by simp only[Lp.has,hok.1.map];exact hr);obtain⟨_,h2⟩:=hok.2.kill (P:=P) (GL:=GL) hn';refine⟨rfl,?_⟩;simp only[h2];exact hi.kill _
      ·exact⟨rfl,hi⟩
    ·cases he
   ·cases he
  ·cases he
 ·simp only[Option.map_eq_some_iff]at he;obtain⟨x,hr,rfl⟩:=he;have hlt:∀r,t.has r→r <h.length:=λr hr=>hk.lt hr;refine⟨?_,Lp.kin.refl _,⟨λr hr=>?_,hk.nod⟩⟩
  ·have:=hP f args h x hr t hk;simp only[ins_appendL t x.2 hlt];exact this
  ·rw[List.getElem?_append_left (hlt r hr)];exact hk.dead r hr
theorem evP_sound (hT:∀f n ac rs,T f=some (n,ac,rs)→chkF P GL f n ac rs=true) (hE:Snd P GL E) {M:Nat→List V→Option (List V)} (hM:∀f vs r,M f vs=some r→PSp P GL f vs r) {f:Nat} {vs rets:List V} (he:evP T M E f vs=some rets):PSp P GL f vs rets:=by
 unfold evP at he;split at he
 ·rename_i n ac rs htb;split at he
  ·rename_i hlen;split at he
   ·rename_i os hos;split at he
    ·rename_i xs hxs;obtain⟨hmem,hall⟩:=oneOf_mem he;have hk:OKT ([]:Lp) ([]:List Row):=⟨λr hr=>by simp[Lp.has]at hr,by simp⟩;have hK:=hE.K hos hk;have hC:=hE.C hos hk;refine psp_of_awp (hT f n ac rs htb) hlen (awp_mono _ ?_ hC);rintro e s' ⟨o,ho,rfl,rfl⟩;obtain⟨z,hz,hzm⟩:=mapL_mem hxs o ho;have hzr:z=rets:=by
      rcases hall z hzm with h|h
      ·exact h
      ·exact(V.beqs_eq h).symm
     have ht:o.2.t=[]:=by
      have:=(hK o ho).1;simp only at this;cases h:o.2.t with
      |nil=>rfl
      |cons a b=>rw[h]at this;exact this.elim
     split at hz
     ·cases hz
     ·rename_i hne;refine⟨?_,?_⟩
      ·cases hoe:o.1 with
       |normal=>trivial
       |ret=>trivial
       |exit i=>exact absurd hoe (hne i)
      ·simp only[ES.real,ht,Lp.ins];rw[←hzr];exact hz
    ·cases he
   ·cases he
  ·cases he
 ·exact hM _ _ _ he
theorem evn_snd {np:Nat→Bool} {M:Nat→List V→Option (List V)} (hT:∀f n ac rs,T f=some (n,ac,rs)→chkF P GL f n ac rs=true)
  (hP:∀f args h x,Pr f args h=some x→∀t,OKT t h→FSp P GL f args (t.ins P GL h) x.1 (t.ins P GL h++x.2)) (hM:∀f vs r,M f vs=some r→PSp P GL f vs r):∀n,Snd P GL (evn np M T Pr n)
 |0=>by
  constructor
  ·intro f args h t r h;cases h
  ·intro f vs rets h;cases h
  ·intro ac s os h;cases h
  ·intro ac s os h;cases h
 |n+1=>by
  have ih:=evn_snd (np:=np) hT hP hM n
  constructor
  ·intro f args h t r he hk;exact evF_sound hT hP ih he hk
  ·intro f vs rets he;exact evP_sound hT ih hM he
  ·intro ac s os he hk;exact evC_K ih he hk
  ·intro ac s os he hk;exact evC_sound ih he hk
theorem ev_snd (hT:∀f n ac rs,T f=some (n,ac,rs)→chkF P GL f n ac rs=true)
  (hP:∀f args h x,Pr f args h=some x→∀t,OKT t h→FSp P GL f args (t.ins P GL h) x.1 (t.ins P GL h++x.2)) (n:Nat):Snd P GL (ev T Pr n):=evn_snd hT hP (λ_ _ _ h=>by cases h) n
theorem psp_of_evn {np:Nat→Bool} {M:Nat→List V→Option (List V)} (hT:∀f n ac rs,T f=some (n,ac,rs)→chkF P GL f n ac rs=true)
  (hP:∀f args h x,Pr f args h=some x→∀t,OKT t h→FSp P GL f args (t.ins P GL h) x.1 (t.ins P GL h++x.2)) (hM:∀f vs r,M f vs=some r→PSp P GL f vs r) {fuel f:Nat} {vs rets:List V} (h:(evn np M T Pr fuel).Pf f vs=some rets):PSp P GL f vs rets:=(evn_snd hT hP hM fuel).Pf h
theorem psp_of_ev (hT:∀f n ac rs,T f=some (n,ac,rs)→chkF P GL f n ac rs=true)
  (hP:∀f args h x,Pr f args h=some x→∀t,OKT t h→FSp P GL f args (t.ins P GL h) x.1 (t.ins P GL h++x.2)) {fuel f:Nat} {vs rets:List V} (h:(ev T Pr fuel).Pf f vs=some rets):PSp P GL f vs rets:=(ev_snd hT hP fuel).Pf h
end
end Go.Va
set_option maxHeartbeats 4000000
namespace Go.Va
open Go.Proofs
abbrev TL:=List (Nat×Nat×AC×List AR)
noncomputable def hint0:Hint
 |142,2000007=>1
 |140,2000004=>29
 |140,2000008=>29
 |376,2000006=>29
 |233,2000013=>29
 |249,2000054=>1
 |420,2000025=>5
 |420,2000038=>5
 |420,2000084=>5
 |420,2000094=>5
 |420,2000097=>5
 |420,2000121=>5
 |420,2000124=>5
 |f,g=>hints f g
noncomputable def oT (f k:Nat):List GI:=genFO PG GLx hint0 f iP iN k
noncomputable def lT (f:Nat):Nat→Nat→AC
 |0,_=> .never
 |n+1,k=>genFL PG GLx hint0 f (oT f) (lT f n) k
abbrev te (f:Nat) {n:Nat} {x:AC} {y:List AR} (_h1:gN f=n:=by conv=>lhs;reduce) (_h2:genF PG GLx hint0 f (oT f) (lT f 9)=x:=by conv=>lhs;reduce) (_h3:gR f=y:=by conv=>lhs;reduce):Nat×Nat×AC×List AR:=(f,n,x,y)
noncomputable def ck (x:Nat×Nat×AC×List AR):Bool:=chkF Tryz.prog GLx x.1 x.2.1 x.2.2.1 x.2.2.2
def lookT (l:TL) (f:Nat):Option (Nat×AC×List AR):=
 match l with
 |[]=>none
 |x::l=>if x.1=f then some x.2 else lookT l f
theorem lookT_ok {l:TL} (h:l.all ck=true):∀f n ac rs,lookT l f=some (n,ac,rs)→chkF Tryz.prog GLx f n ac rs=true:=by
 induction l with
 |nil=>intro f n ac rs hl;cases hl
 |cons x l ih=>
  intro f n ac rs hl;rw[List.all_cons,Bool.and_eq_true]at h;simp only[lookT]at hl;split at hl
  ·rename_i hx;simp only[Option.some.injEq]at hl;have:=h.1;rw[ck,hx,hl]at this;exact this
  ·exact ih h.2 f n ac rs hl
end Go.Va
namespace Go.Va
section
variable {P:Program} {GL:Globals}
theorem awp_loop_one {c:AC} {Q:AExit→St→Prop} {s s1:St} (h:awp P GL c (λe s'=>match e with| .normal=>s'=s1|e=>Q e s') s) (h1:awp P GL (.loop c) Q s1):awp P GL (.loop c) Q s:=by
 obtain⟨n,hn⟩:=awp_loopW h1;refine LoopW.awp (n:=n+1) (awp_mono c ?_ h);intro e s' h;cases e with
 |normal=>subst h;exact hn
 |exit i=>exact h
 |ret=>exact h
theorem awp_loop_end {c:AC} {Q:AExit→St→Prop} {s:St} (h:awp P GL c (λe s'=>match e with| .normal=>False|e=>Q e s') s):awp P GL (.loop c) Q s:=by
 refine LoopW.awp (n:=1) (awp_mono c ?_ h);intro e s' h;cases e with
 |normal=>exact h.elim
 |exit i=>exact h
 |ret=>exact h
theorem get_set {h:List Row} {r:Nat} {x y:Row} (hr:h[r]?=some y):(h.set r x)[r]?=some x:=List.getElem?_set_self (List.getElem?_eq_some_iff.1 hr).1
theorem get_app (h:List Row) (x:Row):(h++[x])[h.length]?=some x:=by simp
theorem get_old {h:List Row} {r:Nat} {y:Row} (l:List Row) (hr:h[r]?=some y):(h++l)[r]?=some y:=by
 rw[List.getElem?_append_left (List.getElem?_eq_some_iff.1 hr).1];exact hr
theorem lt_of_get {h:List Row} {r:Nat} {y:Row} (hr:h[r]?=some y):r <h.length:=(List.getElem?_eq_some_iff.1 hr).1
end
end Go.Va
