/- Part 4 of the proof that ExtractMakes returns true for every input and leaves its arguments alone. Condition: the variable that the row lists holds what the text of the program lays. Texts joined here: VaR VaS VcA VcB VcC VcD VcE. -/
import Derived.KernelRfl
import Derived.Test.YtopldfpkgbkomaaGreatDoorL02
set_option linter.all false
namespace Go.Va
mutual
def V.beq : V → V → Bool
  | .int k n, .int k' n' => decide (k = k') && decide (n = n')
  | .bool b, .bool b' => b == b'
  | .str s, .str s' => decide (s = s')
  | .list xs, .list ys => V.beqs xs ys
  | .agg xs, .agg ys => V.beqs xs ys
  | .ptr xs, .ptr ys => V.beqs xs ys
  | .nilp, .nilp => true
  | .func f cs, .func g ds => f == g && V.beqs cs ds
  | .nilf, .nilf => true
  | .nilm, .nilm => true
  | _, _ => false
def V.beqs : List V → List V → Bool
  | [], [] => true
  | x :: xs, y :: ys => V.beq x y && V.beqs xs ys
  | _, _ => false
end
mutual
theorem V.beq_eq : ∀ {x y : V}, V.beq x y = true → x = y
  | .int k n, y, h => by cases y <;> simp_all [V.beq]
  | .bool b, y, h => by cases y <;> simp_all [V.beq]
  | .str s, y, h => by cases y <;> simp_all [V.beq]
  | .list xs, y, h => by cases y <;> simp only [V.beq, Bool.false_eq_true] at h; rw [V.beqs_eq h]
  | .agg xs, y, h => by cases y <;> simp only [V.beq, Bool.false_eq_true] at h; rw [V.beqs_eq h]
  | .ptr xs, y, h => by cases y <;> simp only [V.beq, Bool.false_eq_true] at h; rw [V.beqs_eq h]
  | .nilp, y, h => by cases y <;> simp_all [V.beq]
  | .func f cs, y, h => by
    cases y <;> simp only [V.beq, Bool.false_eq_true, Bool.and_eq_true, beq_iff_eq] at h
    rw [h.1, V.beqs_eq h.2]
  | .nilf, y, h => by cases y <;> simp_all [V.beq]
  | .nilm, y, h => by cases y <;> simp_all [V.beq]
theorem V.beqs_eq : ∀ {xs ys : List V}, V.beqs xs ys = true → xs = ys
  | [], ys, h => by cases ys <;> simp_all [V.beqs]
  | x :: xs, ys, h => by
    cases ys with
    | nil => simp [V.beqs] at h
    | cons y ys =>
      simp only [V.beqs, Bool.and_eq_true] at h
      rw [V.beq_eq h.1, V.beqs_eq h.2]
end
mutual
def D.beq : D → D → Bool
  | .v x, .v y => V.beq x y
  | .any, .any => true
  | .nil e s, .nil e' s' => e == e' && s == s'
  | .own e s xs, .own e' s' ys => e == e' && s == s' && V.beqs xs ys
  | .agg ds, .agg es => D.beqs ds es
  | .tup ds, .tup es => D.beqs ds es
  | .ref r o, .ref r' o' => r == r' && o == o'
  | .sref r n, .sref r' n' => r == r' && n == n'
  | .mref r, .mref r' => r == r'
  | .func f cs, .func g ds => f == g && D.beqs cs ds
  | .meth f cs, .meth g ds => f == g && D.beqs cs ds
  | .yld r, .yld r' => r == r'
  | _, _ => false
def D.beqs : List D → List D → Bool
  | [], [] => true
  | x :: xs, y :: ys => D.beq x y && D.beqs xs ys
  | _, _ => false
end
mutual
theorem D.beq_eq : ∀ {x y : D}, D.beq x y = true → x = y
  | .v x, y, h => by cases y <;> simp only [D.beq, Bool.false_eq_true] at h; rw [V.beq_eq h]
  | .any, y, h => by cases y <;> simp_all [D.beq]
  | .nil e s, y, h => by cases y <;> simp_all [D.beq]
  | .own e s xs, y, h => by
    cases y <;> simp only [D.beq, Bool.false_eq_true, Bool.and_eq_true, beq_iff_eq] at h
    rw [h.1.1, h.1.2, V.beqs_eq h.2]
  | .agg ds, y, h => by cases y <;> simp only [D.beq, Bool.false_eq_true] at h; rw [D.beqs_eq h]
  | .tup ds, y, h => by cases y <;> simp only [D.beq, Bool.false_eq_true] at h; rw [D.beqs_eq h]
  | .ref r o, y, h => by cases y <;> simp_all [D.beq]
  | .sref r n, y, h => by cases y <;> simp_all [D.beq]
  | .mref r, y, h => by cases y <;> simp_all [D.beq]
  | .func f cs, y, h => by
    cases y <;> simp only [D.beq, Bool.false_eq_true, Bool.and_eq_true, beq_iff_eq] at h
    rw [h.1, D.beqs_eq h.2]
  | .meth f cs, y, h => by
    cases y <;> simp only [D.beq, Bool.false_eq_true, Bool.and_eq_true, beq_iff_eq] at h
    rw [h.1, D.beqs_eq h.2]
  | .yld r, y, h => by cases y <;> simp_all [D.beq]
theorem D.beqs_eq : ∀ {xs ys : List D}, D.beqs xs ys = true → xs = ys
  | [], ys, h => by cases ys <;> simp_all [D.beqs]
  | x :: xs, ys, h => by
    cases ys with
    | nil => simp [D.beqs] at h
    | cons y ys =>
      simp only [D.beqs, Bool.and_eq_true] at h
      rw [D.beq_eq h.1, D.beqs_eq h.2]
end
def beqL {α : Type} (f : α → α → Bool) : List α → List α → Bool
  | [], [] => true
  | x :: xs, y :: ys => f x y && beqL f xs ys
  | _, _ => false
theorem beqL_eq {α : Type} {f : α → α → Bool} (hf : ∀ x y, f x y = true → x = y) : ∀ {xs ys : List α}, beqL f xs ys = true → xs = ys
  | [], ys, h => by cases ys <;> simp_all [beqL]
  | x :: xs, ys, h => by
    cases ys with
    | nil => simp [beqL] at h
    | cons y ys =>
      simp only [beqL, Bool.and_eq_true] at h
      rw [hf _ _ h.1, beqL_eq hf h.2]
def Row.beq : Row → Row → Bool
  | .cells ds, .cells es => D.beqs ds es
  | .map es bs ck, .map fs cs dk => beqL (fun p q => V.beq p.1 q.1 && V.beq p.2 q.2) es fs && beqL (fun a b : Nat => a == b) bs cs && ck == dk
  | .dead, .dead => true
  | _, _ => false
theorem Row.beq_eq {x y : Row} (h : Row.beq x y = true) : x = y := by
  cases x <;> cases y <;> simp only [Row.beq, Bool.false_eq_true] at h
  · rw [D.beqs_eq h]
  · simp only [Bool.and_eq_true, beq_iff_eq] at h
    rw [beqL_eq (fun p q h => by
      simp only [Bool.and_eq_true] at h
      exact Prod.ext (V.beq_eq h.1) (V.beq_eq h.2)) h.1.1, beqL_eq (fun a b h => by simpa using h) h.1.2, h.2]
  · rfl
mutual
def D.lt (n : Nat) : D → Bool
  | .ref r _ => decide (r < n)
  | .sref r _ => decide (r < n)
  | .mref r => decide (r < n)
  | .yld r => decide (r < n)
  | .agg ds => D.lts n ds
  | .tup ds => D.lts n ds
  | .func _ ds => D.lts n ds
  | .meth _ ds => D.lts n ds
  | _ => true
def D.lts (n : Nat) : List D → Bool
  | [] => true
  | d :: ds => D.lt n d && D.lts n ds
end
def Row.lt (n : Nat) : Row → Bool
  | .cells ds => D.lts n ds
  | _ => true
def kill (n : Nat) (h : List Row) : List Row := h.take n ++ List.replicate (h.length - n) .dead
theorem kill_len (n : Nat) (h : List Row) : (kill n h).length = h.length := by simp [kill]; omega
theorem kill_get (n : Nat) (h : List Row) (r : Nat) : (kill n h)[r]? = if r < n then h[r]? else if r < h.length then some .dead else none := by
  simp only [kill]
  by_cases h1 : r < n
  · rw [if_pos h1]
    by_cases h2 : r < h.length
    · rw [List.getElem?_append_left (by simp; omega), List.getElem?_take, if_pos h1]
    · rw [List.getElem?_eq_none (by simp; omega), List.getElem?_eq_none (by omega)]
  · rw [if_neg h1]
    by_cases h2 : r < h.length
    · rw [if_pos h2, List.getElem?_append_right (by simp; omega), List.getElem?_replicate, if_pos (by simp; omega)]
    · rw [if_neg h2, List.getElem?_eq_none (by simp; omega)]
theorem Inv.kill {g : Gh} {w : World} {μ : List Nat} {t : Nat → D} {u : Nat → Value} {h : List Row} {O : Nat → Prop} (hi : Inv g w μ t u h O) (n : Nat) : Inv g w μ t u (Go.Va.kill n h) O := by
  have hcell : ∀ r k v b, own1 (cellD (Go.Va.kill n h) r k) v = some b → own1 (cellD h r k) v = some b := by
    intro r k v b hb
    simp only [cellD, kill_get] at hb ⊢
    by_cases h1 : r < n
    · simp only [h1, if_true] at hb; exact hb
    · simp only [h1, if_false] at hb
      by_cases h2 : r < h.length
      · simp [h2, own1] at hb
      · simp [h2, own1] at hb
  have hblk : ∀ p b, blk t u (Go.Va.kill n h) w μ p = some b → blk t u h w μ p = some b := by
    intro p b hp
    cases p with
    | tmp m k => exact hp
    | cell r k => exact hcell r k _ b hp
  refine ⟨hi.agree, hi.olt, hi.rep, by rw [kill_len]; exact hi.len, ?_, hi.nod, hi.mo, fun p q b hp hq => hi.uniq p q b (hblk p b hp) (hblk q b hq), fun p b hp => hi.sep p b (hblk p b hp)⟩
  intro r row b hr hb
  rw [kill_get] at hr
  by_cases h1 : r < n
  · rw [if_pos h1] at hr; exact hi.rows r row b hr hb
  · rw [if_neg h1] at hr
    by_cases h2 : r < h.length
    · rw [if_pos h2] at hr
      simp only [Option.some.injEq] at hr; subst hr
      exact (hi.rows r _ b (List.getElem?_eq_getElem h2) hb).lt
    · rw [if_neg h2] at hr; cases hr
theorem FSp.kill {P : Program} {GL : Globals} {f : Nat} {args rets : List D} {h h' : List Row} (hf : FSp P GL f args h rets h') (n : Nat) : FSp P GL f args h rets (Go.Va.kill n h') := by
  refine ⟨hf.1, fun g w μ us O hinv hgl hall htame => (hf.2 g w μ us O hinv hgl hall htame).mono ?_⟩
  rintro e w' ⟨v, g', μ', rfl, h3, h4⟩
  exact ⟨v, g', μ', rfl, h3.kill n, h4⟩
structure LD where
  e : Env
  ps : List Nat
  asg : AC
  body : AC
abbrev Lp := List (Nat × Tag × LD)
def Lp.get : Lp → Nat → Option (Tag × LD)
  | [], _ => none
  | x :: t, r => if x.1 = r then some x.2 else Lp.get t r
def Lp.tag : Lp → Nat → Tag → Lp
  | [], _, _ => []
  | x :: t, r, g => if x.1 = r then (r, g, x.2.2) :: t else x :: Lp.tag t r g
def Tag.beq : Tag → Tag → Bool
  | .ready, .ready => true
  | .busy, .busy => true
  | .done none, .done none => true
  | .done (some i), .done (some j) => i == j
  | _, _ => false
theorem Tag.beq_eq {x y : Tag} (h : Tag.beq x y = true) : x = y := by
  unfold Tag.beq at h
  split at h <;> simp_all
def Lp.beq : Lp → Lp → Bool
  | [], [] => true
  | x :: t, y :: u => x.1 == y.1 && Tag.beq x.2.1 y.2.1 && Lp.beq t u
  | _, _ => false
structure ES where
  e : Env
  h : List Row
  t : Lp
section
variable (P : Program) (GL : Globals)
def Lp.ins : Lp → List Row → List Row
  | [], h => h
  | x :: t, h => (Lp.ins t h).set x.1 (recRow P GL x.2.1 x.2.2.e x.2.2.ps x.2.2.asg x.2.2.body)
end
def Lp.has (t : Lp) (r : Nat) : Prop := r ∈ t.map (·.1)
structure OKT (t : Lp) (h : List Row) : Prop where
  dead : ∀ r, t.has r → h[r]? = some .dead
  nod : (t.map (·.1)).Nodup
def Lp.kin : Lp → Lp → Prop
  | [], [] => True
  | x :: t, y :: u => x.1 = y.1 ∧ x.2.2 = y.2.2 ∧ Lp.kin t u
  | _, _ => False
theorem Lp.kin.refl : ∀ t : Lp, t.kin t
  | [] => trivial
  | x :: t => ⟨rfl, rfl, Lp.kin.refl t⟩
theorem Lp.kin.trans : ∀ {a b c : Lp}, a.kin b → b.kin c → a.kin c
  | [], [], [], _, _ => trivial
  | x :: a, y :: b, z :: c, h, h' => ⟨h.1.trans h'.1, h.2.1.trans h'.2.1, Lp.kin.trans h.2.2 h'.2.2⟩
  | [], [], _ :: _, _, h => h.elim
  | [], _ :: _, _, h, _ => h.elim
  | _ :: _, [], _, h, _ => h.elim
  | _ :: _, _ :: _, [], _, h => h.elim
theorem Lp.kin.map : ∀ {a b : Lp}, a.kin b → a.map (·.1) = b.map (·.1)
  | [], [], _ => rfl
  | x :: a, y :: b, h => by simp only [List.map_cons, h.1, Lp.kin.map h.2.2]
  | [], _ :: _, h => h.elim
  | _ :: _, [], h => h.elim
theorem Lp.kin_tag : ∀ (t : Lp) (r : Nat) (g : Tag), t.kin (t.tag r g)
  | [], _, _ => trivial
  | x :: t, r, g => by
    simp only [Lp.tag]
    split
    · rename_i h; exact ⟨h, rfl, Lp.kin.refl t⟩
    · exact ⟨rfl, rfl, Lp.kin_tag t r g⟩
theorem Lp.beq_eq : ∀ {a t u : Lp}, a.kin t → a.kin u → Lp.beq t u = true → t = u
  | [], [], [], _, _, _ => rfl
  | x :: a, y :: t, z :: u, h, h', hb => by
    simp only [Lp.beq, Bool.and_eq_true, beq_iff_eq] at hb
    have h1 := Tag.beq_eq hb.1.2
    have h2 := Lp.beq_eq h.2.2 h'.2.2 hb.2
    have h3 : y = z := Prod.ext hb.1.1 (Prod.ext h1 (h.2.1.symm.trans h'.2.1))
    rw [h2, h3]
  | [], [], _ :: _, _, h, _ => h.elim
  | [], _ :: _, _, h, _, _ => h.elim
  | _ :: _, [], _, h, _, _ => h.elim
  | _ :: _, _ :: _, [], _, h, _ => h.elim
section
variable {P : Program} {GL : Globals}
theorem ins_len : ∀ (t : Lp) (h : List Row), (t.ins P GL h).length = h.length
  | [], h => rfl
  | x :: t, h => by simp only [Lp.ins, List.length_set, ins_len t h]
theorem ins_get : ∀ (t : Lp) {h : List Row} {r : Nat}, ¬ t.has r → (t.ins P GL h)[r]? = h[r]?
  | [], h, r, _ => rfl
  | x :: t, h, r, hn => by
    simp only [Lp.has, List.map_cons, List.mem_cons, not_or] at hn
    simp only [Lp.ins]
    rw [List.getElem?_set_ne (Ne.symm hn.1)]
    exact ins_get t hn.2
theorem ins_loop : ∀ (t : Lp) {h : List Row} {r : Nat} {g : Tag} {l : LD}, r < h.length → t.get r = some (g, l) → (t.ins P GL h)[r]? = some (recRow P GL g l.e l.ps l.asg l.body)
  | [], h, r, g, l, _, hg => by simp [Lp.get] at hg
  | x :: t, h, r, g, l, hl, hg => by
    simp only [Lp.get] at hg
    simp only [Lp.ins]
    by_cases hx : x.1 = r
    · simp only [hx, if_true, Option.some.injEq] at hg
      rw [hx, List.getElem?_set_self (by rw [ins_len]; exact hl), hg]
    · simp only [hx, if_false] at hg
      rw [List.getElem?_set_ne hx]; exact ins_loop t hl hg
theorem ins_set : ∀ (t : Lp) {h : List Row} {r : Nat} (x : Row), ¬ t.has r → t.ins P GL (h.set r x) = (t.ins P GL h).set r x
  | [], h, r, x, _ => rfl
  | y :: t, h, r, x, hn => by
    simp only [Lp.has, List.map_cons, List.mem_cons, not_or] at hn
    simp only [Lp.ins, ins_set t x hn.2]
    rw [List.set_comm _ _ hn.1]
theorem ins_append : ∀ (t : Lp) {h : List Row} (x : Row), (∀ r, t.has r → r < h.length) → t.ins P GL (h ++ [x]) = t.ins P GL h ++ [x]
  | [], h, x, _ => rfl
  | y :: t, h, x, hn => by
    simp only [Lp.ins]
    rw [ins_append t x fun r hr => hn r (by simp only [Lp.has, List.map_cons, List.mem_cons]; exact .inr hr)]
    rw [List.set_append_left _ _ (by rw [ins_len]; exact hn y.1 (by simp [Lp.has]))]
theorem ins_appendL : ∀ (t : Lp) {h : List Row} (l : List Row), (∀ r, t.has r → r < h.length) → t.ins P GL (h ++ l) = t.ins P GL h ++ l
  | [], h, l, _ => rfl
  | y :: t, h, l, hn => by
    simp only [Lp.ins]
    rw [ins_appendL t l fun r hr => hn r (by simp only [Lp.has, List.map_cons, List.mem_cons]; exact .inr hr)]
    rw [List.set_append_left _ _ (by rw [ins_len]; exact hn y.1 (by simp [Lp.has]))]
theorem get_has : ∀ (t : Lp) {r : Nat} {x : Tag × LD}, t.get r = some x → t.has r
  | [], r, x, h => by simp [Lp.get] at h
  | y :: t, r, x, h => by
    simp only [Lp.get] at h
    simp only [Lp.has, List.map_cons, List.mem_cons]
    split at h
    · rename_i hy; exact .inl hy.symm
    · exact .inr (get_has t h)
theorem ins_tag : ∀ (t : Lp) {h : List Row} {r : Nat} {g g' : Tag} {l : LD}, (t.map (·.1)).Nodup → t.get r = some (g, l) → (t.tag r g').ins P GL h = (t.ins P GL h).set r (recRow P GL g' l.e l.ps l.asg l.body)
  | [], h, r, g, g', l, _, hg => by simp [Lp.get] at hg
  | x :: t, h, r, g, g', l, hn, hg => by
    simp only [List.map_cons, List.nodup_cons] at hn
    simp only [Lp.get] at hg
    simp only [Lp.tag, Lp.ins]
    by_cases hx : x.1 = r
    · simp only [hx, if_true, Option.some.injEq] at hg
      simp only [hx, if_true, Lp.ins, List.set_set, hg]
    · simp only [hx, if_false] at hg
      simp only [hx, if_false, Lp.ins]
      rw [ins_tag t hn.2 hg, List.set_comm _ _ (Ne.symm hx)]
theorem get_kin : ∀ {t u : Lp} {r : Nat} {g g' : Tag} {l l' : LD}, t.kin u → t.get r = some (g, l) → u.get r = some (g', l') → l = l'
  | [], [], r, g, g', l, l', _, h, _ => by simp [Lp.get] at h
  | x :: t, y :: u, r, g, g', l, l', hk, h, h' => by
    simp only [Lp.get] at h h'
    by_cases hx : x.1 = r
    · rw [← hk.1] at h'
      simp only [hx, if_true, Option.some.injEq] at h h'
      have := hk.2.1
      rw [h, h'] at this; exact this
    · rw [← hk.1] at h'
      simp only [hx, if_false] at h h'
      exact get_kin hk.2.2 h h'
  | [], _ :: _, _, _, _, _, _, h, _, _ => h.elim
  | _ :: _, [], _, _, _, _, _, h, _, _ => h.elim
theorem OKT.nothas {t : Lp} {h : List Row} (hk : OKT t h) {r : Nat} {x : Row} (hr : h[r]? = some x) (hx : x ≠ .dead) : ¬ t.has r := fun hh => by
  rw [hk.dead r hh] at hr; simp only [Option.some.injEq] at hr; exact hx hr.symm
theorem OKT.get {t : Lp} {h : List Row} (hk : OKT t h) {r : Nat} {x : Row} (hr : h[r]? = some x) (hx : x ≠ .dead) : (t.ins P GL h)[r]? = some x := by
  rw [ins_get t (hk.nothas hr hx)]; exact hr
theorem OKT.set {t : Lp} {h : List Row} (hk : OKT t h) {r : Nat} {x y : Row} (hr : h[r]? = some x) (hx : x ≠ .dead) : OKT t (h.set r y) ∧ t.ins P GL (h.set r y) = (t.ins P GL h).set r y := by
  refine ⟨⟨fun r' hr' => ?_, hk.nod⟩, ins_set t y (hk.nothas hr hx)⟩
  have hne : r ≠ r' := fun he => hk.nothas hr hx (he ▸ hr')
  rw [List.getElem?_set_ne hne]; exact hk.dead r' hr'
theorem OKT.lt {t : Lp} {h : List Row} (hk : OKT t h) {r : Nat} (hr : t.has r) : r < h.length := (List.getElem?_eq_some_iff.1 (hk.dead r hr)).1
theorem OKT.append {t : Lp} {h : List Row} (hk : OKT t h) (x : Row) : OKT t (h ++ [x]) ∧ t.ins P GL (h ++ [x]) = t.ins P GL h ++ [x] := by
  refine ⟨⟨fun r hr => ?_, hk.nod⟩, ins_append t x fun r hr => hk.lt hr⟩
  rw [List.getElem?_append_left (hk.lt hr)]; exact hk.dead r hr
theorem OKT.kin {t u : Lp} {h : List Row} (hk : OKT t h) (hu : t.kin u) : OKT u h := by
  refine ⟨fun r hr => hk.dead r ?_, ?_⟩
  · simp only [Lp.has, hu.map]; exact hr
  · rw [← hu.map]; exact hk.nod
theorem OKT.kill {t : Lp} {h : List Row} (hk : OKT t h) {n : Nat} (hn : ∀ r, t.has r → r < n) : OKT t (kill n h) ∧ t.ins P GL (kill n h) = kill n (t.ins P GL h) := by
  refine ⟨⟨fun r hr => ?_, hk.nod⟩, ?_⟩
  · rw [kill_get, if_pos (hn r hr)]; exact hk.dead r hr
  · have hget : ∀ (t : Lp), (∀ r, t.has r → r < n) → t.ins P GL (Go.Va.kill n h) = Go.Va.kill n (t.ins P GL h) := by
      intro t
      induction t with
      | nil => intro _; rfl
      | cons x t ih =>
        intro hn
        have hn' : ∀ r, Lp.has t r → r < n := fun r hr => hn r (by simp only [Lp.has, List.map_cons, List.mem_cons]; exact .inr hr)
        simp only [Lp.ins, ih hn']
        have hx : x.1 < n := hn x.1 (by simp [Lp.has])
        apply List.ext_getElem?
        intro r
        rw [kill_get, List.getElem?_set, List.getElem?_set, kill_get, kill_len, List.length_set]
        by_cases h1 : x.1 = r
        · subst h1; simp [hx]
        · simp [h1]
    exact hget t hn
theorem val_lift {t : Lp} {e : Env} {h : List Row} (hk : OKT t h) {i : PI} {x : D} (hv : i.val e h = some x) : i.val e (t.ins P GL h) = some x := by
  cases hkd : i.kd with
  | n => rw [PI.val_heap (h2 := t.ins P GL h) hkd]; exact hv
  | r =>
    cases i with
    | load a n ag =>
      simp only [PI.val] at hv ⊢
      split at hv
      · exact hv
      · rename_i r off ha
        split at hv
        · rename_i ds hr
          simp only [hk.get (P := P) (GL := GL) hr (by simp)]; exact hv
        · cases hv
      · cases hv
    | look m k st ks zs ag ok =>
      simp only [PI.val] at hv ⊢
      split at hv
      · split at hv
        · rename_i hok
          rw [if_pos hok]
          split at hv
          · rename_i z hz
            split at hv
            · exact hv
            · rename_i r ha
              split at hv
              · rename_i es bs ck hr
                simp only [hk.get (P := P) (GL := GL) hr (by simp)]; exact hv
              · cases hv
            · cases hv
          · cases hv
        · cases hv
      · cases hv
    | mlen m =>
      simp only [PI.val] at hv ⊢
      split at hv
      · exact hv
      · rename_i r ha
        split at hv
        · rename_i es hr
          simp only [hk.get (P := P) (GL := GL) hr (by simp)]; exact hv
        · cases hv
      · cases hv
    | _ => cases hkd
  | a => cases i <;> cases hkd
  | w => cases i <;> cases hkd
  | t => cases i <;> cases hkd
theorem step_lift {t : Lp} {e : Env} {h : List Row} (hk : OKT t h) {i : AI} {s' : St} (hs : i.step ⟨e, h⟩ = some s') : i.step ⟨e, t.ins P GL h⟩ = some ⟨s'.e, t.ins P GL s'.h⟩ ∧ OKT t s'.h := by
  cases i with
  | p d i =>
    simp only [AI.step, Option.map_eq_some_iff] at hs ⊢
    obtain ⟨x, hx, rfl⟩ := hs
    exact ⟨⟨x, val_lift hk hx, rfl⟩, hk⟩
  | mv d x => simp only [AI.step, Option.some.injEq] at hs ⊢; subst hs; exact ⟨rfl, hk⟩
  | alloc d zs =>
    simp only [AI.step, Option.some.injEq] at hs ⊢; subst hs
    obtain ⟨h1, h2⟩ := hk.append (P := P) (GL := GL) (.cells zs)
    exact ⟨by rw [h2, ins_len], h1⟩
  | box d x =>
    simp only [AI.step] at hs ⊢
    split at hs
    · rename_i cs hc
      simp only [Option.some.injEq] at hs; subst hs
      obtain ⟨h1, h2⟩ := hk.append (P := P) (GL := GL) (.cells (cs.map D.toRow))
      exact ⟨by rw [h2, ins_len], h1⟩
    · cases hs
  | store a x n =>
    simp only [AI.step] at hs ⊢
    split at hs
    · rename_i r off ha
      split at hs
      · rename_i ds hr
        simp only [hk.get (P := P) (GL := GL) hr (by simp)]
        split at hs
        · rename_i e' sz xs hx
          split at hs
          · rename_i m
            split at hs
            · rename_i hc
              simp only [Option.some.injEq] at hs; subst hs
              obtain ⟨h1, h2⟩ := hk.set (P := P) (GL := GL) (y := .cells (ds.set off (.own e' sz xs))) hr (by simp)
              exact ⟨by rw [if_pos hc, h2], h1⟩
            · cases hs
          · cases hs
        · rename_i hne
          split at hs
          · rename_i cs hc
            split at hs
            · rename_i hc2
              simp only [Option.some.injEq] at hs; subst hs
              obtain ⟨h1, h2⟩ := hk.set (P := P) (GL := GL) (y := .cells (putL ds off (cs.map D.toRow))) hr (by simp)
              exact ⟨by simp only [hc, hc2, h2]; simp [hc2], h1⟩
            · cases hs
          · cases hs
      · cases hs
    · cases hs
  | take d a =>
    simp only [AI.step] at hs ⊢
    split at hs
    · rename_i r off ha
      split at hs
      · rename_i ds hr
        simp only [hk.get (P := P) (GL := GL) hr (by simp)]
        split at hs
        · rename_i e' sz xs hx
          simp only [Option.some.injEq] at hs; subst hs
          obtain ⟨h1, h2⟩ := hk.set (P := P) (GL := GL) (y := .cells (ds.set off (.v (.list xs)))) hr (by simp)
          exact ⟨by simp only [h2], h1⟩
        · cases hs
      · cases hs
    · cases hs
  | app d x y e' sz by_ =>
    simp only [AI.step] at hs ⊢
    split at hs
    · split at hs
      · rename_i hc; simp only [Option.some.injEq] at hs; subst hs; exact ⟨by rw [if_pos hc], hk⟩
      · cases hs
    · cases hs
  | appS d x y e' by_ =>
    simp only [AI.step] at hs ⊢
    split at hs
    · split at hs
      · rename_i hc; simp only [Option.some.injEq] at hs; subst hs; exact ⟨by rw [if_pos hc], hk⟩
      · cases hs
    · cases hs
  | bsl d e' sz ps =>
    simp only [AI.step] at hs ⊢
    split at hs
    · split at hs
      · rename_i hc
        rw [if_pos hc]
        split at hs <;> (simp only [Option.some.injEq] at hs; subst hs; exact ⟨rfl, hk⟩)
      · cases hs
    · cases hs
  | s2b d x =>
    simp only [AI.step] at hs ⊢
    split at hs
    · simp only [Option.some.injEq] at hs; subst hs; exact ⟨rfl, hk⟩
    · cases hs
  | mksl d x z =>
    simp only [AI.step] at hs ⊢
    split at hs
    · rename_i k n hn
      split at hs
      · rename_i hc
        simp only [Option.some.injEq] at hs; subst hs
        obtain ⟨h1, h2⟩ := hk.append (P := P) (GL := GL) (.cells (List.replicate n.toNat z))
        exact ⟨by rw [if_pos hc, h2, ins_len], h1⟩
      · cases hs
    · cases hs
  | nilS d ne x => cases hs
  | mkm d =>
    simp only [AI.step, Option.some.injEq] at hs ⊢; subst hs
    obtain ⟨h1, h2⟩ := hk.append (P := P) (GL := GL) (.map [] [] 0)
    exact ⟨by rw [h2, ins_len], h1⟩
  | mput m k v st ks =>
    simp only [AI.step] at hs ⊢
    split at hs
    · rename_i r hm
      split at hs
      · rename_i es bs ck hr
        simp only [hk.get (P := P) (GL := GL) hr (by simp)]
        split at hs
        · rename_i kv vv hkv hvv
          split at hs
          · rename_i hko
            rw [if_pos hko]
            split at hs
            · simp only [Option.some.injEq] at hs; subst hs
              obtain ⟨h1, h2⟩ := hk.set (P := P) (GL := GL) (y := .map (es ++ [(kv, vv)]) (bs ++ [ck]) (ck + 1)) hr (by simp)
              exact ⟨by rw [h2], h1⟩
            · rename_i i hi
              simp only [Option.some.injEq] at hs; subst hs
              obtain ⟨h1, h2⟩ := hk.set (P := P) (GL := GL) (y := .map (es.set i (kv, vv)) bs ck) hr (by simp)
              exact ⟨by rw [h2], h1⟩
            · cases hs
          · cases hs
        · cases hs
      · cases hs
    · cases hs
  | ment d m k st ks =>
    simp only [AI.step] at hs ⊢
    split at hs
    · rename_i r hm
      split at hs
      · rename_i es bs ck hr
        simp only [hk.get (P := P) (GL := GL) hr (by simp)]
        split at hs
        · rename_i kv hkv
          split at hs
          · rename_i hko
            rw [if_pos hko]
            split at hs
            · rename_i i hi
              split at hs
              · simp only [Option.some.injEq] at hs; subst hs
                exact ⟨rfl, hk⟩
              · cases hs
            · cases hs
          · cases hs
        · cases hs
      · cases hs
    · cases hs
  | mest m b v =>
    simp only [AI.step] at hs ⊢
    split at hs
    · rename_i r hm
      split at hs
      · rename_i es bs ck hr
        simp only [hk.get (P := P) (GL := GL) hr (by simp)]
        split at hs
        · rename_i kk n vv hb hv
          split at hs
          · rename_i i hi
            split at hs
            · rename_i p hp
              simp only [Option.some.injEq] at hs; subst hs
              obtain ⟨h1, h2⟩ := hk.set (P := P) (GL := GL) (y := .map (es.set i (p.1, vv)) bs ck) hr (by simp)
              exact ⟨by rw [h2], h1⟩
            · cases hs
          · cases hs
        · cases hs
      · cases hs
    · cases hs
  | mdel d m k st ks =>
    simp only [AI.step] at hs ⊢
    split at hs
    · rename_i r hm
      split at hs
      · rename_i es bs ck hr
        simp only [hk.get (P := P) (GL := GL) hr (by simp)]
        split at hs
        · rename_i kv hkv
          split at hs
          · rename_i hko
            rw [if_pos hko]
            split at hs
            · simp only [Option.some.injEq] at hs; subst hs
              exact ⟨rfl, hk⟩
            · rename_i i hi
              simp only [Option.some.injEq] at hs; subst hs
              obtain ⟨h1, h2⟩ := hk.set (P := P) (GL := GL) (y := .map (es.eraseIdx i) (bs.eraseIdx i) ck) hr (by simp)
              exact ⟨by rw [h2], h1⟩
            · cases hs
          · cases hs
        · cases hs
      · cases hs
    · cases hs
  | call d f args => cases hs
  | callF d f args => cases hs
  | callC d f args => cases hs
  | callO d f q args => cases hs
  | appR d x y e s b => cases hs
  | frz d x s => cases hs
end
end Go.Va

namespace Go.Va
structure Ev where
  F : Nat → List D → List Row → Lp → Option (List D × List Row × Lp)
  Pf : Nat → List V → Option (List V)
  C : AC → ES → Option (List (AExit × ES))
abbrev Tbl := Nat → Option (Nat × AC × List AR)
def bindL {α β : Type} (f : α → Option (List β)) : List α → Option (List β)
  | [] => some []
  | x :: xs => match f x, bindL f xs with
    | some ys, some zs => some (ys ++ zs)
    | _, _ => none
def mapL {α β : Type} (f : α → Option β) : List α → Option (List β)
  | [] => some []
  | x :: xs => match f x, mapL f xs with
    | some y, some zs => some (y :: zs)
    | _, _ => none
def oneOf {α : Type} (eq : α → α → Bool) : List α → Option α
  | [] => none
  | x :: xs => if xs.all (eq x) then some x else none
theorem bindL_mem {α β : Type} {f : α → Option (List β)} : ∀ {xs : List α} {ys : List β}, bindL f xs = some ys → ∀ x ∈ xs, ∃ zs, f x = some zs ∧ ∀ z ∈ zs, z ∈ ys
  | [], ys, _, x, hx => by simp at hx
  | x :: xs, ys, h, y, hy => by
    simp only [bindL] at h
    split at h
    · rename_i asx bs ha hb
      simp only [Option.some.injEq] at h; subst h
      rcases List.mem_cons.1 hy with rfl | hy
      · exact ⟨asx, ha, fun z hz => List.mem_append_left _ hz⟩
      · obtain ⟨zs, h1, h2⟩ := bindL_mem hb y hy
        exact ⟨zs, h1, fun z hz => List.mem_append_right _ (h2 z hz)⟩
    · cases h
theorem mapL_mem {α β : Type} {f : α → Option β} : ∀ {xs : List α} {ys : List β}, mapL f xs = some ys → ∀ x ∈ xs, ∃ z, f x = some z ∧ z ∈ ys
  | [], ys, _, x, hx => by simp at hx
  | x :: xs, ys, h, y, hy => by
    simp only [mapL] at h
    split at h
    · rename_i a bs ha hb
      simp only [Option.some.injEq] at h; subst h
      rcases List.mem_cons.1 hy with rfl | hy
      · exact ⟨a, ha, by simp⟩
      · obtain ⟨z, h1, h2⟩ := mapL_mem hb y hy
        exact ⟨z, h1, by simp [h2]⟩
    · cases h
theorem mapL_inv {α β : Type} {f : α → Option β} : ∀ {xs : List α} {ys : List β}, mapL f xs = some ys → ∀ y ∈ ys, ∃ x ∈ xs, f x = some y
  | [], ys, h, y, hy => by simp only [mapL, Option.some.injEq] at h; subst h; simp at hy
  | x :: xs, ys, h, y, hy => by
    simp only [mapL] at h
    split at h
    · rename_i a bs ha hb
      simp only [Option.some.injEq] at h; subst h
      rcases List.mem_cons.1 hy with rfl | hy
      · exact ⟨x, by simp, ha⟩
      · obtain ⟨z, h1, h2⟩ := mapL_inv hb y hy
        exact ⟨z, by simp [h1], h2⟩
    · cases h
theorem oneOf_mem {α : Type} {eq : α → α → Bool} {xs : List α} {x : α} (h : oneOf eq xs = some x) : x ∈ xs ∧ ∀ y ∈ xs, y = x ∨ eq x y = true := by
  cases xs with
  | nil => simp [oneOf] at h
  | cons a xs =>
    simp only [oneOf] at h
    split at h
    · rename_i hall
      simp only [Option.some.injEq] at h; subst h
      refine ⟨by simp, fun y hy => ?_⟩
      rcases List.mem_cons.1 hy with rfl | hy
      · exact .inl rfl
      · exact .inr (List.all_eq_true.1 hall y hy)
    · cases h
def yEnd (t : Lp) (r : Nat) : AExit → Bool × Lp
  | .normal => (true, t.tag r .ready)
  | .ret => (false, t.tag r (.done none))
  | .exit i => (false, t.tag r (.done (some i)))
def yEq (x y : Bool × List Row × Lp) : Bool := x.1 == y.1 && beqL Row.beq x.2.1 y.2.1 && Lp.beq x.2.2 y.2.2
def fEq (x y : List D × List Row × Lp) : Bool := D.beqs x.1 y.1 && beqL Row.beq x.2.1 y.2.1 && Lp.beq x.2.2 y.2.2
def evY (E : Ev) (r : Nat) (args : List D) (h : List Row) (t : Lp) : Option (Bool × List Row × Lp) :=
  match t.get r with
  | some (.ready, l) => if args.length = l.ps.length then
      match E.C l.asg ⟨setPs l.e l.ps args, h, t⟩ with
      | some [(.normal, s1)] => match s1.t.get r with
        | some (.ready, _) => match E.C l.body ⟨s1.e, s1.h, s1.t.tag r .busy⟩ with
          | some o2 => match mapL (fun o => match o.2.t.get r with
              | some (.busy, _) => some ((yEnd o.2.t r o.1).1, o.2.h, (yEnd o.2.t r o.1).2)
              | _ => none) o2 with
            | some rs => oneOf yEq rs
            | none => none
          | none => none
        | _ => none
      | _ => none
    else none
  | _ => none
def allV : List D → Option (List V)
  | [] => some []
  | .v x :: ds => match allV ds with
    | some xs => some (x :: xs)
    | none => none
  | _ => none
theorem allV_map : ∀ {ds : List D} {vs : List V}, allV ds = some vs → ds = vs.map .v
  | [], vs, h => by simp only [allV, Option.some.injEq] at h; subst h; rfl
  | d :: ds, vs, h => by
    cases d <;> simp only [allV, reduceCtorEq] at h
    split at h
    · rename_i xs hxs
      simp only [Option.some.injEq] at h; subst h
      simp only [List.map_cons, allV_map hxs]
    · cases h
def evCall (E : Ev) (f : Nat) (args : List D) (h : List Row) (t : Lp) : Option (List D × List Row × Lp) :=
  match allV args with
  | some vs => match E.Pf f vs with
    | some rets => some (rets.map .v, h, t)
    | none => E.F f args h t
  | none => E.F f args h t
def evIC (E : Ev) (d : Option Nat) (f : Opd) (args : List Opd) (s : ES) : Option (List ES) :=
  match f.ev s.e with
  | .yld r => (evY E r (argsOf s.e args) s.h s.t).map fun x => [⟨setO s.e d (.v (.bool x.1)), x.2.1, x.2.2⟩]
  | .meth fid fs => (evCall E fid (fs ++ argsOf s.e args) s.h s.t).map fun x => [⟨setO s.e d (retDs x.1), x.2.1, x.2.2⟩]
  | fd => match fnOf fd with
    | some (fid, caps) => (evCall E fid (argsOf s.e args ++ caps) s.h s.t).map fun x => [⟨setO s.e d (retDs x.1), x.2.1, x.2.2⟩]
    | none => none
def evI (E : Ev) (i : AI) (s : ES) : Option (List ES) :=
  match i with
  | .call d f args => evIC E d f args s
  | .callF d f args => evIC E d f args s
  | .callC d f args => evIC E d f args s
  | .nilS d ne x => match (x.ev s.e).copy with
    | .v (.list []) | .nil _ _ => some [⟨(d, .v (.bool (true != ne))) :: s.e, s.h, s.t⟩, ⟨(d, .v (.bool (false != ne))) :: s.e, s.h, s.t⟩]
    | .v (.list (_ :: _)) => some [⟨(d, .v (.bool (false != ne))) :: s.e, s.h, s.t⟩]
    | _ => none
  | i => (i.step ⟨s.e, s.h⟩).map fun s' => [⟨s'.e, s'.h, s.t⟩]
def evG (E : Ev) (x : GI) (s : ES) : Option (List ES) :=
  match x.g with
  | none => evI E x.i s
  | some (t, want) => match find s.e t with
    | .v (.bool b) => if b = want then evI E x.i s else some [⟨setO s.e x.i.dst (.tup []), s.h, s.t⟩]
    | .tup [] => some [⟨setO s.e x.i.dst (.tup []), s.h, s.t⟩]
    | _ => none
def evOps (E : Ev) : List GI → ES → Option (List ES)
  | [], s => some [s]
  | x :: xs, s => match evG E x s with
    | some ss => bindL (evOps E xs) ss
    | none => none
def evJC (E : Ev) (t : Lp) (fd : D) (args : List D) (h : List Row) : Option (List D × List Row) :=
  match (match fd with
    | .yld r => (evY E r args h t).map fun x => ([.v (.bool x.1)], x.2)
    | .meth fid fs => evCall E fid (fs ++ args) h t
    | fd => match fnOf fd with
      | some (fid, caps) => evCall E fid (args ++ caps) h t
      | none => none : Option (List D × List Row × Lp)) with
  | some x => if Lp.beq t x.2.2 then some (x.1, x.2.1) else none
  | none => none
def evJI (E : Ev) (t : Lp) (i : AI) (s : St) : Option St :=
  match i with
  | .callF d f args => (evJC E t (f.ev s.e) (argsOf s.e args) s.h).map fun x => ⟨setO s.e d (retDs x.1), x.2⟩
  | .callC d f args => match evJC E t (f.ev s.e) (argsOf s.e args) s.h with
    | some x => if beqL Row.beq (x.2.take s.h.length) s.h then some ⟨setO s.e d (retDs x.1), x.2⟩ else none
    | none => none
  | .call d f args => match (f.ev s.e).toV, toVs s.e args with
    | some (.func fid caps), some vs => (E.Pf fid (vs ++ caps)).map fun rets => ⟨setO s.e d (retD rets), s.h⟩
    | _, _ => none
  | i => i.step s
def evJG (E : Ev) (t0 : Lp) (x : GI) (s : St) : Option St :=
  match x.g with
  | none => evJI E t0 x.i s
  | some (t, want) => match find s.e t with
    | .v (.bool b) => if b = want then evJI E t0 x.i s else some ⟨setO s.e x.i.dst (.tup []), s.h⟩
    | .tup [] => some ⟨setO s.e x.i.dst (.tup []), s.h⟩
    | _ => none
def evJ (E : Ev) (t0 : Lp) : List GI → St → Option St
  | [], s => some s
  | x :: xs, s => match evJG E t0 x s with
    | some s1 => evJ E t0 xs s1
    | none => none
def evT (E : Ev) (t0 : Lp) (is : List GI) : AT → St → Option (List St)
  | .done, s => some [s]
  | .take i t, s => match evJG E t0 (is.getD i default) s with
    | some s1 => evT E t0 is t s1
    | none => none
  | .pick c, s => evT E t0 is c s
  | .alt i t r, s => match evJG E t0 (is.getD i default) s with
    | some s1 => match evT E t0 is t s1, evT E t0 is r s with
      | some a, some b => some (a ++ b)
      | _, _ => none
    | none => none
  | .none, _ => some []
def mkPi (o s1 : St) : List (Nat × Nat) := s1.e.filterMap fun p => match p.2, find o.e p.1 with
  | .ref a _, .ref b _ => some (b, a)
  | .sref a _, .sref b _ => some (b, a)
  | .mref a, .mref b => some (b, a)
  | _, _ => none
def renSt (π : List (Nat × Nat)) (s : St) : St := ⟨s.e.map fun p => (p.1, p.2.ren π), renRows π s.h⟩
def endEq (keep : List Nat) (a b : St) : Bool := D.beqs ((normE a.e keep).map (·.2)) ((normE b.e keep).map (·.2)) && beqL Row.beq a.h b.h
def alike (n0 : Nat) (t : Lp) (keep : List Nat) (o s1 : St) : Bool :=
  endEq keep o s1 || (t.isEmpty && (let π := mkPi o s1; permOK n0 o.h.length π && noObj o.h && endEq keep (renSt π o) s1))
def mergeA (n0 : Nat) (t : Lp) (keep : List Nat) : List St → List St
  | [] => []
  | s1 :: ss => s1 :: ss.filter fun o => !alike n0 t keep o s1
def evC (E : Ev) (ac : AC) (s : ES) : Option (List (AExit × ES)) :=
  match ac with
  | .skip => some [(.normal, s)]
  | .reg ops keep => (evOps E ops s).map fun ss => ss.map fun s' => (.normal, ⟨normE s'.e keep, s'.h, s'.t⟩)
  | .regD ops keep _ => (evJ E s.t ops ⟨s.e, s.h⟩).map fun s' => [(.normal, ⟨normE s'.e keep, s'.h, s.t⟩)]
  | .regA ops keep _ t => (evT E s.t ops t ⟨s.e, s.h⟩).map fun ss => (mergeA s.h.length s.t keep ss).map fun s' => (.normal, ⟨normE s'.e keep, s'.h, s.t⟩)
  | .seq a b => match E.C a s with
    | some os => bindL (fun o => match o.1 with | .normal => E.C b o.2 | e => some [(e, o.2)]) os
    | none => none
  | .cond x a b => match x.ev s.e with
    | .v (.bool t) => if t then E.C a s else E.C b s
    | _ => none
  | .block id c => (E.C c s).map fun os => os.map fun o => match o.1 with | .exit id' => if id' = id then (.normal, o.2) else o | _ => o
  | .loop c => match E.C c s with
    | some os => bindL (fun o => match o.1 with | .normal => E.C (.loop c) o.2 | e => some [(e, o.2)]) os
    | none => none
  | .never => none
  | .exit id => some [(.exit id, s)]
  | .ret => some [(.ret, s)]
  | .rangeF q ps asg body => match fnOf (q.ev s.e) with
    | some (fid, caps) => match E.F fid (.yld s.h.length :: caps) (s.h ++ [.dead]) ((s.h.length, .ready, ⟨cpE s.e, ps, asg, body⟩) :: s.t) with
      | some (_, h', x :: t') => match x.2.1 with
        | .ready => some [(.normal, ⟨s.e, h', t'⟩)]
        | .busy => none
        | .done none => some [(.ret, ⟨s.e, h', t'⟩)]
        | .done (some i) => some [(.exit i, ⟨s.e, h', t'⟩)]
      | _ => none
    | none => none
abbrev Prims := Nat → List D → List Row → Option (List D × List Row)
def tidy (n : Nat) (x : List D × List Row × Lp) : List D × List Row × Lp :=
  if D.lts n x.1 && (x.2.1.take n).all (Row.lt n) then (x.1, kill n x.2.1, x.2.2) else x
def evF (T : Tbl) (Pr : Prims) (E : Ev) (f : Nat) (args : List D) (h : List Row) (t : Lp) : Option (List D × List Row × Lp) :=
  match T f with
  | some (n, ac, rs) => if args.length = n then
      match E.C ac ⟨entryD args, h, t⟩ with
      | some os => match mapL (fun o => match o.1 with
          | .exit _ => none
          | _ => (resDs ⟨o.2.e, o.2.h⟩ rs).map fun r => tidy h.length (r, o.2.h, o.2.t)) os with
        | some xs => oneOf fEq xs
        | none => none
      | none => none
    else none
  | none => (Pr f args h).map fun x => (x.1, h ++ x.2, t)
def evP (T : Tbl) (E : Ev) (f : Nat) (vs : List V) : Option (List V) :=
  match T f with
  | some (n, ac, rs) => if vs.length = n then
      match E.C ac ⟨entry vs, [], []⟩ with
      | some os => match mapL (fun o => match o.1 with
          | .exit _ => none
          | _ => resVs ⟨o.2.e, o.2.h⟩ rs) os with
        | some xs => oneOf V.beqs xs
        | none => none
      | none => none
    else none
  | none => none
def ev (T : Tbl) (Pr : Prims) : Nat → Ev
  | 0 => ⟨fun _ _ _ _ => none, fun _ _ => none, fun _ _ => none⟩
  | n + 1 => ⟨evF T Pr (ev T Pr n), evP T (ev T Pr n), evC (ev T Pr n)⟩
section
variable (P : Program) (GL : Globals)
def ES.real (s : ES) : St := ⟨s.e, s.t.ins P GL s.h⟩
structure Snd (E : Ev) : Prop where
  F : ∀ {f args h t r}, E.F f args h t = some r → OKT t h → FSp P GL f args (t.ins P GL h) r.1 (r.2.2.ins P GL r.2.1) ∧ t.kin r.2.2 ∧ OKT r.2.2 r.2.1
  Pf : ∀ {f vs rets}, E.Pf f vs = some rets → PSp P GL f vs rets
  K : ∀ {ac s os}, E.C ac s = some os → OKT s.t s.h → ∀ o ∈ os, s.t.kin o.2.t ∧ OKT o.2.t o.2.h
  C : ∀ {ac s os}, E.C ac s = some os → OKT s.t s.h → awp P GL ac (fun e s' => ∃ o ∈ os, e = o.1 ∧ s' = o.2.real P GL) (s.real P GL)
end
section
variable {P : Program} {GL : Globals} {E : Ev} {T : Tbl} {Pr : Prims}
theorem row_eq {h h' : List Row} (hb : beqL Row.beq h h' = true) : h = h' := beqL_eq (fun _ _ h => Row.beq_eq h) hb
theorem yEnd_kin (t : Lp) (r : Nat) (e : AExit) : t.kin (yEnd t r e).2 := by cases e <;> exact Lp.kin_tag _ _ _
theorem evY_sound (hE : Snd P GL E) {r : Nat} {args : List D} {h : List Row} {t : Lp} {x : Bool × List Row × Lp} (he : evY E r args h t = some x) (hk : OKT t h) :
    YSp P GL r args (t.ins P GL h) x.1 (x.2.2.ins P GL x.2.1) ∧ t.kin x.2.2 ∧ OKT x.2.2 x.2.1 := by
  unfold evY at he
  split at he
  · rename_i l hget
    split at he
    · rename_i hlen
      split at he
      · rename_i s1 h1
        split at he
        · rename_i l1 hget1
          split at he
          · rename_i o2 h2
            split at he
            · rename_i rs hrs
              obtain ⟨hmem, hall⟩ := oneOf_mem he
              have hlt : r < h.length := hk.lt (get_has t hget)
              have hasg := hE.C h1 hk
              obtain ⟨hk1, hok1⟩ := hE.K h1 hk (.normal, s1) (by simp)
              simp only at hk1 hok1
              have hl1 : l1 = l := (get_kin hk1 hget hget1).symm
              subst hl1
              have hokb : OKT (s1.t.tag r .busy) s1.h := hok1.kin (Lp.kin_tag _ _ _)
              have hbody := hE.C h2 hokb
              have hK := hE.K h2 hokb
              have hkin : ∀ o ∈ o2, t.kin o.2.t ∧ OKT o.2.t o.2.h := fun o ho => ⟨(hk1.trans (Lp.kin_tag _ _ _)).trans (hK o ho).1, (hK o ho).2⟩
              have hkx : t.kin x.2.2 ∧ OKT x.2.2 x.2.1 := by
                obtain ⟨o, ho, hz⟩ := mapL_inv hrs x hmem
                split at hz
                · simp only [Option.some.injEq] at hz; subst hz
                  exact ⟨(hkin o ho).1.trans (yEnd_kin _ _ _), (hkin o ho).2.kin (yEnd_kin _ _ _)⟩
                · cases hz
              have hend : ∀ o ∈ o2, ∃ lb, o.2.t.get r = some (.busy, lb) ∧ lb = l1 ∧ (yEnd o.2.t r o.1).1 = x.1 ∧ o.2.h = x.2.1 ∧ (yEnd o.2.t r o.1).2 = x.2.2 := by
                intro o ho
                obtain ⟨z, hz, hzm⟩ := mapL_mem hrs o ho
                split at hz
                · rename_i lb hgb
                  simp only [Option.some.injEq] at hz; subst hz
                  refine ⟨lb, hgb, (get_kin (hkin o ho).1 hget hgb).symm, ?_⟩
                  rcases hall _ hzm with rfl | heq
                  · exact ⟨rfl, rfl, rfl⟩
                  · simp only [yEq, Bool.and_eq_true, beq_iff_eq] at heq
                    exact ⟨heq.1.1.symm, (row_eq heq.1.2).symm, (Lp.beq_eq hkx.1 ((hkin o ho).1.trans (yEnd_kin _ _ _)) heq.2).symm⟩
                · cases hz
              refine ⟨?_, hkx⟩
              refine ysp_of_awp (ins_loop t hlt hget) hlen (awp_mono _ ?_ hasg)
              rintro e s' ⟨o, ho, rfl, rfl⟩
              simp only [List.mem_singleton] at ho; subst ho
              have hlt1 : r < s1.h.length := hok1.lt (get_has _ hget1)
              refine ⟨rfl, ins_loop _ hlt1 hget1, ?_⟩
              have e1 : (s1.t.tag r .busy).ins P GL s1.h = (s1.t.ins P GL s1.h).set r (recRow P GL .busy l1.e l1.ps l1.asg l1.body) := ins_tag _ hok1.nod hget1
              simp only [ES.real, ← e1]
              refine awp_mono _ ?_ hbody
              rintro e s' ⟨o, ho, rfl, rfl⟩
              obtain ⟨lb, hgb, rfl, q1, q2, q3⟩ := hend o ho
              have hok := (hkin o ho).2
              have hlt2 : r < o.2.h.length := hok.lt (get_has _ hgb)
              refine ⟨ins_loop _ hlt2 hgb, ?_⟩
              rw [← q1, ← q2, ← q3]
              cases o.1 <;> exact ⟨rfl, ins_tag _ hok.nod hgb⟩
            · cases he
          · cases he
        · cases he
      · cases he
    · cases he
  · cases he
theorem evCall_sound (hE : Snd P GL E) {f : Nat} {args : List D} {h : List Row} {t : Lp} {r : List D × List Row × Lp} (he : evCall E f args h t = some r) (hk : OKT t h) :
    FSp P GL f args (t.ins P GL h) r.1 (r.2.2.ins P GL r.2.1) ∧ t.kin r.2.2 ∧ OKT r.2.2 r.2.1 := by
  unfold evCall at he
  split at he
  · rename_i vs hvs
    split at he
    · rename_i rets hr
      simp only [Option.some.injEq] at he; subst he
      rw [allV_map hvs]
      exact ⟨(hE.Pf hr).fsp _, Lp.kin.refl _, hk⟩
    · exact hE.F he hk
  · exact hE.F he hk
theorem evIC_sound (hE : Snd P GL E) {d : Option Nat} {f : Opd} {args : List Opd} {s : ES} {os : List ES} (he : evIC E d f args s = some os) (hk : OKT s.t s.h) :
    (∀ o ∈ os, s.t.kin o.t ∧ OKT o.t o.h) ∧ ∀ K : St → Prop, (∀ o ∈ os, K (o.real P GL)) → awpCall P GL d f args K (s.real P GL) := by
  unfold evIC at he
  split at he
  · rename_i r hf
    simp only [Option.map_eq_some_iff] at he
    obtain ⟨x, hx, rfl⟩ := he
    obtain ⟨h1, h2, h3⟩ := evY_sound hE hx hk
    refine ⟨fun o ho => by simp only [List.mem_singleton] at ho; subst ho; exact ⟨h2, h3⟩, fun K hK => ?_⟩
    have hf' : f.ev (s.real P GL).e = .yld r := hf
    simp only [awpCall, hf']
    have hK' := hK _ (List.mem_singleton.2 rfl)
    exact ⟨x.1, _, h1, hK'⟩
  · rename_i fid fs hf
    simp only [Option.map_eq_some_iff] at he
    obtain ⟨x, hx, rfl⟩ := he
    obtain ⟨h1, h2, h3⟩ := evCall_sound hE hx hk
    refine ⟨fun o ho => by simp only [List.mem_singleton] at ho; subst ho; exact ⟨h2, h3⟩, fun K hK => ?_⟩
    have hf' : f.ev (s.real P GL).e = .meth fid fs := hf
    simp only [awpCall, hf']
    have hK' := hK _ (List.mem_singleton.2 rfl)
    exact ⟨x.1, _, h1, hK'⟩
  · rename_i hny hnm
    split at he
    · rename_i fid caps hfn
      simp only [Option.map_eq_some_iff] at he
      obtain ⟨x, hx, rfl⟩ := he
      obtain ⟨h1, h2, h3⟩ := evCall_sound hE hx hk
      refine ⟨fun o ho => by simp only [List.mem_singleton] at ho; subst ho; exact ⟨h2, h3⟩, fun K hK => ?_⟩
      simp only [awpCall]
      split
      · rename_i r hr; exact absurd hr (hny r)
      · rename_i a b hr; exact absurd hr (hnm a b)
      · have hfn' : fnOf (f.ev (s.real P GL).e) = some (fid, caps) := hfn
        simp only [hfn']
        have hK' := hK _ (List.mem_singleton.2 rfl)
        exact ⟨x.1, _, h1, hK'⟩
    · cases he
theorem evI_sound (hE : Snd P GL E) {i : AI} {s : ES} {os : List ES} (he : evI E i s = some os) (hk : OKT s.t s.h) :
    (∀ o ∈ os, s.t.kin o.t ∧ OKT o.t o.h) ∧ ∀ K : St → Prop, (∀ o ∈ os, K (o.real P GL)) → awpI P GL i K (s.real P GL) := by
  by_cases hc : ∃ d f args, i = .call d f args ∨ i = .callF d f args ∨ i = .callC d f args
  · obtain ⟨d, f, args, rfl | rfl | rfl⟩ := hc
    · exact evIC_sound hE he hk
    · exact evIC_sound hE he hk
    · exact evIC_sound hE he hk
  · by_cases hn : ∃ d ne x, i = .nilS d ne x
    · obtain ⟨d, ne, x, rfl⟩ := hn
      simp only [evI] at he
      have hx : ∀ (s' : ES), (x.ev (ES.real P GL s').e) = x.ev s'.e := fun _ => rfl
      split at he <;> simp only [Option.some.injEq, reduceCtorEq] at he <;> subst he
      all_goals
        rename_i hcp
        refine ⟨fun o ho => ?_, fun K hK => ?_⟩
        · simp only [List.mem_cons, List.not_mem_nil, or_false] at ho
          first
            | (rcases ho with rfl | rfl <;> exact ⟨Lp.kin.refl _, hk⟩)
            | (subst ho; exact ⟨Lp.kin.refl _, hk⟩)
        · simp only [awpI, hx, hcp]
          first
            | (have h1 := hK _ (List.mem_cons_self ..)
               have h2 := hK _ (List.mem_cons_of_mem _ (List.mem_cons_self ..))
               exact ⟨h1, h2⟩)
            | (have h1 := hK _ (List.mem_cons_self ..)
               exact h1)
    · have hs : evI E i s = (i.step ⟨s.e, s.h⟩).map fun s' => [⟨s'.e, s'.h, s.t⟩] := by
        unfold evI
        split
        · exact absurd ⟨_, _, _, .inl rfl⟩ hc
        · exact absurd ⟨_, _, _, .inr (.inl rfl)⟩ hc
        · exact absurd ⟨_, _, _, .inr (.inr rfl)⟩ hc
        · exact absurd ⟨_, _, _, rfl⟩ hn
        · rfl
      rw [hs] at he
      simp only [Option.map_eq_some_iff] at he
      obtain ⟨s', hs', rfl⟩ := he
      obtain ⟨h1, h2⟩ := step_lift (P := P) (GL := GL) hk hs'
      refine ⟨fun o ho => by simp only [List.mem_singleton] at ho; subst ho; exact ⟨Lp.kin.refl _, h2⟩, fun K hK => ?_⟩
      unfold awpI
      split
      · exact absurd ⟨_, _, _, .inl rfl⟩ hc
      · exact absurd ⟨_, _, _, .inr (.inl rfl)⟩ hc
      · exact absurd ⟨_, _, _, .inr (.inr rfl)⟩ hc
      · cases hs'
      · cases hs'
      · cases hs'
      · exact absurd ⟨_, _, _, rfl⟩ hn
      · have hK' := hK _ (List.mem_singleton.2 rfl)
        simp only [ES.real, h1]
        exact hK'
theorem evG_sound (hE : Snd P GL E) {x : GI} {s : ES} {os : List ES} (he : evG E x s = some os) (hk : OKT s.t s.h) :
    (∀ o ∈ os, s.t.kin o.t ∧ OKT o.t o.h) ∧ ∀ K : St → Prop, (∀ o ∈ os, K (o.real P GL)) → awpG P GL x K (s.real P GL) := by
  unfold evG at he
  split at he
  · rename_i hg
    obtain ⟨h1, h2⟩ := evI_sound hE he hk
    refine ⟨h1, fun K hK => ?_⟩
    simp only [awpG, hg]; exact h2 K hK
  · rename_i t want hg
    have skip : some [(⟨setO s.e x.i.dst (.tup []), s.h, s.t⟩ : ES)] = some os → (∀ o ∈ os, s.t.kin o.t ∧ OKT o.t o.h) ∧ ∀ K : St → Prop, (∀ o ∈ os, K (o.real P GL)) → K ⟨setO s.e x.i.dst (.tup []), s.t.ins P GL s.h⟩ := by
      intro h
      simp only [Option.some.injEq] at h; subst h
      exact ⟨fun o ho => by simp only [List.mem_singleton] at ho; subst ho; exact ⟨Lp.kin.refl _, hk⟩, fun K hK => by have hK' := hK _ (List.mem_singleton.2 rfl); exact hK'⟩
    have hfe : find (s.real P GL).e t = find s.e t := rfl
    split at he
    · rename_i b hb
      split at he
      · rename_i hbw
        obtain ⟨h1, h2⟩ := evI_sound hE he hk
        refine ⟨h1, fun K hK => ?_⟩
        simp only [awpG, hg, hfe, hb, hbw, if_true]; exact h2 K hK
      · rename_i hbw
        obtain ⟨h1, h2⟩ := skip he
        refine ⟨h1, fun K hK => ?_⟩
        simp only [awpG, hg, hfe, hb, hbw, if_false]; exact h2 K hK
    · rename_i hb
      obtain ⟨h1, h2⟩ := skip he
      refine ⟨h1, fun K hK => ?_⟩
      simp only [awpG, hg, hfe, hb]; exact h2 K hK
    · cases he
theorem evOps_sound (hE : Snd P GL E) : ∀ {ops : List GI} {s : ES} {os : List ES}, evOps E ops s = some os → OKT s.t s.h →
    (∀ o ∈ os, s.t.kin o.t ∧ OKT o.t o.h) ∧ ∀ K : St → Prop, (∀ o ∈ os, K (o.real P GL)) → awpOps P GL ops K (s.real P GL)
  | [], s, os, he, hk => by
    simp only [evOps, Option.some.injEq] at he; subst he
    exact ⟨fun o ho => by simp only [List.mem_singleton] at ho; subst ho; exact ⟨Lp.kin.refl _, hk⟩, fun K hK => hK _ (by simp)⟩
  | x :: xs, s, os, he, hk => by
    simp only [evOps] at he
    split at he
    · rename_i ss hss
      obtain ⟨h1, h2⟩ := evG_sound hE hss hk
      refine ⟨fun o ho => ?_, fun K hK => ?_⟩
      · have : ∃ y ∈ ss, ∃ zs, evOps E xs y = some zs ∧ o ∈ zs := by
          clear h1 h2 hss
          induction ss generalizing os with
          | nil => simp only [bindL, Option.some.injEq] at he; subst he; simp at ho
          | cons y ss ih =>
            simp only [bindL] at he
            split at he
            · rename_i asx bs ha hb
              simp only [Option.some.injEq] at he; subst he
              rcases List.mem_append.1 ho with ho | ho
              · exact ⟨y, by simp, asx, ha, ho⟩
              · obtain ⟨y', hy', zs, q1, q2⟩ := ih _ hb ho
                exact ⟨y', by simp [hy'], zs, q1, q2⟩
            · cases he
        obtain ⟨y, hy, zs, q1, q2⟩ := this
        obtain ⟨r1, _⟩ := evOps_sound hE q1 (h1 y hy).2
        exact ⟨(h1 y hy).1.trans (r1 o q2).1, (r1 o q2).2⟩
      · refine h2 _ fun y hy => ?_
        obtain ⟨zs, q1, q2⟩ := bindL_mem he y hy
        exact (evOps_sound hE q1 (h1 y hy).2).2 K fun o ho => hK o (q2 o ho)
    · cases he
theorem bindL_inv {α β : Type} {f : α → Option (List β)} : ∀ {xs : List α} {ys : List β}, bindL f xs = some ys → ∀ y ∈ ys, ∃ x ∈ xs, ∃ zs, f x = some zs ∧ y ∈ zs
  | [], ys, h, y, hy => by simp only [bindL, Option.some.injEq] at h; subst h; simp at hy
  | x :: xs, ys, h, y, hy => by
    simp only [bindL] at h
    split at h
    · rename_i asx bs ha hb
      simp only [Option.some.injEq] at h; subst h
      rcases List.mem_append.1 hy with hy | hy
      · exact ⟨x, by simp, asx, ha, hy⟩
      · obtain ⟨x', hx', zs, q1, q2⟩ := bindL_inv hb y hy
        exact ⟨x', by simp [hx'], zs, q1, q2⟩
    · cases h
theorem evJI_sound (hE : Snd P GL E) {i : AI} {e : Env} {h : List Row} {t : Lp} {s' : St} (he : evJI E t i ⟨e, h⟩ = some s') (hk : OKT t h) : stepJ P GL i ⟨e, t.ins P GL h⟩ ⟨s'.e, t.ins P GL s'.h⟩ ∧ OKT t s'.h := by
  unfold evJI at he
  have call : ∀ {d : Option Nat} {f : Opd} {args : List Opd} {x : List D × List Row}, evJC E t (f.ev e) (argsOf e args) h = some x → CallS P GL (f.ev e) (argsOf e args) (t.ins P GL h) x.1 (t.ins P GL x.2) ∧ OKT t x.2 := by
    intro d f args x hx
    unfold evJC at hx
    split at hx
    · rename_i y hy
      split at hx
      · rename_i hb
        simp only [Option.some.injEq] at hx; subst hx
        have fin : ∀ {rets : List D} {z : List Row × Lp}, CallS P GL (f.ev e) (argsOf e args) (t.ins P GL h) rets (z.2.ins P GL z.1) → t.kin z.2 → OKT z.2 z.1 → Lp.beq t z.2 = true →
            CallS P GL (f.ev e) (argsOf e args) (t.ins P GL h) rets (t.ins P GL z.1) ∧ OKT t z.1 := by
          intro rets z hc hkin hok hb
          have := Lp.beq_eq (Lp.kin.refl t) hkin hb
          rw [← this] at hc hok
          exact ⟨hc, hok⟩
        split at hy
        · rename_i r hf
          simp only [Option.map_eq_some_iff] at hy
          obtain ⟨z, hz, rfl⟩ := hy
          obtain ⟨h1, h2, h3⟩ := evY_sound hE hz hk
          have hf' : f.ev e = .yld r := hf
          exact fin (z := z.2) (by simp only [CallS, hf']; exact ⟨z.1, h1, rfl⟩) h2 h3 hb
        · rename_i fid fs hf
          obtain ⟨h1, h2, h3⟩ := evCall_sound hE hy hk
          have hf' : f.ev e = .meth fid fs := hf
          exact fin (z := y.2) (by simp only [CallS, hf']; exact h1) h2 h3 hb
        · rename_i hny hnm
          split at hy
          · rename_i fid caps hfn
            obtain ⟨h1, h2, h3⟩ := evCall_sound hE hy hk
            refine fin (z := y.2) ?_ h2 h3 hb
            unfold CallS
            split
            · rename_i r hr; exact absurd hr (hny r)
            · rename_i a b hr; exact absurd hr (hnm a b)
            · exact ⟨fid, caps, hfn, h1⟩
          · cases hy
      · cases hx
    · cases hx
  split at he
  · rename_i d f args
    simp only [Option.map_eq_some_iff] at he
    obtain ⟨x, hx, rfl⟩ := he
    obtain ⟨h1, h2⟩ := call (d := d) hx
    exact ⟨.inr (.inr (.inl ⟨d, f, args, x.1, _, .inl rfl, h1, rfl⟩)), h2⟩
  · rename_i d f args
    split at he
    · rename_i x hx
      split at he
      · rename_i hb
        simp only [Option.some.injEq] at he; subst he
        obtain ⟨h1, h2⟩ := call (d := d) hx
        refine ⟨.inr (.inr (.inl ⟨d, f, args, x.1, _, .inr ⟨rfl, x.2.drop h.length, ?_⟩, h1, rfl⟩)), h2⟩
        have e1 : x.2 = h ++ x.2.drop h.length := by
          have := row_eq hb
          conv => lhs; rw [← List.take_append_drop h.length x.2, this]
        have e2 : ∀ (l : List Row), Lp.ins P GL t (h ++ l) = Lp.ins P GL t h ++ l := fun l => ins_appendL t l fun r hr => hk.lt hr
        show Lp.ins P GL t x.2 = Lp.ins P GL t h ++ x.2.drop h.length
        rw [← e2, ← e1]
      · cases he
    · cases he
  · rename_i d f args
    split at he
    · rename_i fid caps vs hf hv
      simp only [Option.map_eq_some_iff] at he
      obtain ⟨rets, hr, rfl⟩ := he
      exact ⟨.inr (.inl ⟨d, f, args, fid, caps, vs, rets, rfl, hf, hv, hE.Pf hr, rfl⟩), hk⟩
    · cases he
  · obtain ⟨h1, h2⟩ := step_lift (P := P) (GL := GL) hk he
    exact ⟨.inl h1, h2⟩
theorem evJG_sound (hE : Snd P GL E) {x : GI} {e : Env} {h : List Row} {t : Lp} {s' : St} (he : evJG E t x ⟨e, h⟩ = some s') (hk : OKT t h) : gstepJ P GL x ⟨e, t.ins P GL h⟩ ⟨s'.e, t.ins P GL s'.h⟩ ∧ OKT t s'.h := by
  unfold evJG at he
  split at he
  · rename_i hg
    simp only [gstepJ, hg]; exact evJI_sound hE he hk
  · rename_i tt want hg
    split at he
    · rename_i b hb
      have hb' : find e tt = .v (.bool b) := hb
      split at he
      · rename_i hbw
        simp only [gstepJ, hg, hb', hbw, if_true]; exact evJI_sound hE he hk
      · rename_i hbw
        simp only [Option.some.injEq] at he; subst he
        simp only [gstepJ, hg, hb', hbw, if_false]; exact ⟨trivial, hk⟩
    · rename_i hb
      have hb' : find e tt = .tup [] := hb
      simp only [Option.some.injEq] at he; subst he
      simp only [gstepJ, hg, hb']; exact ⟨trivial, hk⟩
    · cases he
theorem evJ_sound (hE : Snd P GL E) {t : Lp} : ∀ {ops : List GI} {e : Env} {h : List Row} {s' : St}, evJ E t ops ⟨e, h⟩ = some s' → OKT t h → runJ P GL ops ⟨e, t.ins P GL h⟩ ⟨s'.e, t.ins P GL s'.h⟩ ∧ OKT t s'.h
  | [], e, h, s', he, hk => by
    simp only [evJ, Option.some.injEq] at he; subst he
    exact ⟨rfl, hk⟩
  | x :: xs, e, h, s', he, hk => by
    simp only [evJ] at he
    split at he
    · rename_i s1 h1
      obtain ⟨q1, q2⟩ := evJG_sound hE h1 hk
      obtain ⟨q3, q4⟩ := evJ_sound hE he q2
      exact ⟨⟨_, q1, q3⟩, q4⟩
    · cases he
theorem evT_sound (hE : Snd P GL E) {t : Lp} {is : List GI} : ∀ (tr : AT) {e : Env} {h : List Row} {os : List St}, evT E t is tr ⟨e, h⟩ = some os → OKT t h →
    (∀ o ∈ os, OKT t o.h) ∧ ∀ K : St → Prop, (∀ o ∈ os, K ⟨o.e, t.ins P GL o.h⟩) → tr.ok P GL is K ⟨e, t.ins P GL h⟩ := by
  intro tr
  induction tr with
  | done =>
    intro e h os he hk
    simp only [evT, Option.some.injEq] at he; subst he
    exact ⟨fun o ho => by simp only [List.mem_singleton] at ho; subst ho; exact hk, fun K hK => by have hK' := hK _ (List.mem_singleton.2 rfl); exact hK'⟩
  | take i tr ih =>
    intro e h os he hk
    simp only [evT] at he
    split at he
    · rename_i s1 h1
      obtain ⟨q1, q2⟩ := evJG_sound hE h1 hk
      obtain ⟨q3, q4⟩ := ih he q2
      exact ⟨q3, fun K hK => ⟨_, q1, q4 K hK⟩⟩
    · cases he
  | pick c ih => intro e h os he hk; exact ih he hk
  | alt i tr r iht ihr =>
    intro e h os he hk
    simp only [evT] at he
    split at he
    · rename_i s1 h1
      obtain ⟨q1, q2⟩ := evJG_sound hE h1 hk
      split at he
      · rename_i a b ha hb
        simp only [Option.some.injEq] at he; subst he
        obtain ⟨q3, q4⟩ := iht ha q2
        obtain ⟨q5, q6⟩ := ihr hb hk
        refine ⟨fun o ho => (List.mem_append.1 ho).elim (q3 o) (q5 o), fun K hK => ⟨⟨_, q1, q4 K fun o ho => hK o (List.mem_append_left _ ho)⟩, q6 K fun o ho => hK o (List.mem_append_right _ ho)⟩⟩
      · cases he
    · cases he
  | none =>
    intro e h os he hk
    simp only [evT, Option.some.injEq] at he; subst he
    exact ⟨by simp, fun K _ => trivial⟩
theorem mergeA_sub {n0 : Nat} {t : Lp} {keep : List Nat} {ss : List St} {o : St} (h : o ∈ mergeA n0 t keep ss) : o ∈ ss := by
  cases ss with
  | nil => exact h
  | cons s1 ss =>
    simp only [mergeA, List.mem_cons, List.mem_filter] at h ⊢
    rcases h with h | h
    · exact .inl h
    · exact .inr h.1
theorem normE_map : ∀ (e e' : Env) (keep : List Nat), (normE e keep).map (·.2) = (normE e' keep).map (·.2) → normE e keep = normE e' keep
  | _, _, [], _ => rfl
  | e, e', n :: ns, h => by
    simp only [normE, List.map_cons, List.cons.injEq] at h ⊢
    exact ⟨by rw [h.1], normE_map e e' ns h.2⟩
theorem endEq_eq {keep : List Nat} {a b : St} (h : endEq keep a b = true) : normE a.e keep = normE b.e keep ∧ a.h = b.h := by
  simp only [endEq, Bool.and_eq_true] at h
  exact ⟨normE_map _ _ _ (D.beqs_eq h.1), row_eq h.2⟩
theorem find_ren (π : List (Nat × Nat)) : ∀ (e : Env) (n : Nat), find (e.map fun p => (p.1, p.2.ren π)) n = (find e n).ren π
  | [], n => by simp only [List.map_nil, find, D.ren]
  | p :: e, n => by
    simp only [List.map_cons, find]
    by_cases h : p.1 = n
    · simp [h]
    · rw [if_neg h, if_neg h, find_ren π e n]
theorem mergeA_sound {n0 : Nat} {t : Lp} {keep : List Nat} {ss : List St} {o : St} (h : o ∈ ss) :
    ∃ s1 ∈ mergeA n0 t keep ss, ∃ s2, RenS n0 ⟨o.e, t.ins P GL o.h⟩ s2 ∧ (⟨normE s2.e keep, s2.h⟩ : St) = ES.real P GL ⟨normE s1.e keep, s1.h, t⟩ := by
  cases ss with
  | nil => simp at h
  | cons s1 ss =>
    have own : ∀ o, o ∈ mergeA n0 t keep (s1 :: ss) → ∃ s1' ∈ mergeA n0 t keep (s1 :: ss), ∃ s2, RenS n0 ⟨o.e, t.ins P GL o.h⟩ s2 ∧ (⟨normE s2.e keep, s2.h⟩ : St) = ES.real P GL ⟨normE s1'.e keep, s1'.h, t⟩ :=
      fun o ho => ⟨o, ho, _, .inl rfl, rfl⟩
    rcases List.mem_cons.1 h with rfl | h
    · exact own _ (by simp [mergeA])
    · cases ha : alike n0 t keep o s1 with
      | false => exact own o (by simp only [mergeA, List.mem_cons, List.mem_filter]; exact .inr ⟨h, by simp [ha]⟩)
      | true =>
        refine ⟨s1, by simp [mergeA], ?_⟩
        simp only [alike, Bool.or_eq_true, Bool.and_eq_true] at ha
        rcases ha with ha | ⟨hte, ⟨hp, hno⟩, he⟩
        · obtain ⟨h1, h2⟩ := endEq_eq ha
          exact ⟨⟨o.e, t.ins P GL o.h⟩, .inl rfl, by simp only [ES.real, h1, h2]⟩
        · have htn : t = [] := by simpa using hte
          subst htn
          obtain ⟨h1, h2⟩ := endEq_eq he
          refine ⟨renSt (mkPi o s1) o, .inr ⟨mkPi o s1, hp, hno, fun n => find_ren _ _ _, rfl⟩, ?_⟩
          simp only [ES.real, Lp.ins, h1, h2]
theorem evC_K (hE : Snd P GL E) {ac : AC} {s : ES} {os : List (AExit × ES)} (he : evC E ac s = some os) (hk : OKT s.t s.h) : ∀ o ∈ os, s.t.kin o.2.t ∧ OKT o.2.t o.2.h := by
  have here : ∀ (e : AExit), ∀ o ∈ [(e, s)], s.t.kin o.2.t ∧ OKT o.2.t o.2.h := fun e o ho => by simp only [List.mem_singleton] at ho; subst ho; exact ⟨Lp.kin.refl _, hk⟩
  cases ac with
  | skip => simp only [evC, Option.some.injEq] at he; subst he; exact here _
  | reg ops keep =>
    simp only [evC, Option.map_eq_some_iff] at he
    obtain ⟨ss, hs, rfl⟩ := he
    intro o ho
    obtain ⟨y, hy, rfl⟩ := List.mem_map.1 ho
    exact (evOps_sound hE hs hk).1 y hy
  | regD ops keep cl =>
    simp only [evC, Option.map_eq_some_iff] at he
    obtain ⟨s', hs, rfl⟩ := he
    intro o ho
    simp only [List.mem_singleton] at ho; subst ho
    exact ⟨Lp.kin.refl _, (evJ_sound hE hs hk).2⟩
  | regA ops keep cl t =>
    simp only [evC, Option.map_eq_some_iff] at he
    obtain ⟨ss, hs, rfl⟩ := he
    intro o ho
    obtain ⟨y, hy, rfl⟩ := List.mem_map.1 ho
    exact ⟨Lp.kin.refl _, (evT_sound hE t hs hk).1 y (mergeA_sub hy)⟩
  | seq a b =>
    simp only [evC] at he
    split at he
    · rename_i o1 h1
      intro o ho
      obtain ⟨x, hx, zs, q1, q2⟩ := bindL_inv he o ho
      have k1 := hE.K h1 hk x hx
      split at q1
      · have k2 := hE.K q1 k1.2 o q2
        exact ⟨k1.1.trans k2.1, k2.2⟩
      · simp only [Option.some.injEq] at q1; subst q1
        simp only [List.mem_singleton] at q2; subst q2
        exact k1
    · cases he
  | cond x a b =>
    simp only [evC] at he
    split at he
    · split at he
      · exact hE.K he hk
      · exact hE.K he hk
    · cases he
  | block id c =>
    simp only [evC, Option.map_eq_some_iff] at he
    obtain ⟨ss, hs, rfl⟩ := he
    intro o ho
    obtain ⟨y, hy, rfl⟩ := List.mem_map.1 ho
    have := hE.K hs hk y hy
    split
    · split
      · exact this
      · exact this
    · exact this
  | loop c =>
    simp only [evC] at he
    split at he
    · rename_i o1 h1
      intro o ho
      obtain ⟨x, hx, zs, q1, q2⟩ := bindL_inv he o ho
      have k1 := hE.K h1 hk x hx
      split at q1
      · have k2 := hE.K q1 k1.2 o q2
        exact ⟨k1.1.trans k2.1, k2.2⟩
      · simp only [Option.some.injEq] at q1; subst q1
        simp only [List.mem_singleton] at q2; subst q2
        exact k1
    · cases he
  | never => cases he
  | exit id => simp only [evC, Option.some.injEq] at he; subst he; exact here _
  | ret => simp only [evC, Option.some.injEq] at he; subst he; exact here _
  | rangeF q ps asg body =>
    simp only [evC] at he
    split at he
    · rename_i fid caps hf
      split at he
      · rename_i rets h' x t' hF
        have hk0 : OKT ((s.h.length, Tag.ready, (⟨cpE s.e, ps, asg, body⟩ : LD)) :: s.t) (s.h ++ [.dead]) := by
          obtain ⟨h1, _⟩ := hk.append (P := P) (GL := GL) .dead
          refine ⟨fun r hr => ?_, ?_⟩
          · simp only [Lp.has, List.map_cons, List.mem_cons] at hr
            rcases hr with rfl | hr
            · simp
            · exact h1.dead r hr
          · rw [List.map_cons, List.nodup_cons]
            exact ⟨fun hh => by have := hk.lt hh; simp at this, hk.nod⟩
        obtain ⟨_, k2, k3⟩ := hE.F hF hk0
        have k4 : s.t.kin t' := k2.2.2
        have k5 : OKT t' h' := ⟨fun r hr => k3.dead r (by simp only [Lp.has, List.map_cons, List.mem_cons]; exact .inr hr), by have := k3.nod; rw [List.map_cons, List.nodup_cons] at this; exact this.2⟩
        intro o ho
        split at he <;> simp only [Option.some.injEq, reduceCtorEq] at he <;> subst he <;> simp only [List.mem_singleton] at ho <;> subst ho <;> exact ⟨k4, k5⟩
      · cases he
    · cases he
def LoopW (P : Program) (GL : Globals) (c : AC) (Q : AExit → St → Prop) : Nat → St → Prop
  | 0, _ => False
  | n + 1, s => awp P GL c (fun e s' => match e with | .normal => LoopW P GL c Q n s' | e => Q e s') s
theorem LoopW.step {c : AC} {Q : AExit → St → Prop} : ∀ {n : Nat} {s : St}, LoopW P GL c Q n s → LoopW P GL c Q (n + 1) s
  | 0, s, h => h.elim
  | n + 1, s, h => by
    refine awp_mono c ?_ h
    intro e s' h
    cases e with
    | normal => exact LoopW.step h
    | exit i => exact h
    | ret => exact h
theorem LoopW.le {c : AC} {Q : AExit → St → Prop} {n m : Nat} {s : St} (h : LoopW P GL c Q n s) (hm : n ≤ m) : LoopW P GL c Q m s := by
  induction hm with
  | refl => exact h
  | step _ ih => exact ih.step
theorem LoopW.awp {c : AC} {Q : AExit → St → Prop} {n : Nat} {s : St} (h : LoopW P GL c Q n s) : Go.Va.awp P GL (.loop c) Q s := by
  refine ⟨fun m s => LoopW P GL c Q m s, ⟨n, h⟩, fun m s h => ?_⟩
  cases m with
  | zero => exact h.elim
  | succ m =>
    refine awp_mono c ?_ h
    intro e s' h
    cases e with
    | normal => exact ⟨m, by omega, h⟩
    | exit i => exact h
    | ret => exact h
theorem awp_loopW {c : AC} {Q : AExit → St → Prop} {s : St} (h : awp P GL (.loop c) Q s) : ∃ n, LoopW P GL c Q n s := by
  obtain ⟨I, ⟨m, hm⟩, h⟩ := h
  suffices ∀ m s, I m s → LoopW P GL c Q (m + 1) s from ⟨_, this m s hm⟩
  intro m
  induction m using Nat.strongRecOn with
  | _ m ih =>
    intro s hs
    refine awp_mono c ?_ (h m s hs)
    intro e s' h
    cases e with
    | normal => obtain ⟨m', hlt, hI⟩ := h; exact (ih m' hlt s' hI).le hlt
    | exit i => exact h
    | ret => exact h
theorem all_max {α : Type} {p : Nat → α → Prop} (hp : ∀ n m x, n ≤ m → p n x → p m x) : ∀ {xs : List α}, (∀ x ∈ xs, ∃ n, p n x) → ∃ n, ∀ x ∈ xs, p n x
  | [], _ => ⟨0, by simp⟩
  | x :: xs, h => by
    obtain ⟨n, hn⟩ := h x (by simp)
    obtain ⟨m, hm⟩ := all_max hp (xs := xs) fun y hy => h y (by simp [hy])
    refine ⟨max n m, fun y hy => ?_⟩
    rcases List.mem_cons.1 hy with rfl | hy
    · exact hp _ _ _ (Nat.le_max_left _ _) hn
    · exact hp _ _ _ (Nat.le_max_right _ _) (hm y hy)
theorem evC_sound (hE : Snd P GL E) {ac : AC} {s : ES} {os : List (AExit × ES)} (he : evC E ac s = some os) (hk : OKT s.t s.h) : awp P GL ac (fun e s' => ∃ o ∈ os, e = o.1 ∧ s' = o.2.real P GL) (s.real P GL) := by
  cases ac with
  | skip =>
    simp only [evC, Option.some.injEq] at he; subst he
    exact ⟨_, List.mem_singleton.2 rfl, rfl, rfl⟩
  | reg ops keep =>
    simp only [evC, Option.map_eq_some_iff] at he
    obtain ⟨ss, hs, rfl⟩ := he
    rw [awp_reg]
    exact (evOps_sound hE hs hk).2 _ fun o ho => ⟨_, List.mem_map.2 ⟨o, ho, rfl⟩, rfl, rfl⟩
  | regD ops keep cl =>
    simp only [evC, Option.map_eq_some_iff] at he
    obtain ⟨s', hs, rfl⟩ := he
    exact ⟨_, (evJ_sound hE hs hk).1, _, List.mem_singleton.2 rfl, rfl, rfl⟩
  | regA ops keep cl t =>
    simp only [evC, Option.map_eq_some_iff] at he
    obtain ⟨ss, hs, rfl⟩ := he
    rw [awp_regA]
    obtain ⟨hok, hall⟩ := evT_sound hE t hs hk
    refine hall _ fun o ho => ?_
    obtain ⟨s1, hs1, hr⟩ := mergeA_sound (P := P) (GL := GL) (n0 := s.h.length) (t := s.t) (keep := keep) ho
    obtain ⟨s2, hren, heq⟩ := hr
    have hl : (s.real P GL).h.length = s.h.length := ins_len _ _
    rw [hl]
    exact ⟨s2, hren, _, List.mem_map.2 ⟨s1, hs1, rfl⟩, rfl, heq⟩
  | seq a b =>
    simp only [evC] at he
    split at he
    · rename_i o1 h1
      rw [awp_seq]
      refine awp_mono _ ?_ (hE.C h1 hk)
      rintro e s' ⟨o, ho, rfl, rfl⟩
      obtain ⟨zs, q1, q2⟩ := bindL_mem he o ho
      have hko := (hE.K h1 hk o ho).2
      split at q1
      · rename_i hn
        rw [hn]
        refine awp_mono _ ?_ (hE.C q1 hko)
        rintro e s' ⟨o', ho', r⟩
        exact ⟨o', q2 o' ho', r⟩
      · rename_i hn
        simp only [Option.some.injEq] at q1; subst q1
        have := q2 _ (List.mem_singleton.2 rfl)
        cases he1 : o.1 with
        | normal => exact absurd he1 hn
        | exit i => exact ⟨_, this, he1.symm ▸ rfl, rfl⟩
        | ret => exact ⟨_, this, he1.symm ▸ rfl, rfl⟩
    · cases he
  | cond x a b =>
    simp only [evC] at he
    rw [awp_cond]
    have hx : x.ev (s.real P GL).e = x.ev s.e := rfl
    split at he
    · rename_i t ht
      rw [hx, ht]
      simp only []
      split at he
      · rename_i htt; rw [if_pos htt]; exact hE.C he hk
      · rename_i htt; rw [if_neg htt]; exact hE.C he hk
    · cases he
  | block id c =>
    simp only [evC, Option.map_eq_some_iff] at he
    obtain ⟨ss, hs, rfl⟩ := he
    rw [awp_block]
    refine awp_mono _ ?_ (hE.C hs hk)
    rintro e s' ⟨o, ho, rfl, rfl⟩
    have hm := List.mem_map_of_mem (f := fun o : AExit × ES => match o.1 with | .exit id' => if id' = id then ((.normal, o.2) : AExit × ES) else o | _ => o) ho
    obtain ⟨e, s'⟩ := o
    cases e with
    | normal => exact ⟨_, hm, rfl, rfl⟩
    | ret => exact ⟨_, hm, rfl, rfl⟩
    | exit i =>
      simp only at hm ⊢
      by_cases hi : i = id
      · simp only [hi, if_true] at hm ⊢; exact ⟨_, hm, rfl, rfl⟩
      · simp only [hi, if_false] at hm ⊢; exact ⟨_, hm, rfl, rfl⟩
  | loop c =>
    simp only [evC] at he
    split at he
    · rename_i o1 h1
      have hb : ∀ o ∈ o1, ∃ n, (match o.1 with | .normal => LoopW P GL c (fun e s' => ∃ o ∈ os, e = o.1 ∧ s' = o.2.real P GL) n (o.2.real P GL) | e => ∃ o' ∈ os, e = o'.1 ∧ o.2.real P GL = o'.2.real P GL) := by
        intro o ho
        obtain ⟨zs, q1, q2⟩ := bindL_mem he o ho
        have hko := (hE.K h1 hk o ho).2
        split at q1
        · rename_i hn
          refine awp_loopW (awp_mono _ ?_ (hE.C q1 hko))
          rintro e s' ⟨o', ho', r⟩
          exact ⟨o', q2 o' ho', r⟩
        · rename_i hn
          simp only [Option.some.injEq] at q1; subst q1
          have := q2 _ (List.mem_singleton.2 rfl)
          cases he1 : o.1 with
          | normal => exact absurd he1 hn
          | exit i => exact ⟨0, _, this, he1.symm ▸ rfl, rfl⟩
          | ret => exact ⟨0, _, this, he1.symm ▸ rfl, rfl⟩
      obtain ⟨n, hn⟩ := all_max (fun n m x hnm h => by
        cases hx : x.1 with
        | normal => simp only [hx] at h ⊢; exact h.le hnm
        | exit i => simp only [hx] at h ⊢; exact h
        | ret => simp only [hx] at h ⊢; exact h) hb
      refine LoopW.awp (n := n + 1) (awp_mono _ ?_ (hE.C h1 hk))
      rintro e s' ⟨o, ho, rfl, rfl⟩
      have := hn o ho
      cases he1 : o.1 with
      | normal => simp only [he1] at this ⊢; exact this
      | exit i => simp only [he1] at this ⊢; exact this
      | ret => simp only [he1] at this ⊢; exact this
    · cases he
  | never => cases he
  | exit id =>
    simp only [evC, Option.some.injEq] at he; subst he
    exact ⟨_, List.mem_singleton.2 rfl, rfl, rfl⟩
  | ret =>
    simp only [evC, Option.some.injEq] at he; subst he
    exact ⟨_, List.mem_singleton.2 rfl, rfl, rfl⟩
  | rangeF q ps asg body =>
    simp only [evC] at he
    split at he
    · rename_i fid caps hf
      split at he
      · rename_i rets h' x t' hF
        obtain ⟨h1, h2⟩ := hk.append (P := P) (GL := GL) .dead
        have hnl : ¬ s.t.has s.h.length := fun hh => by have := hk.lt hh; simp at this
        have hk0 : OKT ((s.h.length, Tag.ready, (⟨cpE s.e, ps, asg, body⟩ : LD)) :: s.t) (s.h ++ [.dead]) := by
          refine ⟨fun r hr => ?_, ?_⟩
          · simp only [Lp.has, List.map_cons, List.mem_cons] at hr
            rcases hr with rfl | hr
            · simp
            · exact h1.dead r hr
          · rw [List.map_cons, List.nodup_cons]
            exact ⟨hnl, hk.nod⟩
        obtain ⟨k1, k2, k3⟩ := hE.F hF hk0
        have hx1 : s.h.length = x.1 := k2.1
        have hx2 : (⟨cpE s.e, ps, asg, body⟩ : LD) = x.2.2 := k2.2.1
        have hl : (s.real P GL).h.length = s.h.length := ins_len _ _
        have e0 : Lp.ins P GL ((s.h.length, Tag.ready, (⟨cpE s.e, ps, asg, body⟩ : LD)) :: s.t) (s.h ++ [.dead]) = (s.real P GL).h ++ [recRow P GL .ready (cpE s.e) ps asg body] := by
          simp only [Lp.ins, h2, ES.real]
          rw [List.set_append_right _ _ (by rw [ins_len]; exact Nat.le_refl _), ins_len, Nat.sub_self]; rfl
        have e1 : Lp.ins P GL (x :: t') h' = (Lp.ins P GL t' h').set s.h.length (recRow P GL x.2.1 (cpE s.e) ps asg body) := by
          simp only [Lp.ins, ← hx1, ← hx2]
        have hd := k3.dead x.1 (by simp [Lp.has])
        have hlt : s.h.length < h'.length := by rw [hx1]; exact (List.getElem?_eq_some_iff.1 hd).1
        have hnt : ¬ Lp.has t' s.h.length := by
          have := k3.nod
          rw [List.map_cons, List.nodup_cons] at this
          rw [hx1]; exact this.1
        simp only [e0, e1] at k1
        rw [awp_rangeF]
        have hq : ∀ Q : AExit → St → Prop, rangeEnd Q ⟨s.e, Lp.ins P GL t' h'⟩ x.2.1 →
            ∃ fid caps rets h' tag, fnOf (q.ev (s.real P GL).e) = some (fid, caps) ∧ FSp P GL fid (.yld (s.real P GL).h.length :: caps) ((s.real P GL).h ++ [recRow P GL .ready (cpE (s.real P GL).e) ps asg body]) rets h' ∧
              h'[(s.real P GL).h.length]? = some (recRow P GL tag (cpE (s.real P GL).e) ps asg body) ∧ rangeEnd Q ⟨(s.real P GL).e, h'.set (s.real P GL).h.length .dead⟩ tag := by
          intro Q hQ
          refine ⟨fid, caps, rets, (Lp.ins P GL t' h').set s.h.length (recRow P GL x.2.1 (cpE s.e) ps asg body), x.2.1, hf, ?_, ?_, ?_⟩
          · rw [hl]; exact k1
          · rw [hl, List.getElem?_set_self (by rw [ins_len]; exact hlt)]; rfl
          · rw [hl, List.set_set]
            have : (Lp.ins P GL t' h').set s.h.length .dead = Lp.ins P GL t' h' := set_self (by rw [ins_get t' hnt, hx1]; exact hd)
            rw [this]; exact hQ
        refine hq _ ?_
        split at he <;> simp only [Option.some.injEq, reduceCtorEq] at he <;> subst he <;> rename_i hxt <;> rw [hxt] <;> exact ⟨_, List.mem_singleton.2 rfl, rfl, rfl⟩
      · cases he
    · cases he
theorem arD_lift {t : Lp} {e : Env} {h : List Row} (hk : OKT t h) : ∀ {rs : List AR} {xs : List D}, resDs ⟨e, h⟩ rs = some xs → resDs ⟨e, t.ins P GL h⟩ rs = some xs
  | [], xs, hx => hx
  | r :: rs, xs, hx => by
    simp only [resDs] at hx ⊢
    split at hx
    · rename_i y ys hy hys
      rw [arD_lift hk hys]
      have : r.d ⟨e, t.ins P GL h⟩ = some y := by
        cases r with
        | t n => exact hy
        | c n sz ag =>
          simp only [AR.d, Option.bind_eq_some_iff] at hy ⊢
          obtain ⟨d, hd, hd2⟩ := hy
          exact ⟨d, val_lift hk hd, hd2⟩
      rw [this]; exact hx
    · cases hx
theorem tidy_sound {f : Nat} {args : List D} {h : List Row} {t : Lp} {n : Nat} {x : List D × List Row × Lp} (hk : t.kin x.2.2) (hok : OKT x.2.2 x.2.1) (hn : ∀ r, t.has r → r < n) :
    t.kin (tidy n x).2.2 ∧ OKT (tidy n x).2.2 (tidy n x).2.1 ∧ (FSp P GL f args h x.1 (x.2.2.ins P GL x.2.1) → FSp P GL f args h (tidy n x).1 ((tidy n x).2.2.ins P GL (tidy n x).2.1)) := by
  unfold tidy
  split
  · have hn' : ∀ r, Lp.has x.2.2 r → r < n := fun r hr => hn r (by simp only [Lp.has, hk.map]; exact hr)
    obtain ⟨h1, h2⟩ := hok.kill (P := P) (GL := GL) hn'
    exact ⟨hk, h1, fun hf => by simp only [h2]; exact hf.kill n⟩
  · exact ⟨hk, hok, id⟩
theorem evF_sound (hT : ∀ f n ac rs, T f = some (n, ac, rs) → chkF P GL f n ac rs = true)
    (hP : ∀ f args h x, Pr f args h = some x → ∀ t, OKT t h → FSp P GL f args (t.ins P GL h) x.1 (t.ins P GL h ++ x.2)) (hE : Snd P GL E) {f : Nat} {args : List D} {h : List Row} {t : Lp} {r : List D × List Row × Lp} (he : evF T Pr E f args h t = some r) (hk : OKT t h) :
    FSp P GL f args (t.ins P GL h) r.1 (r.2.2.ins P GL r.2.1) ∧ t.kin r.2.2 ∧ OKT r.2.2 r.2.1 := by
  unfold evF at he
  split at he
  · rename_i n ac rs htb
    split at he
    · rename_i hlen
      split at he
      · rename_i os hos
        split at he
        · rename_i xs hxs
          obtain ⟨hmem, hall⟩ := oneOf_mem he
          have hK := hE.K hos hk
          have hC := hE.C hos hk
          simp only at hK
          have hn : ∀ r, t.has r → r < h.length := fun r hr => hk.lt hr
          have outs : ∀ o ∈ os, ∃ y, (∀ i, o.1 ≠ .exit i) ∧ resDs ⟨o.2.e, o.2.h⟩ rs = some y ∧ tidy h.length (y, o.2.h, o.2.t) ∈ xs := by
            intro o ho
            obtain ⟨z, hz, hzm⟩ := mapL_mem hxs o ho
            split at hz
            · cases hz
            · rename_i hne
              simp only [Option.map_eq_some_iff] at hz
              obtain ⟨y, hy, rfl⟩ := hz
              exact ⟨y, fun i hi => hne i hi, hy, hzm⟩
          have kinx : ∀ y ∈ xs, t.kin y.2.2 ∧ OKT y.2.2 y.2.1 := by
            intro y hy
            obtain ⟨o, ho, hz⟩ := mapL_inv hxs y hy
            have hko := hK o ho
            split at hz
            · cases hz
            · simp only [Option.map_eq_some_iff] at hz
              obtain ⟨z, _, rfl⟩ := hz
              obtain ⟨q1, q2, _⟩ := tidy_sound (P := P) (GL := GL) (f := f) (args := args) (h := h) (n := h.length) (x := (z, o.2.h, o.2.t)) hko.1 hko.2 hn
              exact ⟨q1, q2⟩
          have same : ∀ y ∈ xs, y = r := by
            intro y hy
            rcases hall y hy with h | h
            · exact h
            · simp only [fEq, Bool.and_eq_true] at h
              exact (Prod.ext (D.beqs_eq h.1.1) (Prod.ext (row_eq h.1.2) (Lp.beq_eq (kinx r hmem).1 (kinx y hy).1 h.2))).symm
          refine ⟨?_, kinx r hmem⟩
          refine fsp_tidy (hT f n ac rs htb) hlen (awp_mono _ ?_ hC)
          rintro e s' ⟨o, ho, rfl, rfl⟩
          obtain ⟨y, hne, hy, hym⟩ := outs o ho
          have hok := hK o ho
          obtain ⟨_, _, q3⟩ := tidy_sound (P := P) (GL := GL) (f := f) (args := args) (h := t.ins P GL h) (n := h.length) (x := (y, o.2.h, o.2.t)) hok.1 hok.2 hn
          refine ⟨?_, y, arD_lift hok.2 hy, fun g w μ t' u' O hi => ?_⟩
          · cases hoe : o.1 with
            | normal => trivial
            | ret => trivial
            | exit i => exact absurd hoe (hne i)
          · rw [← same _ hym]
            unfold tidy
            split
            · have hn' : ∀ r, Lp.has o.2.t r → r < h.length := fun r hr => hn r (by simp only [Lp.has, hok.1.map]; exact hr)
              obtain ⟨_, h2⟩ := hok.2.kill (P := P) (GL := GL) hn'
              refine ⟨rfl, ?_⟩
              simp only [h2]; exact hi.kill _
            · exact ⟨rfl, hi⟩
        · cases he
      · cases he
    · cases he
  · simp only [Option.map_eq_some_iff] at he
    obtain ⟨x, hr, rfl⟩ := he
    have hlt : ∀ r, t.has r → r < h.length := fun r hr => hk.lt hr
    refine ⟨?_, Lp.kin.refl _, ⟨fun r hr => ?_, hk.nod⟩⟩
    · have := hP f args h x hr t hk
      simp only [ins_appendL t x.2 hlt]; exact this
    · rw [List.getElem?_append_left (hlt r hr)]; exact hk.dead r hr
theorem evP_sound (hT : ∀ f n ac rs, T f = some (n, ac, rs) → chkF P GL f n ac rs = true) (hE : Snd P GL E) {f : Nat} {vs rets : List V} (he : evP T E f vs = some rets) : PSp P GL f vs rets := by
  unfold evP at he
  split at he
  · rename_i n ac rs htb
    split at he
    · rename_i hlen
      split at he
      · rename_i os hos
        split at he
        · rename_i xs hxs
          obtain ⟨hmem, hall⟩ := oneOf_mem he
          have hk : OKT ([] : Lp) ([] : List Row) := ⟨fun r hr => by simp [Lp.has] at hr, by simp⟩
          have hK := hE.K hos hk
          have hC := hE.C hos hk
          refine psp_of_awp (hT f n ac rs htb) hlen (awp_mono _ ?_ hC)
          rintro e s' ⟨o, ho, rfl, rfl⟩
          obtain ⟨z, hz, hzm⟩ := mapL_mem hxs o ho
          have hzr : z = rets := by
            rcases hall z hzm with h | h
            · exact h
            · exact (V.beqs_eq h).symm
          have ht : o.2.t = [] := by
            have := (hK o ho).1
            simp only at this
            cases h : o.2.t with
            | nil => rfl
            | cons a b => rw [h] at this; exact this.elim
          split at hz
          · cases hz
          · rename_i hne
            refine ⟨?_, ?_⟩
            · cases hoe : o.1 with
              | normal => trivial
              | ret => trivial
              | exit i => exact absurd hoe (hne i)
            · simp only [ES.real, ht, Lp.ins]
              rw [← hzr]; exact hz
        · cases he
      · cases he
    · cases he
  · cases he
theorem ev_snd (hT : ∀ f n ac rs, T f = some (n, ac, rs) → chkF P GL f n ac rs = true)
    (hP : ∀ f args h x, Pr f args h = some x → ∀ t, OKT t h → FSp P GL f args (t.ins P GL h) x.1 (t.ins P GL h ++ x.2)) : ∀ n, Snd P GL (ev T Pr n)
  | 0 => by
    constructor
    · intro f args h t r h; cases h
    · intro f vs rets h; cases h
    · intro ac s os h; cases h
    · intro ac s os h; cases h
  | n + 1 => by
    have ih := ev_snd hT hP n
    constructor
    · intro f args h t r he hk; exact evF_sound hT hP ih he hk
    · intro f vs rets he; exact evP_sound hT ih he
    · intro ac s os he hk; exact evC_K ih he hk
    · intro ac s os he hk; exact evC_sound ih he hk
theorem psp_of_ev (hT : ∀ f n ac rs, T f = some (n, ac, rs) → chkF P GL f n ac rs = true)
    (hP : ∀ f args h x, Pr f args h = some x → ∀ t, OKT t h → FSp P GL f args (t.ins P GL h) x.1 (t.ins P GL h ++ x.2)) {fuel f : Nat} {vs rets : List V} (h : (ev T Pr fuel).Pf f vs = some rets) : PSp P GL f vs rets := (ev_snd hT hP fuel).Pf h
end
end Go.Va

namespace Go.Va
open Go.Proofs
def c3r0 : List GI := [xo (.mv 8 (.c (.v (.bool false))))]
def c3r1 : List GI := [xc 24 9 [],
 xm 9 24]
def c3r2 : List GI := [xn 25 0,
 xc 26 10 [(xt 25)],
 xn 10 26]
def c3r3 : List GI := [xo (.bsl 27 32 8 []),
 xm 28 10,
 xo (.appR 29 (xt 27) (xt 28) 32 8 144),
 xn 11 29]
def c3r4 : List GI := [xo (.bsl 30 32 8 []),
 xm 31 10,
 xo (.app 32 (xu 30) (xt 31) 32 8 144),
 xn 12 32]
def c3r5 : List GI := [xo (.mv 13 (.c (.own 32 8 [])))]
def c3r6 : List GI := [xm 33 10,
 xp 34 (.alen (xt 33)),
 xb 35 .sub (xt 34) (xi 1),
 xm 14 35]
def c3r7 : List GI := [xm 36 14,
 xb 37 .geq (xt 36) (xi 0)]
def c3r9 : List GI := [xn 40 13,
 xm 41 10,
 xm 42 14,
 xp 43 (.iaddr (xt 41) (xt 42) 8),
 xp 44 (.load (xt 43) 8 true),
 xo (.bsl 45 32 8 [(xt 44)]),
 xo (.app 46 (xu 40) (xt 45) 32 8 144),
 xn 13 46]
def c3r8 : List GI := [xm 38 14,
 xb 39 .sub (xt 38) (xi 1),
 xm 14 39]
def c3l0 : AC := (.seq (.seq (.reg c3r7 [1, 2, 3, 9, 10, 11, 12, 13, 14, 37]) (.cond (xt 37) .skip (.exit 0))) (.seq (.block 1 (.reg c3r9 [1, 2, 3, 9, 10, 11, 12, 13, 14])) (.reg c3r8 [1, 2, 3, 9, 10, 11, 12, 13, 14])))
def c3r10 : List GI := [xm 47 10,
 xp 48 (.alen (xt 47)),
 xb 49 .gtr (xt 48) (xi 0)]
def c3r11 : List GI := [xm 50 3,
 xm 51 10,
 xp 52 (.alen (xt 51)),
 xc 53 11 [(xt 50), (xt 52)],
 xm 15 53]
def c3r12 : List GI := [xm 54 11,
 xm 55 15,
 xm 56 11,
 xm 57 15,
 xp 58 (.iaddr (xt 56) (xt 57) 8),
 xp 59 (.load (xt 58) 8 true),
 xm 60 1,
 xm 61 2,
 xc 62 12 [(xt 59), (xt 60), (xt 61)],
 xp 63 (.iaddr (xt 54) (xt 55) 8),
 xo (.store (xt 63) (xt 62) 8)]
def c3r13 : List GI := [xn 64 12,
 xm 65 10,
 xm 66 15,
 xp 67 (.iaddr (xt 65) (xt 66) 8),
 xp 68 (.load (xt 67) 8 true),
 xo (.bsl 69 32 8 [(xt 68)]),
 xo (.app 70 (xu 64) (xt 69) 32 8 144),
 xn 12 70]
def c3r14 : List GI := [xm 71 10,
 xo (.frz 72 (xt 11) 8),
 xn 73 12,
 xn 74 13,
 xo (.bsl 75 25 1 [(xt 71), (xt 72), (xt 73), (xt 74), (.c (.nil 32 8))]),
 xn 16 75]
def c3r15 : List GI := [xo (.mv 17 (xi 0))]
def c3r16 : List GI := [xm 76 17,
 xm 77 16,
 xp 78 (.alen (xt 77)),
 xb 79 .lss (xt 76) (xt 78)]
def c3r18 : List GI := [xm 83 9,
 xm 84 16,
 xm 85 17,
 xp 86 (.iaddr (xt 84) (xt 85) 1),
 xl 87 86 1,
 xc 88 14 [(xt 87)],
 xc 89 13 [(xt 83), (xt 88)],
 xn 82 89,
 xe 90 82 0,
 xe 91 82 1,
 xm 18 90,
 xm 19 91]
def c3r19 : List GI := [xc 93 16 [],
 xm 94 16,
 xm 95 17,
 xp 96 (.iaddr (xt 94) (xt 95) 1),
 xl 97 96 1,
 xo (.callF (some 98) (xf 15) [(xt 93), (xt 97)]),
 xn 92 98,
 xe 99 92 0,
 xe 100 92 1,
 xm 20 99,
 xm 21 100]
def c3r20 : List GI := [xm 101 19,
 xm 102 21,
 xb 103 .neq (xt 101) (xt 102),
 xm 104 103,
 xg 104 false (.mv 105 (xt 18)),
 xg 104 false (.p 106 (.eqP true (xt 105) (.c (.v .nilp)))),
 xg 104 false (.mv 107 (xt 19)),
 xg 104 false (.p 108 (.bin .eql (xt 107) (xi 0))),
 xg 104 false (.p 109 (.eqB true (xt 106) (xt 108))),
 xp 110 (.pick (xt 104) (.c (.v (.bool true))) (xt 109))]
def c3r21 : List GI := [xo (.mv 8 (.c (.v (.bool false))))]
def c3r22 : List GI := [xm 111 18,
 xp 112 (.eqP true (xt 111) (.c (.v .nilp))),
 xm 113 112,
 xg 113 true (.mv 114 (xt 18)),
 xg 113 true (.callF (some 115) (xf 17) [(xt 114)]),
 xg 113 true (.mv 116 (xt 20)),
 xg 113 true (.p 117 (.nilc (xt 116))),
 xg 113 true (.p 118 (.faddr (xt 117) 2 1)),
 xg 113 true (.p 119 (.load (xt 118) 1 false)),
 xg 113 true (.callF (some 120) (xf 18) [(xt 119)]),
 xg 113 true (.p 121 (.bin .neq (xt 115) (xt 120))),
 xg 113 true (.mv 122 (xt 121)),
 xg 122 false (.mv 123 (xt 18)),
 xg 122 false (.callF (some 124) (xf 19) [(xt 123)]),
 xg 122 false (.mv 125 (xt 16)),
 xg 122 false (.mv 126 (xt 17)),
 xg 122 false (.p 127 (.iaddr (xt 125) (xt 126) 1)),
 xg 122 false (.p 128 (.load (xt 127) 1 false)),
 xg 122 false (.p 129 (.alen (xt 128))),
 xg 122 false (.p 130 (.bin .neq (xt 124) (xt 129))),
 xg 113 true (.p 131 (.pick (xt 122) (.c (.v (.bool true))) (xt 130))),
 xp 132 (.pick (xt 113) (xt 131) (.c (.v (.bool false))))]
def c3r23 : List GI := [xo (.mv 8 (.c (.v (.bool false))))]
def c3r17 : List GI := [xm 80 17,
 xb 81 .add (xt 80) (xi 1),
 xm 17 81]
def c3l1 : AC := (.seq (.seq (.reg c3r16 [9, 10, 16, 17, 79]) (.cond (xt 79) .skip (.exit 2))) (.seq (.block 3 (.seq (.reg c3r18 [9, 10, 16, 17, 18, 19]) (.seq (.regD c3r19 [9, 10, 16, 17, 18, 19, 20, 21] [[], [], [], [1, 2], [1, 2, 3], [0, 1, 2, 3, 4], [0, 1, 2, 3, 4, 5], [0, 1, 2, 3, 4, 5, 6], [0, 1, 2, 3, 4, 5, 6], [0, 1, 2, 3, 4, 5, 6, 7], [0, 1, 2, 3, 4, 5, 6, 7, 8, 9]]) (.seq (.seq (.reg c3r20 [9, 10, 16, 17, 18, 20, 110]) (.cond (xt 110) (.seq (.reg c3r21 [8]) .ret) .skip)) (.seq (.regA c3r22 [9, 10, 16, 17, 132] [[], [0], [0, 1], [0, 1, 2], [0, 1, 2, 3], [0, 1, 2], [0, 1, 2, 5], [0, 1, 2, 5, 6], [0, 1, 2, 5, 6, 7], [0, 1, 2, 3, 4, 5, 6, 7, 8], [0, 1, 2, 3, 4, 5, 6, 7, 8, 9], [0, 1, 2, 3, 4, 5, 6, 7, 8, 9, 10], [0, 1, 2, 3, 4, 5, 6, 7, 8, 9, 10, 11], [0, 1, 2, 3, 4, 5, 6, 7, 8, 9, 10, 11, 12], [0, 1, 2, 3, 4, 5, 6, 7, 8, 9, 10, 11], [0, 1, 2, 3, 4, 5, 6, 7, 8, 9, 10, 11], [0, 1, 2, 3, 4, 5, 6, 7, 8, 9, 10, 11, 14, 15], [0, 1, 2, 3, 4, 5, 6, 7, 8, 9, 10, 11, 14, 15, 16], [0, 1, 2, 3, 4, 5, 6, 7, 8, 9, 10, 11, 14, 15, 16, 17], [0, 1, 2, 3, 4, 5, 6, 7, 8, 9, 10, 11, 12, 13, 14, 15, 16, 17, 18], [0, 1, 2, 3, 4, 5, 6, 7, 8, 9, 10, 11, 12, 13, 14, 15, 16, 17, 18, 19], [0, 1, 2, 3, 4, 5, 6, 7, 8, 9, 10, 11, 12, 13, 14, 15, 16, 17, 18, 19, 20]] (.take 0 (.take 1 (.take 2 (.take 3 (.take 5 (.take 6 (.take 7 (.pick (.alt 4 (.take 8 (.take 9 (.take 10 (.take 11 (.take 12 (.take 14 (.take 15 (.take 16 (.pick (.alt 13 (.take 17 (.take 18 (.take 19 (.take 20 (.take 21 .done))))) (.alt 17 (.take 13 (.take 18 (.take 19 (.take 20 (.take 21 .done))))) .none))))))))))) (.alt 8 (.take 4 (.take 9 (.take 10 (.take 11 (.take 12 (.take 14 (.take 15 (.take 16 (.pick (.alt 13 (.take 17 (.take 18 (.take 19 (.take 20 (.take 21 .done))))) (.alt 17 (.take 13 (.take 18 (.take 19 (.take 20 (.take 21 .done))))) .none))))))))))) .none))))))))))) (.cond (xt 132) (.seq (.reg c3r23 [8]) .ret) .skip)))))) (.reg c3r17 [9, 10, 16, 17])))
def c3r24 : List GI := [xn 134 10,
 xc 135 14 [(xt 134)],
 xc 136 13 [(.c (.v .nilp)), (xt 135)],
 xn 133 136,
 xe 137 133 0,
 xe 138 133 1,
 xm 22 137,
 xm 23 138]
def c3r25 : List GI := [xm 139 23,
 xb 140 .eql (xt 139) (xi 1),
 xm 141 140,
 xg 141 true (.call (some 142) (xf 20) []),
 xp 143 (.pick (xt 141) (xt 142) (.c (.v (.bool false)))),
 xm 8 143]
def c3 : AC := (.seq (.reg c3r0 [0, 1, 2, 3]) (.seq (.reg c3r1 [0, 1, 2, 3, 9]) (.seq (.reg c3r2 [1, 2, 3, 9, 10]) (.seq (.reg c3r3 [1, 2, 3, 9, 10, 11]) (.seq (.reg c3r4 [1, 2, 3, 9, 10, 11, 12]) (.seq (.reg c3r5 [1, 2, 3, 9, 10, 11, 12, 13]) (.seq (.seq (.reg c3r6 [1, 2, 3, 9, 10, 11, 12, 13, 14]) (.block 0 (.loop c3l0))) (.seq (.seq (.reg c3r10 [1, 2, 3, 9, 10, 11, 12, 13, 49]) (.cond (xt 49) (.seq (.reg c3r11 [1, 2, 9, 10, 11, 12, 13, 15]) (.seq (.reg c3r12 [9, 10, 11, 12, 13, 15]) (.reg c3r13 [9, 10, 11, 12, 13]))) .skip)) (.seq (.reg c3r14 [9, 10, 16]) (.seq (.seq (.reg c3r15 [9, 10, 16, 17]) (.block 2 (.loop c3l1))) (.seq (.reg c3r24 [23]) (.seq (.reg c3r25 [8]) .ret))))))))))))
def c3R : List AR := [.t 8]
theorem k3 : chkF Tryz.prog GLx 3 4 c3 c3R = true := by kernel_rfl
def c9r0 : List GI := [xo (.mv 0 (.c (.v .nilp)))]
def c9r1 : List GI := [xc 4 16 [],
 xc 5 46 [(xt 4)],
 xn 3 5,
 xe 6 3 0,
 xe 7 3 1,
 xm 1 6,
 xm 2 7]
def c9r2 : List GI := [xm 8 2,
 xb 9 .neq (xt 8) (xi 0)]
def c9r3 : List GI := [xo (.mv 0 (.c (.v .nilp)))]
def c9r4 : List GI := [xm 10 1,
 xm 0 10]
def c9 : AC := (.seq (.reg c9r0 []) (.seq (.reg c9r1 [1, 2]) (.seq (.seq (.reg c9r2 [1, 9]) (.cond (xt 9) (.seq (.reg c9r3 [0]) .ret) .skip)) (.seq (.reg c9r4 [0]) .ret))))
def c9R : List AR := [.t 0]
theorem k9 : chkF Tryz.prog GLx 9 0 c9 c9R = true := by kernel_rfl
def c10r0 : List GI := [xo (.mv 2 (.c (.own 32 8 [])))]
def c10r1 : List GI := [xo (.mv 3 (.c (.own 32 8 [])))]
def c10r2 : List GI := [xm 8 0,
 xc 9 47 [(xt 8), (xi 0), (xi 5)],
 xm 4 9]
def c10r3 : List GI := [xo (.mv 5 (xi 0))]
def c10r4 : List GI := [xm 10 5,
 xm 11 4,
 xb 12 .lss (xt 10) (xt 11)]
def c10r6 : List GI := [xm 15 0,
 xm 16 0,
 xp 17 (.alen (xt 16)),
 xm 18 5,
 xb 19 .mul (xi 4) (xt 18),
 xb 20 .add (xi 1) (xt 19),
 xp 21 (.minmax false (xt 17) (xt 20)),
 xp 22 (.slc (xt 15) (some (xt 21)) none 1),
 xc 23 48 [(xt 22)],
 xo (.alloc 6 [.v (.int .i64 0), .v (.int .i64 0), .v (.int .i64 0), .own 130 5 [], .own 131 4 [], .own 3 1 [], .own 135 3 [], .own 137 4 []]),
 xo (.store (xt 6) (xt 23) 8)]
def c10r7 : List GI := [xo (.bsl 24 3 1 [(xi 0), (xi 7), (xi 8), (xi 4095), (xi 2047)]),
 xm 25 5,
 xm 26 4,
 xb 27 .add (xt 25) (xt 26),
 xb 28 .rem (xt 27) (xi 5),
 xp 29 (.iaddr (xt 24) (xt 28) 1),
 xl 30 29 1,
 xa 31 6 0 1,
 xo (.store (xt 31) (xt 30) 1)]
def c10r8 : List GI := [xm 32 5,
 xb 33 .rem (xt 32) (xi 2),
 xb 34 .eql (xt 33) (xi 0)]
def c10r9 : List GI := [xa 35 6 2 1,
 xo (.store (xt 35) (xi 0) 1)]
def c10r10 : List GI := [xp 36 (.load (xt 6) 8 true),
 xc 37 49 [(xt 36)],
 xm 7 37]
def c10r11 : List GI := [xm 38 7]
def c10r12 : List GI := [xn 39 3,
 xp 40 (.load (xt 6) 8 true),
 xo (.bsl 41 32 8 [(xt 40)]),
 xo (.app 42 (xu 39) (xt 41) 32 8 144),
 xn 3 42]
def c10r5 : List GI := [xm 13 5,
 xb 14 .add (xt 13) (xi 1),
 xm 5 14]
def c10l0 : AC := (.seq (.seq (.reg c10r4 [0, 3, 4, 5, 12]) (.cond (xt 12) .skip (.exit 0))) (.seq (.block 1 (.seq (.reg c10r6 [0, 3, 4, 5, 6]) (.seq (.reg c10r7 [0, 3, 4, 5, 6]) (.seq (.seq (.reg c10r8 [0, 3, 4, 5, 6, 34]) (.cond (xt 34) (.reg c10r9 [0, 3, 4, 5, 6]) .skip)) (.seq (.reg c10r10 [0, 3, 4, 5, 6, 7]) (.seq (.reg c10r11 [0, 3, 4, 5, 6, 38]) (.cond (xt 38) (.reg c10r12 [0, 3, 4, 5]) .skip))))))) (.reg c10r5 [0, 3, 4, 5])))
def c10r13 : List GI := [xn 43 3,
 xn 2 43]
def c10 : AC := (.seq (.reg c10r0 [0]) (.seq (.reg c10r1 [0, 3]) (.seq (.reg c10r2 [0, 3, 4]) (.seq (.seq (.reg c10r3 [0, 3, 4, 5]) (.block 0 (.loop c10l0))) (.seq (.reg c10r13 [2]) .ret)))))
def c10R : List AR := [.t 2]
theorem k10 : chkF Tryz.prog GLx 10 1 c10 c10R = true := by kernel_rfl
def c11r0 : List GI := [xo (.mv 4 (xi 0))]
def c11r1 : List GI := [xm 5 0,
 xb 6 .lss (xt 5) (xi 0)]
def c11r2 : List GI := [xm 7 0,
 xb 8 .add (xt 7) (xi 1),
 xp 9 (.neg (xt 8)),
 xm 0 9]
def c11r3 : List GI := [xm 10 0,
 xm 11 1,
 xb 12 .rem (xt 10) (xt 11),
 xm 4 12]
def c11 : AC := (.seq (.reg c11r0 [0, 1]) (.seq (.seq (.reg c11r1 [0, 1, 6]) (.cond (xt 6) (.reg c11r2 [0, 1]) .skip)) (.seq (.reg c11r3 [4]) .ret)))
def c11R : List AR := [.t 4]
theorem k11 : chkF Tryz.prog GLx 11 2 c11 c11R = true := by kernel_rfl
def c12r0 : List GI := [xo (.box 3 (xt 0)),
 xo (.alloc 6 [.v (.int .i64 0), .v (.int .i64 0), .v (.int .i64 0), .own 130 5 [], .own 131 4 [], .own 3 1 [], .own 135 3 [], .own 137 4 []])]
def c12r1 : List GI := [xo (.bsl 7 131 4 []),
 xa 8 3 4 1,
 xl 9 8 1,
 xo (.app 10 (xu 7) (xt 9) 131 4 32),
 xa 11 3 4 1,
 xo (.store (xt 11) (xu 10) 1)]
def c12r2 : List GI := [xo (.bsl 12 3 1 []),
 xa 13 3 5 1,
 xl 14 13 1,
 xo (.app 15 (xu 12) (xt 14) 3 1 8),
 xa 16 3 5 1,
 xo (.store (xt 16) (xu 15) 1)]
def c12r3 : List GI := [xo (.bsl 17 135 3 []),
 xa 18 3 6 1,
 xl 19 18 1,
 xo (.app 20 (xu 17) (xt 19) 135 3 24),
 xa 21 3 6 1,
 xo (.store (xt 21) (xu 20) 1)]
def c12r4 : List GI := [xo (.bsl 22 137 4 []),
 xa 23 3 7 1,
 xl 24 23 1,
 xo (.app 25 (xu 22) (xt 24) 137 4 32),
 xa 26 3 7 1,
 xo (.store (xt 26) (xu 25) 1)]
def c12r5 : List GI := [xm 27 1,
 xc 28 11 [(xt 27), (xi 10)]]
def c12r7 : List GI := [xb 37 .eql (xt 28) (xi 0),
 xm 36 37]
def c12r8 : List GI := [xm 38 2,
 xa 39 3 0 1,
 xo (.store (xt 39) (xt 38) 1)]
def c12r9 : List GI := [xb 41 .eql (xt 28) (xi 1),
 xm 40 41]
def c12r10 : List GI := [xm 42 2,
 xa 43 3 1 1,
 xo (.store (xt 43) (xt 42) 1)]
def c12r11 : List GI := [xb 45 .eql (xt 28) (xi 2),
 xm 44 45]
def c12r12 : List GI := [xm 46 2,
 xa 47 3 2 1,
 xo (.store (xt 47) (xt 46) 1)]
def c12r13 : List GI := [xb 49 .eql (xt 28) (xi 3),
 xm 48 49]
def c12r14 : List GI := [xo (.bsl 50 130 5 []),
 xa 51 3 3 1,
 xl 52 51 1,
 xo (.app 53 (xu 50) (xt 52) 130 5 88),
 xm 54 2,
 xo (.bsl 55 3 1 [(xt 54)]),
 xp 56 (.build [.nil 3 1, .v (.int .i64 0), .v (.int .i64 0), .nil 368 8, .nil 84 4] [(0, 1, (xt 55))]),
 xo (.bsl 57 130 5 [(xt 56)]),
 xo (.app 58 (xu 53) (xt 57) 130 5 88),
 xa 59 3 3 1,
 xo (.store (xt 59) (xu 58) 1)]
def c12r15 : List GI := [xb 61 .eql (xt 28) (xi 4),
 xm 60 61]
def c12r16 : List GI := [xa 62 3 4 1,
 xo (.take 63 (xt 62)),
 xa 64 3 3 1,
 xl 65 64 1,
 xp 66 (.alen (xt 65)),
 xb 67 .sub (xt 66) (xi 1),
 xm 68 2,
 xp 69 (.build [.v (.int .i64 0), .v (.int .i64 0)] [(0, 1, (xt 67)), (1, 1, (xt 68))]),
 xp 70 (.build [.v (.int .i64 0), .v (.int .i64 0), .v (.int .i64 0), .v (.int .i64 0)] [(0, 2, (xt 69))]),
 xo (.bsl 71 131 4 [(xt 70)]),
 xo (.app 72 (xu 63) (xt 71) 131 4 32),
 xa 73 3 4 1,
 xo (.store (xt 73) (xu 72) 1)]
def c12r17 : List GI := [xb 75 .eql (xt 28) (xi 5),
 xm 74 75]
def c12r18 : List GI := [xa 76 3 4 1,
 xo (.take 77 (xt 76)),
 xm 78 2,
 xp 79 (.build [.v (.int .i64 0), .v (.int .i64 0)] [(0, 1, (xt 78)), (1, 1, (xi 63))]),
 xm 80 2,
 xp 81 (.build [.v (.int .i64 0), .v (.int .i64 0), .v (.int .i64 0), .v (.int .i64 0)] [(0, 2, (xt 79)), (2, 1, (xt 80))]),
 xo (.bsl 82 131 4 [(xt 81)]),
 xo (.app 83 (xu 77) (xt 82) 131 4 32),
 xa 84 3 4 1,
 xo (.store (xt 84) (xu 83) 1)]
def c12r19 : List GI := [xb 86 .eql (xt 28) (xi 6),
 xm 85 86]
def c12r20 : List GI := [xa 87 3 5 1,
 xo (.take 88 (xt 87)),
 xm 89 2,
 xo (.bsl 90 3 1 [(xt 89)]),
 xo (.app 91 (xu 88) (xt 90) 3 1 8),
 xa 92 3 5 1,
 xo (.store (xt 92) (xu 91) 1)]
def c12r21 : List GI := [xb 94 .eql (xt 28) (xi 7),
 xm 93 94]
def c12r22 : List GI := [xa 95 3 6 1,
 xo (.take 96 (xt 95)),
 xm 97 2,
 xp 98 (.build [.v (.int .i64 0), .v (.int .i64 0)] [(0, 1, (xi 1)), (1, 1, (xi 1))]),
 xp 99 (.build [.v (.int .i64 0), .v (.int .i64 0), .v (.int .i64 0)] [(0, 1, (xt 97)), (1, 2, (xt 98))]),
 xo (.bsl 100 135 3 [(xt 99)]),
 xo (.app 101 (xu 96) (xt 100) 135 3 24),
 xa 102 3 6 1,
 xo (.store (xt 102) (xu 101) 1)]
def c12r23 : List GI := [xb 104 .eql (xt 28) (xi 8),
 xm 103 104]
def c12r24 : List GI := [xa 105 3 6 1,
 xo (.take 106 (xt 105)),
 xm 107 2,
 xp 108 (.build [.v (.int .i64 0), .v (.int .i64 0)] [(0, 1, (xt 107)), (1, 1, (xi 2))]),
 xp 109 (.build [.v (.int .i64 0), .v (.int .i64 0), .v (.int .i64 0)] [(0, 1, (xi 4095)), (1, 2, (xt 108))]),
 xo (.bsl 110 135 3 [(xt 109)]),
 xo (.app 111 (xu 106) (xt 110) 135 3 24),
 xa 112 3 6 1,
 xo (.store (xt 112) (xu 111) 1)]
def c12r6 : List GI := [xa 29 3 7 1,
 xo (.take 30 (xt 29)),
 xm 31 2,
 xp 32 (.build [.v (.int .i64 0), .v (.int .i64 0), .v (.int .i64 0), .v (.int .i64 0)] [(0, 1, (xi 1)), (1, 1, (xi 2)), (2, 1, (xi 5)), (3, 1, (xt 31))]),
 xo (.bsl 33 137 4 [(xt 32)]),
 xo (.app 34 (xu 30) (xt 33) 137 4 32),
 xa 35 3 7 1,
 xo (.store (xt 35) (xu 34) 1)]
def c12r25 : List GI := [xp 113 (.load (xt 3) 8 true),
 xo (.store (xt 6) (xt 113) 8)]
def c12 : AC := (.seq (.reg c12r0 [1, 2, 3, 6]) (.seq (.reg c12r1 [1, 2, 3, 6]) (.seq (.reg c12r2 [1, 2, 3, 6]) (.seq (.reg c12r3 [1, 2, 3, 6]) (.seq (.reg c12r4 [1, 2, 3, 6]) (.seq (.seq (.reg c12r5 [2, 3, 6, 28]) (.block 0 (.seq (.reg c12r7 [2, 3, 6, 28, 36]) (.cond (xt 36) (.reg c12r8 [3, 6]) (.seq (.reg c12r9 [2, 3, 6, 28, 40]) (.cond (xt 40) (.reg c12r10 [3, 6]) (.seq (.reg c12r11 [2, 3, 6, 28, 44]) (.cond (xt 44) (.reg c12r12 [3, 6]) (.seq (.reg c12r13 [2, 3, 6, 28, 48]) (.cond (xt 48) (.reg c12r14 [3, 6]) (.seq (.reg c12r15 [2, 3, 6, 28, 60]) (.cond (xt 60) (.reg c12r16 [3, 6]) (.seq (.reg c12r17 [2, 3, 6, 28, 74]) (.cond (xt 74) (.reg c12r18 [3, 6]) (.seq (.reg c12r19 [2, 3, 6, 28, 85]) (.cond (xt 85) (.reg c12r20 [3, 6]) (.seq (.reg c12r21 [2, 3, 6, 28, 93]) (.cond (xt 93) (.reg c12r22 [3, 6]) (.seq (.reg c12r23 [2, 3, 6, 103]) (.cond (xt 103) (.reg c12r24 [3, 6]) (.reg c12r6 [3, 6]))))))))))))))))))))) (.seq (.reg c12r25 [6]) .ret)))))))
def c12R : List AR := [.c 6 8 true]
theorem k12 : chkF Tryz.prog GLx 12 3 c12 c12R = true := by kernel_rfl
def c13r0 : List GI := [xo (.mv 4 (.c (.v .nilp))),
 xo (.mv 5 (xi 0))]
def c13r1 : List GI := [xm 14 0,
 xp 15 (.eqP false (xt 14) (.c (.v .nilp)))]
def c13r2 : List GI := [xo (.mv 4 (.c (.v .nilp))),
 xo (.mv 5 (xi 1))]
def c13r3 : List GI := [xm 16 0,
 xo (.mkm 17),
 xc 18 50 [],
 xp 19 (.build [.v .nilp, .v .nilm, .v .nilp] [(0, 1, (xt 16)), (1, 1, (xt 17)), (2, 1, (xt 18))]),
 xo (.box 20 (xt 19)),
 xm 6 20]
def c13r4 : List GI := [xn 21 1,
 xp 22 (.alen (xt 21)),
 xo (.mv 23 (xi 0))]
def c13r5 : List GI := [xb 24 .lss (xt 23) (xt 22)]
def c13r6 : List GI := [xp 25 (.iaddr (xt 21) (xt 23) 8),
 xp 26 (.load (xt 25) 8 true),
 xo (.alloc 8 [.v (.int .i64 0), .v (.int .i64 0), .v (.int .i64 0), .own 130 5 [], .own 88 4 [], .own 3 1 [], .own 246 3 [], .own 247 4 []]),
 xo (.store (xt 8) (xt 26) 8)]
def c13r7 : List GI := [xp 28 (.load (xt 8) 8 true),
 xc 29 51 [(xt 28)],
 xn 27 29,
 xe 30 27 0,
 xe 31 27 1,
 xn 9 30,
 xm 10 31]
def c13r8 : List GI := [xm 32 10,
 xb 33 .neq (xt 32) (xi 0)]
def c13r9 : List GI := [xm 34 10,
 xo (.mv 4 (.c (.v .nilp))),
 xm 5 34]
def c13r10 : List GI := [xm 36 6,
 xp 37 (.nilc (xt 36)),
 xa 38 37 1 1,
 xl 39 38 1,
 xa 40 8 0 1,
 xl 41 40 1,
 xp 42 (.look (xt 39) (xt 41) false [0] [.nil 5 1] false true),
 xn 35 42,
 xe 43 35 0,
 xe 44 35 1,
 xn 11 43,
 xm 12 44]
def c13r11 : List GI := [xm 45 12]
def c13r12 : List GI := [xo (.mv 4 (.c (.v .nilp))),
 xo (.mv 5 (xi 8))]
def c13r13 : List GI := [xm 46 6,
 xp 47 (.nilc (xt 46)),
 xa 48 47 2 1,
 xl 49 48 1,
 xa 50 8 0 1,
 xl 51 50 1,
 xm 52 9,
 xo (.callF (some 53) (xf 52) [(xt 49), (xt 51), (xt 52)]),
 xm 13 53]
def c13r14 : List GI := [xm 54 13,
 xb 55 .neq (xt 54) (xi 0)]
def c13r15 : List GI := [xm 56 13,
 xo (.mv 4 (.c (.v .nilp))),
 xm 5 56]
def c13r16 : List GI := [xm 57 6,
 xp 58 (.nilc (xt 57)),
 xa 59 58 1 1,
 xl 60 59 1,
 xa 61 8 0 1,
 xl 62 61 1,
 xn 63 9,
 xo (.mput (xt 60) (xt 62) (xt 63) false [0])]
def c13r17 : List GI := [xb 64 .add (xt 23) (xi 1),
 xm 23 64]
def c13l0 : AC := (.seq (.reg c13r5 [6, 21, 22, 23, 24]) (.seq (.cond (xt 24) .skip (.exit 0)) (.seq (.block 1 (.seq (.reg c13r6 [6, 8, 21, 22, 23]) (.seq (.reg c13r7 [6, 8, 9, 10, 21, 22, 23]) (.seq (.seq (.reg c13r8 [6, 8, 9, 10, 21, 22, 23, 33]) (.cond (xt 33) (.seq (.reg c13r9 [4, 5]) .ret) .skip)) (.seq (.seq (.regD c13r10 [6, 8, 9, 12, 21, 22, 23] [[], [0], [0, 1], [0, 1, 2], [], [4], [0, 1, 2, 3, 4, 5], [0, 1, 2, 3, 4, 5, 6], [0, 1, 2, 3, 4, 5, 6, 7], [0, 1, 2, 3, 4, 5, 6, 7], [0, 1, 2, 3, 4, 5, 6, 7, 8], [0, 1, 2, 3, 4, 5, 6, 7, 8, 9, 10]]) (.seq (.reg c13r11 [6, 8, 9, 21, 22, 23, 45]) (.cond (xt 45) (.seq (.reg c13r12 [4, 5]) .ret) .skip))) (.seq (.seq (.regD c13r13 [6, 8, 9, 13, 21, 22, 23] [[], [0], [0, 1], [0, 1, 2], [], [4], [], [0, 1, 2, 3, 4, 5, 6], [0, 1, 2, 3, 4, 5, 6, 7]]) (.seq (.reg c13r14 [6, 8, 9, 13, 21, 22, 23, 55]) (.cond (xt 55) (.seq (.reg c13r15 [4, 5]) .ret) .skip))) (.regD c13r16 [6, 21, 22, 23] [[], [0], [0, 1], [0, 1, 2], [], [4], [], [0, 1, 2, 3, 4, 5, 6]]))))))) (.reg c13r17 [6, 21, 22, 23]))))
def c13r18 : List GI := [xm 65 6,
 xm 4 65,
 xo (.mv 5 (xi 0))]
def c13 : AC := (.seq (.reg c13r0 [0, 1]) (.seq (.seq (.reg c13r1 [0, 1, 15]) (.cond (xt 15) (.seq (.reg c13r2 [4, 5]) .ret) .skip)) (.seq (.reg c13r3 [1, 6]) (.seq (.seq (.reg c13r4 [6, 21, 22, 23]) (.block 0 (.loop c13l0))) (.seq (.reg c13r18 [4, 5]) .ret)))))
def c13R : List AR := [.t 4, .t 5]
theorem k13 : chkF Tryz.prog GLx 13 2 c13 c13R = true := by kernel_rfl
def c14r0 : List GI := [xo (.mv 2 (.c (.own 74 8 [])))]
def c14r1 : List GI := [xo (.mv 3 (.c (.own 74 8 [])))]
def c14r2 : List GI := [xo (.mv 4 (xi 0))]
def c14r3 : List GI := [xm 5 4,
 xm 6 0,
 xp 7 (.alen (xt 6)),
 xb 8 .lss (xt 5) (xt 7)]
def c14r5 : List GI := [xn 11 3,
 xm 12 0,
 xm 13 4,
 xp 14 (.iaddr (xt 12) (xt 13) 8),
 xp 15 (.load (xt 14) 8 true),
 xc 16 53 [(xt 15)],
 xo (.bsl 17 74 8 [(xt 16)]),
 xo (.app 18 (xu 11) (xt 17) 74 8 144),
 xn 3 18]
def c14r4 : List GI := [xm 9 4,
 xb 10 .add (xt 9) (xi 1),
 xm 4 10]
def c14l0 : AC := (.seq (.seq (.reg c14r3 [0, 3, 4, 8]) (.cond (xt 8) .skip (.exit 0))) (.seq (.block 1 (.reg c14r5 [0, 3, 4])) (.reg c14r4 [0, 3, 4])))
def c14r6 : List GI := [xn 19 3,
 xn 2 19]
def c14 : AC := (.seq (.reg c14r0 [0]) (.seq (.reg c14r1 [0, 3]) (.seq (.seq (.reg c14r2 [0, 3, 4]) (.block 0 (.loop c14l0))) (.seq (.reg c14r6 [2]) .ret))))
def c14R : List AR := [.t 2]
theorem k14 : chkF Tryz.prog GLx 14 1 c14 c14R = true := by kernel_rfl
def c15r0 : List GI := [xo (.mv 4 (.c (.v .nilp))),
 xo (.mv 5 (xi 0))]
def c15r1 : List GI := [xn 13 0,
 xp 14 (.build [.nil 200 2] []),
 xo (.box 15 (xt 14)),
 xp 16 (.build [.nil 22 1, .nil 32 8, .v .nilp] [(0, 1, (xt 13)), (2, 1, (xt 15))]),
 xo (.box 17 (xt 16)),
 xm 6 17]
def c15r2 : List GI := [xo (.mv 7 (xi 0))]
def c15r3 : List GI := [xm 18 7,
 xm 19 1,
 xp 20 (.alen (xt 19)),
 xb 21 .lss (xt 18) (xt 20)]
def c15r5 : List GI := [xm 25 1,
 xm 26 7,
 xp 27 (.iaddr (xt 25) (xt 26) 8),
 xp 28 (.load (xt 27) 8 true),
 xc 29 54 [(xt 28)],
 xn 24 29,
 xe 30 24 0,
 xe 31 24 1,
 xn 8 30,
 xm 9 31]
def c15r6 : List GI := [xm 32 9,
 xb 33 .neq (xt 32) (xi 0)]
def c15r7 : List GI := [xm 34 9,
 xo (.mv 4 (.c (.v .nilp))),
 xm 5 34]
def c15r8 : List GI := [xm 35 6,
 xp 36 (.nilc (xt 35)),
 xa 37 36 2 1,
 xl 38 37 1,
 xm 39 1,
 xm 40 7,
 xp 41 (.iaddr (xt 39) (xt 40) 8),
 xa 42 41 0 1,
 xl 43 42 1,
 xo (.callF (some 44) (xf 55) [(xt 38), (xt 43)]),
 xb 45 .geq (xt 44) (xi 0)]
def c15r9 : List GI := [xo (.mv 4 (.c (.v .nilp))),
 xo (.mv 5 (xi 8))]
def c15r10 : List GI := [xm 46 6,
 xp 47 (.nilc (xt 46)),
 xa 48 47 2 1,
 xl 49 48 1,
 xm 50 1,
 xm 51 7,
 xp 52 (.iaddr (xt 50) (xt 51) 8),
 xa 53 52 0 1,
 xl 54 53 1,
 xn 55 8,
 xo (.callF (some 56) (xf 56) [(xt 49), (xt 54), (xt 55)]),
 xm 10 56]
def c15r11 : List GI := [xm 57 10,
 xb 58 .neq (xt 57) (xi 0)]
def c15r12 : List GI := [xm 59 10,
 xo (.mv 4 (.c (.v .nilp))),
 xm 5 59]
def c15r13 : List GI := [xo (.mv 11 (xi 0))]
def c15r14 : List GI := [xm 60 11,
 xm 61 6,
 xp 62 (.nilc (xt 61)),
 xa 63 62 1 1,
 xl 64 63 1,
 xp 65 (.alen (xt 64)),
 xb 66 .lss (xt 60) (xt 65),
 xm 67 66,
 xg 67 true (.mv 68 (xt 6)),
 xg 67 true (.p 69 (.nilc (xt 68))),
 xg 67 true (.p 70 (.faddr (xt 69) 1 1)),
 xg 67 true (.p 71 (.load (xt 70) 1 false)),
 xg 67 true (.mv 72 (xt 11)),
 xg 67 true (.p 73 (.iaddr (xt 71) (xt 72) 8)),
 xg 67 true (.p 74 (.faddr (xt 73) 0 1)),
 xg 67 true (.p 75 (.load (xt 74) 1 false)),
 xg 67 true (.mv 76 (xt 1)),
 xg 67 true (.mv 77 (xt 7)),
 xg 67 true (.p 78 (.iaddr (xt 76) (xt 77) 8)),
 xg 67 true (.p 79 (.faddr (xt 78) 0 1)),
 xg 67 true (.p 80 (.load (xt 79) 1 false)),
 xg 67 true (.p 81 (.bin .lss (xt 75) (xt 80))),
 xp 82 (.pick (xt 67) (xt 81) (.c (.v (.bool false))))]
def c15r15 : List GI := [xm 83 11,
 xb 84 .add (xt 83) (xi 1),
 xm 11 84]
def c15l1 : AC := (.seq (.seq (.regD c15r14 [1, 6, 7, 11, 82] [[], [], [1], [1, 2], [1, 2, 3], [1, 2, 3, 4], [0, 1, 2, 3, 4, 5], [0, 1, 2, 3, 4, 5, 6], [0, 1, 2, 3, 4, 5, 6, 7], [0, 1, 2, 3, 4, 5, 6, 7, 8], [0, 1, 2, 3, 4, 5, 6, 7, 8, 9], [0, 1, 2, 3, 4, 5, 6, 7, 8, 9, 10], [0, 1, 2, 3, 4, 5, 6, 7], [0, 1, 2, 3, 4, 5, 6, 7, 8, 9, 10, 11, 12], [0, 1, 2, 3, 4, 5, 6, 7, 8, 9, 10, 11, 12, 13], [0, 1, 2, 3, 4, 5, 6, 7, 8, 9, 10, 11, 12, 13, 14], [0, 1, 2, 3, 4, 5, 6, 7], [0, 1, 2, 3, 4, 5, 6, 7], [0, 1, 2, 3, 4, 5, 6, 7, 16, 17], [0, 1, 2, 3, 4, 5, 6, 7, 16, 17, 18], [0, 1, 2, 3, 4, 5, 6, 7, 16, 17, 18, 19], [0, 1, 2, 3, 4, 5, 6, 7, 8, 9, 10, 11, 12, 13, 14, 15, 16, 17, 18, 19, 20], [0, 1, 2, 3, 4, 5, 6, 7, 8, 9, 10, 11, 12, 13, 14, 15, 16, 17, 18, 19, 20, 21]]) (.cond (xt 82) .skip (.exit 2))) (.block 3 (.reg c15r15 [1, 6, 7, 11])))
def c15r16 : List GI := [xo (.mv 12 (.c (.own 32 8 [])))]
def c15r17 : List GI := [xn 85 12,
 xm 86 6,
 xp 87 (.nilc (xt 86)),
 xa 88 87 1 1,
 xl 89 88 1,
 xm 90 11,
 xp 91 (.slc (xt 89) none (some (xt 90)) 8),
 xo (.app 92 (xu 85) (xt 91) 32 8 144),
 xm 93 1,
 xm 94 7,
 xp 95 (.iaddr (xt 93) (xt 94) 8),
 xp 96 (.load (xt 95) 8 true),
 xo (.bsl 97 32 8 [(xt 96)]),
 xo (.app 98 (xu 92) (xt 97) 32 8 144),
 xn 12 98]
def c15r18 : List GI := [xm 99 6,
 xn 100 12,
 xm 101 6,
 xp 102 (.nilc (xt 101)),
 xa 103 102 1 1,
 xl 104 103 1,
 xm 105 11,
 xp 106 (.slc (xt 104) (some (xt 105)) none 8),
 xo (.app 107 (xu 100) (xt 106) 32 8 144),
 xp 108 (.nilc (xt 99)),
 xa 109 108 1 1,
 xo (.store (xt 109) (xu 107) 1)]
def c15r4 : List GI := [xm 22 7,
 xb 23 .add (xt 22) (xi 1),
 xm 7 23]
def c15l0 : AC := (.seq (.seq (.reg c15r3 [1, 6, 7, 21]) (.cond (xt 21) .skip (.exit 0))) (.seq (.block 1 (.seq (.reg c15r5 [1, 6, 7, 8, 9]) (.seq (.seq (.reg c15r6 [1, 6, 7, 8, 9, 33]) (.cond (xt 33) (.seq (.reg c15r7 [4, 5]) .ret) .skip)) (.seq (.seq (.regD c15r8 [1, 6, 7, 8, 45] [[], [0], [0, 1], [0, 1, 2], [], [], [4, 5], [4, 5, 6], [4, 5, 6, 7], [0, 1, 2, 3, 4, 5, 6, 7, 8], [0, 1, 2, 3, 4, 5, 6, 7, 8, 9]]) (.cond (xt 45) (.seq (.reg c15r9 [4, 5]) .ret) .skip)) (.seq (.regD c15r10 [1, 6, 7, 10] [[], [0], [0, 1], [0, 1, 2], [], [], [4, 5], [4, 5, 6], [4, 5, 6, 7], [], [0, 1, 2, 3, 4, 5, 6, 7, 8, 9], [0, 1, 2, 3, 4, 5, 6, 7, 8, 9, 10]]) (.seq (.seq (.reg c15r11 [1, 6, 7, 10, 58]) (.cond (xt 58) (.seq (.reg c15r12 [4, 5]) .ret) .skip)) (.seq (.reg c15r13 [1, 6, 7, 11]) (.seq (.block 2 (.loop c15l1)) (.seq (.reg c15r16 [1, 6, 7, 11, 12]) (.seq (.regD c15r17 [1, 6, 7, 11, 12] [[], [], [1], [1, 2], [1, 2, 3], [], [1, 2, 3, 4, 5], [0, 1, 2, 3, 4, 5, 6], [], [], [8, 9], [8, 9, 10], [8, 9, 10, 11], [0, 1, 2, 3, 4, 5, 6, 7, 8, 9, 10, 11, 12], [0, 1, 2, 3, 4, 5, 6, 7, 8, 9, 10, 11, 12, 13]]) (.reg c15r18 [1, 6, 7]))))))))))) (.reg c15r4 [1, 6, 7])))
def c15r19 : List GI := [xm 110 6,
 xm 4 110,
 xo (.mv 5 (xi 0))]
def c15 : AC := (.seq (.reg c15r0 [0, 1]) (.seq (.reg c15r1 [1, 6]) (.seq (.seq (.reg c15r2 [1, 6, 7]) (.block 0 (.loop c15l0))) (.seq (.reg c15r19 [4, 5]) .ret))))
def c15R : List AR := [.t 4, .t 5]
theorem k15 : chkF Tryz.prog GLx 15 2 c15 c15R = true := by kernel_rfl
def c16r0 : List GI := [xo (.mv 0 (.c (.own 22 1 [])))]
def c16r1 : List GI := [xo (.bsl 1 3 1 [(xi 0)]),
 xo (.bsl 2 3 1 [(xi 0)]),
 xo (.bsl 3 3 1 [(xi 1), (xi 2)]),
 xo (.bsl 4 3 1 [(xi 4)]),
 xo (.bsl 5 22 1 [(.c (.nil 3 1)), (xt 1), (xt 2), (xt 3), (.c (.nil 3 1)), (xt 4)]),
 xn 0 5]
def c16 : AC := (.seq (.reg c16r0 []) (.seq (.reg c16r1 [0]) .ret))
def c16R : List AR := [.t 0]
theorem k16 : chkF Tryz.prog GLx 16 0 c16 c16R = true := by kernel_rfl
def c17r0 : List GI := [xo (.mv 2 (xj 0))]
def c17r1 : List GI := [xm 3 0,
 xp 4 (.nilc (xt 3)),
 xa 5 4 2 1,
 xl 6 5 1,
 xc 7 57 [(xt 6)],
 xm 2 7]
def c17 : AC := (.seq (.reg c17r0 [0]) (.seq (.reg c17r1 [2]) .ret))
def c17R : List AR := [.t 2]
theorem k17 : chkF Tryz.prog GLx 17 1 c17 c17R = true := by kernel_rfl
def c18r0 : List GI := [xo (.mv 2 (xj 0))]
def c18r1 : List GI := [xm 6 0,
 xc 7 58 [(xt 6), (xi 0), (xi 4096)],
 xn 5 7,
 xe 8 5 0,
 xe 9 5 1,
 xm 3 8,
 xm 4 9]
def c18r2 : List GI := [xm 10 3,
 xm 2 10]
def c18 : AC := (.seq (.reg c18r0 [0]) (.seq (.reg c18r1 [3]) (.seq (.reg c18r2 [2]) .ret)))
def c18R : List AR := [.t 2]
theorem k18 : chkF Tryz.prog GLx 18 1 c18 c18R = true := by kernel_rfl
def c19r0 : List GI := [xo (.mv 2 (xi 0))]
def c19r1 : List GI := [xm 3 0,
 xp 4 (.nilc (xt 3)),
 xa 5 4 1 1,
 xl 6 5 1,
 xp 7 (.mlen (xt 6)),
 xm 2 7]
def c19 : AC := (.seq (.reg c19r0 [0]) (.seq (.reg c19r1 [2]) .ret))
def c19R : List AR := [.t 2]
theorem k19 : chkF Tryz.prog GLx 19 1 c19 c19R = true := by kernel_rfl
def c20r0 : List GI := [xo (.mv 0 (.c (.v (.bool false))))]
def c20r1 : List GI := [xc 8 9 [],
 xm 1 8]
def c20r2 : List GI := [xm 10 1,
 xp 11 (.build [.v (.int .i64 0), .v (.int .i64 0), .v (.int .i64 0), .nil 130 5, .nil 88 4, .nil 3 1, .nil 246 3, .nil 247 4] [(0, 1, (xi 7))]),
 xo (.bsl 12 74 8 [(xt 11)]),
 xc 13 13 [(xt 10), (xt 12)],
 xn 9 13,
 xe 14 9 0,
 xe 15 9 1,
 xm 2 14,
 xm 3 15]
def c20r3 : List GI := [xm 16 1,
 xp 17 (.eqP false (xt 16) (.c (.v .nilp))),
 xm 18 17,
 xg 18 false (.mv 19 (xt 2)),
 xg 18 false (.p 20 (.eqP false (xt 19) (.c (.v .nilp)))),
 xp 21 (.pick (xt 18) (.c (.v (.bool true))) (xt 20)),
 xm 22 21,
 xg 22 false (.mv 23 (xt 3)),
 xg 22 false (.p 24 (.bin .neq (xt 23) (xi 0))),
 xp 25 (.pick (xt 22) (.c (.v (.bool true))) (xt 24))]
def c20r4 : List GI := [xo (.mv 0 (.c (.v (.bool false))))]
def c20r5 : List GI := [xm 27 2,
 xc 28 59 [(xt 27), (xi 8)],
 xn 26 28,
 xe 29 26 0,
 xe 30 26 1,
 xo (.alloc 4 [.v (.int .i64 0), .v (.int .i64 0), .v (.int .i64 0), .v (.int .i64 0), .own 3 1 [], .own 171 3 [], .own 58 3 [], .own 74 8 [], .own 76 2 [], .own 3 1 [], .own 47 1 [], .own 47 1 [], .own 5 1 []]),
 xo (.store (xt 4) (xt 29) 13),
 xm 5 30]
def c20r6 : List GI := [xm 31 2,
 xc 32 17 [(xt 31)],
 xp 33 (.build [.v (.int .i64 0), .v (.int .i64 0), .v (.int .i64 0), .v (.int .i64 0), .v (.int .u64 0), .v (.int .u64 0), .v (.int .i64 0), .v (.int .u64 0)] [(5, 1, (xt 32))]),
 xc 34 39 [(xj 5), (xt 33)],
 xo (.alloc 6 [.v (.int .i64 0), .v (.int .i64 0), .v (.int .i64 0), .v (.int .i64 0), .v (.int .u64 0), .v (.int .u64 0), .v (.int .i64 0), .v (.int .u64 0)]),
 xo (.store (xt 6) (xt 34) 8)]
def c20r7 : List GI := [xp 35 (.load (xt 4) 13 true),
 xo (.alloc 7 [.v (.int .i64 0), .v (.int .i64 0), .v (.int .i64 0), .v (.int .i64 0), .own 3 1 [], .own 171 3 [], .own 58 3 [], .own 74 8 [], .own 76 2 [], .own 3 1 [], .own 47 1 [], .own 47 1 [], .own 5 1 []]),
 xo (.store (xt 7) (xt 35) 13)]
def c20r8 : List GI := [xa 36 7 1 1,
 xo (.store (xt 36) (xi 7) 1)]
def c20r9 : List GI := [xm 37 5,
 xb 38 .eql (xt 37) (xi 0),
 xm 39 38,
 xg 39 true (.p 40 (.faddr (xt 4) 7 1)),
 xg 39 true (.p 41 (.load (xt 40) 1 false)),
 xg 39 true (.p 42 (.alen (xt 41))),
 xg 39 true (.p 43 (.bin .eql (xt 42) (xi 0))),
 xp 44 (.pick (xt 39) (xt 43) (.c (.v (.bool false)))),
 xm 45 44,
 xg 45 true (.mv 46 (xt 1)),
 xg 45 true (.call (some 47) (xf 40) [(xj 5)]),
 xg 45 true (.p 48 (.load (xt 6) 8 true)),
 xg 45 true (.p 49 (.load (xt 4) 13 true)),
 xg 45 true (.callF (some 50) (xf 34) [(xt 46), (xt 47), (xt 48), (xt 49)]),
 xg 45 true (.p 51 (.bin .eql (xt 50) (xi 0))),
 xp 52 (.pick (xt 45) (xt 51) (.c (.v (.bool false)))),
 xm 53 52,
 xg 53 true (.mv 54 (xt 1)),
 xg 53 true (.call (some 55) (xf 40) [(xj 5)]),
 xg 53 true (.p 56 (.load (xt 6) 8 true)),
 xg 53 true (.p 57 (.load (xt 7) 13 true)),
 xg 53 true (.callF (some 58) (xf 34) [(xt 54), (xt 55), (xt 56), (xt 57)]),
 xg 53 true (.p 59 (.bin .neq (xt 58) (xi 0))),
 xp 60 (.pick (xt 53) (xt 59) (.c (.v (.bool false)))),
 xm 0 60]
def c20 : AC := (.seq (.reg c20r0 []) (.seq (.reg c20r1 [1]) (.seq (.reg c20r2 [1, 2, 3]) (.seq (.seq (.reg c20r3 [1, 2, 25]) (.cond (xt 25) (.seq (.reg c20r4 [0]) .ret) .skip)) (.seq (.reg c20r5 [1, 2, 4, 5]) (.seq (.reg c20r6 [1, 4, 5, 6]) (.seq (.reg c20r7 [1, 4, 5, 6, 7]) (.seq (.reg c20r8 [1, 4, 5, 6, 7]) (.seq (.regD c20r9 [0] [[], [0], [0, 1], [0, 1, 2], [0, 1, 2, 3], [0, 1, 2, 3, 4], [0, 1, 2, 3, 4, 5], [0, 1, 2, 3, 4, 5, 6], [0, 1, 2, 3, 4, 5, 6, 7], [0, 1, 2, 3, 4, 5, 6, 7, 8], [0, 1, 2, 3, 4, 5, 6, 7, 8], [0, 1, 2, 3, 4, 5, 6, 7, 8], [0, 1, 2, 3, 4, 5, 6, 7, 8], [0, 1, 2, 3, 4, 5, 6, 7, 8, 9, 10, 11, 12], [0, 1, 2, 3, 4, 5, 6, 7, 8, 9, 10, 11, 12, 13], [0, 1, 2, 3, 4, 5, 6, 7, 8, 9, 10, 11, 12, 13, 14], [0, 1, 2, 3, 4, 5, 6, 7, 8, 9, 10, 11, 12, 13, 14, 15], [0, 1, 2, 3, 4, 5, 6, 7, 8, 9, 10, 11, 12, 13, 14, 15, 16], [0, 1, 2, 3, 4, 5, 6, 7, 8, 9, 10, 11, 12, 13, 14, 15, 16], [0, 1, 2, 3, 4, 5, 6, 7, 8, 9, 10, 11, 12, 13, 14, 15, 16], [0, 1, 2, 3, 4, 5, 6, 7, 8, 9, 10, 11, 12, 13, 14, 15, 16], [0, 1, 2, 3, 4, 5, 6, 7, 8, 9, 10, 11, 12, 13, 14, 15, 16, 17, 18, 19, 20], [0, 1, 2, 3, 4, 5, 6, 7, 8, 9, 10, 11, 12, 13, 14, 15, 16, 17, 18, 19, 20, 21], [0, 1, 2, 3, 4, 5, 6, 7, 8, 9, 10, 11, 12, 13, 14, 15, 16, 17, 18, 19, 20, 21, 22], [0, 1, 2, 3, 4, 5, 6, 7, 8, 9, 10, 11, 12, 13, 14, 15, 16, 17, 18, 19, 20, 21, 22, 23]]) .ret)))))))))
def c20R : List AR := [.t 0]
theorem k20 : chkF Tryz.prog GLx 20 0 c20 c20R = true := by kernel_rfl
end Go.Va

namespace Go.Va
open Go.Proofs
def c34r0 : List GI := [xo (.box 6 (xt 2)),
 xo (.box 7 (xt 3)),
 xo (.mv 8 (xi 0))]
def c34r1 : List GI := [xm 22 0,
 xp 23 (.eqP false (xt 22) (.c (.v .nilp)))]
def c34r2 : List GI := [xo (.mv 8 (xi 1))]
def c34r3 : List GI := [xm 24 1,
 xp 25 (.load (xt 6) 8 true),
 xc 26 86 [(xt 24), (xt 25)],
 xm 9 26]
def c34r4 : List GI := [xm 27 9,
 xb 28 .neq (xt 27) (xi 0)]
def c34r5 : List GI := [xm 29 9,
 xm 8 29]
def c34r6 : List GI := [xp 30 (.load (xt 7) 13 true),
 xc 31 87 [(xt 30)],
 xm 10 31]
def c34r7 : List GI := [xm 32 10,
 xb 33 .neq (xt 32) (xi 0)]
def c34r8 : List GI := [xm 34 10,
 xm 8 34]
def c34r9 : List GI := [xo (.mv 11 (.c (.own 193 2 [])))]
def c34r10 : List GI := [xa 35 7 7 1,
 xl 36 35 1,
 xp 37 (.alen (xt 36)),
 xo (.mv 38 (xi 0))]
def c34r11 : List GI := [xb 39 .lss (xt 38) (xt 37)]
def c34r12 : List GI := [xp 40 (.iaddr (xt 36) (xt 38) 8),
 xp 41 (.load (xt 40) 8 true),
 xo (.alloc 13 [.v (.int .i64 0), .v (.int .i64 0), .v (.int .i64 0), .own 130 5 [], .own 88 4 [], .own 3 1 [], .own 246 3 [], .own 247 4 []]),
 xo (.store (xt 13) (xt 41) 8)]
def c34r13 : List GI := [xp 43 (.load (xt 13) 8 true),
 xc 44 51 [(xt 43)],
 xn 42 44,
 xe 45 42 0,
 xe 46 42 1,
 xn 14 45,
 xm 15 46]
def c34r14 : List GI := [xm 47 15,
 xb 48 .neq (xt 47) (xi 0)]
def c34r15 : List GI := [xm 49 15,
 xm 8 49]
def c34r16 : List GI := [xn 50 11,
 xa 51 13 0 1,
 xl 52 51 1,
 xn 53 14,
 xp 54 (.build [.v (.int .i64 0), .nil 5 1] [(0, 1, (xt 52)), (1, 1, (xt 53))]),
 xo (.bsl 55 193 2 [(xt 54)]),
 xo (.app 56 (xu 50) (xt 55) 193 2 32),
 xn 11 56]
def c34r17 : List GI := [xb 57 .add (xt 38) (xi 1),
 xm 38 57]
def c34l0 : AC := (.seq (.reg c34r11 [0, 6, 7, 11, 36, 37, 38, 39]) (.seq (.cond (xt 39) .skip (.exit 0)) (.seq (.block 1 (.seq (.reg c34r12 [0, 6, 7, 11, 13, 36, 37, 38]) (.seq (.reg c34r13 [0, 6, 7, 11, 13, 14, 15, 36, 37, 38]) (.seq (.seq (.reg c34r14 [0, 6, 7, 11, 13, 14, 15, 36, 37, 38, 48]) (.cond (xt 48) (.seq (.reg c34r15 [8]) .ret) .skip)) (.reg c34r16 [0, 6, 7, 11, 36, 37, 38]))))) (.reg c34r17 [0, 6, 7, 11, 36, 37, 38]))))
def c34r18 : List GI := [xp 59 (.load (xt 7) 13 true),
 xc 60 88 [(xt 59)],
 xn 58 60,
 xe 61 58 0,
 xe 62 58 1,
 xm 16 61,
 xm 17 62]
def c34r19 : List GI := [xa 63 6 5 1,
 xl 64 63 1,
 xm 65 16,
 xm 66 17,
 xn 67 11,
 xa 68 7 10 3,
 xp 69 (.load (xt 68) 3 true),
 xc 70 89 [(xt 64), (xt 65), (xt 66), (xt 67), (xt 69)],
 xm 18 70]
def c34r20 : List GI := [xm 71 18,
 xb 72 .neq (xt 71) (xi 0)]
def c34r21 : List GI := [xm 73 18,
 xm 8 73]
def c34r22 : List GI := [xm 75 0,
 xp 76 (.load (xt 7) 13 true),
 xc 77 90 [(xt 75), (xt 76)],
 xn 74 77,
 xe 78 74 0,
 xe 79 74 1,
 xe 80 74 2,
 xn 19 78,
 xn 20 79,
 xm 21 80]
def c34r23 : List GI := [xm 82 21,
 xb 83 .neq (xt 82) (xi 0),
 xm 81 83]
def c34r24 : List GI := [xm 84 21,
 xm 8 84]
def c34r25 : List GI := [xn 86 19,
 xa 87 7 8 1,
 xl 88 87 1,
 xc 89 91 [(xt 86), (xt 88)],
 xp 90 (.not (xt 89)),
 xm 91 90,
 xg 91 false (.mv 92 (xu 20)),
 xg 91 false (.p 93 (.faddr (xt 7) 9 1)),
 xg 91 false (.p 94 (.load (xt 93) 1 false)),
 xg 91 false (.call (some 95) (xf 92) [(xt 92), (xt 94)]),
 xg 91 false (.p 96 (.not (xt 95))),
 xp 97 (.pick (xt 91) (.c (.v (.bool true))) (xt 96)),
 xm 85 97]
def c34r26 : List GI := [xo (.mv 8 (xi 10))]
def c34r27 : List GI := [xo (.mv 8 (xi 0))]
def c34 : AC := (.seq (.reg c34r0 [0, 1, 6, 7]) (.seq (.seq (.reg c34r1 [0, 1, 6, 7, 23]) (.cond (xt 23) (.seq (.reg c34r2 [8]) .ret) .skip)) (.seq (.seq (.reg c34r3 [0, 6, 7, 9]) (.seq (.reg c34r4 [0, 6, 7, 9, 28]) (.cond (xt 28) (.seq (.reg c34r5 [8]) .ret) .skip))) (.seq (.seq (.reg c34r6 [0, 6, 7, 10]) (.seq (.reg c34r7 [0, 6, 7, 10, 33]) (.cond (xt 33) (.seq (.reg c34r8 [8]) .ret) .skip))) (.seq (.reg c34r9 [0, 6, 7, 11]) (.seq (.seq (.reg c34r10 [0, 6, 7, 11, 36, 37, 38]) (.block 0 (.loop c34l0))) (.seq (.reg c34r18 [0, 6, 7, 11, 16, 17]) (.seq (.seq (.reg c34r19 [0, 7, 18]) (.seq (.reg c34r20 [0, 7, 18, 72]) (.cond (xt 72) (.seq (.reg c34r21 [8]) .ret) .skip))) (.seq (.reg c34r22 [7, 19, 20, 21]) (.seq (.block 2 (.seq (.reg c34r23 [7, 19, 20, 21, 81]) (.cond (xt 81) (.seq (.reg c34r24 [8]) .ret) (.seq (.reg c34r25 [85]) (.cond (xt 85) (.seq (.reg c34r26 [8]) .ret) .skip))))) (.seq (.reg c34r27 [8]) .ret)))))))))))
def c34R : List AR := [.t 8]
theorem k34 : chkF Tryz.prog GLx 34 4 c34 c34R = true := by kernel_rfl
def c39r0 : List GI := [xo (.box 3 (xt 1)),
 xo (.alloc 4 [.v (.int .i64 0), .v (.int .i64 0), .v (.int .i64 0), .v (.int .i64 0), .v (.int .u64 0), .v (.int .u64 0), .v (.int .i64 0), .v (.int .u64 0)])]
def c39r1 : List GI := [xm 5 0,
 xc 6 40 [(xt 5)],
 xp 7 (.load (xt 3) 8 true),
 xc 8 95 [(xt 6), (xt 7)],
 xa 9 3 7 1,
 xo (.store (xt 9) (xt 8) 1)]
def c39r2 : List GI := [xp 10 (.load (xt 3) 8 true),
 xo (.store (xt 4) (xt 10) 8)]
def c39 : AC := (.seq (.reg c39r0 [0, 3, 4]) (.seq (.regD c39r1 [3, 4] [[], [0], [], [0, 1, 2], [0, 1, 2, 3], [0, 1, 2, 3, 4]]) (.seq (.reg c39r2 [4]) .ret)))
def c39R : List AR := [.c 4 8 true]
theorem k39 : chkF Tryz.prog GLx 39 2 c39 c39R = true := by kernel_rfl
def c40r0 : List GI := [xo (.mv 2 (xj 0))]
def c40r1 : List GI := [xm 3 0,
 xp 4 (.cint .i64 (xt 3)),
 xo (.bsl 5 3 1 [(xt 4)]),
 xc 6 96 [(.c (.v (.str ⟨#[107, 101, 121]⟩))), (xt 5)],
 xm 2 6]
def c40 : AC := (.seq (.reg c40r0 [0]) (.seq (.reg c40r1 [2]) .ret))
def c40R : List AR := [.t 2]
theorem k40 : chkF Tryz.prog GLx 40 1 c40 c40R = true := by kernel_rfl
def c46r0 : List GI := [xo (.mv 2 (.c (.v .nilp))),
 xo (.mv 3 (xi 0))]
def c46r1 : List GI := [xm 8 0,
 xp 9 (.alen (xt 8)),
 xm 4 9]
def c46r2 : List GI := [xm 10 4,
 xb 11 .gtr (xt 10) (xi 64)]
def c46r3 : List GI := [xo (.mv 2 (.c (.v .nilp))),
 xo (.mv 3 (xi 4))]
def c46r4 : List GI := [xp 12 (.build (.nil 22 1 :: List.replicate 4096 (.v (.bool false))) []),
 xo (.box 13 (xt 12)),
 xm 5 13]
def c46r5 : List GI := [xn 14 0,
 xp 15 (.alen (xt 14)),
 xo (.mv 16 (xi 0))]
def c46r6 : List GI := [xb 17 .lss (xt 16) (xt 15)]
def c46r7 : List GI := [xp 18 (.iaddr (xt 14) (xt 16) 1),
 xl 19 18 1,
 xn 7 19]
def c46r8 : List GI := [xm 20 4,
 xm 21 7,
 xc 22 120 [(xt 20), (xt 21)],
 xp 23 (.not (xt 22)),
 xm 24 23,
 xg 24 false (.mv 25 (xt 7)),
 xg 24 false (.call (some 26) (xf 121) [(xt 25)]),
 xg 24 false (.p 27 (.not (xt 26))),
 xp 28 (.pick (xt 24) (.c (.v (.bool true))) (xt 27))]
def c46r9 : List GI := [xo (.mv 2 (.c (.v .nilp))),
 xo (.mv 3 (xi 1))]
def c46r10 : List GI := [xm 29 5,
 xm 30 5,
 xp 31 (.nilc (xt 30)),
 xa 32 31 0 1,
 xo (.take 33 (xt 32)),
 xn 34 7,
 xc 35 122 [(xt 34)],
 xo (.bsl 36 22 1 [(xt 35)]),
 xo (.app 37 (xu 33) (xt 36) 22 1 24),
 xp 38 (.nilc (xt 29)),
 xa 39 38 0 1,
 xo (.store (xt 39) (xu 37) 1)]
def c46r11 : List GI := [xb 40 .add (xt 16) (xi 1),
 xm 16 40]
def c46l0 : AC := (.seq (.reg c46r6 [4, 5, 14, 15, 16, 17]) (.seq (.cond (xt 17) .skip (.exit 0)) (.seq (.block 1 (.seq (.reg c46r7 [4, 5, 7, 14, 15, 16]) (.seq (.seq (.reg c46r8 [4, 5, 7, 14, 15, 16, 28]) (.cond (xt 28) (.seq (.reg c46r9 [2, 3]) .ret) .skip)) (.regD c46r10 [4, 5, 14, 15, 16] [[], [], [1], [1, 2], [1, 2, 3], [], [5], [5, 6], [1, 2, 3, 4, 5, 6, 7], [0, 1, 2, 3, 4, 5, 6, 7, 8], [0, 1, 2, 3, 4, 5, 6, 7, 8, 9], [0, 1, 2, 3, 4, 5, 6, 7, 8, 9, 10]])))) (.reg c46r11 [4, 5, 14, 15, 16]))))
def c46r12 : List GI := [xm 41 5,
 xc 42 123 [(xt 41)],
 xp 43 (.not (xt 42))]
def c46r13 : List GI := [xo (.mv 2 (.c (.v .nilp))),
 xo (.mv 3 (xi 9))]
def c46r14 : List GI := [xm 44 5,
 xm 2 44,
 xo (.mv 3 (xi 0))]
def c46 : AC := (.seq (.reg c46r0 [0]) (.seq (.reg c46r1 [0, 4]) (.seq (.seq (.reg c46r2 [0, 4, 11]) (.cond (xt 11) (.seq (.reg c46r3 [2, 3]) .ret) .skip)) (.seq (.reg c46r4 [0, 4, 5]) (.seq (.seq (.reg c46r5 [4, 5, 14, 15, 16]) (.block 0 (.loop c46l0))) (.seq (.seq (.reg c46r12 [5, 43]) (.cond (xt 43) (.seq (.reg c46r13 [2, 3]) .ret) .skip)) (.seq (.reg c46r14 [2, 3]) .ret)))))))
def c46R : List AR := [.t 2, .t 3]
theorem k46 : chkF Tryz.prog GLx 46 1 c46 c46R = true := by kernel_rfl
def c47r0 : List GI := [xo (.mv 6 (xi 0))]
def c47r1 : List GI := [xm 7 1,
 xb 8 .lss (xt 7) (xi 0),
 xm 9 8,
 xg 9 false (.mv 10 (xt 1)),
 xg 9 false (.mv 11 (xt 0)),
 xg 9 false (.p 12 (.alen (xt 11))),
 xg 9 false (.p 13 (.bin .geq (xt 10) (xt 12))),
 xp 14 (.pick (xt 9) (.c (.v (.bool true))) (xt 13))]
def c47r2 : List GI := [xo (.mv 6 (xi 0))]
def c47r3 : List GI := [xn 15 0,
 xm 16 1,
 xp 17 (.iaddr (xt 15) (xt 16) 1),
 xl 18 17 1,
 xm 19 2,
 xc 20 11 [(xt 18), (xt 19)],
 xm 6 20]
def c47 : AC := (.seq (.reg c47r0 [0, 1, 2]) (.seq (.seq (.reg c47r1 [0, 1, 2, 14]) (.cond (xt 14) (.seq (.reg c47r2 [6]) .ret) .skip)) (.seq (.reg c47r3 [6]) .ret)))
def c47R : List AR := [.t 6]
theorem k47 : chkF Tryz.prog GLx 47 3 c47 c47R = true := by kernel_rfl
def c48r0 : List GI := [xo (.alloc 2 [.v (.int .i64 0), .v (.int .i64 0), .v (.int .i64 0), .own 130 5 [], .own 131 4 [], .own 3 1 [], .own 135 3 [], .own 137 4 []])]
def c48r1 : List GI := [xm 9 0,
 xc 10 47 [(xt 9), (xi 0), (xi 40)],
 xm 11 0,
 xc 12 47 [(xt 11), (xi 1), (xi 5)],
 xm 13 0,
 xc 14 124 [(xt 13)],
 xp 15 (.build [.v (.int .i64 0), .v (.int .i64 0), .v (.int .i64 0), .nil 130 5, .nil 131 4, .nil 3 1, .nil 135 3, .nil 137 4] [(0, 1, (xt 10)), (1, 1, (xt 12)), (3, 1, (xt 14))]),
 xo (.alloc 3 [.v (.int .i64 0), .v (.int .i64 0), .v (.int .i64 0), .own 130 5 [], .own 131 4 [], .own 3 1 [], .own 135 3 [], .own 137 4 []]),
 xo (.store (xt 3) (xt 15) 8)]
def c48r2 : List GI := [xm 16 0,
 xc 17 47 [(xt 16), (xi 2), (xi 3)],
 xb 18 .eql (xt 17) (xi 0)]
def c48r3 : List GI := [xm 19 0,
 xc 20 47 [(xt 19), (xi 3), (xi 5)],
 xa 21 3 2 1,
 xo (.store (xt 21) (xt 20) 1)]
def c48r4 : List GI := [xo (.mv 4 (xi 0))]
def c48r5 : List GI := [xm 22 4,
 xa 23 3 3 1,
 xl 24 23 1,
 xp 25 (.alen (xt 24)),
 xb 26 .lss (xt 22) (xt 25)]
def c48r7 : List GI := [xm 29 0,
 xm 30 4,
 xb 31 .add (xi 4) (xt 30),
 xc 32 47 [(xt 29), (xt 31), (xi 1000)],
 xm 5 32]
def c48r8 : List GI := [xa 33 3 4 1,
 xo (.take 34 (xt 33)),
 xm 35 4,
 xm 36 5,
 xb 37 .rem (xt 36) (xi 3),
 xp 38 (.build [.v (.int .i64 0), .v (.int .i64 0)] [(0, 1, (xt 35)), (1, 1, (xt 37))]),
 xm 39 5,
 xb 40 .rem (xt 39) (xi 50),
 xb 41 .add (xi 36000) (xt 40),
 xm 42 5,
 xb 43 .rem (xt 42) (xi 20),
 xp 44 (.build [.v (.int .i64 0), .v (.int .i64 0), .v (.int .i64 0), .v (.int .i64 0)] [(0, 2, (xt 38)), (2, 1, (xt 41)), (3, 1, (xt 43))]),
 xo (.bsl 45 131 4 [(xt 44)]),
 xo (.app 46 (xu 34) (xt 45) 131 4 32),
 xa 47 3 4 1,
 xo (.store (xt 47) (xu 46) 1)]
def c48r9 : List GI := [xm 48 5,
 xb 49 .rem (xt 48) (xi 5),
 xb 50 .eql (xt 49) (xi 0)]
def c48r10 : List GI := [xa 51 3 5 1,
 xo (.take 52 (xt 51)),
 xm 53 4,
 xo (.bsl 54 3 1 [(xt 53)]),
 xo (.app 55 (xu 52) (xt 54) 3 1 8),
 xa 56 3 5 1,
 xo (.store (xt 56) (xu 55) 1)]
def c48r6 : List GI := [xm 27 4,
 xb 28 .add (xt 27) (xi 1),
 xm 4 28]
def c48l0 : AC := (.seq (.seq (.reg c48r5 [0, 2, 3, 4, 26]) (.cond (xt 26) .skip (.exit 0))) (.seq (.block 1 (.seq (.reg c48r7 [0, 2, 3, 4, 5]) (.seq (.reg c48r8 [0, 2, 3, 4, 5]) (.seq (.reg c48r9 [0, 2, 3, 4, 50]) (.cond (xt 50) (.reg c48r10 [0, 2, 3, 4]) .skip))))) (.reg c48r6 [0, 2, 3, 4])))
def c48r11 : List GI := [xm 57 0,
 xc 58 47 [(xt 57), (xi 8), (xi 3)],
 xm 6 58]
def c48r12 : List GI := [xo (.mv 7 (xi 0))]
def c48r13 : List GI := [xm 59 7,
 xm 60 6,
 xb 61 .lss (xt 59) (xt 60)]
def c48r15 : List GI := [xm 64 0,
 xm 65 7,
 xb 66 .add (xi 9) (xt 65),
 xc 67 47 [(xt 64), (xt 66), (xi 1000)],
 xm 8 67]
def c48r16 : List GI := [xa 68 3 6 1,
 xo (.take 69 (xt 68)),
 xm 70 7,
 xb 71 .mul (xi 2) (xt 70),
 xb 72 .add (xi 1) (xt 71),
 xm 73 8,
 xb 74 .rem (xt 73) (xi 2),
 xb 75 .add (xt 72) (xt 74),
 xm 76 6,
 xp 77 (.build [.v (.int .i64 0), .v (.int .i64 0)] [(0, 1, (xi 1)), (1, 1, (xt 76))]),
 xp 78 (.build [.v (.int .i64 0), .v (.int .i64 0), .v (.int .i64 0)] [(0, 1, (xt 75)), (1, 2, (xt 77))]),
 xo (.bsl 79 135 3 [(xt 78)]),
 xo (.app 80 (xu 69) (xt 79) 135 3 24),
 xa 81 3 6 1,
 xo (.store (xt 81) (xu 80) 1)]
def c48r17 : List GI := [xm 82 8,
 xb 83 .rem (xt 82) (xi 3),
 xb 84 .eql (xt 83) (xi 0)]
def c48r18 : List GI := [xa 85 3 7 1,
 xo (.take 86 (xt 85)),
 xm 87 8,
 xb 88 .rem (xt 87) (xi 5),
 xb 89 .add (xi 1) (xt 88),
 xm 90 8,
 xb 91 .rem (xt 90) (xi 7),
 xb 92 .add (xi 2) (xt 91),
 xm 93 8,
 xm 94 8,
 xm 95 8,
 xb 96 .quo (xt 95) (xi 7),
 xb 97 .add (xt 94) (xt 96),
 xp 98 (.build [.v (.int .i64 0), .v (.int .i64 0), .v (.int .i64 0), .v (.int .i64 0)] [(0, 1, (xt 89)), (1, 1, (xt 92)), (2, 1, (xt 93)), (3, 1, (xt 97))]),
 xo (.bsl 99 137 4 [(xt 98)]),
 xo (.app 100 (xu 86) (xt 99) 137 4 32),
 xa 101 3 7 1,
 xo (.store (xt 101) (xu 100) 1)]
def c48r14 : List GI := [xm 62 7,
 xb 63 .add (xt 62) (xi 1),
 xm 7 63]
def c48l1 : AC := (.seq (.seq (.reg c48r13 [0, 2, 3, 6, 7, 61]) (.cond (xt 61) .skip (.exit 2))) (.seq (.block 3 (.seq (.reg c48r15 [0, 2, 3, 6, 7, 8]) (.seq (.reg c48r16 [0, 2, 3, 6, 7, 8]) (.seq (.reg c48r17 [0, 2, 3, 6, 7, 8, 84]) (.cond (xt 84) (.reg c48r18 [0, 2, 3, 6, 7]) .skip))))) (.reg c48r14 [0, 2, 3, 6, 7])))
def c48r19 : List GI := [xp 102 (.load (xt 3) 8 true),
 xo (.store (xt 2) (xt 102) 8)]
def c48 : AC := (.seq (.reg c48r0 [0, 2]) (.seq (.reg c48r1 [0, 2, 3]) (.seq (.seq (.reg c48r2 [0, 2, 3, 18]) (.cond (xt 18) (.reg c48r3 [0, 2, 3]) .skip)) (.seq (.seq (.reg c48r4 [0, 2, 3, 4]) (.block 0 (.loop c48l0))) (.seq (.reg c48r11 [0, 2, 3, 6]) (.seq (.seq (.reg c48r12 [0, 2, 3, 6, 7]) (.block 2 (.loop c48l1))) (.seq (.reg c48r19 [2]) .ret)))))))
def c48R : List AR := [.c 2 8 true]
theorem k48 : chkF Tryz.prog GLx 48 1 c48 c48R = true := by kernel_rfl
def c49r0 : List GI := [xo (.box 1 (xt 0)),
 xo (.mv 2 (.c (.v (.bool false))))]
def c49r1 : List GI := [xa 12 1 3 1,
 xl 13 12 1,
 xp 14 (.alen (xt 13)),
 xm 3 14]
def c49r2 : List GI := [xa 15 1 0 1,
 xl 16 15 1,
 xc 17 125 [(xt 16), (xi 0), (xi 4095)],
 xp 18 (.not (xt 17)),
 xm 19 18,
 xg 19 false (.p 20 (.faddr (xt 1) 1 1)),
 xg 19 false (.p 21 (.load (xt 20) 1 false)),
 xg 19 false (.call (some 22) (xf 125) [(xt 21), (xi 0), (xi 4)]),
 xg 19 false (.p 23 (.not (xt 22))),
 xp 24 (.pick (xt 19) (.c (.v (.bool true))) (xt 23)),
 xm 25 24,
 xg 25 false (.p 26 (.faddr (xt 1) 2 1)),
 xg 25 false (.p 27 (.load (xt 26) 1 false)),
 xg 25 false (.call (some 28) (xf 125) [(xt 27), (xi 0), (xi 4)]),
 xg 25 false (.p 29 (.not (xt 28))),
 xp 30 (.pick (xt 25) (.c (.v (.bool true))) (xt 29)),
 xm 31 30,
 xg 31 false (.p 32 (.faddr (xt 1) 3 1)),
 xg 31 false (.p 33 (.load (xt 32) 1 false)),
 xg 31 false (.call (some 34) (xf 126) [(xt 33)]),
 xg 31 false (.p 35 (.bin .neq (xt 34) (xi 0))),
 xp 36 (.pick (xt 31) (.c (.v (.bool true))) (xt 35)),
 xm 37 36,
 xg 37 false (.p 38 (.faddr (xt 1) 4 1)),
 xg 37 false (.p 39 (.load (xt 38) 1 false)),
 xg 37 false (.p 40 (.alen (xt 39))),
 xg 37 false (.p 41 (.bin .gtr (xt 40) (xi 4096))),
 xp 42 (.pick (xt 37) (.c (.v (.bool true))) (xt 41)),
 xm 43 42,
 xg 43 false (.p 44 (.faddr (xt 1) 7 1)),
 xg 43 false (.p 45 (.load (xt 44) 1 false)),
 xg 43 false (.p 46 (.alen (xt 45))),
 xg 43 false (.p 47 (.bin .gtr (xt 46) (xi 4096))),
 xp 48 (.pick (xt 43) (.c (.v (.bool true))) (xt 47))]
def c49r3 : List GI := [xo (.mv 2 (.c (.v (.bool false))))]
def c49r4 : List GI := [xo (.mv 4 (.c (.v (.int .i64 (-1)))))]
def c49r5 : List GI := [xo (.mv 5 (xi 0))]
def c49r6 : List GI := [xm 49 5,
 xa 50 1 4 1,
 xl 51 50 1,
 xp 52 (.alen (xt 51)),
 xb 53 .lss (xt 49) (xt 52)]
def c49r8 : List GI := [xa 56 1 4 1,
 xl 57 56 1,
 xm 58 5,
 xp 59 (.iaddr (xt 57) (xt 58) 4),
 xp 60 (.load (xt 59) 4 true),
 xo (.alloc 6 [.v (.int .i64 0), .v (.int .i64 0), .v (.int .i64 0), .v (.int .i64 0)]),
 xo (.store (xt 6) (xt 60) 4)]
def c49r9 : List GI := [xa 61 6 0 2,
 xa 62 61 0 1,
 xl 63 62 1,
 xm 64 3,
 xb 65 .sub (xt 64) (xi 1),
 xc 66 125 [(xt 63), (xi 0), (xt 65)],
 xp 67 (.not (xt 66)),
 xm 68 67,
 xg 68 false (.p 69 (.faddr (xt 6) 0 2)),
 xg 68 false (.p 70 (.faddr (xt 69) 1 1)),
 xg 68 false (.p 71 (.load (xt 70) 1 false)),
 xg 68 false (.call (some 72) (xf 125) [(xt 71), (xi 0), (xi 63)]),
 xg 68 false (.p 73 (.not (xt 72))),
 xp 74 (.pick (xt 68) (.c (.v (.bool true))) (xt 73)),
 xm 75 74,
 xg 75 false (.p 76 (.faddr (xt 6) 2 1)),
 xg 75 false (.p 77 (.load (xt 76) 1 false)),
 xg 75 false (.call (some 78) (xf 125) [(xt 77), (xi 0), (xi 131072)]),
 xg 75 false (.p 79 (.not (xt 78))),
 xp 80 (.pick (xt 75) (.c (.v (.bool true))) (xt 79)),
 xm 81 80,
 xg 81 false (.p 82 (.faddr (xt 6) 3 1)),
 xg 81 false (.p 83 (.load (xt 82) 1 false)),
 xg 81 false (.call (some 84) (xf 125) [(xt 83), (xi 0), (xi 4095)]),
 xg 81 false (.p 85 (.not (xt 84))),
 xp 86 (.pick (xt 81) (.c (.v (.bool true))) (xt 85)),
 xm 87 86,
 xg 87 false (.p 88 (.faddr (xt 6) 0 2)),
 xg 87 false (.p 89 (.faddr (xt 88) 0 1)),
 xg 87 false (.p 90 (.load (xt 89) 1 false)),
 xg 87 false (.p 91 (.bin .mul (xi 64) (xt 90))),
 xg 87 false (.p 92 (.faddr (xt 6) 0 2)),
 xg 87 false (.p 93 (.faddr (xt 92) 1 1)),
 xg 87 false (.p 94 (.load (xt 93) 1 false)),
 xg 87 false (.p 95 (.bin .add (xt 91) (xt 94))),
 xg 87 false (.mv 96 (xt 4)),
 xg 87 false (.p 97 (.bin .leq (xt 95) (xt 96))),
 xp 98 (.pick (xt 87) (.c (.v (.bool true))) (xt 97))]
def c49r10 : List GI := [xo (.mv 2 (.c (.v (.bool false))))]
def c49r11 : List GI := [xa 99 6 0 2,
 xa 100 99 0 1,
 xl 101 100 1,
 xb 102 .mul (xi 64) (xt 101),
 xa 103 6 0 2,
 xa 104 103 1 1,
 xl 105 104 1,
 xb 106 .add (xt 102) (xt 105),
 xm 4 106]
def c49r7 : List GI := [xm 54 5,
 xb 55 .add (xt 54) (xi 1),
 xm 5 55]
def c49l0 : AC := (.seq (.seq (.reg c49r6 [1, 3, 4, 5, 53]) (.cond (xt 53) .skip (.exit 0))) (.seq (.block 1 (.seq (.reg c49r8 [1, 3, 4, 5, 6]) (.seq (.seq (.reg c49r9 [1, 3, 5, 6, 98]) (.cond (xt 98) (.seq (.reg c49r10 [2]) .ret) .skip)) (.reg c49r11 [1, 3, 4, 5])))) (.reg c49r7 [1, 3, 4, 5])))
def c49r12 : List GI := [xo (.mv 7 (xi 0))]
def c49r13 : List GI := [xm 107 7,
 xa 108 1 5 1,
 xl 109 108 1,
 xp 110 (.alen (xt 109)),
 xb 111 .lss (xt 107) (xt 110)]
def c49r15 : List GI := [xa 114 1 5 1,
 xl 115 114 1,
 xm 116 7,
 xp 117 (.iaddr (xt 115) (xt 116) 1),
 xl 118 117 1,
 xm 119 3,
 xb 120 .sub (xt 119) (xi 1),
 xc 121 125 [(xt 118), (xi 0), (xt 120)],
 xp 122 (.not (xt 121)),
 xm 123 122,
 xg 123 false (.mv 124 (xt 7)),
 xg 123 false (.p 125 (.bin .gtr (xt 124) (xi 0))),
 xg 123 false (.mv 126 (xt 125)),
 xg 126 true (.p 127 (.faddr (xt 1) 5 1)),
 xg 126 true (.p 128 (.load (xt 127) 1 false)),
 xg 126 true (.mv 129 (xt 7)),
 xg 126 true (.p 130 (.iaddr (xt 128) (xt 129) 1)),
 xg 126 true (.p 131 (.load (xt 130) 1 false)),
 xg 126 true (.p 132 (.faddr (xt 1) 5 1)),
 xg 126 true (.p 133 (.load (xt 132) 1 false)),
 xg 126 true (.mv 134 (xt 7)),
 xg 126 true (.p 135 (.bin .sub (xt 134) (xi 1))),
 xg 126 true (.p 136 (.iaddr (xt 133) (xt 135) 1)),
 xg 126 true (.p 137 (.load (xt 136) 1 false)),
 xg 126 true (.p 138 (.bin .leq (xt 131) (xt 137))),
 xg 123 false (.p 139 (.pick (xt 126) (xt 138) (.c (.v (.bool false))))),
 xp 140 (.pick (xt 123) (.c (.v (.bool true))) (xt 139))]
def c49r16 : List GI := [xo (.mv 2 (.c (.v (.bool false))))]
def c49r14 : List GI := [xm 112 7,
 xb 113 .add (xt 112) (xi 1),
 xm 7 113]
def c49l1 : AC := (.seq (.seq (.reg c49r13 [1, 3, 7, 111]) (.cond (xt 111) .skip (.exit 2))) (.seq (.block 3 (.seq (.regD c49r15 [1, 3, 7, 140] [[], [0], [], [0, 1, 2], [0, 1, 2, 3], [], [5], [0, 1, 2, 3, 4, 5, 6], [0, 1, 2, 3, 4, 5, 6, 7], [0, 1, 2, 3, 4, 5, 6, 7, 8], [0, 1, 2, 3, 4, 5, 6, 7, 8, 9], [0, 1, 2, 3, 4, 5, 6, 7, 8, 9, 10], [0, 1, 2, 3, 4, 5, 6, 7, 8, 9, 10, 11], [0, 1, 2, 3, 4, 5, 6, 7, 8, 9, 10, 11, 12], [0, 1, 2, 3, 4, 5, 6, 7, 8, 9, 10, 11, 12, 13], [0, 1, 2, 3, 4, 5, 6, 7, 8, 9, 10, 11, 12], [0, 1, 2, 3, 4, 5, 6, 7, 8, 9, 10, 11, 12, 13, 14, 15], [0, 1, 2, 3, 4, 5, 6, 7, 8, 9, 10, 11, 12, 13, 14, 15, 16], [0, 1, 2, 3, 4, 5, 6, 7, 8, 9, 10, 11, 12], [0, 1, 2, 3, 4, 5, 6, 7, 8, 9, 10, 11, 12, 18], [0, 1, 2, 3, 4, 5, 6, 7, 8, 9, 10, 11, 12], [0, 1, 2, 3, 4, 5, 6, 7, 8, 9, 10, 11, 12, 20], [0, 1, 2, 3, 4, 5, 6, 7, 8, 9, 10, 11, 12, 18, 19, 20, 21], [0, 1, 2, 3, 4, 5, 6, 7, 8, 9, 10, 11, 12, 18, 19, 20, 21, 22], [0, 1, 2, 3, 4, 5, 6, 7, 8, 9, 10, 11, 12, 13, 14, 15, 16, 17, 18, 19, 20, 21, 22, 23], [0, 1, 2, 3, 4, 5, 6, 7, 8, 9, 10, 11, 12, 13, 14, 15, 16, 17, 18, 19, 20, 21, 22, 23, 24], [0, 1, 2, 3, 4, 5, 6, 7, 8, 9, 10, 11, 12, 13, 14, 15, 16, 17, 18, 19, 20, 21, 22, 23, 24, 25]]) (.cond (xt 140) (.seq (.reg c49r16 [2]) .ret) .skip))) (.reg c49r14 [1, 3, 7])))
def c49r17 : List GI := [xo (.mv 8 (xi 0))]
def c49r18 : List GI := [xm 141 8,
 xa 142 1 6 1,
 xl 143 142 1,
 xp 144 (.alen (xt 143)),
 xb 145 .lss (xt 141) (xt 144)]
def c49r20 : List GI := [xa 148 1 6 1,
 xl 149 148 1,
 xm 150 8,
 xp 151 (.iaddr (xt 149) (xt 150) 3),
 xp 152 (.load (xt 151) 3 true),
 xo (.alloc 9 [.v (.int .i64 0), .v (.int .i64 0), .v (.int .i64 0)]),
 xo (.store (xt 9) (xt 152) 3)]
def c49r21 : List GI := [xa 153 9 0 1,
 xl 154 153 1,
 xc 155 125 [(xt 154), (xi 1), (xi 4095)],
 xp 156 (.not (xt 155)),
 xm 157 156,
 xg 157 false (.p 158 (.faddr (xt 9) 1 2)),
 xg 157 false (.p 159 (.load (xt 158) 2 true)),
 xg 157 false (.call (some 160) (xf 127) [(xt 159)]),
 xg 157 false (.p 161 (.bin .neq (xt 160) (xi 0))),
 xp 162 (.pick (xt 157) (.c (.v (.bool true))) (xt 161)),
 xm 163 162,
 xg 163 false (.p 164 (.faddr (xt 9) 1 2)),
 xg 163 false (.p 165 (.faddr (xt 164) 0 1)),
 xg 163 false (.p 166 (.load (xt 165) 1 false)),
 xg 163 false (.p 167 (.bin .leq (xt 166) (xi 0))),
 xp 168 (.pick (xt 163) (.c (.v (.bool true))) (xt 167)),
 xm 169 168,
 xg 169 false (.p 170 (.faddr (xt 9) 1 2)),
 xg 169 false (.p 171 (.faddr (xt 170) 0 1)),
 xg 169 false (.p 172 (.load (xt 171) 1 false)),
 xg 169 false (.p 173 (.faddr (xt 9) 1 2)),
 xg 169 false (.p 174 (.faddr (xt 173) 1 1)),
 xg 169 false (.p 175 (.load (xt 174) 1 false)),
 xg 169 false (.p 176 (.bin .gtr (xt 172) (xt 175))),
 xp 177 (.pick (xt 169) (.c (.v (.bool true))) (xt 176)),
 xm 178 177,
 xg 178 false (.mv 179 (xt 8)),
 xg 178 false (.p 180 (.bin .gtr (xt 179) (xi 0))),
 xg 178 false (.mv 181 (xt 180)),
 xg 181 true (.p 182 (.faddr (xt 9) 0 1)),
 xg 181 true (.p 183 (.load (xt 182) 1 false)),
 xg 181 true (.p 184 (.faddr (xt 1) 6 1)),
 xg 181 true (.p 185 (.load (xt 184) 1 false)),
 xg 181 true (.mv 186 (xt 8)),
 xg 181 true (.p 187 (.bin .sub (xt 186) (xi 1))),
 xg 181 true (.p 188 (.iaddr (xt 185) (xt 187) 3)),
 xg 181 true (.p 189 (.faddr (xt 188) 0 1)),
 xg 181 true (.p 190 (.load (xt 189) 1 false)),
 xg 181 true (.p 191 (.bin .leq (xt 183) (xt 190))),
 xg 178 false (.p 192 (.pick (xt 181) (xt 191) (.c (.v (.bool false))))),
 xp 193 (.pick (xt 178) (.c (.v (.bool true))) (xt 192))]
def c49r22 : List GI := [xo (.mv 2 (.c (.v (.bool false))))]
def c49r19 : List GI := [xm 146 8,
 xb 147 .add (xt 146) (xi 1),
 xm 8 147]
def c49l2 : AC := (.seq (.seq (.reg c49r18 [1, 8, 145]) (.cond (xt 145) .skip (.exit 4))) (.seq (.block 5 (.seq (.reg c49r20 [1, 8, 9]) (.seq (.regD c49r21 [1, 8, 193] [[], [0], [0, 1], [0, 1, 2], [0, 1, 2, 3], [0, 1, 2, 3, 4], [0, 1, 2, 3, 4, 5], [0, 1, 2, 3, 4, 5, 6], [0, 1, 2, 3, 4, 5, 6, 7], [0, 1, 2, 3, 4, 5, 6, 7, 8], [0, 1, 2, 3, 4, 5, 6, 7, 8, 9], [0, 1, 2, 3, 4, 5, 6, 7, 8, 9, 10], [0, 1, 2, 3, 4, 5, 6, 7, 8, 9, 10, 11], [0, 1, 2, 3, 4, 5, 6, 7, 8, 9, 10, 11, 12], [0, 1, 2, 3, 4, 5, 6, 7, 8, 9, 10, 11, 12, 13], [0, 1, 2, 3, 4, 5, 6, 7, 8, 9, 10, 11, 12, 13, 14], [0, 1, 2, 3, 4, 5, 6, 7, 8, 9, 10, 11, 12, 13, 14, 15], [0, 1, 2, 3, 4, 5, 6, 7, 8, 9, 10, 11, 12, 13, 14, 15, 16], [0, 1, 2, 3, 4, 5, 6, 7, 8, 9, 10, 11, 12, 13, 14, 15, 16, 17], [0, 1, 2, 3, 4, 5, 6, 7, 8, 9, 10, 11, 12, 13, 14, 15, 16, 17, 18], [0, 1, 2, 3, 4, 5, 6, 7, 8, 9, 10, 11, 12, 13, 14, 15, 16], [0, 1, 2, 3, 4, 5, 6, 7, 8, 9, 10, 11, 12, 13, 14, 15, 16, 20], [0, 1, 2, 3, 4, 5, 6, 7, 8, 9, 10, 11, 12, 13, 14, 15, 16, 20, 21], [0, 1, 2, 3, 4, 5, 6, 7, 8, 9, 10, 11, 12, 13, 14, 15, 16, 17, 18, 19, 20, 21, 22], [0, 1, 2, 3, 4, 5, 6, 7, 8, 9, 10, 11, 12, 13, 14, 15, 16, 17, 18, 19, 20, 21, 22, 23], [0, 1, 2, 3, 4, 5, 6, 7, 8, 9, 10, 11, 12, 13, 14, 15, 16, 17, 18, 19, 20, 21, 22, 23, 24], [0, 1, 2, 3, 4, 5, 6, 7, 8, 9, 10, 11, 12, 13, 14, 15, 16, 17, 18, 19, 20, 21, 22, 23, 24, 25], [0, 1, 2, 3, 4, 5, 6, 7, 8, 9, 10, 11, 12, 13, 14, 15, 16, 17, 18, 19, 20, 21, 22, 23, 24, 25, 26], [0, 1, 2, 3, 4, 5, 6, 7, 8, 9, 10, 11, 12, 13, 14, 15, 16, 17, 18, 19, 20, 21, 22, 23, 24, 25, 26, 27], [0, 1, 2, 3, 4, 5, 6, 7, 8, 9, 10, 11, 12, 13, 14, 15, 16, 17, 18, 19, 20, 21, 22, 23, 24, 25, 26, 27, 28], [0, 1, 2, 3, 4, 5, 6, 7, 8, 9, 10, 11, 12, 13, 14, 15, 16, 17, 18, 19, 20, 21, 22, 23, 24, 25, 26, 27, 28, 29], [0, 1, 2, 3, 4, 5, 6, 7, 8, 9, 10, 11, 12, 13, 14, 15, 16, 17, 18, 19, 20, 21, 22, 23, 24, 25, 26, 27, 28], [0, 1, 2, 3, 4, 5, 6, 7, 8, 9, 10, 11, 12, 13, 14, 15, 16, 17, 18, 19, 20, 21, 22, 23, 24, 25, 26, 27, 28, 31], [0, 1, 2, 3, 4, 5, 6, 7, 8, 9, 10, 11, 12, 13, 14, 15, 16, 17, 18, 19, 20, 21, 22, 23, 24, 25, 26, 27, 28], [0, 1, 2, 3, 4, 5, 6, 7, 8, 9, 10, 11, 12, 13, 14, 15, 16, 17, 18, 19, 20, 21, 22, 23, 24, 25, 26, 27, 28, 33], [0, 1, 2, 3, 4, 5, 6, 7, 8, 9, 10, 11, 12, 13, 14, 15, 16, 17, 18, 19, 20, 21, 22, 23, 24, 25, 26, 27, 28, 31, 32, 33, 34], [0, 1, 2, 3, 4, 5, 6, 7, 8, 9, 10, 11, 12, 13, 14, 15, 16, 17, 18, 19, 20, 21, 22, 23, 24, 25, 26, 27, 28, 31, 32, 33, 34, 35], [0, 1, 2, 3, 4, 5, 6, 7, 8, 9, 10, 11, 12, 13, 14, 15, 16, 17, 18, 19, 20, 21, 22, 23, 24, 25, 26, 27, 28, 31, 32, 33, 34, 35, 36], [0, 1, 2, 3, 4, 5, 6, 7, 8, 9, 10, 11, 12, 13, 14, 15, 16, 17, 18, 19, 20, 21, 22, 23, 24, 25, 26, 27, 28, 29, 30, 31, 32, 33, 34, 35, 36, 37], [0, 1, 2, 3, 4, 5, 6, 7, 8, 9, 10, 11, 12, 13, 14, 15, 16, 17, 18, 19, 20, 21, 22, 23, 24, 25, 26, 27, 28, 29, 30, 31, 32, 33, 34, 35, 36, 37, 38], [0, 1, 2, 3, 4, 5, 6, 7, 8, 9, 10, 11, 12, 13, 14, 15, 16, 17, 18, 19, 20, 21, 22, 23, 24, 25, 26, 27, 28, 29, 30, 31, 32, 33, 34, 35, 36, 37, 38, 39]]) (.cond (xt 193) (.seq (.reg c49r22 [2]) .ret) .skip)))) (.reg c49r19 [1, 8])))
def c49r23 : List GI := [xo (.mv 10 (xi 0))]
def c49r24 : List GI := [xm 194 10,
 xa 195 1 7 1,
 xl 196 195 1,
 xp 197 (.alen (xt 196)),
 xb 198 .lss (xt 194) (xt 197)]
def c49r26 : List GI := [xa 201 1 7 1,
 xl 202 201 1,
 xm 203 10,
 xp 204 (.iaddr (xt 202) (xt 203) 4),
 xp 205 (.load (xt 204) 4 true),
 xo (.alloc 11 [.v (.int .i64 0), .v (.int .i64 0), .v (.int .i64 0), .v (.int .i64 0)]),
 xo (.store (xt 11) (xt 205) 4)]
def c49r27 : List GI := [xa 206 11 0 1,
 xl 207 206 1,
 xc 208 125 [(xt 207), (xi 1), (xi 4095)],
 xp 209 (.not (xt 208)),
 xm 210 209,
 xg 210 false (.p 211 (.faddr (xt 11) 1 1)),
 xg 210 false (.p 212 (.load (xt 211) 1 false)),
 xg 210 false (.call (some 213) (xf 125) [(xt 212), (xi 1), (xi 4095)]),
 xg 210 false (.p 214 (.not (xt 213))),
 xp 215 (.pick (xt 210) (.c (.v (.bool true))) (xt 214)),
 xm 216 215,
 xg 216 false (.p 217 (.faddr (xt 11) 2 1)),
 xg 216 false (.p 218 (.load (xt 217) 1 false)),
 xg 216 false (.p 219 (.faddr (xt 11) 3 1)),
 xg 216 false (.p 220 (.load (xt 219) 1 false)),
 xg 216 false (.call (some 221) (xf 125) [(xt 218), (xi 0), (xt 220)]),
 xg 216 false (.p 222 (.not (xt 221))),
 xp 223 (.pick (xt 216) (.c (.v (.bool true))) (xt 222)),
 xm 224 223,
 xg 224 false (.p 225 (.faddr (xt 11) 3 1)),
 xg 224 false (.p 226 (.load (xt 225) 1 false)),
 xg 224 false (.p 227 (.bin .gtr (xt 226) (xi 131072))),
 xp 228 (.pick (xt 224) (.c (.v (.bool true))) (xt 227))]
def c49r28 : List GI := [xo (.mv 2 (.c (.v (.bool false))))]
def c49r25 : List GI := [xm 199 10,
 xb 200 .add (xt 199) (xi 1),
 xm 10 200]
def c49l3 : AC := (.seq (.seq (.reg c49r24 [1, 10, 198]) (.cond (xt 198) .skip (.exit 6))) (.seq (.block 7 (.seq (.reg c49r26 [1, 10, 11]) (.seq (.reg c49r27 [1, 10, 228]) (.cond (xt 228) (.seq (.reg c49r28 [2]) .ret) .skip)))) (.reg c49r25 [1, 10])))
def c49r29 : List GI := [xo (.mv 2 (.c (.v (.bool true))))]
def c49 : AC := (.seq (.reg c49r0 [1]) (.seq (.reg c49r1 [1, 3]) (.seq (.seq (.reg c49r2 [1, 3, 48]) (.cond (xt 48) (.seq (.reg c49r3 [2]) .ret) .skip)) (.seq (.reg c49r4 [1, 3, 4]) (.seq (.seq (.reg c49r5 [1, 3, 4, 5]) (.block 0 (.loop c49l0))) (.seq (.seq (.reg c49r12 [1, 3, 7]) (.block 2 (.loop c49l1))) (.seq (.seq (.reg c49r17 [1, 8]) (.block 4 (.loop c49l2))) (.seq (.seq (.reg c49r23 [1, 10]) (.block 6 (.loop c49l3))) (.seq (.reg c49r29 [2]) .ret)))))))))
def c49R : List AR := [.t 2]
theorem k49 : chkF Tryz.prog GLx 49 1 c49 c49R = true := by kernel_rfl
def c50r0 : List GI := [xo (.mv 0 (.c (.v .nilp)))]
def c50r1 : List GI := [xo (.mkm 1),
 xo (.mkm 2),
 xp 3 (.build [.v .nilm, .v .nilm] [(0, 1, (xt 1)), (1, 1, (xt 2))]),
 xo (.box 4 (xt 3)),
 xm 0 4]
def c50 : AC := (.seq (.reg c50r0 []) (.seq (.reg c50r1 [0]) .ret))
def c50R : List AR := [.t 0]
theorem k50 : chkF Tryz.prog GLx 50 0 c50 c50R = true := by kernel_rfl
def c51r0 : List GI := [xo (.box 1 (xt 0)),
 xo (.mv 2 (.c (.own 5 1 []))),
 xo (.mv 3 (xi 0))]
def c51r1 : List GI := [xp 14 (.load (xt 1) 8 true),
 xc 15 128 [(xt 14)],
 xp 16 (.not (xt 15))]
def c51r2 : List GI := [xo (.mv 2 (.c (.own 5 1 []))),
 xo (.mv 3 (xi 1))]
def c51r3 : List GI := [xo (.alloc 4 [.own 5 1 []])]
def c51r4 : List GI := [xp 17 (.mkf 129 [(xt 4)]),
 xm 5 17]
def c51r5 : List GI := [xm 18 5,
 xa 19 1 0 1,
 xl 20 19 1,
 xa 21 1 1 1,
 xl 22 21 1,
 xa 23 1 2 1,
 xl 24 23 1,
 xo (.bsl 25 3 1 [(xt 20), (xt 22), (xt 24)]),
 xo (.call (some 26) (xt 18) [(xt 25)])]
def c51r6 : List GI := [xa 28 1 3 1,
 xl 29 28 1,
 xc 30 130 [(xt 29)],
 xn 27 30,
 xe 31 27 0,
 xe 32 27 1,
 xn 6 31,
 xm 7 32]
def c51r7 : List GI := [xn 33 6,
 xc 34 99 [(xt 4), (xt 33)]]
def c51r8 : List GI := [xm 35 5,
 xa 36 1 4 1,
 xl 37 36 1,
 xp 38 (.alen (xt 37)),
 xo (.bsl 39 3 1 [(xt 38)]),
 xo (.call (some 40) (xt 35) [(xt 39)])]
def c51r9 : List GI := [xa 41 1 4 1,
 xl 42 41 1,
 xp 43 (.alen (xt 42)),
 xo (.mv 44 (xi 0))]
def c51r10 : List GI := [xb 45 .lss (xt 44) (xt 43)]
def c51r11 : List GI := [xp 46 (.iaddr (xt 42) (xt 44) 4),
 xp 47 (.load (xt 46) 4 true),
 xo (.alloc 9 [.v (.int .i64 0), .v (.int .i64 0), .v (.int .i64 0), .v (.int .i64 0)]),
 xo (.store (xt 9) (xt 47) 4)]
def c51r12 : List GI := [xm 48 5,
 xa 49 9 0 2,
 xa 50 49 0 1,
 xl 51 50 1,
 xa 52 9 0 2,
 xa 53 52 1 1,
 xl 54 53 1,
 xa 55 9 2 1,
 xl 56 55 1,
 xa 57 9 3 1,
 xl 58 57 1,
 xo (.bsl 59 3 1 [(xt 51), (xt 54), (xt 56), (xt 58)]),
 xo (.call (some 60) (xt 48) [(xt 59)])]
def c51r13 : List GI := [xb 61 .add (xt 44) (xi 1),
 xm 44 61]
def c51l0 : AC := (.seq (.reg c51r10 [1, 4, 5, 42, 43, 44, 45]) (.seq (.cond (xt 45) .skip (.exit 0)) (.seq (.block 1 (.seq (.reg c51r11 [1, 4, 5, 9, 42, 43, 44]) (.reg c51r12 [1, 4, 5, 42, 43, 44]))) (.reg c51r13 [1, 4, 5, 42, 43, 44]))))
def c51r14 : List GI := [xa 62 1 5 1,
 xl 63 62 1,
 xc 64 100 [(xt 4), (xt 63)]]
def c51r15 : List GI := [xm 65 5,
 xa 66 1 6 1,
 xl 67 66 1,
 xp 68 (.alen (xt 67)),
 xo (.bsl 69 3 1 [(xt 68)]),
 xo (.call (some 70) (xt 65) [(xt 69)])]
def c51r16 : List GI := [xa 71 1 6 1,
 xl 72 71 1,
 xp 73 (.alen (xt 72)),
 xo (.mv 74 (xi 0))]
def c51r17 : List GI := [xb 75 .lss (xt 74) (xt 73)]
def c51r18 : List GI := [xp 76 (.iaddr (xt 72) (xt 74) 3),
 xp 77 (.load (xt 76) 3 true),
 xo (.alloc 11 [.v (.int .i64 0), .v (.int .i64 0), .v (.int .i64 0)]),
 xo (.store (xt 11) (xt 77) 3)]
def c51r19 : List GI := [xm 78 5,
 xa 79 11 0 1,
 xl 80 79 1,
 xa 81 11 1 2,
 xa 82 81 0 1,
 xl 83 82 1,
 xa 84 11 1 2,
 xa 85 84 1 1,
 xl 86 85 1,
 xo (.bsl 87 3 1 [(xt 80), (xt 83), (xt 86)]),
 xo (.call (some 88) (xt 78) [(xt 87)])]
def c51r20 : List GI := [xb 89 .add (xt 74) (xi 1),
 xm 74 89]
def c51l1 : AC := (.seq (.reg c51r17 [1, 4, 5, 72, 73, 74, 75]) (.seq (.cond (xt 75) .skip (.exit 2)) (.seq (.block 3 (.seq (.reg c51r18 [1, 4, 5, 11, 72, 73, 74]) (.reg c51r19 [1, 4, 5, 72, 73, 74]))) (.reg c51r20 [1, 4, 5, 72, 73, 74]))))
def c51r21 : List GI := [xm 90 5,
 xa 91 1 7 1,
 xl 92 91 1,
 xp 93 (.alen (xt 92)),
 xo (.bsl 94 3 1 [(xt 93)]),
 xo (.call (some 95) (xt 90) [(xt 94)])]
def c51r22 : List GI := [xa 96 1 7 1,
 xl 97 96 1,
 xp 98 (.alen (xt 97)),
 xo (.mv 99 (xi 0))]
def c51r23 : List GI := [xb 100 .lss (xt 99) (xt 98)]
def c51r24 : List GI := [xp 101 (.iaddr (xt 97) (xt 99) 4),
 xp 102 (.load (xt 101) 4 true),
 xo (.alloc 13 [.v (.int .i64 0), .v (.int .i64 0), .v (.int .i64 0), .v (.int .i64 0)]),
 xo (.store (xt 13) (xt 102) 4)]
def c51r25 : List GI := [xm 103 5,
 xa 104 13 0 1,
 xl 105 104 1,
 xa 106 13 1 1,
 xl 107 106 1,
 xa 108 13 2 1,
 xl 109 108 1,
 xa 110 13 3 1,
 xl 111 110 1,
 xo (.bsl 112 3 1 [(xt 105), (xt 107), (xt 109), (xt 111)]),
 xo (.call (some 113) (xt 103) [(xt 112)])]
def c51r26 : List GI := [xb 114 .add (xt 99) (xi 1),
 xm 99 114]
def c51l2 : AC := (.seq (.reg c51r23 [4, 5, 97, 98, 99, 100]) (.seq (.cond (xt 100) .skip (.exit 4)) (.seq (.block 5 (.seq (.reg c51r24 [4, 5, 13, 97, 98, 99]) (.reg c51r25 [4, 5, 97, 98, 99]))) (.reg c51r26 [4, 5, 97, 98, 99]))))
def c51r27 : List GI := [xc 115 102 [(xt 4)],
 xn 2 115,
 xo (.mv 3 (xi 0))]
def c51 : AC := (.seq (.reg c51r0 [1]) (.seq (.seq (.reg c51r1 [1, 16]) (.cond (xt 16) (.seq (.reg c51r2 [2, 3]) .ret) .skip)) (.seq (.reg c51r3 [1, 4]) (.seq (.reg c51r4 [1, 4, 5]) (.seq (.reg c51r5 [1, 4, 5]) (.seq (.reg c51r6 [1, 4, 5, 6]) (.seq (.reg c51r7 [1, 4, 5]) (.seq (.reg c51r8 [1, 4, 5]) (.seq (.seq (.reg c51r9 [1, 4, 5, 42, 43, 44]) (.block 0 (.loop c51l0))) (.seq (.reg c51r14 [1, 4, 5]) (.seq (.reg c51r15 [1, 4, 5]) (.seq (.seq (.reg c51r16 [1, 4, 5, 72, 73, 74]) (.block 2 (.loop c51l1))) (.seq (.reg c51r21 [1, 4, 5]) (.seq (.seq (.reg c51r22 [4, 5, 97, 98, 99]) (.block 4 (.loop c51l2))) (.seq (.reg c51r27 [2, 3]) .ret)))))))))))))))
def c51R : List AR := [.t 2, .t 3]
theorem k51 : chkF Tryz.prog GLx 51 1 c51 c51R = true := by kernel_rfl
def c52r0 : List GI := [xo (.mv 6 (xi 0))]
def c52r1 : List GI := [xm 8 1,
 xc 9 131 [(xt 8)],
 xp 10 (.not (xt 9)),
 xm 7 10]
def c52r2 : List GI := [xo (.mv 6 (xi 5))]
def c52r3 : List GI := [xm 12 2,
 xp 13 (.alen (xt 12)),
 xb 14 .gtr (xt 13) (xi 65536),
 xm 11 14]
def c52r4 : List GI := [xo (.mv 6 (xi 4))]
def c52r5 : List GI := [xm 15 0,
 xp 16 (.nilc (xt 15)),
 xa 17 16 0 1,
 xl 18 17 1,
 xm 19 1,
 xm 20 2,
 xc 21 117 [(xt 20)],
 xo (.mput (xt 18) (xt 19) (xt 21) false [0])]
def c52r6 : List GI := [xm 22 0,
 xm 23 1,
 xm 24 1,
 xn 25 2,
 xc 26 133 [(xt 24), (xt 25)],
 xp 27 (.build [.v (.int .u64 0), .v (.bool false)] [(0, 1, (xt 26)), (1, 1, (.c (.v (.bool true))))]),
 xc 28 132 [(xt 22), (xt 23), (xt 27)]]
def c52r7 : List GI := [xo (.mv 6 (xi 0))]
def c52 : AC := (.seq (.reg c52r0 [0, 1, 2]) (.seq (.block 0 (.seq (.reg c52r1 [0, 1, 2, 7]) (.cond (xt 7) (.seq (.reg c52r2 [6]) .ret) (.seq (.reg c52r3 [0, 1, 2, 11]) (.cond (xt 11) (.seq (.reg c52r4 [6]) .ret) .skip))))) (.seq (.regD c52r5 [0, 1, 2] [[], [0], [0, 1], [0, 1, 2], [], [], [5], [0, 1, 2, 3, 4, 5, 6]]) (.seq (.reg c52r6 []) (.seq (.reg c52r7 [6]) .ret)))))
def c52R : List AR := [.t 6]
theorem k52 : chkF Tryz.prog GLx 52 3 c52 c52R = true := by kernel_rfl
def c53r0 : List GI := [xo (.box 1 (xt 0)),
 xo (.alloc 2 [.v (.int .i64 0), .v (.int .i64 0), .v (.int .i64 0), .own 130 5 [], .own 88 4 [], .own 3 1 [], .own 246 3 [], .own 247 4 []])]
def c53r1 : List GI := [xa 8 1 0 1,
 xl 9 8 1,
 xa 10 1 1 1,
 xl 11 10 1,
 xa 12 1 2 1,
 xl 13 12 1,
 xa 14 1 3 1,
 xl 15 14 1,
 xa 16 1 5 1,
 xl 17 16 1,
 xp 18 (.build [.v (.int .i64 0), .v (.int .i64 0), .v (.int .i64 0), .nil 130 5, .nil 88 4, .nil 3 1, .nil 246 3, .nil 247 4] [(0, 1, (xt 9)), (1, 1, (xt 11)), (2, 1, (xt 13)), (3, 1, (xt 15)), (5, 1, (xt 17))]),
 xo (.alloc 3 [.v (.int .i64 0), .v (.int .i64 0), .v (.int .i64 0), .own 130 5 [], .own 88 4 [], .own 3 1 [], .own 246 3 [], .own 247 4 []]),
 xo (.store (xt 3) (xt 18) 8)]
def c53r2 : List GI := [xo (.mv 4 (xi 0))]
def c53r3 : List GI := [xm 19 4,
 xa 20 1 4 1,
 xl 21 20 1,
 xp 22 (.alen (xt 21)),
 xb 23 .lss (xt 19) (xt 22)]
def c53r5 : List GI := [xa 26 3 4 1,
 xo (.take 27 (xt 26)),
 xa 28 1 4 1,
 xl 29 28 1,
 xm 30 4,
 xp 31 (.iaddr (xt 29) (xt 30) 4),
 xa 32 31 0 2,
 xp 33 (.load (xt 32) 2 true),
 xa 34 1 4 1,
 xl 35 34 1,
 xm 36 4,
 xp 37 (.iaddr (xt 35) (xt 36) 4),
 xa 38 37 2 1,
 xl 39 38 1,
 xa 40 1 4 1,
 xl 41 40 1,
 xm 42 4,
 xp 43 (.iaddr (xt 41) (xt 42) 4),
 xa 44 43 3 1,
 xl 45 44 1,
 xp 46 (.build [.v (.int .i64 0), .v (.int .i64 0), .v (.int .i64 0), .v (.int .i64 0)] [(0, 2, (xt 33)), (2, 1, (xt 39)), (3, 1, (xt 45))]),
 xo (.bsl 47 88 4 [(xt 46)]),
 xo (.app 48 (xu 27) (xt 47) 88 4 32),
 xa 49 3 4 1,
 xo (.store (xt 49) (xu 48) 1)]
def c53r4 : List GI := [xm 24 4,
 xb 25 .add (xt 24) (xi 1),
 xm 4 25]
def c53l0 : AC := (.seq (.seq (.reg c53r3 [1, 2, 3, 4, 23]) (.cond (xt 23) .skip (.exit 0))) (.seq (.block 1 (.regD c53r5 [1, 2, 3, 4] [[], [0], [], [2], [], [2, 3, 4], [2, 3, 4, 5], [2, 3, 4, 5, 6], [], [8], [], [8, 9, 10], [8, 9, 10, 11], [8, 9, 10, 11, 12], [], [14], [], [14, 15, 16], [14, 15, 16, 17], [14, 15, 16, 17, 18], [2, 3, 4, 5, 6, 7, 8, 9, 10, 11, 12, 13, 14, 15, 16, 17, 18, 19], [2, 3, 4, 5, 6, 7, 8, 9, 10, 11, 12, 13, 14, 15, 16, 17, 18, 19, 20], [0, 1, 2, 3, 4, 5, 6, 7, 8, 9, 10, 11, 12, 13, 14, 15, 16, 17, 18, 19, 20, 21], [0, 1, 2, 3, 4, 5, 6, 7, 8, 9, 10, 11, 12, 13, 14, 15, 16, 17, 18, 19, 20, 21, 22], [0, 1, 2, 3, 4, 5, 6, 7, 8, 9, 10, 11, 12, 13, 14, 15, 16, 17, 18, 19, 20, 21, 22, 23]])) (.reg c53r4 [1, 2, 3, 4])))
def c53r6 : List GI := [xo (.mv 5 (xi 0))]
def c53r7 : List GI := [xm 50 5,
 xa 51 1 6 1,
 xl 52 51 1,
 xp 53 (.alen (xt 52)),
 xb 54 .lss (xt 50) (xt 53)]
def c53r9 : List GI := [xa 57 3 6 1,
 xo (.take 58 (xt 57)),
 xa 59 1 6 1,
 xl 60 59 1,
 xm 61 5,
 xp 62 (.iaddr (xt 60) (xt 61) 3),
 xa 63 62 0 1,
 xl 64 63 1,
 xa 65 1 6 1,
 xl 66 65 1,
 xm 67 5,
 xp 68 (.iaddr (xt 66) (xt 67) 3),
 xa 69 68 1 2,
 xp 70 (.load (xt 69) 2 true),
 xp 71 (.build [.v (.int .i64 0), .v (.int .i64 0), .v (.int .i64 0)] [(0, 1, (xt 64)), (1, 2, (xt 70))]),
 xo (.bsl 72 246 3 [(xt 71)]),
 xo (.app 73 (xu 58) (xt 72) 246 3 24),
 xa 74 3 6 1,
 xo (.store (xt 74) (xu 73) 1)]
def c53r8 : List GI := [xm 55 5,
 xb 56 .add (xt 55) (xi 1),
 xm 5 56]
def c53l1 : AC := (.seq (.seq (.reg c53r7 [1, 2, 3, 5, 54]) (.cond (xt 54) .skip (.exit 2))) (.seq (.block 3 (.regD c53r9 [1, 2, 3, 5] [[], [0], [], [2], [], [2, 3, 4], [2, 3, 4, 5], [2, 3, 4, 5, 6], [], [8], [], [8, 9, 10], [8, 9, 10, 11], [8, 9, 10, 11, 12], [2, 3, 4, 5, 6, 7, 8, 9, 10, 11, 12, 13], [2, 3, 4, 5, 6, 7, 8, 9, 10, 11, 12, 13, 14], [0, 1, 2, 3, 4, 5, 6, 7, 8, 9, 10, 11, 12, 13, 14, 15], [0, 1, 2, 3, 4, 5, 6, 7, 8, 9, 10, 11, 12, 13, 14, 15, 16], [0, 1, 2, 3, 4, 5, 6, 7, 8, 9, 10, 11, 12, 13, 14, 15, 16, 17]])) (.reg c53r8 [1, 2, 3, 5])))
def c53r10 : List GI := [xo (.mv 6 (xi 0))]
def c53r11 : List GI := [xm 75 6,
 xa 76 1 7 1,
 xl 77 76 1,
 xp 78 (.alen (xt 77)),
 xb 79 .lss (xt 75) (xt 78)]
def c53r13 : List GI := [xa 82 1 7 1,
 xl 83 82 1,
 xm 84 6,
 xp 85 (.iaddr (xt 83) (xt 84) 4),
 xp 86 (.load (xt 85) 4 true),
 xo (.alloc 7 [.v (.int .i64 0), .v (.int .i64 0), .v (.int .i64 0), .v (.int .i64 0)]),
 xo (.store (xt 7) (xt 86) 4)]
def c53r14 : List GI := [xa 87 3 7 1,
 xo (.take 88 (xt 87)),
 xa 89 7 0 1,
 xl 90 89 1,
 xa 91 7 1 1,
 xl 92 91 1,
 xa 93 7 2 1,
 xl 94 93 1,
 xa 95 7 3 1,
 xl 96 95 1,
 xp 97 (.build [.v (.int .i64 0), .v (.int .i64 0), .v (.int .i64 0), .v (.int .i64 0)] [(0, 1, (xt 90)), (1, 1, (xt 92)), (2, 1, (xt 94)), (3, 1, (xt 96))]),
 xo (.bsl 98 247 4 [(xt 97)]),
 xo (.app 99 (xu 88) (xt 98) 247 4 32),
 xa 100 3 7 1,
 xo (.store (xt 100) (xu 99) 1)]
def c53r12 : List GI := [xm 80 6,
 xb 81 .add (xt 80) (xi 1),
 xm 6 81]
def c53l2 : AC := (.seq (.seq (.reg c53r11 [1, 2, 3, 6, 79]) (.cond (xt 79) .skip (.exit 4))) (.seq (.block 5 (.seq (.reg c53r13 [1, 2, 3, 6, 7]) (.reg c53r14 [1, 2, 3, 6]))) (.reg c53r12 [1, 2, 3, 6])))
def c53r15 : List GI := [xp 101 (.load (xt 3) 8 true),
 xo (.store (xt 2) (xt 101) 8)]
def c53 : AC := (.seq (.reg c53r0 [1, 2]) (.seq (.reg c53r1 [1, 2, 3]) (.seq (.seq (.reg c53r2 [1, 2, 3, 4]) (.block 0 (.loop c53l0))) (.seq (.seq (.reg c53r6 [1, 2, 3, 5]) (.block 2 (.loop c53l1))) (.seq (.seq (.reg c53r10 [1, 2, 3, 6]) (.block 4 (.loop c53l2))) (.seq (.reg c53r15 [2]) .ret))))))
def c53R : List AR := [.c 2 8 true]
theorem k53 : chkF Tryz.prog GLx 53 1 c53 c53R = true := by kernel_rfl
def c54r0 : List GI := [xo (.box 1 (xt 0)),
 xo (.mv 2 (.c (.own 5 1 []))),
 xo (.mv 3 (xi 0))]
def c54r1 : List GI := [xp 14 (.load (xt 1) 8 true),
 xc 15 49 [(xt 14)],
 xm 4 15]
def c54r2 : List GI := [xm 16 4,
 xp 17 (.not (xt 16))]
def c54r3 : List GI := [xo (.mv 2 (.c (.own 5 1 []))),
 xo (.mv 3 (xi 1))]
def c54r4 : List GI := [xa 19 1 3 1,
 xl 20 19 1,
 xc 21 134 [(xt 20)],
 xn 18 21,
 xe 22 18 0,
 xe 23 18 1,
 xn 5 22,
 xm 6 23]
def c54r5 : List GI := [xa 24 1 0 1,
 xl 25 24 1,
 xo (.callO (some 26) (xf 135) (.c (.nil 5 1)) [(xt 25)]),
 xa 27 1 1 1,
 xl 28 27 1,
 xo (.callO (some 29) (xf 135) (xu 26) [(xt 28)]),
 xa 30 1 2 1,
 xl 31 30 1,
 xo (.callO (some 32) (xf 135) (xu 29) [(xt 31)]),
 xn 7 32]
def c54r6 : List GI := [xn 33 7,
 xn 34 5,
 xc 35 105 [(xt 34)],
 xo (.app 36 (xu 33) (xt 35) 5 1 1),
 xn 7 36]
def c54r7 : List GI := [xn 37 7,
 xa 38 1 4 1,
 xl 39 38 1,
 xp 40 (.alen (xt 39)),
 xo (.callO (some 41) (xf 135) (xu 37) [(xt 40)]),
 xn 7 41]
def c54r8 : List GI := [xo (.mv 8 (xi 0))]
def c54r9 : List GI := [xm 42 8,
 xa 43 1 4 1,
 xl 44 43 1,
 xp 45 (.alen (xt 44)),
 xb 46 .lss (xt 42) (xt 45)]
def c54r11 : List GI := [xa 49 1 4 1,
 xl 50 49 1,
 xm 51 8,
 xp 52 (.iaddr (xt 50) (xt 51) 4),
 xp 53 (.load (xt 52) 4 true),
 xo (.alloc 9 [.v (.int .i64 0), .v (.int .i64 0), .v (.int .i64 0), .v (.int .i64 0)]),
 xo (.store (xt 9) (xt 53) 4)]
def c54r12 : List GI := [xn 54 7,
 xa 55 9 0 2,
 xa 56 55 0 1,
 xl 57 56 1,
 xo (.callO (some 58) (xf 135) (xu 54) [(xt 57)]),
 xa 59 9 0 2,
 xa 60 59 1 1,
 xl 61 60 1,
 xo (.callO (some 62) (xf 135) (xu 58) [(xt 61)]),
 xa 63 9 2 1,
 xl 64 63 1,
 xo (.callO (some 65) (xf 135) (xu 62) [(xt 64)]),
 xa 66 9 3 1,
 xl 67 66 1,
 xo (.callO (some 68) (xf 135) (xu 65) [(xt 67)]),
 xn 7 68]
def c54r10 : List GI := [xm 47 8,
 xb 48 .add (xt 47) (xi 1),
 xm 8 48]
def c54l0 : AC := (.seq (.seq (.reg c54r9 [1, 7, 8, 46]) (.cond (xt 46) .skip (.exit 0))) (.seq (.block 1 (.seq (.reg c54r11 [1, 7, 8, 9]) (.regD c54r12 [1, 7, 8] [[], [], [1], [1, 2], [0, 1, 2, 3], [], [5], [5, 6], [0, 1, 2, 3, 4, 5, 6, 7], [], [9], [0, 1, 2, 3, 4, 5, 6, 7, 8, 9, 10], [], [12], [0, 1, 2, 3, 4, 5, 6, 7, 8, 9, 10, 11, 12, 13], [0, 1, 2, 3, 4, 5, 6, 7, 8, 9, 10, 11, 12, 13, 14]]))) (.reg c54r10 [1, 7, 8])))
def c54r13 : List GI := [xn 69 7,
 xa 70 1 5 1,
 xl 71 70 1,
 xc 72 107 [(xt 71)],
 xo (.app 73 (xu 69) (xt 72) 5 1 1),
 xn 7 73]
def c54r14 : List GI := [xn 74 7,
 xa 75 1 6 1,
 xl 76 75 1,
 xp 77 (.alen (xt 76)),
 xo (.callO (some 78) (xf 135) (xu 74) [(xt 77)]),
 xn 7 78]
def c54r15 : List GI := [xo (.mv 10 (xi 0))]
def c54r16 : List GI := [xm 79 10,
 xa 80 1 6 1,
 xl 81 80 1,
 xp 82 (.alen (xt 81)),
 xb 83 .lss (xt 79) (xt 82)]
def c54r18 : List GI := [xa 86 1 6 1,
 xl 87 86 1,
 xm 88 10,
 xp 89 (.iaddr (xt 87) (xt 88) 3),
 xp 90 (.load (xt 89) 3 true),
 xo (.alloc 11 [.v (.int .i64 0), .v (.int .i64 0), .v (.int .i64 0)]),
 xo (.store (xt 11) (xt 90) 3)]
def c54r19 : List GI := [xn 91 7,
 xa 92 11 0 1,
 xl 93 92 1,
 xo (.callO (some 94) (xf 135) (xu 91) [(xt 93)]),
 xa 95 11 1 2,
 xa 96 95 0 1,
 xl 97 96 1,
 xo (.callO (some 98) (xf 135) (xu 94) [(xt 97)]),
 xa 99 11 1 2,
 xa 100 99 1 1,
 xl 101 100 1,
 xo (.callO (some 102) (xf 135) (xu 98) [(xt 101)]),
 xn 7 102]
def c54r17 : List GI := [xm 84 10,
 xb 85 .add (xt 84) (xi 1),
 xm 10 85]
def c54l1 : AC := (.seq (.seq (.reg c54r16 [1, 7, 10, 83]) (.cond (xt 83) .skip (.exit 2))) (.seq (.block 3 (.seq (.reg c54r18 [1, 7, 10, 11]) (.regD c54r19 [1, 7, 10] [[], [], [1], [0, 1, 2], [], [4], [4, 5], [0, 1, 2, 3, 4, 5, 6], [], [8], [8, 9], [0, 1, 2, 3, 4, 5, 6, 7, 8, 9, 10], [0, 1, 2, 3, 4, 5, 6, 7, 8, 9, 10, 11]]))) (.reg c54r17 [1, 7, 10])))
def c54r20 : List GI := [xn 103 7,
 xa 104 1 7 1,
 xl 105 104 1,
 xp 106 (.alen (xt 105)),
 xo (.callO (some 107) (xf 135) (xu 103) [(xt 106)]),
 xn 7 107]
def c54r21 : List GI := [xo (.mv 12 (xi 0))]
def c54r22 : List GI := [xm 108 12,
 xa 109 1 7 1,
 xl 110 109 1,
 xp 111 (.alen (xt 110)),
 xb 112 .lss (xt 108) (xt 111)]
def c54r24 : List GI := [xa 115 1 7 1,
 xl 116 115 1,
 xm 117 12,
 xp 118 (.iaddr (xt 116) (xt 117) 4),
 xp 119 (.load (xt 118) 4 true),
 xo (.alloc 13 [.v (.int .i64 0), .v (.int .i64 0), .v (.int .i64 0), .v (.int .i64 0)]),
 xo (.store (xt 13) (xt 119) 4)]
def c54r25 : List GI := [xn 120 7,
 xa 121 13 0 1,
 xl 122 121 1,
 xo (.callO (some 123) (xf 135) (xu 120) [(xt 122)]),
 xa 124 13 1 1,
 xl 125 124 1,
 xo (.callO (some 126) (xf 135) (xu 123) [(xt 125)]),
 xa 127 13 2 1,
 xl 128 127 1,
 xo (.callO (some 129) (xf 135) (xu 126) [(xt 128)]),
 xa 130 13 3 1,
 xl 131 130 1,
 xo (.callO (some 132) (xf 135) (xu 129) [(xt 131)]),
 xn 7 132]
def c54r23 : List GI := [xm 113 12,
 xb 114 .add (xt 113) (xi 1),
 xm 12 114]
def c54l2 : AC := (.seq (.seq (.reg c54r22 [1, 7, 12, 112]) (.cond (xt 112) .skip (.exit 4))) (.seq (.block 5 (.seq (.reg c54r24 [1, 7, 12, 13]) (.regD c54r25 [1, 7, 12] [[], [], [1], [0, 1, 2], [], [4], [0, 1, 2, 3, 4, 5], [], [7], [0, 1, 2, 3, 4, 5, 6, 7, 8], [], [10], [0, 1, 2, 3, 4, 5, 6, 7, 8, 9, 10, 11], [0, 1, 2, 3, 4, 5, 6, 7, 8, 9, 10, 11, 12]]))) (.reg c54r23 [1, 7, 12])))
def c54r26 : List GI := [xn 133 7,
 xn 2 133,
 xo (.mv 3 (xi 0))]
def c54 : AC := (.seq (.reg c54r0 [1]) (.seq (.reg c54r1 [1, 4]) (.seq (.seq (.reg c54r2 [1, 17]) (.cond (xt 17) (.seq (.reg c54r3 [2, 3]) .ret) .skip)) (.seq (.reg c54r4 [1, 5]) (.seq (.regD c54r5 [1, 5, 7] [[], [0], [0, 1], [], [3], [0, 1, 2, 3, 4], [], [6], [0, 1, 2, 3, 4, 5, 6, 7], [0, 1, 2, 3, 4, 5, 6, 7, 8]]) (.seq (.reg c54r6 [1, 7]) (.seq (.reg c54r7 [1, 7]) (.seq (.seq (.reg c54r8 [1, 7, 8]) (.block 0 (.loop c54l0))) (.seq (.reg c54r13 [1, 7]) (.seq (.reg c54r14 [1, 7]) (.seq (.seq (.reg c54r15 [1, 7, 10]) (.block 2 (.loop c54l1))) (.seq (.reg c54r20 [1, 7]) (.seq (.seq (.reg c54r21 [1, 7, 12]) (.block 4 (.loop c54l2))) (.seq (.reg c54r26 [2, 3]) .ret))))))))))))))
def c54R : List AR := [.t 2, .t 3]
theorem k54 : chkF Tryz.prog GLx 54 1 c54 c54R = true := by kernel_rfl
def c55r0 : List GI := [xo (.mv 4 (xi 0))]
def c55r1 : List GI := [xo (.mv 5 (xi 0))]
def c55r2 : List GI := [xm 6 5,
 xm 7 0,
 xp 8 (.nilc (xt 7)),
 xa 9 8 0 1,
 xl 10 9 1,
 xp 11 (.alen (xt 10)),
 xb 12 .lss (xt 6) (xt 11)]
def c55r4 : List GI := [xm 15 0,
 xp 16 (.nilc (xt 15)),
 xa 17 16 0 1,
 xl 18 17 1,
 xm 19 5,
 xp 20 (.iaddr (xt 18) (xt 19) 2),
 xa 21 20 0 1,
 xl 22 21 1,
 xm 23 1,
 xb 24 .eql (xt 22) (xt 23)]
def c55r5 : List GI := [xm 25 5,
 xm 4 25]
def c55r3 : List GI := [xm 13 5,
 xb 14 .add (xt 13) (xi 1),
 xm 5 14]
def c55l0 : AC := (.seq (.seq (.reg c55r2 [0, 1, 5, 12]) (.cond (xt 12) .skip (.exit 0))) (.seq (.block 1 (.seq (.reg c55r4 [0, 1, 5, 24]) (.cond (xt 24) (.seq (.reg c55r5 [4]) .ret) .skip))) (.reg c55r3 [0, 1, 5])))
def c55r6 : List GI := [xo (.mv 4 (.c (.v (.int .i64 (-1)))))]
def c55 : AC := (.seq (.reg c55r0 [0, 1]) (.seq (.seq (.reg c55r1 [0, 1, 5]) (.block 0 (.loop c55l0))) (.seq (.reg c55r6 [4]) .ret)))
def c55R : List AR := [.t 4]
theorem k55 : chkF Tryz.prog GLx 55 2 c55 c55R = true := by kernel_rfl
def c56r0 : List GI := [xo (.mv 6 (xi 0))]
def c56r1 : List GI := [xm 10 1,
 xb 11 .lss (xt 10) (xi 0),
 xm 12 11,
 xg 12 false (.mv 13 (xt 1)),
 xg 12 false (.p 14 (.bin .gtr (xt 13) (xi 4095))),
 xp 15 (.pick (xt 12) (.c (.v (.bool true))) (xt 14))]
def c56r2 : List GI := [xo (.mv 6 (xi 5))]
def c56r3 : List GI := [xm 16 2,
 xp 17 (.alen (xt 16)),
 xb 18 .gtr (xt 17) (xi 65536)]
def c56r4 : List GI := [xo (.mv 6 (xi 4))]
def c56r5 : List GI := [xo (.mv 7 (.c (.own 200 2 [])))]
def c56r6 : List GI := [xo (.mv 8 (xi 0))]
def c56r7 : List GI := [xm 19 8,
 xm 20 0,
 xp 21 (.nilc (xt 20)),
 xa 22 21 0 1,
 xl 23 22 1,
 xp 24 (.alen (xt 23)),
 xb 25 .lss (xt 19) (xt 24),
 xm 26 25,
 xg 26 true (.mv 27 (xt 0)),
 xg 26 true (.p 28 (.nilc (xt 27))),
 xg 26 true (.p 29 (.faddr (xt 28) 0 1)),
 xg 26 true (.p 30 (.load (xt 29) 1 false)),
 xg 26 true (.mv 31 (xt 8)),
 xg 26 true (.p 32 (.iaddr (xt 30) (xt 31) 2)),
 xg 26 true (.p 33 (.faddr (xt 32) 0 1)),
 xg 26 true (.p 34 (.load (xt 33) 1 false)),
 xg 26 true (.mv 35 (xt 1)),
 xg 26 true (.p 36 (.bin .lss (xt 34) (xt 35))),
 xp 37 (.pick (xt 26) (xt 36) (.c (.v (.bool false))))]
def c56r8 : List GI := [xn 38 7,
 xm 39 0,
 xp 40 (.nilc (xt 39)),
 xa 41 40 0 1,
 xl 42 41 1,
 xm 43 8,
 xp 44 (.iaddr (xt 42) (xt 43) 2),
 xp 45 (.load (xt 44) 2 true),
 xo (.bsl 46 200 2 [(xt 45)]),
 xo (.app 47 (xu 38) (xt 46) 200 2 32),
 xn 7 47]
def c56r9 : List GI := [xm 48 8,
 xb 49 .add (xt 48) (xi 1),
 xm 8 49]
def c56l0 : AC := (.seq (.seq (.reg c56r7 [0, 1, 2, 7, 8, 37]) (.cond (xt 37) .skip (.exit 0))) (.block 1 (.seq (.reg c56r8 [0, 1, 2, 7, 8]) (.reg c56r9 [0, 1, 2, 7, 8]))))
def c56r10 : List GI := [xo (.mv 9 (.c (.own 5 1 [])))]
def c56r11 : List GI := [xn 50 7,
 xm 51 1,
 xn 52 9,
 xn 53 2,
 xo (.app 54 (xu 52) (xt 53) 5 1 1),
 xp 55 (.build [.v (.int .i64 0), .nil 5 1] [(0, 1, (xt 51)), (1, 1, (xt 54))]),
 xo (.bsl 56 200 2 [(xt 55)]),
 xo (.app 57 (xu 50) (xt 56) 200 2 32),
 xn 7 57]
def c56r12 : List GI := [xm 58 8,
 xm 59 0,
 xp 60 (.nilc (xt 59)),
 xa 61 60 0 1,
 xl 62 61 1,
 xp 63 (.alen (xt 62)),
 xb 64 .lss (xt 58) (xt 63),
 xm 65 64,
 xg 65 true (.mv 66 (xt 0)),
 xg 65 true (.p 67 (.nilc (xt 66))),
 xg 65 true (.p 68 (.faddr (xt 67) 0 1)),
 xg 65 true (.p 69 (.load (xt 68) 1 false)),
 xg 65 true (.mv 70 (xt 8)),
 xg 65 true (.p 71 (.iaddr (xt 69) (xt 70) 2)),
 xg 65 true (.p 72 (.faddr (xt 71) 0 1)),
 xg 65 true (.p 73 (.load (xt 72) 1 false)),
 xg 65 true (.mv 74 (xt 1)),
 xg 65 true (.p 75 (.bin .eql (xt 73) (xt 74))),
 xp 76 (.pick (xt 65) (xt 75) (.c (.v (.bool false))))]
def c56r13 : List GI := [xm 77 8,
 xb 78 .add (xt 77) (xi 1),
 xm 8 78]
def c56r14 : List GI := [xm 79 0,
 xn 80 7,
 xm 81 0,
 xp 82 (.nilc (xt 81)),
 xa 83 82 0 1,
 xl 84 83 1,
 xm 85 8,
 xp 86 (.slc (xt 84) (some (xt 85)) none 2),
 xo (.app 87 (xu 80) (xt 86) 200 2 32),
 xp 88 (.nilc (xt 79)),
 xa 89 88 0 1,
 xo (.store (xt 89) (xu 87) 1)]
def c56r15 : List GI := [xo (.mv 6 (xi 0))]
def c56 : AC := (.seq (.reg c56r0 [0, 1, 2]) (.seq (.seq (.reg c56r1 [0, 1, 2, 15]) (.cond (xt 15) (.seq (.reg c56r2 [6]) .ret) .skip)) (.seq (.seq (.reg c56r3 [0, 1, 2, 18]) (.cond (xt 18) (.seq (.reg c56r4 [6]) .ret) .skip)) (.seq (.reg c56r5 [0, 1, 2, 7]) (.seq (.reg c56r6 [0, 1, 2, 7, 8]) (.seq (.block 0 (.loop c56l0)) (.seq (.reg c56r10 [0, 1, 2, 7, 8, 9]) (.seq (.reg c56r11 [0, 1, 7, 8]) (.seq (.seq (.reg c56r12 [0, 7, 8, 76]) (.cond (xt 76) (.reg c56r13 [0, 7, 8]) .skip)) (.seq (.reg c56r14 []) (.seq (.reg c56r15 [6]) .ret)))))))))))
def c56R : List AR := [.t 6]
theorem k56 : chkF Tryz.prog GLx 56 3 c56 c56R = true := by kernel_rfl
def c57r0 : List GI := [xo (.mv 2 (xj 0))]
def c57r1 : List GI := [xm 3 0,
 xp 4 (.nilc (xt 3)),
 xa 5 4 1 1,
 xl 6 5 1,
 xp 7 (.load (.g 0 [.int .i64 12, .int .i64 0]) 2 true),
 xp 8 (.look (xt 6) (xt 7) true [0, 0] [.v (.int .u64 0)] false false),
 xm 2 8]
def c57 : AC := (.seq (.reg c57r0 [0]) (.seq (.regD c57r1 [2] [[], [0], [0, 1], [0, 1, 2], [], [0, 1, 2, 3, 4], [0, 1, 2, 3, 4, 5]]) .ret))
def c57R : List AR := [.t 2]
theorem k57 : chkF Tryz.prog GLx 57 1 c57 c57R = true := by kernel_rfl
def c58r0 : List GI := [xo (.mv 6 (xj 0)),
 xo (.mv 7 (.c (.v (.bool false))))]
def c58r1 : List GI := [xo (.mv 8 (.c (.v (.bool false))))]
def c58r2 : List GI := [xo (.mv 9 (xi 0))]
def c58r3 : List GI := [xm 15 9,
 xm 16 0,
 xp 17 (.nilc (xt 16)),
 xa 18 17 0 1,
 xl 19 18 1,
 xp 20 (.alen (xt 19)),
 xb 21 .lss (xt 15) (xt 20)]
def c58r5 : List GI := [xm 24 0,
 xp 25 (.nilc (xt 24)),
 xa 26 25 0 1,
 xl 27 26 1,
 xm 28 9,
 xp 29 (.iaddr (xt 27) (xt 28) 2),
 xa 30 29 0 1,
 xl 31 30 1,
 xm 10 31]
def c58r6 : List GI := [xm 32 10,
 xm 33 1,
 xb 34 .geq (xt 32) (xt 33),
 xm 35 34,
 xg 35 true (.mv 36 (xt 10)),
 xg 35 true (.mv 37 (xt 1)),
 xg 35 true (.mv 38 (xt 2)),
 xg 35 true (.p 39 (.bin .add (xt 37) (xt 38))),
 xg 35 true (.p 40 (.bin .lss (xt 36) (xt 39))),
 xp 41 (.pick (xt 35) (xt 40) (.c (.v (.bool false))))]
def c58r7 : List GI := [xm 42 2,
 xb 43 .eql (xt 42) (xi 1)]
def c58r8 : List GI := [xm 44 0,
 xp 45 (.nilc (xt 44)),
 xa 46 45 0 1,
 xl 47 46 1,
 xm 48 9,
 xp 49 (.iaddr (xt 47) (xt 48) 2),
 xp 50 (.load (xt 49) 2 true),
 xc 51 136 [(xt 50)],
 xm 6 51,
 xo (.mv 7 (.c (.v (.bool true))))]
def c58r9 : List GI := [xo (.mv 8 (.c (.v (.bool true))))]
def c58r4 : List GI := [xm 22 9,
 xb 23 .add (xt 22) (xi 1),
 xm 9 23]
def c58l0 : AC := (.seq (.seq (.reg c58r3 [0, 1, 2, 8, 9, 21]) (.cond (xt 21) .skip (.exit 0))) (.seq (.block 1 (.seq (.reg c58r5 [0, 1, 2, 8, 9, 10]) (.seq (.reg c58r6 [0, 1, 2, 8, 9, 41]) (.cond (xt 41) (.seq (.seq (.reg c58r7 [0, 1, 2, 9, 43]) (.cond (xt 43) (.seq (.reg c58r8 [6, 7]) .ret) .skip)) (.reg c58r9 [0, 1, 2, 8, 9])) .skip)))) (.reg c58r4 [0, 1, 2, 8, 9])))
def c58r10 : List GI := [xm 52 8,
 xp 53 (.not (xt 52))]
def c58r11 : List GI := [xo (.mv 6 (xj 0)),
 xo (.mv 7 (.c (.v (.bool false))))]
def c58r12 : List GI := [xm 55 0,
 xm 56 1,
 xm 57 2,
 xb 58 .quo (xt 57) (xi 2),
 xc 59 58 [(xt 55), (xt 56), (xt 58)],
 xn 54 59,
 xe 60 54 0,
 xe 61 54 1,
 xm 11 60,
 xm 12 61]
def c58r13 : List GI := [xm 63 0,
 xm 64 1,
 xm 65 2,
 xb 66 .quo (xt 65) (xi 2),
 xb 67 .add (xt 64) (xt 66),
 xm 68 2,
 xb 69 .quo (xt 68) (xi 2),
 xc 70 58 [(xt 63), (xt 67), (xt 69)],
 xn 62 70,
 xe 71 62 0,
 xe 72 62 1,
 xm 13 71,
 xm 14 72]
def c58r14 : List GI := [xm 73 11,
 xp 74 (.cint .i64 (xt 73)),
 xm 75 13,
 xp 76 (.cint .i64 (xt 75)),
 xo (.bsl 77 3 1 [(xt 74), (xt 76)]),
 xc 78 84 [(.c (.v (.str ⟨#[98, 108, 111, 99, 107]⟩))), (xt 77)],
 xm 6 78,
 xo (.mv 7 (.c (.v (.bool true))))]
def c58 : AC := (.seq (.reg c58r0 [0, 1, 2]) (.seq (.reg c58r1 [0, 1, 2, 8]) (.seq (.seq (.reg c58r2 [0, 1, 2, 8, 9]) (.block 0 (.loop c58l0))) (.seq (.seq (.reg c58r10 [0, 1, 2, 53]) (.cond (xt 53) (.seq (.reg c58r11 [6, 7]) .ret) .skip)) (.seq (.reg c58r12 [0, 1, 2, 11]) (.seq (.reg c58r13 [11, 13]) (.seq (.reg c58r14 [6, 7]) .ret)))))))
def c58R : List AR := [.t 6, .t 7]
theorem k58 : chkF Tryz.prog GLx 58 3 c58 c58R = true := by kernel_rfl
def c59r0 : List GI := [xo (.alloc 4 [.v (.int .i64 0), .v (.int .i64 0), .v (.int .i64 0), .v (.int .i64 0), .own 3 1 [], .own 171 3 [], .own 58 3 [], .own 74 8 [], .own 76 2 [], .own 3 1 [], .own 47 1 [], .own 47 1 [], .own 5 1 []]),
 xo (.mv 5 (xi 0))]
def c59r1 : List GI := [xm 6 0,
 xm 7 1,
 xp 8 (.build [.v (.int .i64 0), .v (.int .i64 0), .v (.int .i64 0), .v (.int .i64 0), .nil 3 1, .nil 171 3, .nil 58 3, .nil 74 8, .nil 76 2, .nil 3 1, .nil 47 1, .nil 47 1, .nil 5 1] [(0, 1, (xi 0)), (1, 1, (xt 7))]),
 xc 9 61 [(xt 6), (xt 8)],
 xe 10 9 0,
 xe 11 9 1,
 xo (.store (xt 4) (xt 10) 13),
 xm 5 11]
def c59 : AC := (.seq (.reg c59r0 [0, 1, 4]) (.seq (.reg c59r1 [4, 5]) .ret))
def c59R : List AR := [.c 4 13 true, .t 5]
theorem k59 : chkF Tryz.prog GLx 59 2 c59 c59R = true := by kernel_rfl
def c61r0 : List GI := [xo (.box 3 (xt 1)),
 xo (.alloc 4 [.v (.int .i64 0), .v (.int .i64 0), .v (.int .i64 0), .v (.int .i64 0), .own 3 1 [], .own 171 3 [], .own 58 3 [], .own 74 8 [], .own 76 2 [], .own 3 1 [], .own 47 1 [], .own 47 1 [], .own 5 1 []]),
 xo (.mv 5 (xi 0))]
def c61r1 : List GI := [xp 16 (.load (xt 3) 13 true),
 xc 17 88 [(xt 16)],
 xn 15 17,
 xe 18 15 0,
 xe 19 15 1,
 xm 6 18,
 xm 7 19]
def c61r2 : List GI := [xm 21 0,
 xp 22 (.nilc (xt 21)),
 xa 23 22 2 1,
 xl 24 23 1,
 xm 25 6,
 xm 26 7,
 xc 27 137 [(xt 24), (xt 25), (xt 26)],
 xn 20 27,
 xe 28 20 0,
 xe 29 20 1,
 xe 30 20 2,
 xo (.alloc 9 [.own 47 1 [], .own 47 1 [], .own 5 1 []]),
 xn 8 28,
 xo (.store (xt 9) (xt 29) 3),
 xm 10 30]
def c61r3 : List GI := [xm 31 10,
 xb 32 .neq (xt 31) (xi 0)]
def c61r4 : List GI := [xp 33 (.build [.v (.int .i64 0), .v (.int .i64 0), .v (.int .i64 0), .v (.int .i64 0), .nil 3 1, .nil 171 3, .nil 58 3, .nil 74 8, .nil 76 2, .nil 3 1, .nil 47 1, .nil 47 1, .nil 5 1] []),
 xm 34 10,
 xo (.store (xt 4) (xt 33) 13),
 xm 5 34]
def c61r5 : List GI := [xn 35 8,
 xp 36 (.alen (xt 35)),
 xo (.mv 37 (xi 0))]
def c61r6 : List GI := [xb 38 .lss (xt 37) (xt 36)]
def c61r7 : List GI := [xp 39 (.iaddr (xt 35) (xt 37) 2),
 xp 40 (.load (xt 39) 2 true),
 xo (.alloc 12 [.v (.int .i64 0), .own 5 1 []]),
 xo (.store (xt 12) (xt 40) 2)]
def c61r8 : List GI := [xa 42 12 1 1,
 xl 43 42 1,
 xc 44 113 [(xt 43)],
 xn 41 44,
 xe 45 41 0,
 xe 46 41 1,
 xo (.alloc 13 [.v (.int .i64 0), .v (.int .i64 0), .v (.int .i64 0), .own 130 5 [], .own 88 4 [], .own 3 1 [], .own 246 3 [], .own 247 4 []]),
 xo (.store (xt 13) (xt 45) 8),
 xm 14 46]
def c61r9 : List GI := [xa 47 3 7 1,
 xo (.take 48 (xt 47)),
 xp 49 (.load (xt 13) 8 true),
 xo (.bsl 50 74 8 [(xt 49)]),
 xo (.app 51 (xu 48) (xt 50) 74 8 144),
 xa 52 3 7 1,
 xo (.store (xt 52) (xu 51) 1)]
def c61r10 : List GI := [xb 53 .add (xt 37) (xi 1),
 xm 37 53]
def c61l0 : AC := (.seq (.reg c61r6 [0, 3, 4, 9, 35, 36, 37, 38]) (.seq (.cond (xt 38) .skip (.exit 0)) (.seq (.block 1 (.seq (.reg c61r7 [0, 3, 4, 9, 12, 35, 36, 37]) (.seq (.reg c61r8 [0, 3, 4, 9, 13, 35, 36, 37]) (.reg c61r9 [0, 3, 4, 9, 35, 36, 37])))) (.reg c61r10 [0, 3, 4, 9, 35, 36, 37]))))
def c61r11 : List GI := [xp 54 (.load (xt 9) 3 true),
 xa 55 3 10 3,
 xo (.store (xt 55) (xt 54) 3)]
def c61r12 : List GI := [xm 57 0,
 xp 58 (.nilc (xt 57)),
 xa 59 58 0 1,
 xl 60 59 1,
 xp 61 (.load (xt 3) 13 true),
 xo (.callF (some 62) (xf 90) [(xt 60), (xt 61)]),
 xn 56 62,
 xe 63 56 0,
 xe 64 56 1,
 xe 65 56 2,
 xa 66 3 8 1,
 xo (.store (xt 66) (xu 63) 1),
 xa 67 3 9 1,
 xo (.store (xt 67) (xu 64) 1),
 xm 10 65]
def c61r13 : List GI := [xm 68 10,
 xb 69 .neq (xt 68) (xi 0)]
def c61r14 : List GI := [xp 70 (.build [.v (.int .i64 0), .v (.int .i64 0), .v (.int .i64 0), .v (.int .i64 0), .nil 3 1, .nil 171 3, .nil 58 3, .nil 74 8, .nil 76 2, .nil 3 1, .nil 47 1, .nil 47 1, .nil 5 1] []),
 xm 71 10,
 xo (.store (xt 4) (xt 70) 13),
 xm 5 71]
def c61r15 : List GI := [xp 72 (.load (xt 3) 13 true),
 xo (.store (xt 4) (xt 72) 13),
 xo (.mv 5 (xi 0))]
def c61 : AC := (.seq (.reg c61r0 [0, 3, 4]) (.seq (.reg c61r1 [0, 3, 4, 6, 7]) (.seq (.reg c61r2 [0, 3, 4, 8, 9, 10]) (.seq (.seq (.reg c61r3 [0, 3, 4, 8, 9, 10, 32]) (.cond (xt 32) (.seq (.reg c61r4 [4, 5]) .ret) .skip)) (.seq (.seq (.reg c61r5 [0, 3, 4, 9, 35, 36, 37]) (.block 0 (.loop c61l0))) (.seq (.reg c61r11 [0, 3, 4]) (.seq (.seq (.regD c61r12 [3, 4, 10] [[], [0], [0, 1], [0, 1, 2], [], [0, 1, 2, 3, 4], [0, 1, 2, 3, 4, 5], [0, 1, 2, 3, 4, 5, 6], [0, 1, 2, 3, 4, 5, 6], [0, 1, 2, 3, 4, 5, 6], [0, 1, 2, 3, 4, 5, 6, 7], [0, 1, 2, 3, 4, 5, 6, 7, 10], [0, 1, 2, 3, 4, 5, 6, 7, 8, 10, 11], [0, 1, 2, 3, 4, 5, 6, 7, 8, 10, 11, 12], [0, 1, 2, 3, 4, 5, 6, 7, 8, 9, 10, 11, 12, 13]]) (.seq (.reg c61r13 [3, 4, 10, 69]) (.cond (xt 69) (.seq (.reg c61r14 [4, 5]) .ret) .skip))) (.seq (.reg c61r15 [4, 5]) .ret))))))))
def c61R : List AR := [.c 4 13 true, .t 5]
theorem k61 : chkF Tryz.prog GLx 61 2 c61 c61R = true := by kernel_rfl
end Go.Va

namespace Go.Va
open Go.Proofs
def c66r0 : List GI := [xo (.box 1 (xt 0)),
 xo (.alloc 2 [.v (.int .i64 0)])]
def c66r1 : List GI := [xp 4 (.load (xt 1) 4 true),
 xc 5 142 [(xt 4)],
 xb 6 .gtr (xt 5) (xi 96),
 xm 7 6,
 xg 7 false (.p 8 (.load (xt 1) 4 true)),
 xg 7 false (.call (some 9) (xf 143) [(xt 8)]),
 xg 7 false (.p 10 (.bin .gtr (xt 9) (xi 8))),
 xp 11 (.pick (xt 7) (.c (.v (.bool true))) (xt 10))]
def c66r2 : List GI := [xo (.store (xt 2) (xi 4) 1)]
def c66r3 : List GI := [xp 12 (.load (xt 1) 4 true),
 xc 13 68 [(xt 12)]]
def c66r4 : List GI := [xo (.alloc 3 [.v (.int .i64 0), .v (.int .i64 0), .own 368 8 [], .own 84 4 []]),
 xo (.store (xt 3) (xt 14) 4)]
def c66r5 : List GI := [xp 15 (.load (xt 3) 4 true),
 xc 16 144 [(xt 15)],
 xp 17 (.not (xt 16))]
def c66r6 : List GI := [xo (.store (xt 2) (xi 1) 1)]
def c66a0 : AC := (.reg c66r4 [2, 3])
def c66b0 : AC := (.block 1 (.seq (.reg c66r5 [2, 17]) (.cond (xt 17) (.seq (.reg c66r6 []) .ret) .skip)))
def c66r7 : List GI := [xo (.store (xt 2) (xi 0) 1)]
def c66 : AC := (.seq (.reg c66r0 [1, 2]) (.seq (.seq (.reg c66r1 [1, 2, 11]) (.cond (xt 11) (.seq (.reg c66r2 [2]) .ret) .skip)) (.seq (.seq (.reg c66r3 [2, 13]) (.block 0 (.rangeF (xt 13) [14] c66a0 c66b0))) (.seq (.reg c66r7 [2]) .ret))))
def c66R : List AR := [.c 2 1 false]
theorem k66 : chkF Tryz.prog GLx 66 1 c66 c66R = true := by kernel_rfl
def c68r0 : List GI := [xo (.box 1 (xt 0)),
 xo (.mv 2 (.c (.v .nilf)))]
def c68r1 : List GI := [xp 3 (.mkf 147 [(xt 1)]),
 xm 2 3]
def c68 : AC := (.seq (.reg c68r0 [1]) (.seq (.reg c68r1 [2]) .ret))
def c68R : List AR := [.t 2]
theorem k68 : chkF Tryz.prog GLx 68 1 c68 c68R = true := by kernel_rfl
def c84r0 : List GI := [xo (.mv 4 (xj 0))]
def c84r1 : List GI := [xo (.mv 5 (xj 0))]
def c84r2 : List GI := [xm 9 0,
 xo (.s2b 10 (xt 9)),
 xc 11 174 [(xt 10)],
 xn 6 11]
def c84r3 : List GI := [xo (.mv 7 (xi 0))]
def c84r4 : List GI := [xm 12 7,
 xm 13 6,
 xp 14 (.alen (xt 13)),
 xb 15 .lss (xt 12) (xt 14)]
def c84r6 : List GI := [xm 18 5,
 xm 19 6,
 xm 20 7,
 xp 21 (.iaddr (xt 19) (xt 20) 1),
 xl 22 21 1,
 xc 23 175 [(xt 18), (xt 22)],
 xm 5 23]
def c84r5 : List GI := [xm 16 7,
 xb 17 .add (xt 16) (xi 1),
 xm 7 17]
def c84l0 : AC := (.seq (.seq (.reg c84r4 [0, 1, 5, 6, 7, 15]) (.cond (xt 15) .skip (.exit 0))) (.seq (.block 1 (.reg c84r6 [0, 1, 5, 6, 7])) (.reg c84r5 [0, 1, 5, 6, 7])))
def c84r7 : List GI := [xm 24 5,
 xm 25 0,
 xp 26 (.lenS (xt 25)),
 xp 27 (.cint .u64 (xt 26)),
 xc 28 175 [(xt 24), (xt 27)],
 xm 5 28]
def c84r8 : List GI := [xm 29 5,
 xm 30 1,
 xp 31 (.alen (xt 30)),
 xp 32 (.cint .u64 (xt 31)),
 xc 33 175 [(xt 29), (xt 32)],
 xm 5 33]
def c84r9 : List GI := [xo (.mv 8 (xi 0))]
def c84r10 : List GI := [xm 34 8,
 xm 35 1,
 xp 36 (.alen (xt 35)),
 xb 37 .lss (xt 34) (xt 36)]
def c84r12 : List GI := [xm 40 5,
 xm 41 1,
 xm 42 8,
 xp 43 (.iaddr (xt 41) (xt 42) 1),
 xl 44 43 1,
 xp 45 (.cint .u64 (xt 44)),
 xc 46 175 [(xt 40), (xt 45)],
 xm 5 46]
def c84r11 : List GI := [xm 38 8,
 xb 39 .add (xt 38) (xi 1),
 xm 8 39]
def c84l1 : AC := (.seq (.seq (.reg c84r10 [1, 5, 8, 37]) (.cond (xt 37) .skip (.exit 2))) (.seq (.block 3 (.reg c84r12 [1, 5, 8])) (.reg c84r11 [1, 5, 8])))
def c84r13 : List GI := [xm 47 5,
 xc 48 175 [(xt 47), (xj 0)],
 xm 4 48]
def c84 : AC := (.seq (.reg c84r0 [0, 1]) (.seq (.reg c84r1 [0, 1, 5]) (.seq (.reg c84r2 [0, 1, 5, 6]) (.seq (.seq (.reg c84r3 [0, 1, 5, 6, 7]) (.block 0 (.loop c84l0))) (.seq (.reg c84r7 [1, 5]) (.seq (.reg c84r8 [1, 5]) (.seq (.seq (.reg c84r9 [1, 5, 8]) (.block 2 (.loop c84l1))) (.seq (.reg c84r13 [4]) .ret))))))))
def c84R : List AR := [.t 4]
theorem k84 : chkF Tryz.prog GLx 84 2 c84 c84R = true := by kernel_rfl
def c86r0 : List GI := [xo (.box 3 (xt 1)),
 xo (.mv 4 (xi 0))]
def c86r1 : List GI := [xp 6 (.load (xt 3) 8 true),
 xo (.bsl 7 108 8 [(xt 6)]),
 xc 8 176 [(xt 7)],
 xp 9 (.not (xt 8)),
 xm 5 9]
def c86r2 : List GI := [xo (.mv 4 (xi 1))]
def c86r3 : List GI := [xa 11 3 7 1,
 xl 12 11 1,
 xm 13 0,
 xp 14 (.load (xt 3) 8 true),
 xc 15 95 [(xt 13), (xt 14)],
 xb 16 .neq (xt 12) (xt 15),
 xm 10 16]
def c86r4 : List GI := [xo (.mv 4 (xi 23))]
def c86r5 : List GI := [xo (.mv 4 (xi 0))]
def c86 : AC := (.seq (.reg c86r0 [0, 3]) (.seq (.block 0 (.seq (.reg c86r1 [0, 3, 5]) (.cond (xt 5) (.seq (.reg c86r2 [4]) .ret) (.seq (.regD c86r3 [10] [[], [0], [], [], [2, 3], [0, 1, 2, 3, 4], [0, 1, 2, 3, 4, 5]]) (.cond (xt 10) (.seq (.reg c86r4 [4]) .ret) .skip))))) (.seq (.reg c86r5 [4]) .ret)))
def c86R : List AR := [.t 4]
theorem k86 : chkF Tryz.prog GLx 86 2 c86 c86R = true := by kernel_rfl
def c87r0 : List GI := [xo (.box 1 (xt 0)),
 xo (.mv 2 (xi 0))]
def c87r1 : List GI := [xa 5 1 0 1,
 xl 6 5 1,
 xb 7 .eql (xt 6) (xi 1),
 xm 8 7,
 xg 8 false (.p 9 (.faddr (xt 1) 0 1)),
 xg 8 false (.p 10 (.load (xt 9) 1 false)),
 xg 8 false (.p 11 (.bin .eql (xt 10) (xi 3))),
 xp 12 (.pick (xt 8) (.c (.v (.bool true))) (xt 11)),
 xm 3 12]
def c87r2 : List GI := [xa 13 1 4 3,
 xa 14 13 0 1,
 xl 15 14 1,
 xp 16 (.alen (xt 15)),
 xa 17 1 4 3,
 xa 18 17 1 1,
 xl 19 18 1,
 xp 20 (.alen (xt 19)),
 xb 21 .add (xt 16) (xt 20),
 xa 22 1 4 3,
 xa 23 22 2 1,
 xl 24 23 1,
 xp 25 (.alen (xt 24)),
 xb 26 .add (xt 21) (xt 25),
 xb 27 .eql (xt 26) (xi 0),
 xm 4 27]
def c87r3 : List GI := [xa 29 1 0 1,
 xl 30 29 1,
 xb 31 .lss (xt 30) (xi 0),
 xm 32 31,
 xg 32 false (.p 33 (.faddr (xt 1) 0 1)),
 xg 32 false (.p 34 (.load (xt 33) 1 false)),
 xg 32 false (.p 35 (.bin .gtr (xt 34) (xi 3))),
 xp 36 (.pick (xt 32) (.c (.v (.bool true))) (xt 35)),
 xm 28 36]
def c87r4 : List GI := [xa 37 1 0 1,
 xl 38 37 1,
 xb 39 .neq (xt 38) (xi 0),
 xm 40 39,
 xg 40 true (.p 41 (.faddr (xt 1) 1 1)),
 xg 40 true (.p 42 (.load (xt 41) 1 false)),
 xg 40 true (.p 43 (.bin .neq (xt 42) (xi 0))),
 xp 44 (.pick (xt 40) (xt 43) (.c (.v (.bool false)))),
 xm 28 44]
def c87r5 : List GI := [xa 45 1 0 1,
 xl 46 45 1,
 xb 47 .neq (xt 46) (xi 2),
 xm 48 47,
 xg 48 true (.p 49 (.faddr (xt 1) 2 1)),
 xg 48 true (.p 50 (.load (xt 49) 1 false)),
 xg 48 true (.p 51 (.bin .neq (xt 50) (xi 0))),
 xg 48 true (.mv 52 (xt 51)),
 xg 52 false (.p 53 (.faddr (xt 1) 9 1)),
 xg 52 false (.p 54 (.load (xt 53) 1 false)),
 xg 52 false (.p 55 (.alen (xt 54))),
 xg 52 false (.p 56 (.bin .gtr (xt 55) (xi 0))),
 xg 48 true (.p 57 (.pick (xt 52) (.c (.v (.bool true))) (xt 56))),
 xp 58 (.pick (xt 48) (xt 57) (.c (.v (.bool false)))),
 xm 28 58]
def c87r6 : List GI := [xa 59 1 0 1,
 xl 60 59 1,
 xb 61 .neq (xt 60) (xi 3),
 xm 62 61,
 xg 62 true (.p 63 (.faddr (xt 1) 3 1)),
 xg 62 true (.p 64 (.load (xt 63) 1 false)),
 xg 62 true (.p 65 (.bin .neq (xt 64) (xi 0))),
 xp 66 (.pick (xt 62) (xt 65) (.c (.v (.bool false)))),
 xm 28 66]
def c87r7 : List GI := [xm 67 3,
 xp 68 (.not (xt 67)),
 xm 69 68,
 xg 69 true (.mv 70 (xt 4)),
 xg 69 true (.p 71 (.not (xt 70))),
 xg 69 true (.mv 72 (xt 71)),
 xg 72 false (.p 73 (.faddr (xt 1) 8 1)),
 xg 72 false (.p 74 (.load (xt 73) 1 false)),
 xg 72 false (.p 75 (.alen (xt 74))),
 xg 72 false (.p 76 (.bin .gtr (xt 75) (xi 0))),
 xg 69 true (.p 77 (.pick (xt 72) (.c (.v (.bool true))) (xt 76))),
 xp 78 (.pick (xt 69) (xt 77) (.c (.v (.bool false)))),
 xm 28 78]
def c87r8 : List GI := [xo (.mv 2 (xi 1))]
def c87r9 : List GI := [xa 80 1 1 1,
 xl 81 80 1,
 xb 82 .lss (xt 81) (xi 0),
 xm 83 82,
 xg 83 false (.p 84 (.faddr (xt 1) 1 1)),
 xg 83 false (.p 85 (.load (xt 84) 1 false)),
 xg 83 false (.p 86 (.bin .gtr (xt 85) (xi 4095))),
 xp 87 (.pick (xt 83) (.c (.v (.bool true))) (xt 86)),
 xm 79 87]
def c87r10 : List GI := [xa 88 1 3 1,
 xl 89 88 1,
 xb 90 .lss (xt 89) (xi 0),
 xm 91 90,
 xg 91 false (.p 92 (.faddr (xt 1) 3 1)),
 xg 91 false (.p 93 (.load (xt 92) 1 false)),
 xg 91 false (.p 94 (.bin .gtr (xt 93) (xi 131072))),
 xp 95 (.pick (xt 91) (.c (.v (.bool true))) (xt 94)),
 xm 79 95]
def c87r11 : List GI := [xo (.mv 2 (xi 5))]
def c87r12 : List GI := [xa 97 1 0 1,
 xl 98 97 1,
 xb 99 .eql (xt 98) (xi 2),
 xm 100 99,
 xg 100 true (.p 101 (.faddr (xt 1) 2 1)),
 xg 100 true (.p 102 (.load (xt 101) 1 false)),
 xg 100 true (.p 103 (.bin .lss (xt 102) (xi 1))),
 xg 100 true (.mv 104 (xt 103)),
 xg 104 false (.p 105 (.faddr (xt 1) 2 1)),
 xg 104 false (.p 106 (.load (xt 105) 1 false)),
 xg 104 false (.p 107 (.bin .gtr (xt 106) (xi 4095))),
 xg 100 true (.p 108 (.pick (xt 104) (.c (.v (.bool true))) (xt 107))),
 xp 109 (.pick (xt 100) (xt 108) (.c (.v (.bool false)))),
 xm 96 109]
def c87r13 : List GI := [xo (.mv 2 (xi 1))]
def c87r14 : List GI := [xo (.mv 2 (xi 0))]
def c87 : AC := (.seq (.reg c87r0 [1]) (.seq (.reg c87r1 [1, 3]) (.seq (.reg c87r2 [1, 3, 4]) (.seq (.block 0 (.seq (.seq (.reg c87r3 [1, 3, 4, 28]) (.cond (xt 28) .skip (.seq (.reg c87r4 [1, 3, 4, 28]) (.cond (xt 28) .skip (.seq (.reg c87r5 [1, 3, 4, 28]) (.cond (xt 28) .skip (.seq (.reg c87r6 [1, 3, 4, 28]) (.cond (xt 28) .skip (.reg c87r7 [1, 28]))))))))) (.cond (xt 28) (.seq (.reg c87r8 [2]) .ret) (.seq (.seq (.reg c87r9 [1, 79]) (.cond (xt 79) .skip (.reg c87r10 [1, 79]))) (.cond (xt 79) (.seq (.reg c87r11 [2]) .ret) (.seq (.reg c87r12 [96]) (.cond (xt 96) (.seq (.reg c87r13 [2]) .ret) .skip))))))) (.seq (.reg c87r14 [2]) .ret)))))
def c87R : List AR := [.t 2]
theorem k87 : chkF Tryz.prog GLx 87 1 c87 c87R = true := by kernel_rfl
def c88r0 : List GI := [xo (.box 1 (xt 0)),
 xo (.mv 2 (xi 0)),
 xo (.mv 3 (xi 0))]
def c88r1 : List GI := [xa 4 1 0 1,
 xl 5 4 1,
 xb 6 .eql (xt 5) (xi 0)]
def c88r2 : List GI := [xa 7 1 1 1,
 xl 8 7 1,
 xa 9 1 1 1,
 xl 10 9 1,
 xm 2 8,
 xm 3 10]
def c88r3 : List GI := [xo (.mv 2 (xi 0)),
 xo (.mv 3 (xi 4095))]
def c88 : AC := (.seq (.reg c88r0 [1]) (.seq (.seq (.reg c88r1 [1, 6]) (.cond (xt 6) (.seq (.regD c88r2 [2, 3] [[], [0], [], [2], [0, 1], [0, 1, 2, 3, 4]]) .ret) .skip)) (.seq (.reg c88r3 [2, 3]) .ret)))
def c88R : List AR := [.t 2, .t 3]
theorem k88 : chkF Tryz.prog GLx 88 1 c88 c88R = true := by kernel_rfl
def c89r0 : List GI := [xo (.box 9 (xt 4)),
 xo (.mv 10 (xi 0))]
def c89r1 : List GI := [xm 15 1,
 xm 16 2,
 xc 17 177 [(xt 15), (xt 16)],
 xp 18 (.not (xt 17)),
 xm 14 18]
def c89r2 : List GI := [xo (.mv 10 (xi 5))]
def c89r3 : List GI := [xm 20 1,
 xm 21 2,
 xm 22 3,
 xc 23 178 [(xt 20), (xt 21), (xt 22)],
 xm 19 23]
def c89r4 : List GI := [xo (.mv 10 (xi 1))]
def c89r5 : List GI := [xm 25 1,
 xm 26 2,
 xn 27 3,
 xp 28 (.load (xt 9) 3 true),
 xc 29 179 [(xt 25), (xt 26), (xt 27), (xt 28)],
 xn 24 29,
 xe 30 24 0,
 xe 31 24 1,
 xo (.alloc 11 [.v .nilm]),
 xo (.store (xt 11) (xt 30) 1),
 xm 12 31]
def c89r6 : List GI := [xm 32 12,
 xp 33 (.not (xt 32))]
def c89r7 : List GI := [xo (.mv 10 (xi 2))]
def c89r8 : List GI := [xo (.alloc 13 [.v .nilf])]
def c89r9 : List GI := [xp 34 (.mkf 180 [(xt 11), (xt 13)]),
 xo (.store (xt 13) (xt 34) 1)]
def c89r10 : List GI := [xl 35 13 1,
 xp 36 (.load (.g 0 [.int .i64 12, .int .i64 0]) 2 true),
 xo (.call (some 37) (xt 35) [(xt 36)]),
 xp 38 (.fld (xt 37) 0 1 false),
 xm 39 0,
 xb 40 .neq (xt 38) (xt 39)]
def c89r11 : List GI := [xo (.mv 10 (xi 10))]
def c89r12 : List GI := [xo (.mv 10 (xi 0))]
def c89 : AC := (.seq (.reg c89r0 [0, 1, 2, 3, 9]) (.seq (.block 0 (.seq (.reg c89r1 [0, 1, 2, 3, 9, 14]) (.cond (xt 14) (.seq (.reg c89r2 [10]) .ret) (.seq (.reg c89r3 [0, 1, 2, 3, 9, 19]) (.cond (xt 19) (.seq (.reg c89r4 [10]) .ret) .skip))))) (.seq (.reg c89r5 [0, 11, 12]) (.seq (.seq (.reg c89r6 [0, 11, 33]) (.cond (xt 33) (.seq (.reg c89r7 [10]) .ret) .skip)) (.seq (.reg c89r8 [0, 11, 13]) (.seq (.reg c89r9 [0, 13]) (.seq (.seq (.reg c89r10 [40]) (.cond (xt 40) (.seq (.reg c89r11 [10]) .ret) .skip)) (.seq (.reg c89r12 [10]) .ret))))))))
def c89R : List AR := [.t 10]
theorem k89 : chkF Tryz.prog GLx 89 5 c89 c89R = true := by kernel_rfl
def c90r0 : List GI := [xo (.box 3 (xt 1)),
 xo (.mv 4 (.c (.own 76 2 []))),
 xo (.mv 5 (.c (.own 3 1 []))),
 xo (.mv 6 (xi 0))]
def c90r1 : List GI := [xa 17 3 0 1,
 xl 18 17 1]
def c90r2 : List GI := [xb 20 .eql (xt 18) (xi 2),
 xm 19 20]
def c90r3 : List GI := [xo (.mv 7 (.c (.own 3 1 [])))]
def c90r4 : List GI := [xa 21 3 7 1,
 xl 22 21 1,
 xp 23 (.alen (xt 22)),
 xo (.mv 24 (xi 0))]
def c90r5 : List GI := [xb 25 .lss (xt 24) (xt 23)]
def c90r6 : List GI := [xp 26 (.iaddr (xt 22) (xt 24) 8),
 xp 27 (.load (xt 26) 8 true),
 xo (.alloc 9 [.v (.int .i64 0), .v (.int .i64 0), .v (.int .i64 0), .own 130 5 [], .own 88 4 [], .own 3 1 [], .own 246 3 [], .own 247 4 []]),
 xo (.store (xt 9) (xt 27) 8)]
def c90r7 : List GI := [xa 28 9 6 1,
 xl 29 28 1,
 xp 30 (.mkf 184 [(xt 3)]),
 xc 31 183 [(xt 29), (xt 30)]]
def c90r8 : List GI := [xn 32 7,
 xa 33 9 0 1,
 xl 34 33 1,
 xo (.bsl 35 3 1 [(xt 34)]),
 xo (.app 36 (xu 32) (xt 35) 3 1 8),
 xn 7 36]
def c90r9 : List GI := [xb 37 .add (xt 24) (xi 1),
 xm 24 37]
def c90l0 : AC := (.seq (.reg c90r5 [3, 7, 22, 23, 24, 25]) (.seq (.cond (xt 25) .skip (.exit 1)) (.seq (.block 2 (.seq (.reg c90r6 [3, 7, 9, 22, 23, 24]) (.seq (.reg c90r7 [3, 7, 9, 22, 23, 24, 31]) (.cond (xt 31) (.reg c90r8 [3, 7, 22, 23, 24]) .skip)))) (.reg c90r9 [3, 7, 22, 23, 24]))))
def c90r10 : List GI := [xn 38 7,
 xo (.mv 4 (.c (.own 76 2 []))),
 xn 5 38,
 xo (.mv 6 (xi 0))]
def c90r11 : List GI := [xb 40 .eql (xt 18) (xi 1),
 xm 39 40]
def c90r12 : List GI := [xb 41 .eql (xt 18) (xi 3),
 xm 39 41]
def c90r13 : List GI := [xm 43 0,
 xa 44 3 7 1,
 xl 45 44 1,
 xa 46 3 4 3,
 xp 47 (.load (xt 46) 3 true),
 xc 48 185 [(xt 43), (xt 45), (xt 47)],
 xn 42 48,
 xe 49 42 0,
 xe 50 42 1,
 xn 10 49,
 xm 11 50]
def c90r14 : List GI := [xm 51 11,
 xb 52 .neq (xt 51) (xi 0),
 xm 53 52,
 xg 53 false (.p 54 (.faddr (xt 3) 0 1)),
 xg 53 false (.p 55 (.load (xt 54) 1 false)),
 xg 53 false (.p 56 (.bin .eql (xt 55) (xi 1))),
 xp 57 (.pick (xt 53) (.c (.v (.bool true))) (xt 56))]
def c90r15 : List GI := [xn 58 10,
 xm 59 11,
 xn 4 58,
 xo (.mv 5 (.c (.own 3 1 []))),
 xm 6 59]
def c90r16 : List GI := [xo (.mv 12 (.c (.own 76 2 [])))]
def c90r17 : List GI := [xn 60 10,
 xp 61 (.alen (xt 60)),
 xo (.mv 62 (xi 0))]
def c90r18 : List GI := [xb 63 .lss (xt 62) (xt 61)]
def c90r19 : List GI := [xp 64 (.iaddr (xt 60) (xt 62) 2),
 xp 65 (.load (xt 64) 2 true),
 xo (.alloc 14 [.v (.int .i64 0), .v (.int .i64 0)]),
 xo (.store (xt 14) (xt 65) 2)]
def c90r20 : List GI := [xm 67 0,
 xp 68 (.load (xt 3) 13 true),
 xp 69 (.load (xt 14) 2 true),
 xc 70 186 [(xt 67), (xt 68), (xt 69)],
 xn 66 70,
 xe 71 66 0,
 xe 72 66 1,
 xm 15 71,
 xm 16 72]
def c90r21 : List GI := [xm 73 16,
 xb 74 .neq (xt 73) (xi 0)]
def c90r22 : List GI := [xm 75 16,
 xo (.mv 4 (.c (.own 76 2 []))),
 xo (.mv 5 (.c (.own 3 1 []))),
 xm 6 75]
def c90r23 : List GI := [xm 76 15]
def c90r24 : List GI := [xn 77 12,
 xp 78 (.load (xt 14) 2 true),
 xo (.bsl 79 76 2 [(xt 78)]),
 xo (.app 80 (xu 77) (xt 79) 76 2 16),
 xn 12 80]
def c90r25 : List GI := [xb 81 .add (xt 62) (xi 1),
 xm 62 81]
def c90l1 : AC := (.seq (.reg c90r18 [0, 3, 12, 60, 61, 62, 63]) (.seq (.cond (xt 63) .skip (.exit 3)) (.seq (.block 4 (.seq (.reg c90r19 [0, 3, 12, 14, 60, 61, 62]) (.seq (.reg c90r20 [0, 3, 12, 14, 15, 16, 60, 61, 62]) (.seq (.seq (.reg c90r21 [0, 3, 12, 14, 15, 16, 60, 61, 62, 74]) (.cond (xt 74) (.seq (.reg c90r22 [4, 5, 6]) .ret) .skip)) (.seq (.reg c90r23 [0, 3, 12, 14, 60, 61, 62, 76]) (.cond (xt 76) (.reg c90r24 [0, 3, 12, 60, 61, 62]) .skip)))))) (.reg c90r25 [0, 3, 12, 60, 61, 62]))))
def c90r26 : List GI := [xn 82 12,
 xn 4 82,
 xo (.mv 5 (.c (.own 3 1 []))),
 xo (.mv 6 (xi 0))]
def c90r27 : List GI := [xo (.mv 4 (.c (.own 76 2 []))),
 xo (.mv 5 (.c (.own 3 1 []))),
 xo (.mv 6 (xi 0))]
def c90 : AC := (.seq (.reg c90r0 [0, 3]) (.seq (.seq (.reg c90r1 [0, 3, 18]) (.block 0 (.seq (.reg c90r2 [0, 3, 18, 19]) (.cond (xt 19) (.seq (.reg c90r3 [3, 7]) (.seq (.seq (.reg c90r4 [3, 7, 22, 23, 24]) (.block 1 (.loop c90l0))) (.seq (.reg c90r10 [4, 5, 6]) .ret))) (.seq (.seq (.reg c90r11 [0, 3, 18, 39]) (.cond (xt 39) .skip (.reg c90r12 [0, 3, 39]))) (.cond (xt 39) (.seq (.reg c90r13 [0, 3, 10, 11]) (.seq (.seq (.reg c90r14 [0, 3, 10, 11, 57]) (.cond (xt 57) (.seq (.reg c90r15 [4, 5, 6]) .ret) .skip)) (.seq (.reg c90r16 [0, 3, 10, 12]) (.seq (.seq (.reg c90r17 [0, 3, 12, 60, 61, 62]) (.block 3 (.loop c90l1))) (.seq (.reg c90r26 [4, 5, 6]) .ret))))) .skip)))))) (.seq (.reg c90r27 [4, 5, 6]) .ret)))
def c90R : List AR := [.t 4, .t 5, .t 6]
theorem k90 : chkF Tryz.prog GLx 90 2 c90 c90R = true := by kernel_rfl
def c91r0 : List GI := [xo (.mv 4 (.c (.v (.bool false))))]
def c91r1 : List GI := [xm 6 0,
 xp 7 (.alen (xt 6)),
 xm 8 1,
 xp 9 (.alen (xt 8)),
 xb 10 .neq (xt 7) (xt 9)]
def c91r2 : List GI := [xo (.mv 4 (.c (.v (.bool false))))]
def c91r3 : List GI := [xm 11 0,
 xp 12 (.alen (xt 11)),
 xo (.mv 13 (xi 0))]
def c91r4 : List GI := [xb 14 .lss (xt 13) (xt 12)]
def c91r5 : List GI := [xm 15 13,
 xm 5 15]
def c91r6 : List GI := [xm 16 0,
 xm 17 5,
 xp 18 (.iaddr (xt 16) (xt 17) 2),
 xp 19 (.load (xt 18) 2 true),
 xm 20 1,
 xm 21 5,
 xp 22 (.iaddr (xt 20) (xt 21) 2),
 xp 23 (.load (xt 22) 2 true),
 xp 24 (.eqA true [0, 0] (xt 19) (xt 23))]
def c91r7 : List GI := [xo (.mv 4 (.c (.v (.bool false))))]
def c91r8 : List GI := [xb 25 .add (xt 13) (xi 1),
 xm 13 25]
def c91l0 : AC := (.seq (.reg c91r4 [0, 1, 12, 13, 14]) (.seq (.cond (xt 14) .skip (.exit 0)) (.seq (.block 1 (.seq (.reg c91r5 [0, 1, 5, 12, 13]) (.seq (.regD c91r6 [0, 1, 12, 13, 24] [[], [], [0, 1], [0, 1, 2], [], [], [4, 5], [4, 5, 6], [0, 1, 2, 3, 4, 5, 6, 7]]) (.cond (xt 24) (.seq (.reg c91r7 [4]) .ret) .skip)))) (.reg c91r8 [0, 1, 12, 13]))))
def c91r9 : List GI := [xo (.mv 4 (.c (.v (.bool true))))]
def c91 : AC := (.seq (.reg c91r0 [0, 1]) (.seq (.seq (.reg c91r1 [0, 1, 10]) (.cond (xt 10) (.seq (.reg c91r2 [4]) .ret) .skip)) (.seq (.seq (.reg c91r3 [0, 1, 12, 13]) (.block 0 (.loop c91l0))) (.seq (.reg c91r9 [4]) .ret))))
def c91R : List AR := [.t 4]
theorem k91 : chkF Tryz.prog GLx 91 2 c91 c91R = true := by kernel_rfl
def c92r0 : List GI := [xo (.mv 4 (.c (.v (.bool false))))]
def c92r1 : List GI := [xm 6 0,
 xp 7 (.alen (xt 6)),
 xm 8 1,
 xp 9 (.alen (xt 8)),
 xb 10 .neq (xt 7) (xt 9)]
def c92r2 : List GI := [xo (.mv 4 (.c (.v (.bool false))))]
def c92r3 : List GI := [xm 11 0,
 xp 12 (.alen (xt 11)),
 xo (.mv 13 (xi 0))]
def c92r4 : List GI := [xb 14 .lss (xt 13) (xt 12)]
def c92r5 : List GI := [xm 15 13,
 xm 5 15]
def c92r6 : List GI := [xm 16 0,
 xm 17 5,
 xp 18 (.iaddr (xt 16) (xt 17) 1),
 xl 19 18 1,
 xm 20 1,
 xm 21 5,
 xp 22 (.iaddr (xt 20) (xt 21) 1),
 xl 23 22 1,
 xb 24 .neq (xt 19) (xt 23)]
def c92r7 : List GI := [xo (.mv 4 (.c (.v (.bool false))))]
def c92r8 : List GI := [xb 25 .add (xt 13) (xi 1),
 xm 13 25]
def c92l0 : AC := (.seq (.reg c92r4 [0, 1, 12, 13, 14]) (.seq (.cond (xt 14) .skip (.exit 0)) (.seq (.block 1 (.seq (.reg c92r5 [0, 1, 5, 12, 13]) (.seq (.regD c92r6 [0, 1, 12, 13, 24] [[], [], [0, 1], [0, 1, 2], [], [], [4, 5], [4, 5, 6], [0, 1, 2, 3, 4, 5, 6, 7]]) (.cond (xt 24) (.seq (.reg c92r7 [4]) .ret) .skip)))) (.reg c92r8 [0, 1, 12, 13]))))
def c92r9 : List GI := [xo (.mv 4 (.c (.v (.bool true))))]
def c92 : AC := (.seq (.reg c92r0 [0, 1]) (.seq (.seq (.reg c92r1 [0, 1, 10]) (.cond (xt 10) (.seq (.reg c92r2 [4]) .ret) .skip)) (.seq (.seq (.reg c92r3 [0, 1, 12, 13]) (.block 0 (.loop c92l0))) (.seq (.reg c92r9 [4]) .ret))))
def c92R : List AR := [.t 4]
theorem k92 : chkF Tryz.prog GLx 92 2 c92 c92R = true := by kernel_rfl
def c95r0 : List GI := [xo (.box 3 (xt 1)),
 xo (.mv 4 (xj 0))]
def c95r1 : List GI := [xm 6 0,
 xp 7 (.cint .i64 (xt 6)),
 xa 8 3 0 1,
 xl 9 8 1,
 xa 10 3 1 1,
 xl 11 10 1,
 xa 12 3 2 1,
 xl 13 12 1,
 xa 14 3 3 1,
 xl 15 14 1,
 xa 16 3 4 1,
 xl 17 16 1,
 xp 18 (.cint .i64 (xt 17)),
 xa 19 3 5 1,
 xl 20 19 1,
 xp 21 (.cint .i64 (xt 20)),
 xa 22 3 6 1,
 xl 23 22 1,
 xo (.bsl 24 3 1 [(xt 7), (xt 9), (xt 11), (xt 13), (xt 15), (xt 18), (xt 21), (xt 23)]),
 xn 5 24]
def c95r2 : List GI := [xn 25 5,
 xc 26 96 [(.c (.v (.str ⟨#[115, 105, 103, 110]⟩))), (xt 25)],
 xm 4 26]
def c95 : AC := (.seq (.reg c95r0 [0, 3]) (.seq (.reg c95r1 [5]) (.seq (.reg c95r2 [4]) .ret)))
def c95R : List AR := [.t 4]
theorem k95 : chkF Tryz.prog GLx 95 2 c95 c95R = true := by kernel_rfl
end Go.Va

namespace Go.Va
open Go.Proofs
def c96r0 : List GI := [xo (.mv 4 (xj 0))]
def c96r1 : List GI := [xo (.alloc 5 [.v (.int .u64 0)]),
 xo (.store (xt 5) (xj 0) 1)]
def c96r2 : List GI := [xm 9 0,
 xc 10 189 [(xt 9)]]
def c96r3 : List GI := [xm 6 11]
def c96r4 : List GI := [xl 12 5 1,
 xm 13 6,
 xc 14 190 [(xt 12), (xt 13)],
 xo (.store (xt 5) (xt 14) 1)]
def c96a0 : AC := (.reg c96r3 [5, 6])
def c96b0 : AC := (.block 1 (.reg c96r4 []))
def c96r5 : List GI := [xl 15 5 1,
 xm 16 0,
 xp 17 (.lenS (xt 16)),
 xp 18 (.cint .u64 (xt 17)),
 xc 19 190 [(xt 15), (xt 18)],
 xm 20 1,
 xp 21 (.alen (xt 20)),
 xp 22 (.cint .u64 (xt 21)),
 xc 23 190 [(xt 19), (xt 22)],
 xo (.store (xt 5) (xt 23) 1)]
def c96r6 : List GI := [xn 24 1,
 xp 25 (.alen (xt 24)),
 xo (.mv 26 (xi 0))]
def c96r7 : List GI := [xb 27 .lss (xt 26) (xt 25)]
def c96r8 : List GI := [xp 28 (.iaddr (xt 24) (xt 26) 1),
 xl 29 28 1,
 xm 8 29]
def c96r9 : List GI := [xl 30 5 1,
 xm 31 8,
 xp 32 (.cint .u64 (xt 31)),
 xc 33 190 [(xt 30), (xt 32)],
 xo (.store (xt 5) (xt 33) 1)]
def c96r10 : List GI := [xb 34 .add (xt 26) (xi 1),
 xm 26 34]
def c96l1 : AC := (.seq (.reg c96r7 [5, 24, 25, 26, 27]) (.seq (.cond (xt 27) .skip (.exit 2)) (.seq (.block 3 (.seq (.reg c96r8 [5, 8, 24, 25, 26]) (.reg c96r9 [5, 24, 25, 26]))) (.reg c96r10 [5, 24, 25, 26]))))
def c96r11 : List GI := [xl 35 5 1,
 xc 36 190 [(xt 35), (xj 0)],
 xm 4 36]
def c96 : AC := (.seq (.reg c96r0 [0, 1]) (.seq (.reg c96r1 [0, 1, 5]) (.seq (.seq (.reg c96r2 [0, 1, 5, 10]) (.block 0 (.rangeF (xt 10) [11] c96a0 c96b0))) (.seq (.reg c96r5 [1, 5]) (.seq (.seq (.reg c96r6 [5, 24, 25, 26]) (.block 2 (.loop c96l1))) (.seq (.reg c96r11 [4]) .ret))))))
def c96R : List AR := [.t 4]
theorem k96 : chkF Tryz.prog GLx 96 2 c96 c96R = true := by kernel_rfl
def c98r0 : List GI := [xm 4 0,
 xm 5 1,
 xc 6 193 [(xt 5)],
 xc 7 192 [(xt 4), (xt 6)]]
def c98 : AC := (.reg c98r0 [])
def c98R : List AR := []
theorem k98 : chkF Tryz.prog GLx 98 2 c98 c98R = true := by kernel_rfl
def c99r0 : List GI := [xm 4 0,
 xn 5 1,
 xp 6 (.b2s (xt 5)),
 xc 7 194 [(xt 4), (xt 6)]]
def c99 : AC := (.reg c99r0 [])
def c99R : List AR := []
theorem k99 : chkF Tryz.prog GLx 99 2 c99 c99R = true := by kernel_rfl
def c100r0 : List GI := [xm 6 0,
 xm 7 1,
 xp 8 (.alen (xt 7)),
 xp 9 (.cint .u64 (xt 8)),
 xc 10 192 [(xt 6), (xt 9)]]
def c100r1 : List GI := [xn 11 1,
 xp 12 (.alen (xt 11)),
 xo (.mv 13 (xi 0))]
def c100r2 : List GI := [xb 14 .lss (xt 13) (xt 12)]
def c100r3 : List GI := [xp 15 (.iaddr (xt 11) (xt 13) 1),
 xl 16 15 1,
 xm 5 16]
def c100r4 : List GI := [xm 17 0,
 xm 18 5,
 xc 19 98 [(xt 17), (xt 18)]]
def c100r5 : List GI := [xb 20 .add (xt 13) (xi 1),
 xm 13 20]
def c100l0 : AC := (.seq (.reg c100r2 [0, 11, 12, 13, 14]) (.seq (.cond (xt 14) .skip (.exit 0)) (.seq (.block 1 (.seq (.reg c100r3 [0, 5, 11, 12, 13]) (.reg c100r4 [0, 11, 12, 13]))) (.reg c100r5 [0, 11, 12, 13]))))
def c100 : AC := (.seq (.reg c100r0 [0, 1]) (.seq (.reg c100r1 [0, 11, 12, 13]) (.block 0 (.loop c100l0))))
def c100R : List AR := []
theorem k100 : chkF Tryz.prog GLx 100 2 c100 c100R = true := by kernel_rfl
def c102r0 : List GI := [xo (.mv 2 (.c (.own 5 1 [])))]
def c102r1 : List GI := [xm 3 0,
 xp 4 (.nilc (xt 3)),
 xa 5 4 0 1,
 xl 6 5 1,
 xc 7 117 [(xt 6)],
 xn 2 7]
def c102 : AC := (.seq (.reg c102r0 [0]) (.seq (.reg c102r1 [2]) .ret))
def c102R : List AR := [.t 2]
theorem k102 : chkF Tryz.prog GLx 102 1 c102 c102R = true := by kernel_rfl
def c104r0 : List GI := [xo (.mv 2 (.c (.own 5 1 [])))]
def c104r1 : List GI := [xm 3 0,
 xc 4 199 [(xt 3)],
 xc 5 198 [(xt 4)],
 xn 2 5]
def c104 : AC := (.seq (.reg c104r0 [0]) (.seq (.reg c104r1 [2]) .ret))
def c104R : List AR := [.t 2]
theorem k104 : chkF Tryz.prog GLx 104 1 c104 c104R = true := by kernel_rfl
def c105r0 : List GI := [xo (.mv 2 (.c (.own 5 1 [])))]
def c105r1 : List GI := [xm 3 0,
 xp 4 (.alen (xt 3)),
 xp 5 (.cint .u64 (xt 4)),
 xc 6 198 [(xt 5)],
 xn 7 0,
 xo (.app 8 (xu 6) (xt 7) 5 1 1),
 xn 2 8]
def c105 : AC := (.seq (.reg c105r0 [0]) (.seq (.reg c105r1 [2]) .ret))
def c105R : List AR := [.t 2]
theorem k105 : chkF Tryz.prog GLx 105 1 c105 c105R = true := by kernel_rfl
def c107r0 : List GI := [xo (.mv 2 (.c (.own 5 1 [])))]
def c107r1 : List GI := [xm 5 0,
 xp 6 (.alen (xt 5)),
 xp 7 (.cint .u64 (xt 6)),
 xc 8 198 [(xt 7)],
 xn 3 8]
def c107r2 : List GI := [xo (.mv 4 (xi 0))]
def c107r3 : List GI := [xm 9 4,
 xm 10 0,
 xp 11 (.alen (xt 10)),
 xb 12 .lss (xt 9) (xt 11)]
def c107r5 : List GI := [xn 15 3,
 xm 16 0,
 xm 17 4,
 xp 18 (.iaddr (xt 16) (xt 17) 1),
 xl 19 18 1,
 xc 20 104 [(xt 19)],
 xo (.app 21 (xu 15) (xt 20) 5 1 1),
 xn 3 21]
def c107r4 : List GI := [xm 13 4,
 xb 14 .add (xt 13) (xi 1),
 xm 4 14]
def c107l0 : AC := (.seq (.seq (.reg c107r3 [0, 3, 4, 12]) (.cond (xt 12) .skip (.exit 0))) (.seq (.block 1 (.reg c107r5 [0, 3, 4])) (.reg c107r4 [0, 3, 4])))
def c107r6 : List GI := [xn 22 3,
 xn 2 22]
def c107 : AC := (.seq (.reg c107r0 [0]) (.seq (.reg c107r1 [0, 3]) (.seq (.seq (.reg c107r2 [0, 3, 4]) (.block 0 (.loop c107l0))) (.seq (.reg c107r6 [2]) .ret))))
def c107R : List AR := [.t 2]
theorem k107 : chkF Tryz.prog GLx 107 1 c107 c107R = true := by kernel_rfl
def c117r0 : List GI := [xo (.mv 2 (.c (.own 5 1 [])))]
def c117r1 : List GI := [xm 3 0,
 xo (.nilS 4 false (xt 3))]
def c117r2 : List GI := [xo (.mv 2 (.c (.own 5 1 [])))]
def c117r3 : List GI := [xo (.bsl 5 5 1 []),
 xn 6 0,
 xo (.app 7 (xu 5) (xt 6) 5 1 1),
 xn 2 7]
def c117 : AC := (.seq (.reg c117r0 [0]) (.seq (.seq (.reg c117r1 [0, 4]) (.cond (xt 4) (.seq (.reg c117r2 [2]) .ret) .skip)) (.seq (.reg c117r3 [2]) .ret)))
def c117R : List AR := [.t 2]
theorem k117 : chkF Tryz.prog GLx 117 1 c117 c117R = true := by kernel_rfl
def c120r0 : List GI := [xo (.box 2 (xt 0)),
 xo (.mv 4 (.c (.v (.bool false))))]
def c120r1 : List GI := [xn 5 1,
 xp 6 (.mkf 208 [(xt 2)]),
 xc 7 151 [(xt 5), (xt 6)],
 xp 8 (.not (xt 7)),
 xm 4 8]
def c120 : AC := (.seq (.reg c120r0 [1, 2]) (.seq (.reg c120r1 [4]) .ret))
def c120R : List AR := [.t 4]
theorem k120 : chkF Tryz.prog GLx 120 2 c120 c120R = true := by kernel_rfl
def c121r0 : List GI := [xo (.mv 2 (.c (.v (.bool false))))]
def c121r1 : List GI := [xm 3 0,
 xc 4 209 [(xt 3)],
 xm 5 4,
 xg 5 true (.mv 6 (xt 0)),
 xg 5 true (.call (some 7) (xf 122) [(xt 6)]),
 xg 5 true (.call (some 8) (xf 210) [(xt 7)]),
 xg 5 true (.p 9 (.alen (xt 8))),
 xg 5 true (.mv 10 (xu 0)),
 xg 5 true (.p 11 (.alen (xt 10))),
 xg 5 true (.p 12 (.bin .eql (xt 9) (xt 11))),
 xp 13 (.pick (xt 5) (xt 12) (.c (.v (.bool false)))),
 xm 2 13]
def c121 : AC := (.seq (.reg c121r0 [0]) (.seq (.reg c121r1 [2]) .ret))
def c121R : List AR := [.t 2]
theorem k121 : chkF Tryz.prog GLx 121 1 c121 c121R = true := by kernel_rfl
def c122r0 : List GI := [xo (.mv 2 (.c (.own 3 1 [])))]
def c122r1 : List GI := [xm 3 0,
 xo (.nilS 4 false (xt 3))]
def c122r2 : List GI := [xo (.mv 2 (.c (.own 3 1 [])))]
def c122r3 : List GI := [xo (.bsl 5 3 1 []),
 xn 6 0,
 xo (.app 7 (xu 5) (xt 6) 3 1 8),
 xn 2 7]
def c122 : AC := (.seq (.reg c122r0 [0]) (.seq (.seq (.reg c122r1 [0, 4]) (.cond (xt 4) (.seq (.reg c122r2 [2]) .ret) .skip)) (.seq (.reg c122r3 [2]) .ret)))
def c122R : List AR := [.t 2]
theorem k122 : chkF Tryz.prog GLx 122 1 c122 c122R = true := by kernel_rfl
def c123r0 : List GI := [xo (.box 1 (xt 0)),
 xo (.mv 2 (.c (.v (.bool false))))]
def c123r1 : List GI := [xl 7 1 1,
 xp 8 (.nilc (xt 7)),
 xa 9 8 0 1,
 xl 10 9 1,
 xp 11 (.alen (xt 10)),
 xo (.mksl 12 (xt 11) (.v (.bool false))),
 xl 13 1 1,
 xp 14 (.nilc (xt 13)),
 xa 15 14 0 1,
 xl 16 15 1,
 xp 17 (.alen (xt 16)),
 xo (.mksl 18 (xt 17) (.v (.bool false))),
 xo (.alloc 3 [.own 4 1 []]),
 xo (.alloc 4 [.own 4 1 []]),
 xo (.store (xt 3) (xu 12) 1),
 xo (.store (xt 4) (xu 18) 1)]
def c123r2 : List GI := [xo (.alloc 5 [.v .nilf])]
def c123r3 : List GI := [xp 19 (.mkf 211 [(xt 3), (xt 4), (xt 1), (xt 5)]),
 xo (.store (xt 5) (xt 19) 1)]
def c123r4 : List GI := [xl 20 1 1,
 xp 21 (.nilc (xt 20)),
 xa 22 21 0 1,
 xl 23 22 1,
 xp 24 (.alen (xt 23)),
 xo (.mv 25 (xi 0))]
def c123r5 : List GI := [xb 26 .lss (xt 25) (xt 24)]
def c123r6 : List GI := [xm 27 25,
 xm 6 27]
def c123r7 : List GI := [xl 28 5 1,
 xm 29 6,
 xo (.call (some 30) (xt 28) [(xt 29)]),
 xp 31 (.not (xt 30))]
def c123r8 : List GI := [xo (.mv 2 (.c (.v (.bool false))))]
def c123r9 : List GI := [xb 32 .add (xt 25) (xi 1),
 xm 25 32]
def c123l0 : AC := (.seq (.reg c123r5 [5, 24, 25, 26]) (.seq (.cond (xt 26) .skip (.exit 0)) (.seq (.block 1 (.seq (.reg c123r6 [5, 6, 24, 25]) (.seq (.reg c123r7 [5, 24, 25, 31]) (.cond (xt 31) (.seq (.reg c123r8 [2]) .ret) .skip)))) (.reg c123r9 [5, 24, 25]))))
def c123r10 : List GI := [xo (.mv 2 (.c (.v (.bool true))))]
def c123 : AC := (.seq (.reg c123r0 [1]) (.seq (.regA c123r1 [1, 3, 4] [[], [0], [0, 1], [0, 1, 2], [0, 1, 2, 3], [0, 1, 2, 3, 4], [], [6], [6, 7], [6, 7, 8], [6, 7, 8, 9], [6, 7, 8, 9, 10], [], [], [0, 1, 2, 3, 4, 5, 12, 13], [0, 1, 2, 3, 4, 5, 6, 7, 8, 9, 10, 11, 12, 13, 14]] (.take 0 (.take 1 (.take 2 (.take 3 (.take 4 (.pick (.alt 5 (.pick (.alt 6 (.take 7 (.take 8 (.pick (.alt 9 (.take 10 (.pick (.alt 11 (.pick (.alt 12 (.take 13 (.take 14 (.take 15 .done))) (.alt 13 (.take 12 (.take 14 (.take 15 .done))) .none))) (.alt 12 (.pick (.alt 11 (.take 13 (.take 14 (.take 15 .done))) (.alt 13 (.pick (.alt 11 (.take 14 (.take 15 .done)) (.alt 14 (.take 11 (.take 15 .done)) .none))) .none))) (.alt 13 (.pick (.alt 11 (.take 12 (.take 14 (.take 15 .done))) (.alt 12 (.pick (.alt 11 (.take 14 (.take 15 .done)) (.alt 14 (.take 11 (.take 15 .done)) .none))) .none))) .none))))) (.alt 12 (.pick (.alt 9 (.take 10 (.pick (.alt 11 (.take 13 (.take 14 (.take 15 .done))) (.alt 13 (.pick (.alt 11 (.take 14 (.take 15 .done)) (.alt 14 (.take 11 (.take 15 .done)) .none))) .none)))) (.alt 13 (.pick (.alt 9 (.take 10 (.pick (.alt 11 (.take 14 (.take 15 .done)) (.alt 14 (.take 11 (.take 15 .done)) .none)))) (.alt 14 (.take 9 (.take 10 (.take 11 (.take 15 .done)))) .none))) .none))) (.alt 13 (.pick (.alt 9 (.take 10 (.pick (.alt 11 (.take 12 (.take 14 (.take 15 .done))) (.alt 12 (.pick (.alt 11 (.take 14 (.take 15 .done)) (.alt 14 (.take 11 (.take 15 .done)) .none))) .none)))) (.alt 12 (.pick (.alt 9 (.take 10 (.pick (.alt 11 (.take 14 (.take 15 .done)) (.alt 14 (.take 11 (.take 15 .done)) .none)))) (.alt 14 (.take 9 (.take 10 (.take 11 (.take 15 .done)))) .none))) .none))) .none)))))) (.alt 12 (.pick (.alt 6 (.take 7 (.take 8 (.pick (.alt 9 (.take 10 (.pick (.alt 11 (.take 13 (.take 14 (.take 15 .done))) (.alt 13 (.pick (.alt 11 (.take 14 (.take 15 .done)) (.alt 14 (.take 11 (.take 15 .done)) .none))) .none)))) (.alt 13 (.pick (.alt 9 (.take 10 (.pick (.alt 11 (.take 14 (.take 15 .done)) (.alt 14 (.take 11 (.take 15 .done)) .none)))) (.alt 14 (.take 9 (.take 10 (.take 11 (.take 15 .done)))) .none))) .none))))) (.alt 13 (.pick (.alt 6 (.take 7 (.take 8 (.pick (.alt 9 (.take 10 (.pick (.alt 11 (.take 14 (.take 15 .done)) (.alt 14 (.take 11 (.take 15 .done)) .none)))) (.alt 14 (.take 9 (.take 10 (.take 11 (.take 15 .done)))) .none))))) (.alt 14 (.take 6 (.take 7 (.take 8 (.take 9 (.take 10 (.take 11 (.take 15 .done))))))) .none))) .none))) (.alt 13 (.pick (.alt 6 (.take 7 (.take 8 (.pick (.alt 9 (.take 10 (.pick (.alt 11 (.take 12 (.take 14 (.take 15 .done))) (.alt 12 (.pick (.alt 11 (.take 14 (.take 15 .done)) (.alt 14 (.take 11 (.take 15 .done)) .none))) .none)))) (.alt 12 (.pick (.alt 9 (.take 10 (.pick (.alt 11 (.take 14 (.take 15 .done)) (.alt 14 (.take 11 (.take 15 .done)) .none)))) (.alt 14 (.take 9 (.take 10 (.take 11 (.take 15 .done)))) .none))) .none))))) (.alt 12 (.pick (.alt 6 (.take 7 (.take 8 (.pick (.alt 9 (.take 10 (.pick (.alt 11 (.take 14 (.take 15 .done)) (.alt 14 (.take 11 (.take 15 .done)) .none)))) (.alt 14 (.take 9 (.take 10 (.take 11 (.take 15 .done)))) .none))))) (.alt 14 (.take 6 (.take 7 (.take 8 (.take 9 (.take 10 (.take 11 (.take 15 .done))))))) .none))) .none))) .none)))) (.alt 6 (.take 7 (.take 8 (.pick (.alt 5 (.pick (.alt 9 (.take 10 (.pick (.alt 11 (.pick (.alt 12 (.take 13 (.take 14 (.take 15 .done))) (.alt 13 (.take 12 (.take 14 (.take 15 .done))) .none))) (.alt 12 (.pick (.alt 11 (.take 13 (.take 14 (.take 15 .done))) (.alt 13 (.pick (.alt 11 (.take 14 (.take 15 .done)) (.alt 14 (.take 11 (.take 15 .done)) .none))) .none))) (.alt 13 (.pick (.alt 11 (.take 12 (.take 14 (.take 15 .done))) (.alt 12 (.pick (.alt 11 (.take 14 (.take 15 .done)) (.alt 14 (.take 11 (.take 15 .done)) .none))) .none))) .none))))) (.alt 12 (.pick (.alt 9 (.take 10 (.pick (.alt 11 (.take 13 (.take 14 (.take 15 .done))) (.alt 13 (.pick (.alt 11 (.take 14 (.take 15 .done)) (.alt 14 (.take 11 (.take 15 .done)) .none))) .none)))) (.alt 13 (.pick (.alt 9 (.take 10 (.pick (.alt 11 (.take 14 (.take 15 .done)) (.alt 14 (.take 11 (.take 15 .done)) .none)))) (.alt 14 (.take 9 (.take 10 (.take 11 (.take 15 .done)))) .none))) .none))) (.alt 13 (.pick (.alt 9 (.take 10 (.pick (.alt 11 (.take 12 (.take 14 (.take 15 .done))) (.alt 12 (.pick (.alt 11 (.take 14 (.take 15 .done)) (.alt 14 (.take 11 (.take 15 .done)) .none))) .none)))) (.alt 12 (.pick (.alt 9 (.take 10 (.pick (.alt 11 (.take 14 (.take 15 .done)) (.alt 14 (.take 11 (.take 15 .done)) .none)))) (.alt 14 (.take 9 (.take 10 (.take 11 (.take 15 .done)))) .none))) .none))) .none)))) (.alt 9 (.take 10 (.pick (.alt 5 (.pick (.alt 11 (.pick (.alt 12 (.take 13 (.take 14 (.take 15 .done))) (.alt 13 (.take 12 (.take 14 (.take 15 .done))) .none))) (.alt 12 (.pick (.alt 11 (.take 13 (.take 14 (.take 15 .done))) (.alt 13 (.pick (.alt 11 (.take 14 (.take 15 .done)) (.alt 14 (.take 11 (.take 15 .done)) .none))) .none))) (.alt 13 (.pick (.alt 11 (.take 12 (.take 14 (.take 15 .done))) (.alt 12 (.pick (.alt 11 (.take 14 (.take 15 .done)) (.alt 14 (.take 11 (.take 15 .done)) .none))) .none))) .none)))) (.alt 11 (.pick (.alt 5 (.pick (.alt 12 (.take 13 (.take 14 (.take 15 .done))) (.alt 13 (.take 12 (.take 14 (.take 15 .done))) .none))) (.alt 12 (.pick (.alt 5 (.take 13 (.take 14 (.take 15 .done))) (.alt 13 (.take 5 (.take 14 (.take 15 .done))) .none))) (.alt 13 (.pick (.alt 5 (.take 12 (.take 14 (.take 15 .done))) (.alt 12 (.take 5 (.take 14 (.take 15 .done))) .none))) .none)))) (.alt 12 (.pick (.alt 5 (.pick (.alt 11 (.take 13 (.take 14 (.take 15 .done))) (.alt 13 (.pick (.alt 11 (.take 14 (.take 15 .done)) (.alt 14 (.take 11 (.take 15 .done)) .none))) .none))) (.alt 11 (.pick (.alt 5 (.take 13 (.take 14 (.take 15 .done))) (.alt 13 (.take 5 (.take 14 (.take 15 .done))) .none))) (.alt 13 (.pick (.alt 5 (.pick (.alt 11 (.take 14 (.take 15 .done)) (.alt 14 (.take 11 (.take 15 .done)) .none))) (.alt 11 (.take 5 (.take 14 (.take 15 .done))) .none))) .none)))) (.alt 13 (.pick (.alt 5 (.pick (.alt 11 (.take 12 (.take 14 (.take 15 .done))) (.alt 12 (.pick (.alt 11 (.take 14 (.take 15 .done)) (.alt 14 (.take 11 (.take 15 .done)) .none))) .none))) (.alt 11 (.pick (.alt 5 (.take 12 (.take 14 (.take 15 .done))) (.alt 12 (.take 5 (.take 14 (.take 15 .done))) .none))) (.alt 12 (.pick (.alt 5 (.pick (.alt 11 (.take 14 (.take 15 .done)) (.alt 14 (.take 11 (.take 15 .done)) .none))) (.alt 11 (.take 5 (.take 14 (.take 15 .done))) .none))) .none)))) .none)))))) (.alt 12 (.pick (.alt 5 (.pick (.alt 9 (.take 10 (.pick (.alt 11 (.take 13 (.take 14 (.take 15 .done))) (.alt 13 (.pick (.alt 11 (.take 14 (.take 15 .done)) (.alt 14 (.take 11 (.take 15 .done)) .none))) .none)))) (.alt 13 (.pick (.alt 9 (.take 10 (.pick (.alt 11 (.take 14 (.take 15 .done)) (.alt 14 (.take 11 (.take 15 .done)) .none)))) (.alt 14 (.take 9 (.take 10 (.take 11 (.take 15 .done)))) .none))) .none))) (.alt 9 (.take 10 (.pick (.alt 5 (.pick (.alt 11 (.take 13 (.take 14 (.take 15 .done))) (.alt 13 (.pick (.alt 11 (.take 14 (.take 15 .done)) (.alt 14 (.take 11 (.take 15 .done)) .none))) .none))) (.alt 11 (.pick (.alt 5 (.take 13 (.take 14 (.take 15 .done))) (.alt 13 (.take 5 (.take 14 (.take 15 .done))) .none))) (.alt 13 (.pick (.alt 5 (.pick (.alt 11 (.take 14 (.take 15 .done)) (.alt 14 (.take 11 (.take 15 .done)) .none))) (.alt 11 (.take 5 (.take 14 (.take 15 .done))) .none))) .none))))) (.alt 13 (.pick (.alt 5 (.pick (.alt 9 (.take 10 (.pick (.alt 11 (.take 14 (.take 15 .done)) (.alt 14 (.take 11 (.take 15 .done)) .none)))) (.alt 14 (.take 9 (.take 10 (.take 11 (.take 15 .done)))) .none))) (.alt 9 (.take 10 (.pick (.alt 5 (.pick (.alt 11 (.take 14 (.take 15 .done)) (.alt 14 (.take 11 (.take 15 .done)) .none))) (.alt 11 (.take 5 (.take 14 (.take 15 .done))) .none)))) .none))) .none)))) (.alt 13 (.pick (.alt 5 (.pick (.alt 9 (.take 10 (.pick (.alt 11 (.take 12 (.take 14 (.take 15 .done))) (.alt 12 (.pick (.alt 11 (.take 14 (.take 15 .done)) (.alt 14 (.take 11 (.take 15 .done)) .none))) .none)))) (.alt 12 (.pick (.alt 9 (.take 10 (.pick (.alt 11 (.take 14 (.take 15 .done)) (.alt 14 (.take 11 (.take 15 .done)) .none)))) (.alt 14 (.take 9 (.take 10 (.take 11 (.take 15 .done)))) .none))) .none))) (.alt 9 (.take 10 (.pick (.alt 5 (.pick (.alt 11 (.take 12 (.take 14 (.take 15 .done))) (.alt 12 (.pick (.alt 11 (.take 14 (.take 15 .done)) (.alt 14 (.take 11 (.take 15 .done)) .none))) .none))) (.alt 11 (.pick (.alt 5 (.take 12 (.take 14 (.take 15 .done))) (.alt 12 (.take 5 (.take 14 (.take 15 .done))) .none))) (.alt 12 (.pick (.alt 5 (.pick (.alt 11 (.take 14 (.take 15 .done)) (.alt 14 (.take 11 (.take 15 .done)) .none))) (.alt 11 (.take 5 (.take 14 (.take 15 .done))) .none))) .none))))) (.alt 12 (.pick (.alt 5 (.pick (.alt 9 (.take 10 (.pick (.alt 11 (.take 14 (.take 15 .done)) (.alt 14 (.take 11 (.take 15 .done)) .none)))) (.alt 14 (.take 9 (.take 10 (.take 11 (.take 15 .done)))) .none))) (.alt 9 (.take 10 (.pick (.alt 5 (.pick (.alt 11 (.take 14 (.take 15 .done)) (.alt 14 (.take 11 (.take 15 .done)) .none))) (.alt 11 (.take 5 (.take 14 (.take 15 .done))) .none)))) .none))) .none)))) .none))))))) (.alt 12 (.pick (.alt 5 (.pick (.alt 6 (.take 7 (.take 8 (.pick (.alt 9 (.take 10 (.pick (.alt 11 (.take 13 (.take 14 (.take 15 .done))) (.alt 13 (.pick (.alt 11 (.take 14 (.take 15 .done)) (.alt 14 (.take 11 (.take 15 .done)) .none))) .none)))) (.alt 13 (.pick (.alt 9 (.take 10 (.pick (.alt 11 (.take 14 (.take 15 .done)) (.alt 14 (.take 11 (.take 15 .done)) .none)))) (.alt 14 (.take 9 (.take 10 (.take 11 (.take 15 .done)))) .none))) .none))))) (.alt 13 (.pick (.alt 6 (.take 7 (.take 8 (.pick (.alt 9 (.take 10 (.pick (.alt 11 (.take 14 (.take 15 .done)) (.alt 14 (.take 11 (.take 15 .done)) .none)))) (.alt 14 (.take 9 (.take 10 (.take 11 (.take 15 .done)))) .none))))) (.alt 14 (.take 6 (.take 7 (.take 8 (.take 9 (.take 10 (.take 11 (.take 15 .done))))))) .none))) .none))) (.alt 6 (.take 7 (.take 8 (.pick (.alt 5 (.pick (.alt 9 (.take 10 (.pick (.alt 11 (.take 13 (.take 14 (.take 15 .done))) (.alt 13 (.pick (.alt 11 (.take 14 (.take 15 .done)) (.alt 14 (.take 11 (.take 15 .done)) .none))) .none)))) (.alt 13 (.pick (.alt 9 (.take 10 (.pick (.alt 11 (.take 14 (.take 15 .done)) (.alt 14 (.take 11 (.take 15 .done)) .none)))) (.alt 14 (.take 9 (.take 10 (.take 11 (.take 15 .done)))) .none))) .none))) (.alt 9 (.take 10 (.pick (.alt 5 (.pick (.alt 11 (.take 13 (.take 14 (.take 15 .done))) (.alt 13 (.pick (.alt 11 (.take 14 (.take 15 .done)) (.alt 14 (.take 11 (.take 15 .done)) .none))) .none))) (.alt 11 (.pick (.alt 5 (.take 13 (.take 14 (.take 15 .done))) (.alt 13 (.take 5 (.take 14 (.take 15 .done))) .none))) (.alt 13 (.pick (.alt 5 (.pick (.alt 11 (.take 14 (.take 15 .done)) (.alt 14 (.take 11 (.take 15 .done)) .none))) (.alt 11 (.take 5 (.take 14 (.take 15 .done))) .none))) .none))))) (.alt 13 (.pick (.alt 5 (.pick (.alt 9 (.take 10 (.pick (.alt 11 (.take 14 (.take 15 .done)) (.alt 14 (.take 11 (.take 15 .done)) .none)))) (.alt 14 (.take 9 (.take 10 (.take 11 (.take 15 .done)))) .none))) (.alt 9 (.take 10 (.pick (.alt 5 (.pick (.alt 11 (.take 14 (.take 15 .done)) (.alt 14 (.take 11 (.take 15 .done)) .none))) (.alt 11 (.take 5 (.take 14 (.take 15 .done))) .none)))) .none))) .none)))))) (.alt 13 (.pick (.alt 5 (.pick (.alt 6 (.take 7 (.take 8 (.pick (.alt 9 (.take 10 (.pick (.alt 11 (.take 14 (.take 15 .done)) (.alt 14 (.take 11 (.take 15 .done)) .none)))) (.alt 14 (.take 9 (.take 10 (.take 11 (.take 15 .done)))) .none))))) (.alt 14 (.take 6 (.take 7 (.take 8 (.take 9 (.take 10 (.take 11 (.take 15 .done))))))) .none))) (.alt 6 (.take 7 (.take 8 (.pick (.alt 5 (.pick (.alt 9 (.take 10 (.pick (.alt 11 (.take 14 (.take 15 .done)) (.alt 14 (.take 11 (.take 15 .done)) .none)))) (.alt 14 (.take 9 (.take 10 (.take 11 (.take 15 .done)))) .none))) (.alt 9 (.take 10 (.pick (.alt 5 (.pick (.alt 11 (.take 14 (.take 15 .done)) (.alt 14 (.take 11 (.take 15 .done)) .none))) (.alt 11 (.take 5 (.take 14 (.take 15 .done))) .none)))) .none))))) .none))) .none)))) (.alt 13 (.pick (.alt 5 (.pick (.alt 6 (.take 7 (.take 8 (.pick (.alt 9 (.take 10 (.pick (.alt 11 (.take 12 (.take 14 (.take 15 .done))) (.alt 12 (.pick (.alt 11 (.take 14 (.take 15 .done)) (.alt 14 (.take 11 (.take 15 .done)) .none))) .none)))) (.alt 12 (.pick (.alt 9 (.take 10 (.pick (.alt 11 (.take 14 (.take 15 .done)) (.alt 14 (.take 11 (.take 15 .done)) .none)))) (.alt 14 (.take 9 (.take 10 (.take 11 (.take 15 .done)))) .none))) .none))))) (.alt 12 (.pick (.alt 6 (.take 7 (.take 8 (.pick (.alt 9 (.take 10 (.pick (.alt 11 (.take 14 (.take 15 .done)) (.alt 14 (.take 11 (.take 15 .done)) .none)))) (.alt 14 (.take 9 (.take 10 (.take 11 (.take 15 .done)))) .none))))) (.alt 14 (.take 6 (.take 7 (.take 8 (.take 9 (.take 10 (.take 11 (.take 15 .done))))))) .none))) .none))) (.alt 6 (.take 7 (.take 8 (.pick (.alt 5 (.pick (.alt 9 (.take 10 (.pick (.alt 11 (.take 12 (.take 14 (.take 15 .done))) (.alt 12 (.pick (.alt 11 (.take 14 (.take 15 .done)) (.alt 14 (.take 11 (.take 15 .done)) .none))) .none)))) (.alt 12 (.pick (.alt 9 (.take 10 (.pick (.alt 11 (.take 14 (.take 15 .done)) (.alt 14 (.take 11 (.take 15 .done)) .none)))) (.alt 14 (.take 9 (.take 10 (.take 11 (.take 15 .done)))) .none))) .none))) (.alt 9 (.take 10 (.pick (.alt 5 (.pick (.alt 11 (.take 12 (.take 14 (.take 15 .done))) (.alt 12 (.pick (.alt 11 (.take 14 (.take 15 .done)) (.alt 14 (.take 11 (.take 15 .done)) .none))) .none))) (.alt 11 (.pick (.alt 5 (.take 12 (.take 14 (.take 15 .done))) (.alt 12 (.take 5 (.take 14 (.take 15 .done))) .none))) (.alt 12 (.pick (.alt 5 (.pick (.alt 11 (.take 14 (.take 15 .done)) (.alt 14 (.take 11 (.take 15 .done)) .none))) (.alt 11 (.take 5 (.take 14 (.take 15 .done))) .none))) .none))))) (.alt 12 (.pick (.alt 5 (.pick (.alt 9 (.take 10 (.pick (.alt 11 (.take 14 (.take 15 .done)) (.alt 14 (.take 11 (.take 15 .done)) .none)))) (.alt 14 (.take 9 (.take 10 (.take 11 (.take 15 .done)))) .none))) (.alt 9 (.take 10 (.pick (.alt 5 (.pick (.alt 11 (.take 14 (.take 15 .done)) (.alt 14 (.take 11 (.take 15 .done)) .none))) (.alt 11 (.take 5 (.take 14 (.take 15 .done))) .none)))) .none))) .none)))))) (.alt 12 (.pick (.alt 5 (.pick (.alt 6 (.take 7 (.take 8 (.pick (.alt 9 (.take 10 (.pick (.alt 11 (.take 14 (.take 15 .done)) (.alt 14 (.take 11 (.take 15 .done)) .none)))) (.alt 14 (.take 9 (.take 10 (.take 11 (.take 15 .done)))) .none))))) (.alt 14 (.take 6 (.take 7 (.take 8 (.take 9 (.take 10 (.take 11 (.take 15 .done))))))) .none))) (.alt 6 (.take 7 (.take 8 (.pick (.alt 5 (.pick (.alt 9 (.take 10 (.pick (.alt 11 (.take 14 (.take 15 .done)) (.alt 14 (.take 11 (.take 15 .done)) .none)))) (.alt 14 (.take 9 (.take 10 (.take 11 (.take 15 .done)))) .none))) (.alt 9 (.take 10 (.pick (.alt 5 (.pick (.alt 11 (.take 14 (.take 15 .done)) (.alt 14 (.take 11 (.take 15 .done)) .none))) (.alt 11 (.take 5 (.take 14 (.take 15 .done))) .none)))) .none))))) .none))) .none)))) .none))))))))))) (.seq (.reg c123r2 [1, 3, 4, 5]) (.seq (.reg c123r3 [1, 5]) (.seq (.seq (.reg c123r4 [5, 24, 25]) (.block 0 (.loop c123l0))) (.seq (.reg c123r10 [2]) .ret))))))
def c123R : List AR := [.t 2]
theorem k123 : chkF Tryz.prog GLx 123 1 c123 c123R = true := by kernel_rfl
def c124r0 : List GI := [xo (.mv 2 (.c (.own 130 5 [])))]
def c124r1 : List GI := [xo (.mv 3 (.c (.own 130 5 [])))]
def c124r2 : List GI := [xm 8 0,
 xc 9 47 [(xt 8), (xi 0), (xi 3)],
 xb 10 .add (xi 1) (xt 9),
 xm 4 10]
def c124r3 : List GI := [xo (.mv 5 (xi 0))]
def c124r4 : List GI := [xm 11 5,
 xm 12 4,
 xb 13 .lss (xt 11) (xt 12)]
def c124r6 : List GI := [xm 16 0,
 xm 17 5,
 xb 18 .mul (xi 2) (xt 17),
 xb 19 .add (xt 18) (xi 1),
 xc 20 47 [(xt 16), (xt 19), (xi 1000)],
 xm 6 20]
def c124r7 : List GI := [xm 21 0,
 xm 22 5,
 xb 23 .mul (xi 2) (xt 22),
 xb 24 .add (xt 23) (xi 2),
 xc 25 47 [(xt 21), (xt 24), (xi 1048576)],
 xc 26 212 [(xt 25)],
 xp 27 (.build [.nil 3 1, .v (.int .i64 0), .v (.int .i64 0), .nil 368 8, .nil 84 4] [(1, 4, (xt 26))]),
 xo (.alloc 7 [.own 3 1 [], .v (.int .i64 0), .v (.int .i64 0), .own 368 8 [], .own 84 4 []]),
 xo (.store (xt 7) (xt 27) 5)]
def c124r8 : List GI := [xm 28 6,
 xb 29 .rem (xt 28) (xi 4),
 xb 30 .eql (xt 29) (xi 0)]
def c124r9 : List GI := [xa 31 7 1 4,
 xp 32 (.load (xt 31) 4 true),
 xm 33 6,
 xb 34 .quo (xt 33) (xi 4),
 xc 35 212 [(xt 34)],
 xo (.bsl 36 84 4 [(xt 32), (xt 35)]),
 xp 37 (.build [.v (.int .i64 0), .v (.int .i64 0), .nil 368 8, .nil 84 4] [(0, 1, (xi 5)), (3, 1, (xt 36))]),
 xa 38 7 1 4,
 xo (.store (xt 38) (xt 37) 4)]
def c124r10 : List GI := [xm 39 5,
 xb 40 .gtr (xt 39) (xi 0),
 xm 41 40,
 xg 41 true (.mv 42 (xt 6)),
 xg 41 true (.p 43 (.bin .quo (xt 42) (xi 4))),
 xg 41 true (.p 44 (.bin .rem (xt 43) (xi 2))),
 xg 41 true (.p 45 (.bin .eql (xt 44) (xi 0))),
 xp 46 (.pick (xt 41) (xt 45) (.c (.v (.bool false))))]
def c124r11 : List GI := [xm 47 6,
 xb 48 .quo (xt 47) (xi 8),
 xm 49 5,
 xb 50 .rem (xt 48) (xt 49),
 xo (.bsl 51 3 1 [(xt 50)]),
 xa 52 7 0 1,
 xo (.store (xt 52) (xu 51) 1)]
def c124r12 : List GI := [xm 53 5,
 xb 54 .eql (xt 53) (xi 2),
 xm 55 54,
 xg 55 true (.mv 56 (xt 6)),
 xg 55 true (.p 57 (.bin .quo (xt 56) (xi 16))),
 xg 55 true (.p 58 (.bin .rem (xt 57) (xi 4))),
 xg 55 true (.p 59 (.bin .eql (xt 58) (xi 0))),
 xp 60 (.pick (xt 55) (xt 59) (.c (.v (.bool false))))]
def c124r13 : List GI := [xo (.bsl 61 3 1 [(xi 0), (xi 1)]),
 xa 62 7 0 1,
 xo (.store (xt 62) (xu 61) 1)]
def c124r14 : List GI := [xn 63 3,
 xp 64 (.load (xt 7) 5 true),
 xo (.bsl 65 130 5 [(xt 64)]),
 xo (.app 66 (xu 63) (xt 65) 130 5 88),
 xn 3 66]
def c124r5 : List GI := [xm 14 5,
 xb 15 .add (xt 14) (xi 1),
 xm 5 15]
def c124l0 : AC := (.seq (.seq (.reg c124r4 [0, 3, 4, 5, 13]) (.cond (xt 13) .skip (.exit 0))) (.seq (.block 1 (.seq (.reg c124r6 [0, 3, 4, 5, 6]) (.seq (.reg c124r7 [0, 3, 4, 5, 6, 7]) (.seq (.seq (.reg c124r8 [0, 3, 4, 5, 6, 7, 30]) (.cond (xt 30) (.regD c124r9 [0, 3, 4, 5, 6, 7] [[], [0], [], [2], [2, 3], [0, 1, 2, 3, 4], [0, 1, 2, 3, 4, 5], [0, 1, 2, 3, 4, 5, 6], [0, 1, 2, 3, 4, 5, 6, 7]]) .skip)) (.seq (.seq (.reg c124r10 [0, 3, 4, 5, 6, 7, 46]) (.cond (xt 46) (.reg c124r11 [0, 3, 4, 5, 6, 7]) .skip)) (.seq (.seq (.reg c124r12 [0, 3, 4, 5, 7, 60]) (.cond (xt 60) (.reg c124r13 [0, 3, 4, 5, 7]) .skip)) (.reg c124r14 [0, 3, 4, 5]))))))) (.reg c124r5 [0, 3, 4, 5])))
def c124r15 : List GI := [xn 67 3,
 xn 2 67]
def c124 : AC := (.seq (.reg c124r0 [0]) (.seq (.reg c124r1 [0, 3]) (.seq (.reg c124r2 [0, 3, 4]) (.seq (.seq (.reg c124r3 [0, 3, 4, 5]) (.block 0 (.loop c124l0))) (.seq (.reg c124r15 [2]) .ret)))))
def c124R : List AR := [.t 2]
theorem k124 : chkF Tryz.prog GLx 124 1 c124 c124R = true := by kernel_rfl
def c125r0 : List GI := [xo (.mv 6 (.c (.v (.bool false))))]
def c125r1 : List GI := [xm 7 0,
 xm 8 1,
 xb 9 .geq (xt 7) (xt 8),
 xm 10 9,
 xg 10 true (.mv 11 (xt 0)),
 xg 10 true (.mv 12 (xt 2)),
 xg 10 true (.p 13 (.bin .leq (xt 11) (xt 12))),
 xp 14 (.pick (xt 10) (xt 13) (.c (.v (.bool false)))),
 xm 6 14]
def c125 : AC := (.seq (.reg c125r0 [0, 1, 2]) (.seq (.reg c125r1 [6]) .ret))
def c125R : List AR := [.t 6]
theorem k125 : chkF Tryz.prog GLx 125 3 c125 c125R = true := by kernel_rfl
def c126r0 : List GI := [xo (.mv 2 (xi 0))]
def c126r1 : List GI := [xm 5 0,
 xp 6 (.alen (xt 5)),
 xb 7 .gtr (xt 6) (xi 32)]
def c126r2 : List GI := [xo (.mv 2 (xi 4))]
def c126r3 : List GI := [xo (.mv 3 (xi 0))]
def c126r4 : List GI := [xm 8 3,
 xm 9 0,
 xp 10 (.alen (xt 9)),
 xb 11 .lss (xt 8) (xt 10)]
def c126r6 : List GI := [xm 14 0,
 xm 15 3,
 xp 16 (.iaddr (xt 14) (xt 15) 5),
 xa 17 16 0 1,
 xl 18 17 1,
 xp 19 (.alen (xt 18)),
 xb 20 .gtr (xt 19) (xi 8)]
def c126r7 : List GI := [xo (.mv 2 (xi 4))]
def c126r8 : List GI := [xm 21 0,
 xm 22 3,
 xp 23 (.iaddr (xt 21) (xt 22) 5),
 xa 24 23 0 1,
 xl 25 24 1,
 xm 26 3,
 xc 27 213 [(xt 25), (xt 26)],
 xp 28 (.not (xt 27))]
def c126r9 : List GI := [xo (.mv 2 (xi 1))]
def c126r10 : List GI := [xm 29 0,
 xm 30 3,
 xp 31 (.iaddr (xt 29) (xt 30) 5),
 xa 32 31 1 4,
 xp 33 (.load (xt 32) 4 true),
 xc 34 214 [(xt 33)],
 xm 4 34]
def c126r11 : List GI := [xm 35 4,
 xb 36 .neq (xt 35) (xi 0)]
def c126r12 : List GI := [xm 37 4,
 xm 2 37]
def c126r5 : List GI := [xm 12 3,
 xb 13 .add (xt 12) (xi 1),
 xm 3 13]
def c126l0 : AC := (.seq (.seq (.reg c126r4 [0, 3, 11]) (.cond (xt 11) .skip (.exit 0))) (.seq (.block 1 (.seq (.seq (.reg c126r6 [0, 3, 20]) (.cond (xt 20) (.seq (.reg c126r7 [2]) .ret) .skip)) (.seq (.seq (.reg c126r8 [0, 3, 28]) (.cond (xt 28) (.seq (.reg c126r9 [2]) .ret) .skip)) (.seq (.reg c126r10 [0, 3, 4]) (.seq (.reg c126r11 [0, 3, 4, 36]) (.cond (xt 36) (.seq (.reg c126r12 [2]) .ret) .skip)))))) (.reg c126r5 [0, 3])))
def c126r13 : List GI := [xo (.mv 2 (xi 0))]
def c126 : AC := (.seq (.reg c126r0 [0]) (.seq (.seq (.reg c126r1 [0, 7]) (.cond (xt 7) (.seq (.reg c126r2 [2]) .ret) .skip)) (.seq (.seq (.reg c126r3 [0, 3]) (.block 0 (.loop c126l0))) (.seq (.reg c126r13 [2]) .ret))))
def c126R : List AR := [.t 2]
theorem k126 : chkF Tryz.prog GLx 126 1 c126 c126R = true := by kernel_rfl
def c127r0 : List GI := [xo (.box 1 (xt 0)),
 xo (.mv 2 (xi 0))]
def c127r1 : List GI := [xa 3 1 1 1,
 xl 4 3 1,
 xb 5 .lss (xt 4) (xi 1),
 xm 6 5,
 xg 6 false (.p 7 (.faddr (xt 1) 1 1)),
 xg 6 false (.p 8 (.load (xt 7) 1 false)),
 xg 6 false (.p 9 (.bin .gtr (xt 8) (xi 1048576))),
 xp 10 (.pick (xt 6) (.c (.v (.bool true))) (xt 9)),
 xm 11 10,
 xg 11 false (.p 12 (.faddr (xt 1) 0 1)),
 xg 11 false (.p 13 (.load (xt 12) 1 false)),
 xg 11 false (.p 14 (.bin .gtr (xt 13) (xi 1099511627776))),
 xp 15 (.pick (xt 11) (.c (.v (.bool true))) (xt 14)),
 xm 16 15,
 xg 16 false (.p 17 (.faddr (xt 1) 0 1)),
 xg 16 false (.p 18 (.load (xt 17) 1 false)),
 xg 16 false (.p 19 (.bin .lss (xt 18) (.c (.v (.int .i64 (-1099511627776)))))),
 xp 20 (.pick (xt 16) (.c (.v (.bool true))) (xt 19)),
 xm 21 20,
 xg 21 false (.p 22 (.faddr (xt 1) 0 1)),
 xg 21 false (.p 23 (.load (xt 22) 1 false)),
 xg 21 false (.p 24 (.faddr (xt 1) 1 1)),
 xg 21 false (.p 25 (.load (xt 24) 1 false)),
 xg 21 false (.call (some 26) (xf 215) [(xt 23), (xt 25)]),
 xg 21 false (.p 27 (.bin .neq (xt 26) (xi 1))),
 xp 28 (.pick (xt 21) (.c (.v (.bool true))) (xt 27))]
def c127r2 : List GI := [xo (.mv 2 (xi 1))]
def c127r3 : List GI := [xo (.mv 2 (xi 0))]
def c127 : AC := (.seq (.reg c127r0 [1]) (.seq (.seq (.reg c127r1 [28]) (.cond (xt 28) (.seq (.reg c127r2 [2]) .ret) .skip)) (.seq (.reg c127r3 [2]) .ret)))
def c127R : List AR := [.t 2]
theorem k127 : chkF Tryz.prog GLx 127 1 c127 c127R = true := by kernel_rfl
end Go.Va

namespace Go.Va
open Go.Proofs
def c128r0 : List GI := [xo (.box 1 (xt 0)),
 xo (.mv 2 (.c (.v (.bool false))))]
def c128r1 : List GI := [xa 8 1 3 1,
 xl 9 8 1,
 xp 10 (.alen (xt 9)),
 xo (.alloc 3 [.v (.int .i64 0)]),
 xo (.store (xt 3) (xt 10) 1)]
def c128r2 : List GI := [xa 11 1 0 1,
 xl 12 11 1,
 xc 13 216 [(xt 12), (xi 0), (xi 4095)],
 xp 14 (.not (xt 13)),
 xm 15 14,
 xg 15 false (.p 16 (.faddr (xt 1) 1 1)),
 xg 15 false (.p 17 (.load (xt 16) 1 false)),
 xg 15 false (.call (some 18) (xf 216) [(xt 17), (xi 0), (xi 4)]),
 xg 15 false (.p 19 (.not (xt 18))),
 xp 20 (.pick (xt 15) (.c (.v (.bool true))) (xt 19)),
 xm 21 20,
 xg 21 false (.p 22 (.faddr (xt 1) 2 1)),
 xg 21 false (.p 23 (.load (xt 22) 1 false)),
 xg 21 false (.call (some 24) (xf 216) [(xt 23), (xi 0), (xi 4)]),
 xg 21 false (.p 25 (.not (xt 24))),
 xp 26 (.pick (xt 21) (.c (.v (.bool true))) (xt 25)),
 xm 27 26,
 xg 27 false (.p 28 (.faddr (xt 1) 3 1)),
 xg 27 false (.p 29 (.load (xt 28) 1 false)),
 xg 27 false (.call (some 30) (xf 138) [(xt 29)]),
 xg 27 false (.p 31 (.bin .neq (xt 30) (xi 0))),
 xp 32 (.pick (xt 27) (.c (.v (.bool true))) (xt 31)),
 xm 33 32,
 xg 33 false (.p 34 (.faddr (xt 1) 4 1)),
 xg 33 false (.p 35 (.load (xt 34) 1 false)),
 xg 33 false (.p 36 (.alen (xt 35))),
 xg 33 false (.p 37 (.bin .gtr (xt 36) (xi 4096))),
 xp 38 (.pick (xt 33) (.c (.v (.bool true))) (xt 37)),
 xm 39 38,
 xg 39 false (.p 40 (.faddr (xt 1) 7 1)),
 xg 39 false (.p 41 (.load (xt 40) 1 false)),
 xg 39 false (.p 42 (.alen (xt 41))),
 xg 39 false (.p 43 (.bin .gtr (xt 42) (xi 4096))),
 xp 44 (.pick (xt 39) (.c (.v (.bool true))) (xt 43))]
def c128r3 : List GI := [xo (.mv 2 (.c (.v (.bool false))))]
def c128r4 : List GI := [xa 45 1 4 1,
 xl 46 45 1,
 xp 47 (.mkf 218 [(xt 3)]),
 xc 48 217 [(xt 46), (xt 47)],
 xm 49 48,
 xg 49 true (.p 50 (.faddr (xt 1) 4 1)),
 xg 49 true (.p 51 (.load (xt 50) 1 false)),
 xg 49 true (.call (some 52) (xf 219) [(xt 51), (xf 220)]),
 xp 53 (.pick (xt 49) (xt 52) (.c (.v (.bool false)))),
 xm 4 53]
def c128r5 : List GI := [xa 54 1 5 1,
 xl 55 54 1,
 xp 56 (.mkf 222 [(xt 3)]),
 xc 57 221 [(xt 55), (xt 56)],
 xm 58 57,
 xg 58 true (.p 59 (.faddr (xt 1) 5 1)),
 xg 58 true (.p 60 (.load (xt 59) 1 false)),
 xg 58 true (.call (some 61) (xf 223) [(xt 60), (xf 224)]),
 xp 62 (.pick (xt 58) (xt 61) (.c (.v (.bool false)))),
 xm 5 62]
def c128r6 : List GI := [xa 63 1 6 1,
 xl 64 63 1,
 xc 65 225 [(xt 64), (xf 226)],
 xm 66 65,
 xg 66 true (.p 67 (.faddr (xt 1) 6 1)),
 xg 66 true (.p 68 (.load (xt 67) 1 false)),
 xg 66 true (.call (some 69) (xf 228) [(xt 68), (xf 229)]),
 xp 70 (.pick (xt 66) (xt 69) (.c (.v (.bool false)))),
 xm 6 70]
def c128r7 : List GI := [xa 71 1 7 1,
 xl 72 71 1,
 xc 73 230 [(xt 72), (xf 231)],
 xm 7 73]
def c128r8 : List GI := [xm 74 4,
 xm 75 74,
 xg 75 true (.mv 76 (xt 5)),
 xp 77 (.pick (xt 75) (xt 76) (.c (.v (.bool false)))),
 xm 78 77,
 xg 78 true (.mv 79 (xt 6)),
 xp 80 (.pick (xt 78) (xt 79) (.c (.v (.bool false)))),
 xm 81 80,
 xg 81 true (.mv 82 (xt 7)),
 xp 83 (.pick (xt 81) (xt 82) (.c (.v (.bool false)))),
 xm 2 83]
def c128 : AC := (.seq (.reg c128r0 [1]) (.seq (.reg c128r1 [1, 3]) (.seq (.seq (.reg c128r2 [1, 3, 44]) (.cond (xt 44) (.seq (.reg c128r3 [2]) .ret) .skip)) (.seq (.reg c128r4 [1, 3, 4]) (.seq (.reg c128r5 [1, 4, 5]) (.seq (.reg c128r6 [1, 4, 5, 6]) (.seq (.reg c128r7 [4, 5, 6, 7]) (.seq (.reg c128r8 [2]) .ret))))))))
def c128R : List AR := [.t 2]
theorem k128 : chkF Tryz.prog GLx 128 1 c128 c128R = true := by kernel_rfl
def c129r0 : List GI := [xn 5 0,
 xp 6 (.alen (xt 5)),
 xo (.mv 7 (xi 0))]
def c129r1 : List GI := [xb 8 .lss (xt 7) (xt 6)]
def c129r2 : List GI := [xp 9 (.iaddr (xt 5) (xt 7) 1),
 xl 10 9 1,
 xm 4 10]
def c129r3 : List GI := [xm 11 4,
 xc 12 98 [(xt 1), (xt 11)]]
def c129r4 : List GI := [xb 13 .add (xt 7) (xi 1),
 xm 7 13]
def c129l0 : AC := (.seq (.reg c129r1 [1, 5, 6, 7, 8]) (.seq (.cond (xt 8) .skip (.exit 0)) (.seq (.block 1 (.seq (.reg c129r2 [1, 4, 5, 6, 7]) (.reg c129r3 [1, 5, 6, 7]))) (.reg c129r4 [1, 5, 6, 7]))))
def c129 : AC := (.seq (.reg c129r0 [1, 5, 6, 7]) (.block 0 (.loop c129l0)))
def c129R : List AR := []
theorem k129 : chkF Tryz.prog GLx 129 2 c129 c129R = true := by kernel_rfl
def c130r0 : List GI := [xo (.mv 2 (.c (.own 5 1 []))),
 xo (.mv 3 (xi 0))]
def c130r1 : List GI := [xm 10 0,
 xc 11 138 [(xt 10)],
 xm 4 11]
def c130r2 : List GI := [xm 12 4,
 xb 13 .neq (xt 12) (xi 0)]
def c130r3 : List GI := [xm 14 4,
 xo (.mv 2 (.c (.own 5 1 []))),
 xm 3 14]
def c130r4 : List GI := [xp 15 (.build [.nil 5 1] []),
 xo (.box 16 (xt 15)),
 xm 5 16]
def c130r5 : List GI := [xm 17 5,
 xm 18 0,
 xp 19 (.alen (xt 18)),
 xc 20 98 [(xt 17), (xt 19)]]
def c130r6 : List GI := [xn 21 0,
 xp 22 (.alen (xt 21)),
 xo (.mv 23 (xi 0))]
def c130r7 : List GI := [xb 24 .lss (xt 23) (xt 22)]
def c130r8 : List GI := [xp 25 (.iaddr (xt 21) (xt 23) 5),
 xp 26 (.load (xt 25) 5 true),
 xo (.alloc 7 [.own 3 1 [], .v (.int .i64 0), .v (.int .i64 0), .own 368 8 [], .own 84 4 []]),
 xo (.store (xt 7) (xt 26) 5)]
def c130r9 : List GI := [xa 28 7 1 4,
 xp 29 (.load (xt 28) 4 true),
 xc 30 232 [(xt 29)],
 xn 27 30,
 xe 31 27 0,
 xe 32 27 1,
 xn 8 31,
 xm 9 32]
def c130r10 : List GI := [xm 33 9,
 xb 34 .neq (xt 33) (xi 0)]
def c130r11 : List GI := [xm 35 9,
 xo (.mv 2 (.c (.own 5 1 []))),
 xm 3 35]
def c130r12 : List GI := [xm 36 5,
 xa 37 7 0 1,
 xl 38 37 1,
 xc 39 100 [(xt 36), (xt 38)]]
def c130r13 : List GI := [xm 40 5,
 xn 41 8,
 xc 42 99 [(xt 40), (xt 41)]]
def c130r14 : List GI := [xb 43 .add (xt 23) (xi 1),
 xm 23 43]
def c130l0 : AC := (.seq (.reg c130r7 [5, 21, 22, 23, 24]) (.seq (.cond (xt 24) .skip (.exit 0)) (.seq (.block 1 (.seq (.reg c130r8 [5, 7, 21, 22, 23]) (.seq (.reg c130r9 [5, 7, 8, 9, 21, 22, 23]) (.seq (.seq (.reg c130r10 [5, 7, 8, 9, 21, 22, 23, 34]) (.cond (xt 34) (.seq (.reg c130r11 [2, 3]) .ret) .skip)) (.seq (.reg c130r12 [5, 8, 21, 22, 23]) (.reg c130r13 [5, 21, 22, 23])))))) (.reg c130r14 [5, 21, 22, 23]))))
def c130r15 : List GI := [xm 44 5,
 xc 45 102 [(xt 44)],
 xn 2 45,
 xo (.mv 3 (xi 0))]
def c130 : AC := (.seq (.reg c130r0 [0]) (.seq (.seq (.reg c130r1 [0, 4]) (.seq (.reg c130r2 [0, 4, 13]) (.cond (xt 13) (.seq (.reg c130r3 [2, 3]) .ret) .skip))) (.seq (.reg c130r4 [0, 5]) (.seq (.reg c130r5 [0, 5]) (.seq (.seq (.reg c130r6 [5, 21, 22, 23]) (.block 0 (.loop c130l0))) (.seq (.reg c130r15 [2, 3]) .ret))))))
def c130R : List AR := [.t 2, .t 3]
theorem k130 : chkF Tryz.prog GLx 130 1 c130 c130R = true := by kernel_rfl
def c131r0 : List GI := [xo (.mv 2 (.c (.v (.bool false))))]
def c131r1 : List GI := [xm 3 0,
 xb 4 .geq (xt 3) (xi 0),
 xm 5 4,
 xg 5 true (.mv 6 (xt 0)),
 xg 5 true (.p 7 (.bin .leq (xt 6) (xi 4095))),
 xp 8 (.pick (xt 5) (xt 7) (.c (.v (.bool false)))),
 xm 2 8]
def c131 : AC := (.seq (.reg c131r0 [0]) (.seq (.reg c131r1 [2]) .ret))
def c131R : List AR := [.t 2]
theorem k131 : chkF Tryz.prog GLx 131 1 c131 c131R = true := by kernel_rfl
def c132r0 : List GI := [xo (.box 5 (xt 2))]
def c132r1 : List GI := [xm 9 1,
 xp 10 (.build [.v (.int .i64 0), .v (.int .i64 0)] [(0, 1, (xi 0)), (1, 1, (xt 9))]),
 xo (.alloc 6 [.v (.int .i64 0), .v (.int .i64 0)]),
 xo (.store (xt 6) (xt 10) 2)]
def c132r3 : List GI := [xa 18 6 0 1,
 xl 19 18 1,
 xb 20 .gtr (xt 19) (xi 0)]
def c132r4 : List GI := [xp 22 (.load (xt 6) 2 true),
 xc 23 181 [(xt 22)],
 xn 21 23,
 xe 24 21 0,
 xe 25 21 1,
 xo (.alloc 7 [.v (.int .i64 0), .v (.int .i64 0)]),
 xo (.alloc 8 [.v (.int .i64 0), .v (.int .i64 0)]),
 xo (.store (xt 7) (xt 24) 2),
 xo (.store (xt 8) (xt 25) 2)]
def c132r5 : List GI := [xm 26 0,
 xp 27 (.load (xt 7) 2 true),
 xo (.callC (some 28) (xf 233) [(xt 26), (xt 27)]),
 xm 29 0,
 xp 30 (.load (xt 8) 2 true),
 xo (.callC (some 31) (xf 233) [(xt 29), (xt 30)]),
 xc 32 182 [(xt 28), (xt 31)],
 xo (.store (xt 5) (xt 32) 2)]
def c132r6 : List GI := [xa 33 5 1 1,
 xl 34 33 1]
def c132r7 : List GI := [xm 35 0,
 xp 36 (.nilc (xt 35)),
 xa 37 36 1 1,
 xl 38 37 1,
 xp 39 (.load (xt 6) 2 true),
 xa 40 5 0 1,
 xl 41 40 1,
 xo (.mput (xt 38) (xt 39) (xt 41) true [0, 0])]
def c132r8 : List GI := [xm 42 0,
 xp 43 (.nilc (xt 42)),
 xa 44 43 1 1,
 xl 45 44 1,
 xp 46 (.load (xt 6) 2 true),
 xo (.mdel none (xt 45) (xt 46) true [0, 0])]
def c132r9 : List GI := [xp 47 (.load (xt 6) 2 true),
 xp 48 (.load (.g 0 [.int .i64 12, .int .i64 0]) 2 true),
 xp 49 (.eqA false [0, 0] (xt 47) (xt 48))]
def c132r10 : List GI := [xp 50 (.load (xt 6) 2 true)]
def c132r11 : List GI := [xo (.alloc 6 [.v (.int .i64 0), .v (.int .i64 0)]),
 xo (.store (xt 6) (xt 50) 2)]
def c132r2 : List GI := [xa 11 6 0 1,
 xl 12 11 1,
 xb 13 .add (xt 12) (xi 1),
 xa 14 6 1 1,
 xl 15 14 1,
 xb 16 .quo (xt 15) (xi 2),
 xp 17 (.build [.v (.int .i64 0), .v (.int .i64 0)] [(0, 1, (xt 13)), (1, 1, (xt 16))]),
 xo (.store (xt 6) (xt 17) 2)]
def c132l0 : AC := (.seq (.block 1 (.seq (.seq (.reg c132r3 [0, 5, 6, 20]) (.cond (xt 20) (.seq (.reg c132r4 [0, 5, 6, 7, 8]) (.regA c132r5 [0, 5, 6] [[], [], [0, 1], [], [], [0, 1, 2, 3, 4], [0, 1, 2, 3, 4, 5], [0, 1, 2, 3, 4, 5, 6]] (.take 0 (.take 1 (.take 3 (.take 4 (.take 2 (.take 5 (.take 6 (.take 7 .done)))))))))) .skip)) (.seq (.seq (.reg c132r6 [0, 5, 6, 34]) (.cond (xt 34) (.regD c132r7 [0, 5, 6] [[], [0], [0, 1], [0, 1, 2], [], [], [5], [0, 1, 2, 3, 4, 5, 6]]) (.regD c132r8 [0, 5, 6] [[], [0], [0, 1], [0, 1, 2], [], [0, 1, 2, 3, 4]]))) (.seq (.reg c132r9 [0, 5, 6, 49]) (.cond (xt 49) .ret .skip))))) (.seq (.seq (.reg c132r10 [0, 5, 50]) (.reg c132r11 [0, 5, 6])) (.reg c132r2 [0, 5, 6])))
def c132 : AC := (.seq (.reg c132r0 [0, 1, 5]) (.seq (.reg c132r1 [0, 5, 6]) (.block 0 (.loop c132l0))))
def c132R : List AR := []
theorem k132 : chkF Tryz.prog GLx 132 3 c132 c132R = true := by kernel_rfl
def c133r0 : List GI := [xo (.mv 4 (xj 0))]
def c133r1 : List GI := [xm 5 0,
 xm 6 1,
 xp 7 (.alen (xt 6)),
 xn 8 1,
 xc 9 234 [(.c (.v (.str ⟨#[118, 97, 108, 117, 101]⟩))), (xt 8)],
 xp 10 (.cint .i64 (xt 9)),
 xo (.bsl 11 3 1 [(xt 5), (xt 7), (xt 10)]),
 xc 12 96 [(.c (.v (.str ⟨#[112, 97, 105, 114]⟩))), (xt 11)],
 xm 4 12]
def c133 : AC := (.seq (.reg c133r0 [0, 1]) (.seq (.reg c133r1 [4]) .ret))
def c133R : List AR := [.t 4]
theorem k133 : chkF Tryz.prog GLx 133 2 c133 c133R = true := by kernel_rfl
def c134r0 : List GI := [xo (.mv 2 (.c (.own 5 1 []))),
 xo (.mv 3 (xi 0))]
def c134r1 : List GI := [xm 5 0,
 xc 6 126 [(xt 5)],
 xm 4 6]
def c134r2 : List GI := [xm 7 4,
 xb 8 .neq (xt 7) (xi 0)]
def c134r3 : List GI := [xm 9 4,
 xo (.mv 2 (.c (.own 5 1 []))),
 xm 3 9]
def c134r4 : List GI := [xn 10 0,
 xc 11 235 [(xt 10)],
 xn 2 11,
 xo (.mv 3 (xi 0))]
def c134 : AC := (.seq (.reg c134r0 [0]) (.seq (.reg c134r1 [0, 4]) (.seq (.seq (.reg c134r2 [0, 4, 8]) (.cond (xt 8) (.seq (.reg c134r3 [2, 3]) .ret) .skip)) (.seq (.reg c134r4 [2, 3]) .ret))))
def c134R : List AR := [.t 2, .t 3]
theorem k134 : chkF Tryz.prog GLx 134 1 c134 c134R = true := by kernel_rfl
def c135r0 : List GI := [xo (.mv 4 (.c (.own 5 1 [])))]
def c135r1 : List GI := [xn 5 0,
 xm 6 1,
 xc 7 104 [(xt 6)],
 xo (.app 8 (xu 5) (xt 7) 5 1 1),
 xn 4 8]
def c135 : AC := (.seq (.reg c135r0 [0, 1]) (.seq (.reg c135r1 [4]) .ret))
def c135R : List AR := [.t 4]
theorem k135 : chkF Tryz.prog GLx 135 2 c135 c135R = true := by kernel_rfl
def c136r0 : List GI := [xo (.box 1 (xt 0)),
 xo (.mv 2 (xj 0))]
def c136r1 : List GI := [xa 3 1 0 1,
 xl 4 3 1,
 xa 5 1 1 1,
 xl 6 5 1,
 xp 7 (.alen (xt 6)),
 xa 8 1 1 1,
 xl 9 8 1,
 xc 10 236 [(.c (.v (.str ⟨#[118, 97, 108, 117, 101]⟩))), (xt 9)],
 xp 11 (.cint .i64 (xt 10)),
 xo (.bsl 12 3 1 [(xt 4), (xt 7), (xt 11)]),
 xc 13 84 [(.c (.v (.str ⟨#[112, 97, 105, 114]⟩))), (xt 12)],
 xm 2 13]
def c136 : AC := (.seq (.reg c136r0 [1]) (.seq (.regD c136r1 [2] [[], [0], [], [2], [2, 3], [], [5], [5, 6], [5, 6, 7], [0, 1, 2, 3, 4, 5, 6, 7, 8], [0, 1, 2, 3, 4, 5, 6, 7, 8, 9], [0, 1, 2, 3, 4, 5, 6, 7, 8, 9, 10]]) .ret))
def c136R : List AR := [.t 2]
theorem k136 : chkF Tryz.prog GLx 136 1 c136 c136R = true := by kernel_rfl
def c137r0 : List GI := [xo (.box 3 (xt 0)),
 xo (.box 4 (xt 1)),
 xo (.mv 6 (.c (.own 193 2 []))),
 xo (.alloc 7 [.own 47 1 [], .own 47 1 [], .own 5 1 []]),
 xo (.mv 8 (xi 0))]
def c137r1 : List GI := [xl 16 4 1,
 xm 17 2,
 xc 18 177 [(xt 16), (xt 17)],
 xp 19 (.not (xt 18))]
def c137r2 : List GI := [xp 20 (.build [.nil 47 1, .nil 47 1, .nil 5 1] []),
 xo (.mv 6 (.c (.own 193 2 []))),
 xo (.store (xt 7) (xt 20) 3),
 xo (.mv 8 (xi 5))]
def c137r3 : List GI := [xo (.mv 9 (.c (.own 193 2 [])))]
def c137r4 : List GI := [xl 21 3 1,
 xp 22 (.nilc (xt 21)),
 xa 23 22 0 1,
 xl 24 23 1,
 xc 25 238 [(xt 24)],
 xc 26 237 [(xt 25)],
 xp 27 (.alen (xt 26)),
 xo (.mv 28 (xi 0))]
def c137r5 : List GI := [xb 29 .lss (xt 28) (xt 27)]
def c137r6 : List GI := [xp 30 (.iaddr (xt 26) (xt 28) 1),
 xl 31 30 1,
 xm 11 31]
def c137r7 : List GI := [xm 32 11,
 xl 33 4 1,
 xb 34 .geq (xt 32) (xt 33),
 xm 35 34,
 xg 35 true (.mv 36 (xt 11)),
 xg 35 true (.mv 37 (xt 2)),
 xg 35 true (.p 38 (.bin .leq (xt 36) (xt 37))),
 xp 39 (.pick (xt 35) (xt 38) (.c (.v (.bool false))))]
def c137r8 : List GI := [xn 40 9,
 xm 41 11,
 xl 42 3 1,
 xp 43 (.nilc (xt 42)),
 xa 44 43 0 1,
 xl 45 44 1,
 xm 46 11,
 xp 47 (.look (xt 45) (xt 46) false [0] [.nil 5 1] false false),
 xc 48 117 [(xt 47)],
 xp 49 (.build [.v (.int .i64 0), .nil 5 1] [(0, 1, (xt 41)), (1, 1, (xt 48))]),
 xo (.bsl 50 193 2 [(xt 49)]),
 xo (.app 51 (xu 40) (xt 50) 193 2 32),
 xn 9 51]
def c137r9 : List GI := [xb 52 .add (xt 28) (xi 1),
 xm 28 52]
def c137l0 : AC := (.seq (.reg c137r5 [2, 3, 4, 7, 9, 26, 27, 28, 29]) (.seq (.cond (xt 29) .skip (.exit 0)) (.seq (.block 1 (.seq (.reg c137r6 [2, 3, 4, 7, 9, 11, 26, 27, 28]) (.seq (.reg c137r7 [2, 3, 4, 7, 9, 11, 26, 27, 28, 39]) (.cond (xt 39) (.reg c137r8 [2, 3, 4, 7, 9, 26, 27, 28]) .skip)))) (.reg c137r9 [2, 3, 4, 7, 9, 26, 27, 28]))))
def c137r10 : List GI := [xo (.alloc 12 [.own 47 1 [], .own 47 1 [], .own 5 1 []])]
def c137r11 : List GI := [xl 53 4 1,
 xm 54 2,
 xc 55 239 [(xt 53), (xt 54)]]
def c137r12 : List GI := [xo (.alloc 13 [.v (.int .i64 0), .v (.int .i64 0)]),
 xo (.store (xt 13) (xt 56) 2)]
def c137r13 : List GI := [xl 58 3 1,
 xp 59 (.nilc (xt 58)),
 xa 60 59 1 1,
 xl 61 60 1,
 xp 62 (.load (xt 13) 2 true),
 xp 63 (.look (xt 61) (xt 62) true [0, 0] [.v (.int .u64 0)] false true),
 xn 57 63,
 xe 64 57 0,
 xe 65 57 1,
 xm 14 64,
 xm 15 65]
def c137r14 : List GI := [xm 66 15,
 xp 67 (.not (xt 66))]
def c137r15 : List GI := [xa 68 12 2 1,
 xo (.take 69 (xt 68)),
 xo (.bsl 70 5 1 [(.c (.v (.int .u8 0)))]),
 xo (.app 71 (xu 69) (xt 70) 5 1 1),
 xa 72 12 2 1,
 xo (.store (xt 72) (xu 71) 1)]
def c137r16 : List GI := [xa 73 12 2 1,
 xo (.take 74 (xt 73)),
 xo (.bsl 75 5 1 [(.c (.v (.int .u8 1)))]),
 xo (.app 76 (xu 74) (xt 75) 5 1 1),
 xa 77 12 2 1,
 xo (.store (xt 77) (xu 76) 1)]
def c137r17 : List GI := [xp 78 (.load (xt 13) 2 true),
 xc 79 240 [(xt 78)],
 xl 80 4 1,
 xb 81 .lss (xt 79) (xt 80)]
def c137r18 : List GI := [xa 82 12 0 1,
 xo (.take 83 (xt 82)),
 xm 84 14,
 xo (.bsl 85 47 1 [(xt 84)]),
 xo (.app 86 (xu 83) (xt 85) 47 1 8),
 xa 87 12 0 1,
 xo (.store (xt 87) (xu 86) 1)]
def c137r19 : List GI := [xa 88 12 1 1,
 xo (.take 89 (xt 88)),
 xm 90 14,
 xo (.bsl 91 47 1 [(xt 90)]),
 xo (.app 92 (xu 89) (xt 91) 47 1 8),
 xa 93 12 1 1,
 xo (.store (xt 93) (xu 92) 1)]
def c137a1 : AC := (.reg c137r12 [3, 4, 12, 13])
def c137b1 : AC := (.block 3 (.seq (.regD c137r13 [4, 12, 13, 14, 15] [[], [0], [0, 1], [0, 1, 2], [], [0, 1, 2, 3, 4], [0, 1, 2, 3, 4, 5], [0, 1, 2, 3, 4, 5, 6], [0, 1, 2, 3, 4, 5, 6], [0, 1, 2, 3, 4, 5, 6, 7], [0, 1, 2, 3, 4, 5, 6, 7, 8, 9]]) (.seq (.seq (.reg c137r14 [4, 12, 13, 14, 67]) (.cond (xt 67) (.seq (.reg c137r15 []) (.exit 3)) .skip)) (.seq (.reg c137r16 [4, 12, 13, 14]) (.seq (.regD c137r17 [12, 14, 81] [[], [0], [], [0, 1, 2]]) (.cond (xt 81) (.reg c137r18 []) (.reg c137r19 [])))))))
def c137r20 : List GI := [xn 94 9,
 xp 95 (.load (xt 12) 3 true),
 xn 6 94,
 xo (.store (xt 7) (xt 95) 3),
 xo (.mv 8 (xi 0))]
def c137 : AC := (.seq (.reg c137r0 [2, 3, 4, 7]) (.seq (.seq (.reg c137r1 [2, 3, 4, 7, 19]) (.cond (xt 19) (.seq (.reg c137r2 [6, 7, 8]) .ret) .skip)) (.seq (.reg c137r3 [2, 3, 4, 7, 9]) (.seq (.seq (.reg c137r4 [2, 3, 4, 7, 9, 26, 27, 28]) (.block 0 (.loop c137l0))) (.seq (.reg c137r10 [2, 3, 4, 7, 9, 12]) (.seq (.seq (.reg c137r11 [3, 4, 7, 9, 12, 55]) (.block 2 (.rangeF (xt 55) [56] c137a1 c137b1))) (.seq (.regD c137r20 [6, 7, 8] [[], [], [0], [0, 1, 2], [0, 1, 2, 3]]) .ret)))))))
def c137R : List AR := [.t 6, .c 7 3 true, .t 8]
theorem k137 : chkF Tryz.prog GLx 137 3 c137 c137R = true := by kernel_rfl
def c138r0 : List GI := [xo (.mv 2 (xi 0))]
def c138r1 : List GI := [xm 6 0,
 xp 7 (.alen (xt 6)),
 xb 8 .gtr (xt 7) (xi 32)]
def c138r2 : List GI := [xo (.mv 2 (xi 4))]
def c138r3 : List GI := [xn 9 0,
 xp 10 (.alen (xt 9)),
 xo (.mv 11 (xi 0))]
def c138r4 : List GI := [xb 12 .lss (xt 11) (xt 10)]
def c138r5 : List GI := [xm 13 11,
 xp 14 (.iaddr (xt 9) (xt 11) 5),
 xp 15 (.load (xt 14) 5 true),
 xo (.alloc 4 [.own 3 1 [], .v (.int .i64 0), .v (.int .i64 0), .own 368 8 [], .own 84 4 []]),
 xm 3 13,
 xo (.store (xt 4) (xt 15) 5)]
def c138r6 : List GI := [xa 17 4 0 1,
 xl 18 17 1,
 xp 19 (.alen (xt 18)),
 xb 20 .gtr (xt 19) (xi 8),
 xm 16 20]
def c138r7 : List GI := [xo (.mv 2 (xi 4))]
def c138r8 : List GI := [xa 22 4 0 1,
 xl 23 22 1,
 xm 24 3,
 xc 25 241 [(xt 23), (xt 24)],
 xp 26 (.not (xt 25)),
 xm 21 26]
def c138r9 : List GI := [xo (.mv 2 (xi 1))]
def c138r10 : List GI := [xa 27 4 1 4,
 xp 28 (.load (xt 27) 4 true),
 xc 29 66 [(xt 28)],
 xm 5 29]
def c138r11 : List GI := [xm 30 5,
 xb 31 .neq (xt 30) (xi 0)]
def c138r12 : List GI := [xm 32 5,
 xm 2 32]
def c138r13 : List GI := [xb 33 .add (xt 11) (xi 1),
 xm 11 33]
def c138l0 : AC := (.seq (.reg c138r4 [9, 10, 11, 12]) (.seq (.cond (xt 12) .skip (.exit 0)) (.seq (.block 1 (.seq (.reg c138r5 [3, 4, 9, 10, 11]) (.seq (.block 2 (.seq (.reg c138r6 [3, 4, 9, 10, 11, 16]) (.cond (xt 16) (.seq (.reg c138r7 [2]) .ret) (.seq (.reg c138r8 [4, 9, 10, 11, 21]) (.cond (xt 21) (.seq (.reg c138r9 [2]) .ret) .skip))))) (.seq (.reg c138r10 [5, 9, 10, 11]) (.seq (.reg c138r11 [5, 9, 10, 11, 31]) (.cond (xt 31) (.seq (.reg c138r12 [2]) .ret) .skip)))))) (.reg c138r13 [9, 10, 11]))))
def c138r14 : List GI := [xo (.mv 2 (xi 0))]
def c138 : AC := (.seq (.reg c138r0 [0]) (.seq (.seq (.reg c138r1 [0, 8]) (.cond (xt 8) (.seq (.reg c138r2 [2]) .ret) .skip)) (.seq (.seq (.reg c138r3 [9, 10, 11]) (.block 0 (.loop c138l0))) (.seq (.reg c138r14 [2]) .ret))))
def c138R : List AR := [.t 2]
theorem k138 : chkF Tryz.prog GLx 138 1 c138 c138R = true := by kernel_rfl
def c142r0 : List GI := [xo (.box 1 (xt 0)),
 xo (.mv 2 (xi 0))]
def c142r1 : List GI := [xo (.alloc 3 [.v (.int .i64 0)]),
 xo (.store (xt 3) (xi 0) 1)]
def c142r2 : List GI := [xp 4 (.load (xt 1) 4 true),
 xc 5 68 [(xt 4)]]
def c142r3 : List GI := [xl 7 3 1,
 xb 8 .add (xt 7) (xi 1),
 xo (.store (xt 3) (xt 8) 1)]
def c142a0 : AC := .skip
def c142b0 : AC := (.block 1 (.reg c142r3 []))
def c142r4 : List GI := [xl 9 3 1,
 xm 2 9]
def c142 : AC := (.seq (.reg c142r0 [1]) (.seq (.reg c142r1 [1, 3]) (.seq (.seq (.reg c142r2 [3, 5]) (.block 0 (.rangeF (xt 5) [6] c142a0 c142b0))) (.seq (.reg c142r4 [2]) .ret))))
def c142R : List AR := [.t 2]
theorem k142 : chkF Tryz.prog GLx 142 1 c142 c142R = true := by kernel_rfl
def c143r0 : List GI := [xo (.box 1 (xt 0)),
 xo (.mv 2 (xi 0))]
def c143r1 : List GI := [xo (.mv 3 (xi 0))]
def c143r2 : List GI := [xa 6 1 3 1,
 xl 7 6 1,
 xp 8 (.alen (xt 7)),
 xo (.mv 9 (xi 0))]
def c143r3 : List GI := [xb 10 .lss (xt 9) (xt 8)]
def c143r4 : List GI := [xp 11 (.iaddr (xt 7) (xt 9) 4),
 xp 12 (.load (xt 11) 4 true),
 xo (.alloc 5 [.v (.int .i64 0), .v (.int .i64 0), .own 368 8 [], .own 84 4 []]),
 xo (.store (xt 5) (xt 12) 4)]
def c143r5 : List GI := [xm 13 3,
 xp 14 (.load (xt 5) 4 true),
 xc 15 143 [(xt 14)],
 xp 16 (.minmax true (xt 13) (xt 15)),
 xm 3 16]
def c143r6 : List GI := [xb 17 .add (xt 9) (xi 1),
 xm 9 17]
def c143l0 : AC := (.seq (.reg c143r3 [3, 7, 8, 9, 10]) (.seq (.cond (xt 10) .skip (.exit 0)) (.seq (.block 1 (.seq (.reg c143r4 [3, 5, 7, 8, 9]) (.reg c143r5 [3, 7, 8, 9]))) (.reg c143r6 [3, 7, 8, 9]))))
def c143r7 : List GI := [xm 18 3,
 xb 19 .add (xt 18) (xi 1),
 xm 2 19]
def c143 : AC := (.seq (.reg c143r0 [1]) (.seq (.reg c143r1 [1, 3]) (.seq (.seq (.reg c143r2 [3, 7, 8, 9]) (.block 0 (.loop c143l0))) (.seq (.reg c143r7 [2]) .ret))))
def c143R : List AR := [.t 2]
theorem k143 : chkF Tryz.prog GLx 143 1 c143 c143R = true := by kernel_rfl
def c144r0 : List GI := [xo (.box 1 (xt 0)),
 xo (.mv 2 (.c (.v (.bool false))))]
def c144r1 : List GI := [xa 4 1 0 1,
 xl 5 4 1,
 xb 6 .neq (xt 5) (xi 2),
 xm 7 6,
 xg 7 true (.p 8 (.faddr (xt 1) 2 1)),
 xg 7 true (.p 9 (.load (xt 8) 1 false)),
 xg 7 true (.p 10 (.alen (xt 9))),
 xg 7 true (.p 11 (.bin .gtr (xt 10) (xi 0))),
 xp 12 (.pick (xt 7) (xt 11) (.c (.v (.bool false)))),
 xm 13 12,
 xg 13 false (.p 14 (.faddr (xt 1) 0 1)),
 xg 13 false (.p 15 (.load (xt 14) 1 false)),
 xg 13 false (.p 16 (.bin .neq (xt 15) (xi 2))),
 xg 13 false (.mv 17 (xt 16)),
 xg 17 true (.p 18 (.faddr (xt 1) 0 1)),
 xg 17 true (.p 19 (.load (xt 18) 1 false)),
 xg 17 true (.p 20 (.bin .neq (xt 19) (xi 1))),
 xg 13 false (.p 21 (.pick (xt 17) (xt 20) (.c (.v (.bool false))))),
 xg 13 false (.mv 22 (xt 21)),
 xg 22 true (.p 23 (.faddr (xt 1) 1 1)),
 xg 22 true (.p 24 (.load (xt 23) 1 false)),
 xg 22 true (.p 25 (.bin .neq (xt 24) (xi 0))),
 xg 13 false (.p 26 (.pick (xt 22) (xt 25) (.c (.v (.bool false))))),
 xp 27 (.pick (xt 13) (.c (.v (.bool true))) (xt 26))]
def c144r2 : List GI := [xo (.mv 2 (.c (.v (.bool false))))]
def c144r3 : List GI := [xa 28 1 3 1,
 xl 29 28 1,
 xp 30 (.alen (xt 29)),
 xm 3 30]
def c144r4 : List GI := [xa 31 1 0 1,
 xl 32 31 1]
def c144r5 : List GI := [xb 34 .eql (xt 32) (xi 0),
 xm 33 34]
def c144r6 : List GI := [xm 35 3,
 xb 36 .eql (xt 35) (xi 0),
 xm 2 36]
def c144r7 : List GI := [xb 38 .eql (xt 32) (xi 1),
 xm 37 38]
def c144r8 : List GI := [xm 39 3,
 xb 40 .eql (xt 39) (xi 0),
 xm 41 40,
 xg 41 true (.p 42 (.faddr (xt 1) 1 1)),
 xg 41 true (.p 43 (.load (xt 42) 1 false)),
 xg 41 true (.p 44 (.bin .geq (xt 43) (xi 0))),
 xp 45 (.pick (xt 41) (xt 44) (.c (.v (.bool false)))),
 xm 46 45,
 xg 46 true (.p 47 (.faddr (xt 1) 1 1)),
 xg 46 true (.p 48 (.load (xt 47) 1 false)),
 xg 46 true (.p 49 (.bin .lss (xt 48) (xi 64))),
 xp 50 (.pick (xt 46) (xt 49) (.c (.v (.bool false)))),
 xm 2 50]
def c144r9 : List GI := [xb 52 .eql (xt 32) (xi 2),
 xm 51 52]
def c144r10 : List GI := [xm 53 3,
 xb 54 .eql (xt 53) (xi 0),
 xm 55 54,
 xg 55 true (.p 56 (.faddr (xt 1) 1 1)),
 xg 55 true (.p 57 (.load (xt 56) 1 false)),
 xg 55 true (.p 58 (.bin .geq (xt 57) (xi 0))),
 xp 59 (.pick (xt 55) (xt 58) (.c (.v (.bool false)))),
 xm 60 59,
 xg 60 true (.p 61 (.faddr (xt 1) 1 1)),
 xg 60 true (.p 62 (.load (xt 61) 1 false)),
 xg 60 true (.p 63 (.bin .lss (xt 62) (xi 32))),
 xp 64 (.pick (xt 60) (xt 63) (.c (.v (.bool false)))),
 xm 65 64,
 xg 65 true (.p 66 (.faddr (xt 1) 2 1)),
 xg 65 true (.p 67 (.load (xt 66) 1 false)),
 xg 65 true (.call (some 68) (xf 246) [(xt 67)]),
 xg 65 true (.p 69 (.bin .eql (xt 68) (xi 0))),
 xp 70 (.pick (xt 65) (xt 69) (.c (.v (.bool false)))),
 xm 2 70]
def c144r11 : List GI := [xb 72 .eql (xt 32) (xi 3),
 xm 71 72]
def c144r12 : List GI := [xb 73 .eql (xt 32) (xi 6),
 xm 71 73]
def c144r13 : List GI := [xm 74 3,
 xb 75 .eql (xt 74) (xi 1),
 xm 2 75]
def c144r14 : List GI := [xa 76 1 0 1,
 xl 77 76 1,
 xb 78 .eql (xt 77) (xi 4),
 xm 79 78,
 xg 79 false (.p 80 (.faddr (xt 1) 0 1)),
 xg 79 false (.p 81 (.load (xt 80) 1 false)),
 xg 79 false (.p 82 (.bin .eql (xt 81) (xi 5))),
 xp 83 (.pick (xt 79) (.c (.v (.bool true))) (xt 82)),
 xm 2 83]
def c144 : AC := (.seq (.reg c144r0 [1]) (.seq (.seq (.reg c144r1 [1, 27]) (.cond (xt 27) (.seq (.reg c144r2 [2]) .ret) .skip)) (.seq (.reg c144r3 [1, 3]) (.seq (.seq (.reg c144r4 [1, 3, 32]) (.block 0 (.seq (.reg c144r5 [1, 3, 32, 33]) (.cond (xt 33) (.seq (.reg c144r6 [2]) .ret) (.seq (.reg c144r7 [1, 3, 32, 37]) (.cond (xt 37) (.seq (.reg c144r8 [2]) .ret) (.seq (.reg c144r9 [1, 3, 32, 51]) (.cond (xt 51) (.seq (.reg c144r10 [2]) .ret) (.seq (.seq (.reg c144r11 [1, 3, 32, 71]) (.cond (xt 71) .skip (.reg c144r12 [1, 3, 71]))) (.cond (xt 71) (.seq (.reg c144r13 [2]) .ret) .skip)))))))))) (.seq (.reg c144r14 [2]) .ret)))))
def c144R : List AR := [.t 2]
theorem k144 : chkF Tryz.prog GLx 144 1 c144 c144R = true := by kernel_rfl
def c147r0 : List GI := [xo (.box 2 (xt 0))]
def c147r1 : List GI := [xo (.alloc 3 [.v .nilf])]
def c147r2 : List GI := [xp 4 (.mkf 148 [(xt 2), (xt 3)]),
 xo (.store (xt 3) (xt 4) 1)]
def c147r3 : List GI := [xl 5 3 1,
 xp 6 (.load (xt 1) 4 true),
 xo (.call (some 7) (xt 5) [(xt 6)])]
def c147 : AC := (.seq (.reg c147r0 [1, 2]) (.seq (.reg c147r1 [1, 2, 3]) (.seq (.reg c147r2 [1, 3]) (.reg c147r3 []))))
def c147R : List AR := []
theorem k147 : chkF Tryz.prog GLx 147 2 c147 c147R = true := by kernel_rfl
def c148r0 : List GI := [xo (.box 3 (xt 0)),
 xo (.mv 4 (.c (.v (.bool false))))]
def c148r1 : List GI := [xl 5 1 1,
 xp 6 (.load (xt 3) 4 true),
 xo (.call (some 7) (xt 5) [(xt 6)]),
 xm 8 7,
 xg 8 true (.p 9 (.faddr (xt 3) 3 1)),
 xg 8 true (.p 10 (.load (xt 9) 1 false)),
 xg 8 true (.p 11 (.mkf 150 [(xt 2)])),
 xg 8 true (.call (some 12) (xf 149) [(xt 10), (xt 11)]),
 xg 8 true (.p 13 (.not (xt 12))),
 xp 14 (.pick (xt 8) (xt 13) (.c (.v (.bool false)))),
 xm 4 14]
def c148 : AC := (.seq (.reg c148r0 [1, 2, 3]) (.seq (.reg c148r1 [4]) .ret))
def c148R : List AR := [.t 4]
theorem k148 : chkF Tryz.prog GLx 148 3 c148 c148R = true := by kernel_rfl
def c149r0 : List GI := [xo (.mv 4 (.c (.v (.bool false))))]
def c149r1 : List GI := [xn 5 0,
 xm 6 1,
 xc 7 251 [(xt 5), (xt 6)],
 xb 8 .geq (xt 7) (xi 0),
 xm 4 8]
def c149 : AC := (.seq (.reg c149r0 [0, 1]) (.seq (.reg c149r1 [4]) .ret))
def c149R : List AR := [.t 4]
theorem k149 : chkF Tryz.prog GLx 149 2 c149 c149R = true := by kernel_rfl
def c150r0 : List GI := [xo (.box 2 (xt 0)),
 xo (.mv 3 (.c (.v (.bool false))))]
def c150r1 : List GI := [xl 4 1 1,
 xp 5 (.load (xt 2) 4 true),
 xo (.call (some 6) (xt 4) [(xt 5)]),
 xp 7 (.not (xt 6)),
 xm 3 7]
def c150 : AC := (.seq (.reg c150r0 [1, 2]) (.seq (.reg c150r1 [3]) .ret))
def c150R : List AR := [.t 3]
theorem k150 : chkF Tryz.prog GLx 150 2 c150 c150R = true := by kernel_rfl
def c151r0 : List GI := [xo (.mv 4 (.c (.v (.bool false))))]
def c151r1 : List GI := [xn 5 0,
 xm 6 1,
 xc 7 252 [(xt 5), (xt 6)],
 xb 8 .geq (xt 7) (xi 0),
 xm 4 8]
def c151 : AC := (.seq (.reg c151r0 [0, 1]) (.seq (.reg c151r1 [4]) .ret))
def c151R : List AR := [.t 4]
theorem k151 : chkF Tryz.prog GLx 151 2 c151 c151R = true := by kernel_rfl
end Go.Va

