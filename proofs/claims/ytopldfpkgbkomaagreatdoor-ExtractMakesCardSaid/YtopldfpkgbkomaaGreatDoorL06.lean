/- Part 6 of the proof that ExtractMakes returns true for every input and leaves its arguments alone. Condition: the variable that the row lists holds what the text of the program lays. Texts joined here: VwR VwP VwS VwT VwU VwV VwW VwX VwY VwZ VsD VaU VwD VwDa VwDb VwDc VwDd VwCa VwCb VwCe VwCf VwCg VwCh VwCi VwCj VwCk VwDe VwDf VwEa VwCc VwZa VwZb VwZc. -/
import Derived.Test.YtopldfpkgbkomaaGreatDoorL02
import Derived.Test.YtopldfpkgbkomaaGreatDoorL04
import Derived.Test.YtopldfpkgbkomaaGreatDoorL05
set_option linter.all false
namespace Go.Va
open Go.Proofs
theorem natBeq0 (n : Nat) : ((n : Int) == 0) = (n == 0) := by rw [Bool.eq_iff_iff]; simp
theorem natBeq1 (n : Nat) : ((n : Int) == 1) = (n == 1) := by rw [Bool.eq_iff_iff]; simp; omega
def odd1 (f : F) : Bool := decide ((f.op ≠ 2 ∧ 0 < f.ins.length) ∨ (f.op ≠ 2 ∧ f.op ≠ 1 ∧ f.n ≠ 0))
set_option maxHeartbeats 2000000 in
theorem l322a (f : F) (Q : AExit → St → Prop) (hQ : Q .normal ⟨[(1, .ref 0 0), (26, .v (.bool (odd1 f)))], [.cells f.cells]⟩) :
    awp Tryz.prog GLx (.reg c322r1 [1, 26]) Q ⟨[(1, .ref 0 0)], [.cells f.cells]⟩ := by
  obtain ⟨B, hB⟩ : ∃ B, odd1 f = B := ⟨_, rfl⟩
  rw [hB] at hQ
  obtain ⟨op, n, ins, kids⟩ := f
  simp only [F.cells, odd1, F.op, F.n, F.ins, F.kids] at *
  rw [awp_reg]
  simp only [c322r1]
  by_cases h2 : op = 2
  · subst h2; simp at hB; subst hB; simpa using hQ
  · by_cases hl : 0 < ins.length
    · have hl' : 0 < (ins.length : Int) := by omega
      simp [h2, hl] at hB; subst hB; simp [h2, hl, hl']; exact hQ
    · have hl' : ¬ 0 < (ins.length : Int) := by omega
      have hl2 : ins = [] := by cases ins <;> simp_all
      subst hl2
      by_cases h1 : op = 1
      · subst h1; simp at hB; subst hB; simpa using hQ
      · by_cases hn : n = 0
        · subst hn; simp at hB; subst hB; simp [h2, h1]; exact hQ
        · have hn2 : (n != 0) = true := by simpa using hn
          simp [h2, h1, hn] at hB; subst hB; simp [h2, h1, hn2]; exact hQ
theorem formedF_odd {f : F} (h : odd1 f = true) : formedF f = false := by
  unfold formedF
  unfold odd1 at h
  rw [if_pos (of_decide_eq_true h)]
theorem formedF_even {f : F} (h : odd1 f = false) : formedF f = if f.op = 0 then f.kids.length == 0
  else if f.op = 1 then decide (f.kids.length = 0 ∧ 0 ≤ f.n ∧ f.n < 64)
  else if f.op = 2 then decide (f.kids.length = 0 ∧ 0 ≤ f.n ∧ f.n < 32 ∧ spanE f.ins = 0)
  else if f.op = 3 ∨ f.op = 6 then f.kids.length == 1
  else decide (f.op = 4 ∨ f.op = 5) := by
  unfold formedF
  unfold odd1 at h
  rw [if_neg (of_decide_eq_false h)]
set_option maxHeartbeats 4000000 in
theorem p322 (f : F) (hf : f.ok1) : PSp Tryz.prog GLx 322 [f.V] [.bool (formedF f)] := by
  refine psp_of_awp k322 rfl ?_
  obtain ⟨R, hR⟩ : ∃ R, formedF f = R := ⟨_, rfl⟩
  rw [hR]
  have hp := (p338 f.ins hf.2.2.1 hf.2.2.2).fsp
  unfold c322
  rw [awp_seq, awp_reg]
  obtain ⟨op, n, ins, kids⟩ := f
  simp only [F.V_eq, F.op, F.n, F.ins, F.kids] at *
  simp [c322r0, entry]
  rw [awp_seq, awp_seq]
  have ha := l322a ⟨op, n, ins, kids⟩
  simp only [F.cells, F.op, F.n, F.ins, F.kids] at ha
  refine ha _ ?_
  simp [awp_cond]
  cases ho : odd1 ⟨op, n, ins, kids⟩ with
  | true =>
    rw [formedF_odd ho] at hR
    simp [awp_seq, awp_reg, awp_ret, c322r2, c322R, hR]
  | false =>
    rw [formedF_even ho] at hR
    simp only [F.op, F.n, F.ins, F.kids] at hR
    simp only [awp_skip, if_neg Bool.false_ne_true]
    simp only [awp_seq, awp_reg, awp_block, awp_cond, c322r3, c322r4]
    simp
    by_cases h0 : op = 0
    · subst h0
      simp at hR
      simp [awp_ret, awp_seq, awp_reg, c322r5, c322R, natBeq0, hR]
    · simp only [h0, if_false] at hR
      simp [h0, awp_seq, awp_reg, awp_cond, c322r6]
      by_cases h1 : op = 1
      · subst h1
        simp at hR
        simp [awp_ret, awp_seq, awp_reg, c322r7]
        by_cases hk : kids.length = 0
        · have hk2 : kids = [] := List.length_eq_zero_iff.1 hk
          subst hk2
          by_cases b1 : 0 ≤ n <;> by_cases b2 : n < 64 <;> simp [b1, b2] at hR <;> simp [b1, b2, c322R, hR]
        · have hk2 : ¬ kids = [] := fun h => hk (by rw [h]; rfl)
          simp [hk2] at hR
          simp [hk, hk2, c322R, hR]
      · simp only [h1, if_false] at hR
        simp [h1, awp_seq, awp_reg, awp_cond, c322r8]
        by_cases h2 : op = 2
        · subst h2
          simp at hR
          simp [awp_ret, awp_seq, awp_reg, c322r9]
          by_cases hk : kids.length = 0
          · have hk2 : kids = [] := List.length_eq_zero_iff.1 hk
            subst hk2
            by_cases b1 : 0 ≤ n <;> by_cases b2 : n < 32 <;> simp [b1, b2] at hR <;> simp [b1, b2, c322R, hR]
            refine ⟨_, _, hp _, ?_⟩
            simp
            rw [← hR, Bool.eq_iff_iff]; simp
          · have hk2 : ¬ kids = [] := fun h => hk (by rw [h]; rfl)
            simp [hk2] at hR
            simp [hk, hk2, c322R, hR]
        · simp only [h2, if_false] at hR
          simp [h2, awp_seq, awp_reg, awp_cond, c322r10]
          by_cases h3 : op = 3
          · subst h3
            simp at hR
            simp [awp_skip, awp_ret, awp_seq, awp_reg, c322r12, c322R, natBeq1, hR]
          · simp [h3, awp_skip, awp_reg, c322r11]
            by_cases h6 : op = 6
            · subst h6
              simp at hR
              simp [awp_skip, awp_ret, awp_seq, awp_reg, c322r12, c322R, natBeq1, hR]
            · simp [h3, h6] at hR
              simp [h6, awp_skip, awp_reg, awp_ret, c322r13]
              by_cases h4 : op = 4 <;> by_cases h5 : op = 5 <;> simp [h4, h5] at hR <;> simp [h4, h5, c322R, hR]
def wholeF (f : F) : Bool := f.nodes.all formedF
theorem wholeF_eq (op n : Int) (ins : List Ivl) (kids : List F) : wholeF (.mk op n ins kids) = (formedF (.mk op n ins kids) && kids.all wholeF) := by
  unfold wholeF
  rw [F.nodes_eq, List.all_cons, List.all_flatMap]
theorem p287 : ∀ f : F, f.ok → PSp Tryz.prog GLx 287 [f.V] [.bool (wholeF f)] := by
  refine F.ind fun op n ins kids ih hok => ?_
  refine psp_of_awp k287 rfl ?_
  obtain ⟨R, hR⟩ : ∃ R, wholeF (.mk op n ins kids) = R := ⟨_, rfl⟩
  rw [hR]
  rw [wholeF_eq] at hR
  have hsz := hok.2
  rw [F.size_eq] at hsz
  have hkl := F.kids_len kids
  have hp := (p322 _ (F.ok1_self hok)).fsp
  generalize formedF (.mk op n ins kids) = fm at *
  simp only [c287, awp_seq, awp_reg, awp_block, awp_cond, c287r0, c287r1, entry]
  simp [F.V_eq] at hp ⊢
  refine ⟨_, _, hp _, ?_⟩
  cases fm with
  | false => simp at hR; simp [awp_seq, awp_reg, awp_ret, c287r2, c287R, hR]
  | true =>
    simp only [Bool.true_and] at hR
    simp [awp_skip, awp_reg, c287r3]
    refine awp_loop_inv kids.length (fun k => ⟨[(1, .ref 0 0), (3, .v (.int .i64 k))], [.cells (F.mk op n ins kids).cells]⟩) (fun k => ∀ x ∈ kids.take k, wholeF x = true) (by simp [F.cells, F.op, F.n, F.ins, F.kids]) (by simp) ?_
    intro k hk hI
    simp only [c287l0, awp_seq, awp_reg, awp_block, awp_cond, c287r4, F.cells, F.op, F.n, F.ins, F.kids]
    simp
    by_cases h1 : k < kids.length
    · obtain ⟨x, hx⟩ : ∃ x, kids[k]? = some x := ⟨_, List.getElem?_eq_getElem h1⟩
      have hxm := List.mem_of_getElem? hx
      have hw : IntKind.i64.wrap ((k : Int) + 1) = k + 1 := wrap_i64 (by omega) (by omega)
      have p1 := (ih x hxm (F.ok_kid hok hxm)).fsp
      rw [if_pos (by omega), awp_skip]
      simp only [awp_reg, c287r6]
      cases hwx : wholeF x with
      | false =>
        have : kids.all wholeF = false := by rw [List.all_eq_false]; exact ⟨x, hxm, by simp [hwx]⟩
        rw [this] at hR
        obtain ⟨xo, xn, xi, xk⟩ := x
        simp [F.V_eq, hwx] at p1
        simp [hx, F.V_eq]
        refine ⟨_, _, p1 _, ?_⟩
        simp [awp_cond, awp_seq, awp_reg, awp_ret, c287r7, c287R, hR]
      | true =>
        have ht : ∀ y ∈ kids.take (k + 1), wholeF y = true := by
          rw [List.take_add_one, hx]
          intro y hy
          simp at hy
          rcases hy with hy | rfl
          · exact hI y hy
          · exact hwx
        obtain ⟨xo, xn, xi, xk⟩ := x
        simp [F.V_eq, hwx] at p1
        simp [hx, F.V_eq]
        refine ⟨_, _, p1 _, ?_⟩
        simp [awp_cond, awp_skip, awp_reg, c287r5, hw, h1]
        exact ht
    · have hk2 : k = kids.length := by omega
      subst hk2
      rw [if_neg (by omega), awp_exit]
      have : kids.all wholeF = true := by rw [List.all_eq_true]; simpa using hI
      rw [this] at hR
      simp [awp_reg, awp_ret, awp_seq, c287r8, c287R, hR]
theorem p214 (f : F) (hok : f.ok) : PSp Tryz.prog GLx 214 [f.V] [.int .i64 (formE f)] := by
  refine psp_of_awp k214 rfl ?_
  obtain ⟨R, hR⟩ : ∃ R, formE f = R := ⟨_, rfl⟩
  rw [hR]
  unfold formE at hR
  have e : f.nodes.all formedF = wholeF f := rfl
  rw [e] at hR
  have h1 := (p285 f hok).fsp
  have h2 := (p286 f hok).fsp
  have h3 := (p287 f hok).fsp
  obtain ⟨op, n, ins, kids⟩ := f
  simp only [c214, awp_seq, awp_reg, awp_block, awp_cond, c214r0, c214r1, entry]
  simp [F.V_eq] at h1 h2 h3 ⊢
  refine ⟨_, _, h1 _, ?_⟩
  generalize F.size (.mk op n ins kids) = sz at *
  generalize F.depth (.mk op n ins kids) = dp at *
  by_cases b1 : 96 < sz
  · have b1' : 96 < (sz : Int) := by omega
    simp [b1] at hR
    simp [b1', awp_seq, awp_reg, awp_ret, c214r2, c214R, hR]
  · have b1' : ¬ 96 < (sz : Int) := by omega
    simp [b1']
    refine ⟨_, _, h2 _, ?_⟩
    by_cases b2 : 8 < dp
    · have b2' : 8 < (dp : Int) := by omega
      simp [b2] at hR
      simp [b2', awp_seq, awp_reg, awp_ret, c214r2, c214R, hR]
    · have b2' : ¬ 8 < (dp : Int) := by omega
      simp [b1, b2] at hR
      simp [b2', awp_skip, awp_reg, c214r3]
      refine ⟨_, _, h3 _, ?_⟩
      cases hw : wholeF (.mk op n ins kids) with
      | false => simp [hw] at hR; simp [awp_cond, awp_seq, awp_reg, awp_ret, c214r4, c214R, hR]
      | true => simp [hw] at hR; simp [awp_cond, awp_skip, awp_seq, awp_reg, awp_ret, c214r5, c214R, hR]
end Go.Va

namespace Go.Va
open Go.Proofs
def IdxR (P : Program) (GL : Globals) (fid : Nat) (caps : List D) : List V → List Row → Option Nat → List Row → Prop
  | [], h, r, h' => r = none ∧ h' = h
  | x :: xs, h, r, h' => ∃ b h1, FSp P GL fid (.v x :: caps) h [.v (.bool b)] h1 ∧ if b then r = some 0 ∧ h' = h1 else ∃ r', IdxR P GL fid caps xs h1 r' h' ∧ r = r'.map (· + 1)
def idxI : Option Nat → Int
  | none => -1
  | some k => k
theorem IdxR.pure {P : Program} {GL : Globals} {fid : Nat} {caps : List D} {p : V → Bool} {xs : List V} (hp : ∀ x ∈ xs, ∀ h, FSp P GL fid (.v x :: caps) h [.v (.bool (p x))] h) (h : List Row) : IdxR P GL fid caps xs h (xs.findIdx? p) h := by
  induction xs with
  | nil => exact ⟨rfl, rfl⟩
  | cons x xs ih =>
    refine ⟨p x, h, hp x (by simp) h, ?_⟩
    cases hx : p x with
    | true => simp [List.findIdx?_cons, hx]
    | false =>
      simp only [Bool.false_eq_true, if_false]
      exact ⟨_, ih fun y hy => hp y (by simp [hy]), by simp [List.findIdx?_cons, hx]⟩
theorem findIdx_any {α : Type} (p : α → Bool) (xs : List α) : (xs.findIdx? p).isSome = xs.any p := by
  induction xs with
  | nil => rfl
  | cons x xs ih =>
    cases hx : p x with
    | true => simp [List.findIdx?_cons, hx]
    | false => simp only [List.findIdx?_cons, hx, List.any_cons, Bool.false_or, Bool.false_eq_true, if_false, Option.isSome_map]; exact ih
theorem idxI_ge (r : Option Nat) : (0 ≤ idxI r) ↔ r.isSome = true := by
  cases r with
  | none => simp [idxI]
  | some k => simp [idxI]
structure FV (fd : D) (fid : Nat) (caps : List D) : Prop where
  cp : fd.copy = fd
  fn : fnOf fd = some (fid, caps)
  nm : fd.norm = fd
  ny : ∀ r, fd ≠ .yld r
  nt : ∀ a b, fd ≠ .meth a b
theorem FV.v (fid : Nat) (vs : List V) : FV (.v (.func fid vs)) fid (vs.map .v) := ⟨rfl, rfl, rfl, (fun _ h => by cases h), (fun _ _ h => by cases h)⟩
theorem FV.r (fid r o : Nat) (caps : List D) : FV (.func fid (.ref r o :: caps)) fid (.ref r o :: caps) := by
  have e : D.norm (.func fid (.ref r o :: caps)) = .func fid (.ref r o :: caps) := by simp [D.norm, D.vs?, D.v?]
  exact ⟨rfl, by unfold fnOf; rw [e], e, (fun _ h => by cases h), (fun _ _ h => by cases h)⟩
theorem l251a (fd : D) (fid : Nat) (caps : List D) (hf : FV fd fid caps) (all : List V) (m : Nat) (hm2 : all.length = m) (hlen : m < 2 ^ 40)
    (Q : AExit → St → Prop) : ∀ (xs : List V) (k : Nat) (h : List Row) (r : Option Nat) (h' : List Row), all.drop k = xs → k ≤ m → (∀ x ∈ xs, ∃ cs, x = .agg cs ∧ cs.length = 4) → IdxR Tryz.prog GLx fid caps xs h r h' →
    (r = none → ∀ e, find e 0 = .v (.list all) → Q (.exit 0) ⟨e, h'⟩) → (∀ j, r = some j → ∀ e, find e 4 = .v (.int .i64 ((k + j : Nat) : Int)) → Q .ret ⟨e, h'⟩) →
    awp Tryz.prog GLx (.loop c251l0) Q ⟨[(0, .v (.list all)), (1, fd), (7, .v (.int .i64 m)), (8, .v (.int .i64 k))], h⟩ := by
  have hfn := hf.nm
  have hcp := hf.cp
  have hcp2 := hf.cp
  simp only [D.copy] at hcp2
  intro xs
  induction xs with
  | nil =>
    rintro k h r h' hd hk hc ⟨rfl, rfl⟩ hn hs
    have h0 : m ≤ k := by rw [← hm2]; exact List.drop_eq_nil_iff.1 hd
    refine awp_loop_end ?_
    simp only [c251l0, awp_seq, awp_reg, awp_block, awp_cond, c251r2]
    have h2 : ¬ (k : Int) < m := by omega
    simp [h2, awp_exit]
    exact hn rfl _ rfl
  | cons x xs ih =>
    rintro k h r h' hd hk hc ⟨b, h1, hb, hr⟩ hn hs
    have hx : all[k]? = some x := by have := congrArg (·[0]?) hd; simpa using this
    have hkl : k < m := by rw [← hm2]; exact (List.getElem?_eq_some_iff.1 hx).1
    have hd' : all.drop (k + 1) = xs := by have := congrArg (List.drop 1) hd; simpa using this
    have hw : IntKind.i64.wrap ((k : Int) + 1) = k + 1 := wrap_i64 (by omega) (by omega)
    have hkl' : (k : Int) < m := by omega
    have hcx := hc x (by simp)
    obtain ⟨cs, rfl, hcs⟩ := hcx
    have step : awp Tryz.prog GLx c251l0 (fun e s' => match e with | .normal => b = false ∧ s' = ⟨[(0, .v (.list all)), (1, fd), (7, .v (.int .i64 m)), (8, .v (.int .i64 (k + 1 : Nat)))], h1⟩ | .ret => b = true ∧ find s'.e 4 = .v (.int .i64 k) ∧ s'.h = h1 | .exit _ => False) ⟨[(0, .v (.list all)), (1, fd), (7, .v (.int .i64 m)), (8, .v (.int .i64 k))], h⟩ := by
      simp only [c251l0, awp_seq, awp_reg, awp_block, awp_cond, c251r2]
      simp [hkl', awp_skip, awp_reg, c251r3, c251r4, hx, hcp2, -awpCall, hcs]
      have hcall : ∀ (K : St → Prop) (e : Env), find e 11 = fd → find e 15 = .v (.agg cs) → K ⟨setO e (some 16) (.v (.bool b)), h1⟩ → awpCall Tryz.prog GLx (some 16) (.t 11 false) [.t 15 false] K ⟨e, h⟩ := by
        intro K e e1 e2 hK
        unfold awpCall
        have e3 : (Opd.t 11 false).ev e = fd := by simp only [Opd.ev, Bool.false_eq_true, if_false, e1, hcp]
        rw [e3]
        split
        · rename_i q; exact absurd rfl (hf.ny _)
        · rename_i q; exact absurd rfl (hf.nt _ _)
        · rw [hf.fn]
          refine ⟨[.v (.bool b)], h1, ?_, hK⟩
          simpa [e2] using hb
      refine hcall _ _ ?_ ?_ ?_
      · simp [hcp2]
      · simp [List.take_of_length_le (Nat.le_of_eq hcs)]
      cases b with
      | false => simp [awp_skip, awp_cond, awp_reg, c251r6, hw, hcp2]
      | true => simp [awp_cond, awp_seq, awp_reg, awp_ret, c251r5]
    cases b with
    | false =>
      obtain ⟨r', hr1, rfl⟩ := hr
      refine awp_loop_one (awp_mono _ ?_ step) (ih (k + 1) h1 r' h' hd' (by omega) (fun y hy => hc y (by simp [hy])) hr1 (fun e => hn (by rw [e]; rfl)) ?_)
      · intro e s' h
        cases e with
        | normal => exact h.2
        | exit i => exact h.elim
        | ret => cases h.1
      · intro j e e1 e2
        refine hs (j + 1) (by rw [e]; rfl) e1 ?_
        rw [e2]; congr 3; omega
    | true =>
      obtain ⟨rfl, rfl⟩ := hr
      refine awp_loop_end (awp_mono _ ?_ step)
      intro e s' h
      cases e with
      | normal => cases h.1
      | exit i => exact h.elim
      | ret => obtain ⟨_, h2, h3⟩ := h; have := hs 0 rfl s'.e h2; rw [← h3] at this; exact this
theorem p251 (fd : D) (fid : Nat) (caps : List D) (hf : FV fd fid caps) (xs : List V) (hlen : xs.length < 2 ^ 40) (hc : ∀ x ∈ xs, ∃ cs, x = .agg cs ∧ cs.length = 4) {h h' : List Row} {r : Option Nat} (hr : IdxR Tryz.prog GLx fid caps xs h r h') :
    FSp Tryz.prog GLx 251 [.v (.list xs), fd] h [.v (.int .i64 (idxI r))] h' := by
  refine fsp_of_awp k251 rfl ?_
  have hcp := hf.cp
  simp only [D.copy] at hcp
  simp only [c251, awp_seq, awp_reg, awp_block, c251r0, c251r1, entryD]
  simp [hcp]
  refine l251a fd fid caps hf xs xs.length rfl hlen _ xs 0 h r h' rfl (Nat.zero_le _) hc hr ?_ ?_
  · rintro rfl e he
    simp [awp_reg, awp_ret, c251r7, c251R, idxI]
  · rintro j rfl e he
    simp at he
    simp [he, c251R, idxI]
theorem p149 (fd : D) (fid : Nat) (caps : List D) (hf : FV fd fid caps) (xs : List V) (hlen : xs.length < 2 ^ 40) (hc : ∀ x ∈ xs, ∃ cs, x = .agg cs ∧ cs.length = 4) {h h' : List Row} {r : Option Nat} (hr : IdxR Tryz.prog GLx fid caps xs h r h') :
    FSp Tryz.prog GLx 149 [.v (.list xs), fd] h [.v (.bool r.isSome)] h' := by
  refine fsp_of_awp k149 rfl ?_
  have hcp := hf.cp
  simp only [D.copy] at hcp
  have hnm := hf.nm
  have hp := p251 fd fid caps hf xs hlen hc hr
  have hge := idxI_ge r
  simp only [c149, awp_seq, awp_reg, awp_block, c149r0, c149r1, entryD]
  simp [hcp, -D.norm]
  rw [hnm]
  refine ⟨_, _, hp, ?_⟩
  simp [awp_ret, c149R, hge]
theorem l252a (fd : D) (fid : Nat) (caps : List D) (hf : FV fd fid caps) (all : List V) (m : Nat) (hm2 : all.length = m) (hlen : m < 2 ^ 40)
    (Q : AExit → St → Prop) : ∀ (xs : List V) (k : Nat) (h : List Row) (r : Option Nat) (h' : List Row), all.drop k = xs → k ≤ m → (∀ x ∈ xs, ∃ n, x = .int .i64 n) → IdxR Tryz.prog GLx fid caps xs h r h' →
    (r = none → ∀ e, find e 0 = .v (.list all) → Q (.exit 0) ⟨e, h'⟩) → (∀ j, r = some j → ∀ e, find e 4 = .v (.int .i64 ((k + j : Nat) : Int)) → Q .ret ⟨e, h'⟩) →
    awp Tryz.prog GLx (.loop c252l0) Q ⟨[(0, .v (.list all)), (1, fd), (7, .v (.int .i64 m)), (8, .v (.int .i64 k))], h⟩ := by
  have hfn := hf.nm
  have hcp := hf.cp
  have hcp2 := hf.cp
  simp only [D.copy] at hcp2
  intro xs
  induction xs with
  | nil =>
    rintro k h r h' hd hk hc ⟨rfl, rfl⟩ hn hs
    have h0 : m ≤ k := by rw [← hm2]; exact List.drop_eq_nil_iff.1 hd
    refine awp_loop_end ?_
    simp only [c252l0, awp_seq, awp_reg, awp_block, awp_cond, c252r2]
    have h2 : ¬ (k : Int) < m := by omega
    simp [h2, awp_exit]
    exact hn rfl _ rfl
  | cons x xs ih =>
    rintro k h r h' hd hk hc ⟨b, h1, hb, hr⟩ hn hs
    have hx : all[k]? = some x := by have := congrArg (·[0]?) hd; simpa using this
    have hkl : k < m := by rw [← hm2]; exact (List.getElem?_eq_some_iff.1 hx).1
    have hd' : all.drop (k + 1) = xs := by have := congrArg (List.drop 1) hd; simpa using this
    have hw : IntKind.i64.wrap ((k : Int) + 1) = k + 1 := wrap_i64 (by omega) (by omega)
    have hkl' : (k : Int) < m := by omega
    have hcx := hc x (by simp)
    obtain ⟨n0, rfl⟩ := hcx
    have step : awp Tryz.prog GLx c252l0 (fun e s' => match e with | .normal => b = false ∧ s' = ⟨[(0, .v (.list all)), (1, fd), (7, .v (.int .i64 m)), (8, .v (.int .i64 (k + 1 : Nat)))], h1⟩ | .ret => b = true ∧ find s'.e 4 = .v (.int .i64 k) ∧ s'.h = h1 | .exit _ => False) ⟨[(0, .v (.list all)), (1, fd), (7, .v (.int .i64 m)), (8, .v (.int .i64 k))], h⟩ := by
      simp only [c252l0, awp_seq, awp_reg, awp_block, awp_cond, c252r2]
      simp [hkl', awp_skip, awp_reg, c252r3, c252r4, hx, hcp2, -awpCall]
      have hcall : ∀ (K : St → Prop) (e : Env), find e 11 = fd → find e 15 = .v (.int .i64 n0) → K ⟨setO e (some 16) (.v (.bool b)), h1⟩ → awpCall Tryz.prog GLx (some 16) (.t 11 false) [.t 15 false] K ⟨e, h⟩ := by
        intro K e e1 e2 hK
        unfold awpCall
        have e3 : (Opd.t 11 false).ev e = fd := by simp only [Opd.ev, Bool.false_eq_true, if_false, e1, hcp]
        rw [e3]
        split
        · rename_i q; exact absurd rfl (hf.ny _)
        · rename_i q; exact absurd rfl (hf.nt _ _)
        · rw [hf.fn]
          refine ⟨[.v (.bool b)], h1, ?_, hK⟩
          simpa [e2] using hb
      refine hcall _ _ ?_ ?_ ?_
      · simp [hcp2]
      · simp []
      cases b with
      | false => simp [awp_skip, awp_cond, awp_reg, c252r6, hw, hcp2]
      | true => simp [awp_cond, awp_seq, awp_reg, awp_ret, c252r5]
    cases b with
    | false =>
      obtain ⟨r', hr1, rfl⟩ := hr
      refine awp_loop_one (awp_mono _ ?_ step) (ih (k + 1) h1 r' h' hd' (by omega) (fun y hy => hc y (by simp [hy])) hr1 (fun e => hn (by rw [e]; rfl)) ?_)
      · intro e s' h
        cases e with
        | normal => exact h.2
        | exit i => exact h.elim
        | ret => cases h.1
      · intro j e e1 e2
        refine hs (j + 1) (by rw [e]; rfl) e1 ?_
        rw [e2]; congr 3; omega
    | true =>
      obtain ⟨rfl, rfl⟩ := hr
      refine awp_loop_end (awp_mono _ ?_ step)
      intro e s' h
      cases e with
      | normal => cases h.1
      | exit i => exact h.elim
      | ret => obtain ⟨_, h2, h3⟩ := h; have := hs 0 rfl s'.e h2; rw [← h3] at this; exact this
theorem p252 (fd : D) (fid : Nat) (caps : List D) (hf : FV fd fid caps) (xs : List V) (hlen : xs.length < 2 ^ 40) (hc : ∀ x ∈ xs, ∃ n, x = .int .i64 n) {h h' : List Row} {r : Option Nat} (hr : IdxR Tryz.prog GLx fid caps xs h r h') :
    FSp Tryz.prog GLx 252 [.v (.list xs), fd] h [.v (.int .i64 (idxI r))] h' := by
  refine fsp_of_awp k252 rfl ?_
  have hcp := hf.cp
  simp only [D.copy] at hcp
  simp only [c252, awp_seq, awp_reg, awp_block, c252r0, c252r1, entryD]
  simp [hcp]
  refine l252a fd fid caps hf xs xs.length rfl hlen _ xs 0 h r h' rfl (Nat.zero_le _) hc hr ?_ ?_
  · rintro rfl e he
    simp [awp_reg, awp_ret, c252r7, c252R, idxI]
  · rintro j rfl e he
    simp at he
    simp [he, c252R, idxI]
theorem p151 (fd : D) (fid : Nat) (caps : List D) (hf : FV fd fid caps) (xs : List V) (hlen : xs.length < 2 ^ 40) (hc : ∀ x ∈ xs, ∃ n, x = .int .i64 n) {h h' : List Row} {r : Option Nat} (hr : IdxR Tryz.prog GLx fid caps xs h r h') :
    FSp Tryz.prog GLx 151 [.v (.list xs), fd] h [.v (.bool r.isSome)] h' := by
  refine fsp_of_awp k151 rfl ?_
  have hcp := hf.cp
  simp only [D.copy] at hcp
  have hnm := hf.nm
  have hp := p252 fd fid caps hf xs hlen hc hr
  have hge := idxI_ge r
  simp only [c151, awp_seq, awp_reg, awp_block, c151r0, c151r1, entryD]
  simp [hcp, -D.norm]
  rw [hnm]
  refine ⟨_, _, hp, ?_⟩
  simp [awp_ret, c151R, hge]
theorem l318a (fd : D) (fid : Nat) (caps : List D) (hf : FV fd fid caps) (all : List V) (m : Nat) (hm2 : all.length = m) (hlen : m < 2 ^ 40)
    (Q : AExit → St → Prop) : ∀ (xs : List V) (k : Nat) (h : List Row) (r : Option Nat) (h' : List Row), all.drop k = xs → k ≤ m → (∀ x ∈ xs, ∃ cs, x = .agg cs ∧ cs.length = 4) → IdxR Tryz.prog GLx fid caps xs h r h' →
    (r = none → ∀ e, find e 0 = .v (.list all) → Q (.exit 0) ⟨e, h'⟩) → (∀ j, r = some j → ∀ e, find e 4 = .v (.int .i64 ((k + j : Nat) : Int)) → Q .ret ⟨e, h'⟩) →
    awp Tryz.prog GLx (.loop c318l0) Q ⟨[(0, .v (.list all)), (1, fd), (7, .v (.int .i64 m)), (8, .v (.int .i64 k))], h⟩ := by
  have hfn := hf.nm
  have hcp := hf.cp
  have hcp2 := hf.cp
  simp only [D.copy] at hcp2
  intro xs
  induction xs with
  | nil =>
    rintro k h r h' hd hk hc ⟨rfl, rfl⟩ hn hs
    have h0 : m ≤ k := by rw [← hm2]; exact List.drop_eq_nil_iff.1 hd
    refine awp_loop_end ?_
    simp only [c318l0, awp_seq, awp_reg, awp_block, awp_cond, c318r2]
    have h2 : ¬ (k : Int) < m := by omega
    simp [h2, awp_exit]
    exact hn rfl _ rfl
  | cons x xs ih =>
    rintro k h r h' hd hk hc ⟨b, h1, hb, hr⟩ hn hs
    have hx : all[k]? = some x := by have := congrArg (·[0]?) hd; simpa using this
    have hkl : k < m := by rw [← hm2]; exact (List.getElem?_eq_some_iff.1 hx).1
    have hd' : all.drop (k + 1) = xs := by have := congrArg (List.drop 1) hd; simpa using this
    have hw : IntKind.i64.wrap ((k : Int) + 1) = k + 1 := wrap_i64 (by omega) (by omega)
    have hkl' : (k : Int) < m := by omega
    have hcx := hc x (by simp)
    obtain ⟨cs, rfl, hcs⟩ := hcx
    have step : awp Tryz.prog GLx c318l0 (fun e s' => match e with | .normal => b = false ∧ s' = ⟨[(0, .v (.list all)), (1, fd), (7, .v (.int .i64 m)), (8, .v (.int .i64 (k + 1 : Nat)))], h1⟩ | .ret => b = true ∧ find s'.e 4 = .v (.int .i64 k) ∧ s'.h = h1 | .exit _ => False) ⟨[(0, .v (.list all)), (1, fd), (7, .v (.int .i64 m)), (8, .v (.int .i64 k))], h⟩ := by
      simp only [c318l0, awp_seq, awp_reg, awp_block, awp_cond, c318r2]
      simp [hkl', awp_skip, awp_reg, c318r3, c318r4, hx, hcp2, -awpCall, hcs]
      have hcall : ∀ (K : St → Prop) (e : Env), find e 11 = fd → find e 15 = .v (.agg cs) → K ⟨setO e (some 16) (.v (.bool b)), h1⟩ → awpCall Tryz.prog GLx (some 16) (.t 11 false) [.t 15 false] K ⟨e, h⟩ := by
        intro K e e1 e2 hK
        unfold awpCall
        have e3 : (Opd.t 11 false).ev e = fd := by simp only [Opd.ev, Bool.false_eq_true, if_false, e1, hcp]
        rw [e3]
        split
        · rename_i q; exact absurd rfl (hf.ny _)
        · rename_i q; exact absurd rfl (hf.nt _ _)
        · rw [hf.fn]
          refine ⟨[.v (.bool b)], h1, ?_, hK⟩
          simpa [e2] using hb
      refine hcall _ _ ?_ ?_ ?_
      · simp [hcp2]
      · simp [List.take_of_length_le (Nat.le_of_eq hcs)]
      cases b with
      | false => simp [awp_skip, awp_cond, awp_reg, c318r6, hw, hcp2]
      | true => simp [awp_cond, awp_seq, awp_reg, awp_ret, c318r5]
    cases b with
    | false =>
      obtain ⟨r', hr1, rfl⟩ := hr
      refine awp_loop_one (awp_mono _ ?_ step) (ih (k + 1) h1 r' h' hd' (by omega) (fun y hy => hc y (by simp [hy])) hr1 (fun e => hn (by rw [e]; rfl)) ?_)
      · intro e s' h
        cases e with
        | normal => exact h.2
        | exit i => exact h.elim
        | ret => cases h.1
      · intro j e e1 e2
        refine hs (j + 1) (by rw [e]; rfl) e1 ?_
        rw [e2]; congr 3; omega
    | true =>
      obtain ⟨rfl, rfl⟩ := hr
      refine awp_loop_end (awp_mono _ ?_ step)
      intro e s' h
      cases e with
      | normal => cases h.1
      | exit i => exact h.elim
      | ret => obtain ⟨_, h2, h3⟩ := h; have := hs 0 rfl s'.e h2; rw [← h3] at this; exact this
theorem p318 (fd : D) (fid : Nat) (caps : List D) (hf : FV fd fid caps) (xs : List V) (hlen : xs.length < 2 ^ 40) (hc : ∀ x ∈ xs, ∃ cs, x = .agg cs ∧ cs.length = 4) {h h' : List Row} {r : Option Nat} (hr : IdxR Tryz.prog GLx fid caps xs h r h') :
    FSp Tryz.prog GLx 318 [.v (.list xs), fd] h [.v (.int .i64 (idxI r))] h' := by
  refine fsp_of_awp k318 rfl ?_
  have hcp := hf.cp
  simp only [D.copy] at hcp
  simp only [c318, awp_seq, awp_reg, awp_block, c318r0, c318r1, entryD]
  simp [hcp]
  refine l318a fd fid caps hf xs xs.length rfl hlen _ xs 0 h r h' rfl (Nat.zero_le _) hc hr ?_ ?_
  · rintro rfl e he
    simp [awp_reg, awp_ret, c318r7, c318R, idxI]
  · rintro j rfl e he
    simp at he
    simp [he, c318R, idxI]
theorem p277 (fd : D) (fid : Nat) (caps : List D) (hf : FV fd fid caps) (xs : List V) (hlen : xs.length < 2 ^ 40) (hc : ∀ x ∈ xs, ∃ cs, x = .agg cs ∧ cs.length = 4) {h h' : List Row} {r : Option Nat} (hr : IdxR Tryz.prog GLx fid caps xs h r h') :
    FSp Tryz.prog GLx 277 [.v (.list xs), fd] h [.v (.bool r.isSome)] h' := by
  refine fsp_of_awp k277 rfl ?_
  have hcp := hf.cp
  simp only [D.copy] at hcp
  have hnm := hf.nm
  have hp := p318 fd fid caps hf xs hlen hc hr
  have hge := idxI_ge r
  simp only [c277, awp_seq, awp_reg, awp_block, c277r0, c277r1, entryD]
  simp [hcp, -D.norm]
  rw [hnm]
  refine ⟨_, _, hp, ?_⟩
  simp [awp_ret, c277R, hge]
theorem l323a (fd : D) (fid : Nat) (caps : List D) (hf : FV fd fid caps) (all : List V) (m : Nat) (hm2 : all.length = m) (hlen : m < 2 ^ 40)
    (Q : AExit → St → Prop) : ∀ (xs : List V) (k : Nat) (h : List Row) (r : Option Nat) (h' : List Row), all.drop k = xs → k ≤ m → (∀ x ∈ xs, ∃ cs, x = .agg cs ∧ cs.length = 4) → IdxR Tryz.prog GLx fid caps xs h r h' →
    (r = none → ∀ e, find e 0 = .v (.list all) → Q (.exit 0) ⟨e, h'⟩) → (∀ j, r = some j → ∀ e, find e 4 = .v (.int .i64 ((k + j : Nat) : Int)) → Q .ret ⟨e, h'⟩) →
    awp Tryz.prog GLx (.loop c323l0) Q ⟨[(0, .v (.list all)), (1, fd), (7, .v (.int .i64 m)), (8, .v (.int .i64 k))], h⟩ := by
  have hfn := hf.nm
  have hcp := hf.cp
  have hcp2 := hf.cp
  simp only [D.copy] at hcp2
  intro xs
  induction xs with
  | nil =>
    rintro k h r h' hd hk hc ⟨rfl, rfl⟩ hn hs
    have h0 : m ≤ k := by rw [← hm2]; exact List.drop_eq_nil_iff.1 hd
    refine awp_loop_end ?_
    simp only [c323l0, awp_seq, awp_reg, awp_block, awp_cond, c323r2]
    have h2 : ¬ (k : Int) < m := by omega
    simp [h2, awp_exit]
    exact hn rfl _ rfl
  | cons x xs ih =>
    rintro k h r h' hd hk hc ⟨b, h1, hb, hr⟩ hn hs
    have hx : all[k]? = some x := by have := congrArg (·[0]?) hd; simpa using this
    have hkl : k < m := by rw [← hm2]; exact (List.getElem?_eq_some_iff.1 hx).1
    have hd' : all.drop (k + 1) = xs := by have := congrArg (List.drop 1) hd; simpa using this
    have hw : IntKind.i64.wrap ((k : Int) + 1) = k + 1 := wrap_i64 (by omega) (by omega)
    have hkl' : (k : Int) < m := by omega
    have hcx := hc x (by simp)
    obtain ⟨cs, rfl, hcs⟩ := hcx
    have step : awp Tryz.prog GLx c323l0 (fun e s' => match e with | .normal => b = false ∧ s' = ⟨[(0, .v (.list all)), (1, fd), (7, .v (.int .i64 m)), (8, .v (.int .i64 (k + 1 : Nat)))], h1⟩ | .ret => b = true ∧ find s'.e 4 = .v (.int .i64 k) ∧ s'.h = h1 | .exit _ => False) ⟨[(0, .v (.list all)), (1, fd), (7, .v (.int .i64 m)), (8, .v (.int .i64 k))], h⟩ := by
      simp only [c323l0, awp_seq, awp_reg, awp_block, awp_cond, c323r2]
      simp [hkl', awp_skip, awp_reg, c323r3, c323r4, hx, hcp2, -awpCall, hcs]
      have hcall : ∀ (K : St → Prop) (e : Env), find e 11 = fd → find e 15 = .v (.agg cs) → K ⟨setO e (some 16) (.v (.bool b)), h1⟩ → awpCall Tryz.prog GLx (some 16) (.t 11 false) [.t 15 false] K ⟨e, h⟩ := by
        intro K e e1 e2 hK
        unfold awpCall
        have e3 : (Opd.t 11 false).ev e = fd := by simp only [Opd.ev, Bool.false_eq_true, if_false, e1, hcp]
        rw [e3]
        split
        · rename_i q; exact absurd rfl (hf.ny _)
        · rename_i q; exact absurd rfl (hf.nt _ _)
        · rw [hf.fn]
          refine ⟨[.v (.bool b)], h1, ?_, hK⟩
          simpa [e2] using hb
      refine hcall _ _ ?_ ?_ ?_
      · simp [hcp2]
      · simp [List.take_of_length_le (Nat.le_of_eq hcs)]
      cases b with
      | false => simp [awp_skip, awp_cond, awp_reg, c323r6, hw, hcp2]
      | true => simp [awp_cond, awp_seq, awp_reg, awp_ret, c323r5]
    cases b with
    | false =>
      obtain ⟨r', hr1, rfl⟩ := hr
      refine awp_loop_one (awp_mono _ ?_ step) (ih (k + 1) h1 r' h' hd' (by omega) (fun y hy => hc y (by simp [hy])) hr1 (fun e => hn (by rw [e]; rfl)) ?_)
      · intro e s' h
        cases e with
        | normal => exact h.2
        | exit i => exact h.elim
        | ret => cases h.1
      · intro j e e1 e2
        refine hs (j + 1) (by rw [e]; rfl) e1 ?_
        rw [e2]; congr 3; omega
    | true =>
      obtain ⟨rfl, rfl⟩ := hr
      refine awp_loop_end (awp_mono _ ?_ step)
      intro e s' h
      cases e with
      | normal => cases h.1
      | exit i => exact h.elim
      | ret => obtain ⟨_, h2, h3⟩ := h; have := hs 0 rfl s'.e h2; rw [← h3] at this; exact this
theorem p323 (fd : D) (fid : Nat) (caps : List D) (hf : FV fd fid caps) (xs : List V) (hlen : xs.length < 2 ^ 40) (hc : ∀ x ∈ xs, ∃ cs, x = .agg cs ∧ cs.length = 4) {h h' : List Row} {r : Option Nat} (hr : IdxR Tryz.prog GLx fid caps xs h r h') :
    FSp Tryz.prog GLx 323 [.v (.list xs), fd] h [.v (.int .i64 (idxI r))] h' := by
  refine fsp_of_awp k323 rfl ?_
  have hcp := hf.cp
  simp only [D.copy] at hcp
  simp only [c323, awp_seq, awp_reg, awp_block, c323r0, c323r1, entryD]
  simp [hcp]
  refine l323a fd fid caps hf xs xs.length rfl hlen _ xs 0 h r h' rfl (Nat.zero_le _) hc hr ?_ ?_
  · rintro rfl e he
    simp [awp_reg, awp_ret, c323r7, c323R, idxI]
  · rintro j rfl e he
    simp at he
    simp [he, c323R, idxI]
theorem p293 (fd : D) (fid : Nat) (caps : List D) (hf : FV fd fid caps) (xs : List V) (hlen : xs.length < 2 ^ 40) (hc : ∀ x ∈ xs, ∃ cs, x = .agg cs ∧ cs.length = 4) {h h' : List Row} {r : Option Nat} (hr : IdxR Tryz.prog GLx fid caps xs h r h') :
    FSp Tryz.prog GLx 293 [.v (.list xs), fd] h [.v (.bool r.isSome)] h' := by
  refine fsp_of_awp k293 rfl ?_
  have hcp := hf.cp
  simp only [D.copy] at hcp
  have hnm := hf.nm
  have hp := p323 fd fid caps hf xs hlen hc hr
  have hge := idxI_ge r
  simp only [c293, awp_seq, awp_reg, awp_block, c293r0, c293r1, entryD]
  simp [hcp, -D.norm]
  rw [hnm]
  refine ⟨_, _, hp, ?_⟩
  simp [awp_ret, c293R, hge]
theorem l272a (fd : D) (fid : Nat) (caps : List D) (hf : FV fd fid caps) (all : List V) (m : Nat) (hm2 : all.length = m) (hlen : m < 2 ^ 40)
    (Q : AExit → St → Prop) : ∀ (xs : List V) (k : Nat) (h : List Row) (r : Option Nat) (h' : List Row), all.drop k = xs → k ≤ m → (∀ x ∈ xs, ∃ cs, x = .agg cs ∧ cs.length = 3) → IdxR Tryz.prog GLx fid caps xs h r h' →
    (r = none → ∀ e, find e 0 = .v (.list all) → Q (.exit 0) ⟨e, h'⟩) → (∀ j, r = some j → ∀ e, find e 4 = .v (.int .i64 ((k + j : Nat) : Int)) → Q .ret ⟨e, h'⟩) →
    awp Tryz.prog GLx (.loop c272l0) Q ⟨[(0, .v (.list all)), (1, fd), (7, .v (.int .i64 m)), (8, .v (.int .i64 k))], h⟩ := by
  have hfn := hf.nm
  have hcp := hf.cp
  have hcp2 := hf.cp
  simp only [D.copy] at hcp2
  intro xs
  induction xs with
  | nil =>
    rintro k h r h' hd hk hc ⟨rfl, rfl⟩ hn hs
    have h0 : m ≤ k := by rw [← hm2]; exact List.drop_eq_nil_iff.1 hd
    refine awp_loop_end ?_
    simp only [c272l0, awp_seq, awp_reg, awp_block, awp_cond, c272r2]
    have h2 : ¬ (k : Int) < m := by omega
    simp [h2, awp_exit]
    exact hn rfl _ rfl
  | cons x xs ih =>
    rintro k h r h' hd hk hc ⟨b, h1, hb, hr⟩ hn hs
    have hx : all[k]? = some x := by have := congrArg (·[0]?) hd; simpa using this
    have hkl : k < m := by rw [← hm2]; exact (List.getElem?_eq_some_iff.1 hx).1
    have hd' : all.drop (k + 1) = xs := by have := congrArg (List.drop 1) hd; simpa using this
    have hw : IntKind.i64.wrap ((k : Int) + 1) = k + 1 := wrap_i64 (by omega) (by omega)
    have hkl' : (k : Int) < m := by omega
    have hcx := hc x (by simp)
    obtain ⟨cs, rfl, hcs⟩ := hcx
    have step : awp Tryz.prog GLx c272l0 (fun e s' => match e with | .normal => b = false ∧ s' = ⟨[(0, .v (.list all)), (1, fd), (7, .v (.int .i64 m)), (8, .v (.int .i64 (k + 1 : Nat)))], h1⟩ | .ret => b = true ∧ find s'.e 4 = .v (.int .i64 k) ∧ s'.h = h1 | .exit _ => False) ⟨[(0, .v (.list all)), (1, fd), (7, .v (.int .i64 m)), (8, .v (.int .i64 k))], h⟩ := by
      simp only [c272l0, awp_seq, awp_reg, awp_block, awp_cond, c272r2]
      simp [hkl', awp_skip, awp_reg, c272r3, c272r4, hx, hcp2, -awpCall, hcs]
      have hcall : ∀ (K : St → Prop) (e : Env), find e 11 = fd → find e 15 = .v (.agg cs) → K ⟨setO e (some 16) (.v (.bool b)), h1⟩ → awpCall Tryz.prog GLx (some 16) (.t 11 false) [.t 15 false] K ⟨e, h⟩ := by
        intro K e e1 e2 hK
        unfold awpCall
        have e3 : (Opd.t 11 false).ev e = fd := by simp only [Opd.ev, Bool.false_eq_true, if_false, e1, hcp]
        rw [e3]
        split
        · rename_i q; exact absurd rfl (hf.ny _)
        · rename_i q; exact absurd rfl (hf.nt _ _)
        · rw [hf.fn]
          refine ⟨[.v (.bool b)], h1, ?_, hK⟩
          simpa [e2] using hb
      refine hcall _ _ ?_ ?_ ?_
      · simp [hcp2]
      · simp [List.take_of_length_le (Nat.le_of_eq hcs)]
      cases b with
      | false => simp [awp_skip, awp_cond, awp_reg, c272r6, hw, hcp2]
      | true => simp [awp_cond, awp_seq, awp_reg, awp_ret, c272r5]
    cases b with
    | false =>
      obtain ⟨r', hr1, rfl⟩ := hr
      refine awp_loop_one (awp_mono _ ?_ step) (ih (k + 1) h1 r' h' hd' (by omega) (fun y hy => hc y (by simp [hy])) hr1 (fun e => hn (by rw [e]; rfl)) ?_)
      · intro e s' h
        cases e with
        | normal => exact h.2
        | exit i => exact h.elim
        | ret => cases h.1
      · intro j e e1 e2
        refine hs (j + 1) (by rw [e]; rfl) e1 ?_
        rw [e2]; congr 3; omega
    | true =>
      obtain ⟨rfl, rfl⟩ := hr
      refine awp_loop_end (awp_mono _ ?_ step)
      intro e s' h
      cases e with
      | normal => cases h.1
      | exit i => exact h.elim
      | ret => obtain ⟨_, h2, h3⟩ := h; have := hs 0 rfl s'.e h2; rw [← h3] at this; exact this
theorem p272 (fd : D) (fid : Nat) (caps : List D) (hf : FV fd fid caps) (xs : List V) (hlen : xs.length < 2 ^ 40) (hc : ∀ x ∈ xs, ∃ cs, x = .agg cs ∧ cs.length = 3) {h h' : List Row} {r : Option Nat} (hr : IdxR Tryz.prog GLx fid caps xs h r h') :
    FSp Tryz.prog GLx 272 [.v (.list xs), fd] h [.v (.int .i64 (idxI r))] h' := by
  refine fsp_of_awp k272 rfl ?_
  have hcp := hf.cp
  simp only [D.copy] at hcp
  simp only [c272, awp_seq, awp_reg, awp_block, c272r0, c272r1, entryD]
  simp [hcp]
  refine l272a fd fid caps hf xs xs.length rfl hlen _ xs 0 h r h' rfl (Nat.zero_le _) hc hr ?_ ?_
  · rintro rfl e he
    simp [awp_reg, awp_ret, c272r7, c272R, idxI]
  · rintro j rfl e he
    simp at he
    simp [he, c272R, idxI]
theorem p183 (fd : D) (fid : Nat) (caps : List D) (hf : FV fd fid caps) (xs : List V) (hlen : xs.length < 2 ^ 40) (hc : ∀ x ∈ xs, ∃ cs, x = .agg cs ∧ cs.length = 3) {h h' : List Row} {r : Option Nat} (hr : IdxR Tryz.prog GLx fid caps xs h r h') :
    FSp Tryz.prog GLx 183 [.v (.list xs), fd] h [.v (.bool r.isSome)] h' := by
  refine fsp_of_awp k183 rfl ?_
  have hcp := hf.cp
  simp only [D.copy] at hcp
  have hnm := hf.nm
  have hp := p272 fd fid caps hf xs hlen hc hr
  have hge := idxI_ge r
  simp only [c183, awp_seq, awp_reg, awp_block, c183r0, c183r1, entryD]
  simp [hcp, -D.norm]
  rw [hnm]
  refine ⟨_, _, hp, ?_⟩
  simp [awp_ret, c183R, hge]
end Go.Va

namespace Go.Va
open Go.Proofs
set_option maxHeartbeats 2000000 in
theorem l144a (f : F) (Q : AExit → St → Prop) (hQ : Q .normal ⟨[(1, .ref 0 0), (27, .v (.bool (odd1 f)))], [.cells f.cells]⟩) :
    awp Tryz.prog GLx (.reg c144r1 [1, 27]) Q ⟨[(1, .ref 0 0)], [.cells f.cells]⟩ := by
  obtain ⟨B, hB⟩ : ∃ B, odd1 f = B := ⟨_, rfl⟩
  rw [hB] at hQ
  obtain ⟨op, n, ins, kids⟩ := f
  simp only [F.cells, odd1, F.op, F.n, F.ins, F.kids] at *
  rw [awp_reg]
  simp only [c144r1]
  by_cases h2 : op = 2
  · subst h2; simp at hB; subst hB; simpa using hQ
  · by_cases hl : 0 < ins.length
    · have hl' : 0 < (ins.length : Int) := by omega
      simp [h2, hl] at hB; subst hB; simp [h2, hl, hl']; exact hQ
    · have hl' : ¬ 0 < (ins.length : Int) := by omega
      have hl2 : ins = [] := by cases ins <;> simp_all
      subst hl2
      by_cases h1 : op = 1
      · subst h1; simp at hB; subst hB; simpa using hQ
      · by_cases hn : n = 0
        · subst hn; simp at hB; subst hB; simp [h2, h1]; exact hQ
        · have hn2 : (n != 0) = true := by simpa using hn
          simp [h2, h1, hn] at hB; subst hB; simp [h2, h1, hn2]; exact hQ
set_option maxHeartbeats 4000000 in
theorem p144 (f : F) (hf : f.ok1) : PSp Tryz.prog GLx 144 [f.V] [.bool (formedF f)] := by
  refine psp_of_awp k144 rfl ?_
  obtain ⟨R, hR⟩ : ∃ R, formedF f = R := ⟨_, rfl⟩
  rw [hR]
  have hp := (p246 f.ins hf.2.2.1 hf.2.2.2).fsp
  unfold c144
  rw [awp_seq, awp_reg]
  obtain ⟨op, n, ins, kids⟩ := f
  simp only [F.V_eq, F.op, F.n, F.ins, F.kids] at *
  simp [c144r0, entry]
  rw [awp_seq, awp_seq]
  have ha := l144a ⟨op, n, ins, kids⟩
  simp only [F.cells, F.op, F.n, F.ins, F.kids] at ha
  refine ha _ ?_
  simp [awp_cond]
  cases ho : odd1 ⟨op, n, ins, kids⟩ with
  | true =>
    rw [formedF_odd ho] at hR
    simp [awp_seq, awp_reg, awp_ret, c144r2, c144R, hR]
  | false =>
    rw [formedF_even ho] at hR
    simp only [F.op, F.n, F.ins, F.kids] at hR
    simp only [awp_skip, if_neg Bool.false_ne_true]
    simp only [awp_seq, awp_reg, awp_block, awp_cond, c144r3, c144r4, c144r5]
    simp
    by_cases h0 : op = 0
    · subst h0
      simp at hR
      simp [awp_ret, awp_seq, awp_reg, c144r6, c144R, natBeq0, hR]
    · simp only [h0, if_false] at hR
      simp [h0, awp_seq, awp_reg, awp_cond, c144r7]
      by_cases h1 : op = 1
      · subst h1
        simp at hR
        simp [awp_ret, awp_seq, awp_reg, c144r8]
        by_cases hk : kids.length = 0
        · have hk2 : kids = [] := List.length_eq_zero_iff.1 hk
          subst hk2
          by_cases b1 : 0 ≤ n <;> by_cases b2 : n < 64 <;> simp [b1, b2] at hR <;> simp [b1, b2, c144R, hR]
        · have hk2 : ¬ kids = [] := fun h => hk (by rw [h]; rfl)
          simp [hk2] at hR
          simp [hk, hk2, c144R, hR]
      · simp only [h1, if_false] at hR
        simp [h1, awp_seq, awp_reg, awp_cond, c144r9]
        by_cases h2 : op = 2
        · subst h2
          simp at hR
          simp [awp_ret, awp_seq, awp_reg, c144r10]
          by_cases hk : kids.length = 0
          · have hk2 : kids = [] := List.length_eq_zero_iff.1 hk
            subst hk2
            by_cases b1 : 0 ≤ n <;> by_cases b2 : n < 32 <;> simp [b1, b2] at hR <;> simp [b1, b2, c144R, hR]
            refine ⟨_, _, hp _, ?_⟩
            simp
            rw [← hR, Bool.eq_iff_iff]; simp
          · have hk2 : ¬ kids = [] := fun h => hk (by rw [h]; rfl)
            simp [hk2] at hR
            simp [hk, hk2, c144R, hR]
        · simp only [h2, if_false] at hR
          simp [h2, awp_seq, awp_reg, awp_cond, c144r11]
          by_cases h3 : op = 3
          · subst h3
            simp at hR
            simp [awp_skip, awp_ret, awp_seq, awp_reg, c144r13, c144R, natBeq1, hR]
          · simp [h3, awp_skip, awp_reg, c144r12]
            by_cases h6 : op = 6
            · subst h6
              simp at hR
              simp [awp_skip, awp_ret, awp_seq, awp_reg, c144r13, c144R, natBeq1, hR]
            · simp [h3, h6] at hR
              simp [h6, awp_skip, awp_reg, awp_ret, c144r14]
              by_cases h4 : op = 4 <;> by_cases h5 : op = 5 <;> simp [h4, h5] at hR <;> simp [h4, h5, c144R, hR]
theorem p143 : ∀ f : F, f.ok → PSp Tryz.prog GLx 143 [f.V] [.int .i64 f.depth] := by
  refine F.ind fun op n ins kids ih hok => ?_
  refine psp_of_awp k143 rfl ?_
  have hsz := hok.2
  rw [F.size_eq] at hsz
  have hkl := F.kids_len kids
  have hdl := depths_le kids
  simp only [c143, awp_seq, awp_reg, awp_block, c143r0, c143r1, c143r2, entry]
  simp [F.V_eq]
  refine awp_loop_I kids.length (fun k s => s.e = [(3, .v (.int .i64 (F.depths (kids.take k)))), (7, .v (.list (kids.map F.V))), (8, .v (.int .i64 kids.length)), (9, .v (.int .i64 k))]) (by simp [F.depths]) ?_
  rintro k ⟨se, sh⟩ hk he
  simp only at he
  subst he
  simp only [c143l0, awp_seq, awp_reg, awp_block, awp_cond, c143r3]
  simp
  by_cases h1 : k < kids.length
  · obtain ⟨x, hx⟩ : ∃ x, kids[k]? = some x := ⟨_, List.getElem?_eq_getElem h1⟩
    have hxm := List.mem_of_getElem? hx
    have hw : IntKind.i64.wrap ((k : Int) + 1) = k + 1 := wrap_i64 (by omega) (by omega)
    have p1 := (ih x hxm (F.ok_kid hok hxm)).fsp
    have ht := depths_take hx
    rw [if_pos (by omega), awp_skip]
    simp only [awp_reg, c143r4, c143r5, c143r6]
    obtain ⟨xo, xn, xi, xk⟩ := x
    simp [F.V_eq] at p1
    simp [hx, F.V_eq, putL]
    refine ⟨_, _, p1 _, ?_⟩
    simp [hw, h1, ht]
    split <;> omega
  · have hk2 : k = kids.length := by omega
    subst hk2
    rw [if_neg (by omega), awp_exit]
    have hw2 : IntKind.i64.wrap ((F.depths kids : Int) + 1) = F.depths kids + 1 := wrap_i64 (by omega) (by omega)
    simp [awp_reg, awp_ret, c143r7, c143R, hw2, F.depth]
end Go.Va

namespace Go.Va
open Go.Proofs
def RunY (P : Program) (GL : Globals) (r : Nat) : List V → List Row → Bool → List Row → Prop
  | [], X, b, X' => b = true ∧ X' = X
  | n :: ns, X, b, X' => ∃ b1 X1, X1.length = X.length ∧ (∀ J, ∃ J2, YSp P GL r [.v n] (X ++ J) b1 (X1 ++ (J ++ J2))) ∧ if b1 then RunY P GL r ns X1 b X' else b = false ∧ X' = X1
section
variable {P : Program} {GL : Globals} {r : Nat}
theorem RunY.len : ∀ {ns : List V} {X : List Row} {b : Bool} {X' : List Row}, RunY P GL r ns X b X' → X'.length = X.length
  | [], X, b, X', h => by rw [h.2]
  | n :: ns, X, b, X', h => by
    obtain ⟨b1, X1, h1, _, h2⟩ := h
    cases b1 with
    | true => rw [RunY.len h2, h1]
    | false => rw [h2.2, h1]
theorem RunY.app : ∀ {xs ys : List V} {X : List Row} {b : Bool} {X' : List Row}, RunY P GL r (xs ++ ys) X b X' → ∃ b1 X1, RunY P GL r xs X b1 X1 ∧ if b1 then RunY P GL r ys X1 b X' else b = false ∧ X' = X1
  | [], ys, X, b, X', h => ⟨true, X, ⟨rfl, rfl⟩, h⟩
  | x :: xs, ys, X, b, X', h => by
    obtain ⟨b1, X1, h1, h2, h3⟩ := h
    cases b1 with
    | true =>
      obtain ⟨b2, X2, h4, h5⟩ := RunY.app (xs := xs) h3
      exact ⟨b2, X2, ⟨true, X1, h1, h2, h4⟩, h5⟩
    | false => exact ⟨false, X1, ⟨false, X1, h1, h2, rfl, rfl⟩, h3⟩
end
theorem p150 (x : F) (c : Nat) (h : List Row) (a : Nat) (hc : h[c]? = some (.cells [.func 148 [.ref a 0, .ref c 0]])) (b : Bool) (h' : List Row)
    (hp : FSp Tryz.prog GLx 148 [.v x.V, .ref a 0, .ref c 0] (h ++ [.cells x.cells]) [.v (.bool b)] h') : FSp Tryz.prog GLx 150 [.v x.V, .ref c 0] h [.v (.bool (!b))] h' := by
  refine fsp_of_awp k150 rfl ?_
  have hc2 := get_old [.cells x.cells] hc
  obtain ⟨xo, xn, xi, xk⟩ := x
  simp only [F.cells, F.op, F.n, F.ins, F.kids, F.V_eq] at *
  simp only [c150, awp_seq, awp_reg, awp_block, awp_cond, c150r0, c150r1, entryD]
  simp [hc2, D.vs?, D.v?]
  refine ⟨_, _, hp, ?_⟩
  simp [awp_ret, c150R]
theorem l148 (r : Nat) (a c : Nat) (kids : List F) (hk : ∀ k ∈ kids, ∀ X b X' J i j, a = X.length + i → c = X.length + j → RunY Tryz.prog GLx r (k.nodes.map F.V) X b X' → J[i]? = some (.cells [.yld r]) → J[j]? = some (.cells [.func 148 [.ref a 0, .ref c 0]]) →
      ∃ J', FSp Tryz.prog GLx 148 [.v k.V, .ref a 0, .ref c 0] (X ++ J) [.v (.bool b)] (X' ++ (J ++ J'))) :
    ∀ (X : List Row) (b : Bool) (X' : List Row) (J : List Row) (i j : Nat), a = X.length + i → c = X.length + j → RunY Tryz.prog GLx r ((kids.flatMap F.nodes).map F.V) X b X' → J[i]? = some (.cells [.yld r]) → J[j]? = some (.cells [.func 148 [.ref a 0, .ref c 0]]) →
      ∃ J' q, IdxR Tryz.prog GLx 150 [.ref c 0] (kids.map F.V) (X ++ J) q (X' ++ (J ++ J')) ∧ q.isSome = !b := by
  induction kids with
  | nil =>
    rintro X b X' J i j ha hc ⟨rfl, rfl⟩ hi hj
    exact ⟨[], none, ⟨rfl, by simp⟩, rfl⟩
  | cons k ks ih =>
    intro X b X' J i j ha hc hr hi hj
    rw [List.flatMap_cons, List.map_append] at hr
    obtain ⟨b1, X1, h1, h2⟩ := hr.app
    have hl := h1.len
    obtain ⟨J1, hp⟩ := hk k (by simp) X b1 X1 (J ++ [.cells k.cells]) i j ha hc h1 (get_old _ hi) (get_old _ hj)
    have hcc : (X ++ J)[c]? = some (.cells [.func 148 [.ref a 0, .ref c 0]]) := by rw [get_appk X J c j hc]; exact hj
    rw [← List.append_assoc] at hp
    have hq := p150 k c (X ++ J) a hcc b1 _ hp
    cases b1 with
    | true =>
      simp only [if_true] at h2
      obtain ⟨J2, q, h3, h4⟩ := ih (fun x hx => hk x (by simp [hx])) X1 b X' (J ++ [.cells k.cells] ++ J1) i j (by rw [hl]; exact ha) (by rw [hl]; exact hc) h2 (get_old _ (get_old _ hi)) (get_old _ (get_old _ hj))
      refine ⟨[.cells k.cells] ++ J1 ++ J2, q.map (· + 1), ⟨false, _, hq, ?_⟩, by cases q <;> simpa using h4⟩
      simp only [Bool.false_eq_true, if_false]
      refine ⟨q, ?_, rfl⟩
      simpa [List.append_assoc] using h3
    | false =>
      simp only [Bool.false_eq_true, if_false] at h2
      obtain ⟨rfl, rfl⟩ := h2
      refine ⟨[.cells k.cells] ++ J1, some 0, ⟨true, _, hq, ?_⟩, rfl⟩
      simp [List.append_assoc]
theorem p148 (r : Nat) (a c : Nat) : ∀ f : F, f.ok → ∀ X b X' J i j, a = X.length + i → c = X.length + j → RunY Tryz.prog GLx r (f.nodes.map F.V) X b X' → J[i]? = some (.cells [.yld r]) → J[j]? = some (.cells [.func 148 [.ref a 0, .ref c 0]]) →
      ∃ J', FSp Tryz.prog GLx 148 [.v f.V, .ref a 0, .ref c 0] (X ++ J) [.v (.bool b)] (X' ++ (J ++ J')) := by
  refine F.ind fun op n ins kids ih hok => ?_
  intro X b X' J i j ha hc hr hi hj
  have hsz := hok.2
  rw [F.size_eq] at hsz
  have hkl := F.kids_len kids
  rw [F.nodes_eq, List.map_cons] at hr
  obtain ⟨b1, X1, hl, hy, hr2⟩ := hr
  obtain ⟨J2, hy2⟩ := hy (J ++ [.cells (F.mk op n ins kids).cells])
  have ga : (X ++ (J ++ [.cells (F.mk op n ins kids).cells]))[a]? = some (.cells [.yld r]) := by rw [get_appk X _ a i ha]; exact get_old _ hi
  have gc : (X ++ (J ++ [.cells (F.mk op n ins kids).cells]))[c]? = some (.cells [.func 148 [.ref a 0, .ref c 0]]) := by rw [get_appk X _ c j hc]; exact get_old _ hj
  have gf : (X ++ (J ++ [.cells (F.mk op n ins kids).cells]))[X.length + J.length]? = some (.cells (F.mk op n ins kids).cells) := by rw [get_appk X _ _ J.length rfl]; simp
  have gf2 : (X1 ++ (J ++ [.cells (F.mk op n ins kids).cells] ++ J2))[X.length + J.length]? = some (.cells (F.mk op n ins kids).cells) := by rw [get_appk X1 _ _ J.length (by rw [hl])]; simp
  have hkids : ∀ x ∈ kids.map F.V, ∃ cs, x = V.agg cs ∧ cs.length = 4 := by
    intro x hx
    obtain ⟨k, _, rfl⟩ := List.mem_map.1 hx
    obtain ⟨ko, kn, ki, kk⟩ := k
    exact ⟨_, F.V_eq .., rfl⟩
  have e0 : X ++ J ++ [.cells (F.mk op n ins kids).cells] = X ++ (J ++ [.cells (F.mk op n ins kids).cells]) := List.append_assoc ..
  cases b1 with
  | false =>
    obtain ⟨rfl, rfl⟩ := hr2
    refine ⟨[.cells (F.mk op n ins kids).cells] ++ J2, fsp_of_awp k148 rfl ?_⟩
    simp only [F.cells, F.op, F.n, F.ins, F.kids, F.V_eq] at *
    simp only [c148, awp_seq, awp_reg, awp_block, awp_cond, c148r0, c148r1, entryD]
    simp [-Bool.exists_bool]
    simp [ga, gf, -Bool.exists_bool]
    refine ⟨_, _, hy2, ?_⟩
    simp [awp_ret, c148R]
  | true =>
    simp only [if_true] at hr2
    obtain ⟨J3, q, hidx, hq⟩ := l148 r a c kids (fun k hk => ih k hk (F.ok_kid hok hk)) X1 b X' (J ++ [.cells (F.mk op n ins kids).cells] ++ J2) i j (by rw [hl]; exact ha) (by rw [hl]; exact hc) hr2 (get_old _ (get_old _ hi)) (get_old _ (get_old _ hj))
    have hp := p149 (.func 150 [.ref c 0]) 150 [.ref c 0] (FV.r 150 c 0 []) (kids.map F.V) (by simp; omega) hkids hidx
    refine ⟨[.cells (F.mk op n ins kids).cells] ++ J2 ++ J3, fsp_of_awp k148 rfl ?_⟩
    simp only [F.cells, F.op, F.n, F.ins, F.kids, F.V_eq] at *
    simp only [c148, awp_seq, awp_reg, awp_block, awp_cond, c148r0, c148r1, entryD]
    simp [-Bool.exists_bool]
    simp [ga, gf, -Bool.exists_bool]
    refine ⟨_, _, hy2, ?_⟩
    simp at gf2
    simp [gf2, D.vs?, D.v?]
    simp at hp
    rw [hq] at hp
    refine ⟨_, _, hp, ?_⟩
    simp [awp_ret, c148R]
end Go.Va

namespace Go.Va
open Go.Proofs
theorem p68 (f : F) (h : List Row) : FSp Tryz.prog GLx 68 [.v f.V] h [.func 147 [.ref h.length 0]] (h ++ [.cells f.cells]) := by
  refine fsp_of_awp k68 rfl ?_
  obtain ⟨op, n, ins, kids⟩ := f
  simp [c68, awp, c68r0, c68r1, c68R, entryD, F.V_eq, F.cells, F.op, F.n, F.ins, F.kids, D.vs?, D.v?]
theorem p147 (f : F) (hok : f.ok) (r q : Nat) (X : List Row) (b : Bool) (X' : List Row) (hr : RunY Tryz.prog GLx r (f.nodes.map F.V) X b X') (hq : X[q]? = some (.cells f.cells)) :
    ∃ J, FSp Tryz.prog GLx 147 [.yld r, .ref q 0] X [] (X' ++ J) := by
  obtain ⟨J', hp⟩ := p148 r X.length (X.length + 1) f hok X b X' [.cells [.yld r], .cells [.func 148 [.ref X.length 0, .ref (X.length + 1) 0]]] 0 1 rfl rfl hr rfl rfl
  refine ⟨[.cells [.yld r], .cells [.func 148 [.ref X.length 0, .ref (X.length + 1) 0]]] ++ J', fsp_of_awp k147 rfl ?_⟩
  obtain ⟨op, n, ins, kids⟩ := f
  have hq2 := get_old [.cells [.yld r], .cells [.func 148 [.ref X.length 0, .ref (X.length + 1) 0]]] hq
  simp only [F.cells, F.op, F.n, F.ins, F.kids, F.V_eq] at *
  simp only [c147, awp_seq, awp_reg, awp_block, awp_cond, c147r0, c147r1, c147r2, c147r3, entryD]
  simp [putL, D.vs?, D.v?]
  try simp at hq2
  simp [hq2]
  exact ⟨⟨_, hp⟩, rfl⟩
theorem l142 (A B : Row) (e0 : Env) (he : find e0 3 = .ref 1 0) : ∀ (ns : List V) (k : Nat), k + ns.length ≤ 2 ^ 41 →
    RunY Tryz.prog GLx 3 ns [A, .cells [.v (.int .i64 k)], B, recRow Tryz.prog GLx .ready e0 [6] c142a0 c142b0] true [A, .cells [.v (.int .i64 (k + ns.length : Nat))], B, recRow Tryz.prog GLx .ready e0 [6] c142a0 c142b0] := by
  intro ns
  induction ns with
  | nil => intro k _; exact ⟨rfl, rfl⟩
  | cons n ns ih =>
    intro k hk
    simp only [List.length_cons] at hk
    refine ⟨true, [A, .cells [.v (.int .i64 (k + 1 : Nat))], B, recRow Tryz.prog GLx .ready e0 [6] c142a0 c142b0], rfl, fun J => ⟨[], ?_⟩, ?_⟩
    · refine ysp_of_awp (e0 := e0) (ps := [6]) (asg := c142a0) (body := c142b0) (by simp) rfl ?_
      have hw : IntKind.i64.wrap ((k : Int) + 1) = k + 1 := wrap_i64 (by omega) (by omega)
      simp only [setPs, c142a0, c142b0, awp_reg, awp_block, awp_skip, c142r3]
      simp [he, hw, putL, roundEnd]
    · have := ih (k + 1) (by omega)
      have e : k + 1 + ns.length = k + (n :: ns).length := by simp; omega
      rw [e] at this
      exact this
theorem p142 (f : F) (hok : f.ok) : PSp Tryz.prog GLx 142 [f.V] [.int .i64 f.size] := by
  refine psp_of_awp k142 rfl ?_
  have hsz := hok.2
  have h68 := p68 f
  have hr := l142 (.cells f.cells) (.cells f.cells) (cpE [(3, .ref 1 0), (5, .func 147 [.ref 2 0])]) rfl (f.nodes.map F.V) 0 (by simp; unfold F.size at hsz; omega)
  obtain ⟨J, hp⟩ := p147 f hok 3 2 _ _ _ hr rfl
  have e1 : (f.nodes.map F.V).length = f.size := by simp [F.size]
  rw [e1, Nat.zero_add] at hp
  generalize f.size = sz at *
  obtain ⟨op, n, ins, kids⟩ := f
  simp only [F.cells, F.op, F.n, F.ins, F.kids, F.V_eq] at *
  simp only [c142, awp_seq, awp_reg, awp_block, c142r0, c142r1, c142r2, entry]
  simp [putL]
  refine ⟨_, _, h68 _, ?_⟩
  simp
  refine awp_range_of 147 [.ref 2 0] [] _ _ .ready rfl rfl hp rfl ?_
  simp [rangeEnd, c142r4, awp_ret, c142R]
theorem y66 (A B : Row) (e0 : Env) (he : find e0 2 = .ref 1 0) (g : F) (hg : g.ok1) (J : List Row) : ∃ J2, YSp Tryz.prog GLx 3 [.v g.V] ([A, .cells [.v (.int .i64 0)], B, recRow Tryz.prog GLx .ready e0 [14] c66a0 c66b0] ++ J) (formedF g)
      ((if formedF g then [A, .cells [.v (.int .i64 0)], B, recRow Tryz.prog GLx .ready e0 [14] c66a0 c66b0] else [A, .cells [.v (.int .i64 1)], B, recRow Tryz.prog GLx (.done none) e0 [14] c66a0 c66b0]) ++ (J ++ J2)) := by
  refine ⟨[.cells g.cells], ysp_of_awp (e0 := e0) (ps := [14]) (asg := c66a0) (body := c66b0) (by simp) rfl ?_⟩
  have hp := (p144 g hg).fsp
  generalize formedF g = b at *
  obtain ⟨op, n, ins, kids⟩ := g
  simp only [F.cells, F.op, F.n, F.ins, F.kids, F.V_eq] at *
  simp only [setPs, c66a0, c66b0, awp_reg, awp_block, awp_seq, awp_cond, c66r4, c66r5]
  have e : J.length + 1 + 1 + 1 + 1 = J.length + 4 := by omega
  simp [he, putL]
  simp at hp
  refine ⟨_, _, hp _, ?_⟩
  cases b with
  | true => simp [awp_skip, roundEnd]
  | false => simp [awp_seq, awp_reg, awp_ret, c66r6, putL, roundEnd, he]
theorem l66 (A B : Row) (e0 : Env) (he : find e0 2 = .ref 1 0) : ∀ (ns : List F), (∀ g ∈ ns, g.ok1) →
    RunY Tryz.prog GLx 3 (ns.map F.V) [A, .cells [.v (.int .i64 0)], B, recRow Tryz.prog GLx .ready e0 [14] c66a0 c66b0] (ns.all formedF)
      (if ns.all formedF then [A, .cells [.v (.int .i64 0)], B, recRow Tryz.prog GLx .ready e0 [14] c66a0 c66b0] else [A, .cells [.v (.int .i64 1)], B, recRow Tryz.prog GLx (.done none) e0 [14] c66a0 c66b0]) := by
  intro ns
  induction ns with
  | nil => intro _; exact ⟨rfl, rfl⟩
  | cons n ns ih =>
    intro hk
    have hy := y66 A B e0 he n (hk n (by simp))
    refine ⟨formedF n, _, ?_, hy, ?_⟩
    · split <;> rfl
    · cases hf : formedF n with
      | true =>
        simp only [if_true, List.all_cons, hf, Bool.true_and]
        exact ih fun g hg => hk g (by simp [hg])
      | false => simp [hf]
theorem p66 (f : F) (hok : f.ok) : PSp Tryz.prog GLx 66 [f.V] [.int .i64 (formE f)] := by
  refine psp_of_awp k66 rfl ?_
  obtain ⟨R, hR⟩ : ∃ R, formE f = R := ⟨_, rfl⟩
  rw [hR]
  unfold formE at hR
  have h1 := (p142 f hok).fsp
  have h2 := (p143 f hok).fsp
  have h68 := p68 f
  have hr := l66 (.cells f.cells) (.cells f.cells) (cpE [(2, .ref 1 0), (13, .func 147 [.ref 2 0])]) rfl f.nodes hok.1
  obtain ⟨J, hp⟩ := p147 f hok 3 2 _ _ _ hr rfl
  generalize f.nodes.all formedF = al at *
  generalize f.size = sz at *
  generalize f.depth = dp at *
  obtain ⟨op, n, ins, kids⟩ := f
  simp only [F.cells, F.op, F.n, F.ins, F.kids, F.V_eq] at *
  simp only [c66, awp_seq, awp_reg, awp_block, awp_cond, c66r0, c66r1, entry]
  simp at h1 h2 h68
  simp
  refine ⟨_, _, h1 _, ?_⟩
  by_cases b1 : 96 < sz
  · have b1' : 96 < (sz : Int) := by omega
    simp [b1] at hR
    simp [b1', awp_seq, awp_reg, awp_ret, c66r2, c66R, putL, hR]
  · have b1' : ¬ 96 < (sz : Int) := by omega
    simp [b1']
    refine ⟨_, _, h2 _, ?_⟩
    by_cases b2 : 8 < dp
    · have b2' : 8 < (dp : Int) := by omega
      simp [b2] at hR
      simp [b2', awp_seq, awp_reg, awp_ret, c66r2, c66R, putL, hR]
    · have b2' : ¬ 8 < (dp : Int) := by omega
      simp [b1, b2] at hR
      simp [b2', awp_skip, awp_reg, c66r3]
      refine ⟨_, _, h68 _, ?_⟩
      simp
      cases al with
      | true =>
        simp at hR
        refine awp_range_of 147 [.ref 2 0] [] _ _ .ready rfl rfl hp rfl ?_
        simp [rangeEnd, awp_reg, awp_ret, c66r7, c66R, putL, hR]
      | false =>
        simp at hR
        refine awp_range_of 147 [.ref 2 0] [] _ _ (.done none) rfl rfl hp rfl ?_
        simp [rangeEnd, c66R, hR]
end Go.Va

namespace Go.Va
open Go.Proofs
def b01 (b : Bool) : Int := if b then 1 else 0
def encIvl (x : Ivl) : List Int := encInts [x.ln, x.ld, x.hn, x.hd, b01 x.lo, b01 x.ho, b01 x.li, b01 x.hi]
def encNode (f : F) : List Int := encI f.op ++ (encI f.n ++ (encI f.ins.length ++ (f.ins.flatMap encIvl ++ encI f.kids.length)))
def encF (f : F) : List Int := f.nodes.flatMap encNode
theorem p295 (b : Bool) : PSp Tryz.prog GLx 295 [.bool b] [.int .i64 (b01 b)] := by
  refine psp_of_awp k295 rfl ?_
  cases b <;> simp [c295, awp, c295r0, c295r1, c295r2, c295r3, c295R, entry, b01]
theorem p339 (b : Bool) : PSp Tryz.prog GLx 339 [.bool b] [.int .i64 (b01 b)] := by
  refine psp_of_awp k339 rfl ?_
  cases b <;> simp [c339, awp, c339r0, c339r1, c339r2, c339r3, c339R, entry, b01]
theorem bytesOf_nums : ∀ (xs : List Int), (∀ x ∈ xs, 0 ≤ x ∧ x < 256) → bytesOf (xs.map (V.int .u8)) = some (xs.map fun n => UInt8.ofNat n.toNat)
  | [], _ => rfl
  | x :: xs, h => by
    have := bytesOf_nums xs fun y hy => h y (by simp [hy])
    simp only [List.map_cons, bytesOf]
    rw [if_pos (h x (by simp)), this]; rfl
theorem p99 (xs : List Int) (hx : ∀ x ∈ xs, 0 ≤ x ∧ x < 256) (hb : xs.length ≤ 2 ^ 40) (h : List Row) (r : Nat) (ys : List Int) (hr : h[r]? = some (wr ys)) (hl : ys.length ≤ 2 ^ 45) : FSp Tryz.prog GLx 99 [.ref r 0, .v (nums .u8 xs)] h [] (h.set r (wr (ys ++ encRaw xs))) := by
  refine fsp_of_awp k99 rfl ?_
  obtain ⟨b, hb1, hb2⟩ : ∃ b : ByteArray, bytesOf (xs.map (V.int .u8)) = some b.data.toList ∧ bytesI b = xs := by
    refine ⟨⟨(xs.map fun n => UInt8.ofNat n.toNat).toArray⟩, by rw [bytesOf_nums xs hx], ?_⟩
    simp only [bytesI, List.map_map]
    conv => rhs; rw [← List.map_id xs]
    refine List.map_congr_left fun n hn => ?_
    obtain ⟨h1, h2⟩ := hx n hn
    simp only [Function.comp, id]
    rw [UInt8.toNat_ofNat_of_lt' (by simp [UInt8.size]; omega)]
    omega
  have hsz : b.size = xs.length := by rw [← bytesI_size, hb2]
  simp [c99, awp, c99r0, c99R, entryD, nums, hb1]
  have hp := p194 b (by omega) h r ys hr hl
  rw [hb2] at hp
  exact ⟨_, hp⟩
theorem p107v (l : List Int) (hi : ∀ n ∈ l, i64 n) (hb : l.length ≤ 2 ^ 40) : PSp Tryz.prog GLx 107 [nums .i64 l] [nums .u8 (encInts l)] := by
  refine psp_of_awp k107 rfl ?_
  have w1 : IntKind.u64.wrap (l.length : Int) = l.length := wrap_u64 (by omega) (by omega)
  simp only [c107, awp_seq, awp_block, awp_reg, c107r0, c107r1, c107r2, entry]
  simp [nums, w1]
  refine ⟨_, _, (p198 l.length ⟨by omega, by omega⟩ []), ?_⟩
  have hu := uvar_len l.length
  simp
  refine awp_loop_nat0 l.length (fun k => ⟨[(0, .v (nums .i64 l)), (3, .own 5 1 ((uvar l.length ++ (l.take k).flatMap encI).map (.int .u8))), (4, .v (.int .i64 k))], []⟩) (by simp [nums]) ?_
  intro k hk
  simp only [c107l0, awp_seq, awp_reg, awp_block, awp_cond, c107r3]
  simp [nums]
  by_cases h1 : k < l.length
  · have hx : l[k]? = some l[k] := List.getElem?_eq_getElem h1
    have hw : IntKind.i64.wrap ((k : Int) + 1) = k + 1 := wrap_i64 (by omega) (by omega)
    rw [if_pos (by omega), awp_skip]
    simp only [awp_reg, c107r4, c107r5]
    simp [hx]
    refine ⟨_, _, (p104 l[k] (hi _ (List.getElem_mem h1)) []), ?_⟩
    have hf := flat_encI_len (l.take k)
    have he := encI_len l[k]
    have ht : (l.take k).length = k := by simp; omega
    have hroom : roomy ((uvar l.length).length + ((l.take k).flatMap encI).length + (encI l[k]).length) 1 = true := by simp [roomy, -List.length_flatMap]; omega
    simp [hroom, h1, hw, -List.length_flatMap]
    rw [flat_take h1]; simp
  · have : k = l.length := by omega
    subst this
    rw [if_neg (by omega), awp_exit]
    simp [awp_reg, awp_ret, c107r6, c107R, encInts]
theorem b01_i64 (b : Bool) : i64 (b01 b) := by cases b <;> (unfold i64 b01; simp)
theorem p325 (x : Ivl) (hx : x.ok) : PSp Tryz.prog GLx 325 [x.V] [nums .u8 (encIvl x)] := by
  refine psp_of_awp k325 rfl ?_
  have hp := p107v [x.ln, x.ld, x.hn, x.hd, b01 x.lo, b01 x.ho, b01 x.li, b01 x.hi] (by
    intro n hn
    simp at hn
    rcases hn with rfl | rfl | rfl | rfl | rfl | rfl | rfl | rfl
    · exact hx.1
    · exact hx.2.1
    · exact hx.2.2.1
    · exact hx.2.2.2
    all_goals exact b01_i64 _) (by simp)
  have e : encInts [x.ln, x.ld, x.hn, x.hd, b01 x.lo, b01 x.ho, b01 x.li, b01 x.hi] = encIvl x := rfl
  rw [e] at hp
  generalize encIvl x = bs at *
  have ha := p339 x.lo
  have hb := p339 x.ho
  have hc := p339 x.li
  have hd := p339 x.hi
  obtain ⟨ln, ld, hn, hd', lo, ho, li, hi⟩ := x
  unfold c325
  simp only [awp_seq, awp_reg, c325r0, entry]
  simp [Ivl.V, awp_regD, c325r1]
  refine ⟨_, _, ⟨rfl, rfl⟩, _, ha, ?_⟩
  simp
  refine ⟨_, _, ⟨rfl, rfl⟩, _, hb, ?_⟩
  simp
  refine ⟨_, _, ⟨rfl, rfl⟩, _, hc, ?_⟩
  simp
  refine ⟨_, _, ⟨rfl, rfl⟩, _, hd, ?_⟩
  simp
  simp [nums] at hp
  refine ⟨_, _, ⟨rfl, rfl⟩, _, hp, ?_⟩
  simp [awp_ret, c325R, nums]
end Go.Va

namespace Go.Va
open Go.Proofs
theorem encF_eq (op n : Int) (ins : List Ivl) (kids : List F) : encF (.mk op n ins kids) = encNode (.mk op n ins kids) ++ kids.flatMap encF := by
  unfold encF
  rw [F.nodes_eq, List.flatMap_cons, List.flatMap_assoc]
theorem flat_len_take {α : Type} (l : List α) (f : α → List Int) (k : Nat) : ((l.take k).flatMap f).length ≤ (l.flatMap f).length := by
  have := congrArg (fun l => (List.flatMap f l).length) (List.take_append_drop k l)
  simp only [List.flatMap_append, List.length_append] at this
  omega
theorem flat_len_mem {α : Type} {l : List α} {f : α → List Int} {x : α} (h : x ∈ l) : (f x).length ≤ (l.flatMap f).length := by
  induction l with
  | nil => cases h
  | cons y l ih =>
    rw [List.flatMap_cons, List.length_append]
    cases h with
    | head => omega
    | tail _ h => have := ih h; omega
theorem l297a (op n : Int) (ins : List Ivl) (kids : List F) (hins : ∀ x ∈ ins, x.ok) (hil : ins.length ≤ 2 ^ 40) (room : ∀ m : Nat, m ≤ 2 ^ 46 → roomy m 1 = true) (pre : List Int) (hb : pre.length + (ins.flatMap encIvl).length ≤ 2 ^ 46) :
    awp Tryz.prog GLx (.loop c297l0) (fun e s => e = .exit 0 ∧ s = ⟨[(1, .ref 0 0), (3, .own 5 1 ((pre ++ ins.flatMap encIvl).map (.int .u8))), (4, .v (.int .i64 ins.length)), (23, .v (.bool false))], [.cells (F.mk op n ins kids).cells]⟩)
      ⟨[(1, .ref 0 0), (3, .own 5 1 (pre.map (.int .u8))), (4, .v (.int .i64 0))], [.cells (F.mk op n ins kids).cells]⟩ := by
  refine awp_loop_nat0 ins.length (fun k => ⟨[(1, .ref 0 0), (3, .own 5 1 ((pre ++ (ins.take k).flatMap encIvl).map (.int .u8))), (4, .v (.int .i64 k))], [.cells (F.mk op n ins kids).cells]⟩) (by simp) ?_
  intro k hk
  simp only [c297l0, awp_seq, awp_reg, awp_block, awp_cond, c297r4, F.cells, F.op, F.n, F.ins, F.kids]
  simp
  by_cases hlt : k < ins.length
  · obtain ⟨x, hx⟩ : ∃ x, ins[k]? = some x := ⟨_, List.getElem?_eq_getElem hlt⟩
    have hxm := List.mem_of_getElem? hx
    have hxe : ins[k] = x := (List.getElem?_eq_some_iff.1 hx).2
    have hw : IntKind.i64.wrap ((k : Int) + 1) = k + 1 := wrap_i64 (by omega) (by omega)
    have p1 := (p325 x (hins x hxm)).fsp
    have hle := flat_len_take ins encIvl (k + 1)
    rw [flat_take hlt, hxe, List.length_append] at hle
    rw [if_pos (by omega), awp_skip]
    simp only [awp_reg, c297r5, c297r6]
    simp [Ivl.V, nums] at p1
    simp [hx, Ivl.V]
    refine ⟨_, _, p1 _, ?_⟩
    simp [hw, hlt, -List.length_flatMap, room _ (show pre.length + ((ins.take k).flatMap encIvl).length + (encIvl x).length ≤ 2 ^ 46 by omega)]
    rw [flat_take hlt, hxe]; simp
  · have : k = ins.length := by omega
    subst this
    rw [if_neg (by omega), awp_exit]
    simp
theorem l297b (op n : Int) (ins : List Ivl) (kids : List F) (hp : ∀ x ∈ kids, ∀ h, FSp Tryz.prog GLx 297 [.v x.V] h [.v (nums .u8 (encF x))] h) (hkl : kids.length ≤ 2 ^ 40) (room : ∀ m : Nat, m ≤ 2 ^ 46 → roomy m 1 = true) (pre : List Int) (hb : pre.length + (kids.flatMap encF).length ≤ 2 ^ 46) :
    awp Tryz.prog GLx (.loop c297l1) (fun e s => e = .exit 2 ∧ s = ⟨[(1, .ref 0 0), (3, .own 5 1 ((pre ++ kids.flatMap encF).map (.int .u8))), (5, .v (.int .i64 kids.length)), (44, .v (.bool false))], [.cells (F.mk op n ins kids).cells]⟩)
      ⟨[(1, .ref 0 0), (3, .own 5 1 (pre.map (.int .u8))), (5, .v (.int .i64 0))], [.cells (F.mk op n ins kids).cells]⟩ := by
  refine awp_loop_nat0 kids.length (fun k => ⟨[(1, .ref 0 0), (3, .own 5 1 ((pre ++ (kids.take k).flatMap encF).map (.int .u8))), (5, .v (.int .i64 k))], [.cells (F.mk op n ins kids).cells]⟩) (by simp) ?_
  intro k hk
  simp only [c297l1, awp_seq, awp_reg, awp_block, awp_cond, c297r9, F.cells, F.op, F.n, F.ins, F.kids]
  simp
  by_cases hlt : k < kids.length
  · obtain ⟨x, hx⟩ : ∃ x, kids[k]? = some x := ⟨_, List.getElem?_eq_getElem hlt⟩
    have hxm := List.mem_of_getElem? hx
    have hxe : kids[k] = x := (List.getElem?_eq_some_iff.1 hx).2
    have hw : IntKind.i64.wrap ((k : Int) + 1) = k + 1 := wrap_i64 (by omega) (by omega)
    have p1 := hp x hxm
    have hle := flat_len_take kids encF (k + 1)
    rw [flat_take hlt, hxe, List.length_append] at hle
    have e : (kids.take (k + 1)).flatMap encF = (kids.take k).flatMap encF ++ encF x := by rw [flat_take hlt, hxe]
    generalize encF x = bs at *
    obtain ⟨xo, xn, xi, xk⟩ := x
    rw [if_pos (by omega), awp_skip]
    simp only [awp_reg, c297r10, c297r11]
    simp [F.V_eq, nums] at p1
    simp [hx, F.V_eq]
    refine ⟨_, _, p1 _, ?_⟩
    simp [hw, hlt, -List.length_flatMap, room _ (show pre.length + ((kids.take k).flatMap encF).length + bs.length ≤ 2 ^ 46 by omega), e]
  · have : k = kids.length := by omega
    subst this
    rw [if_neg (by omega), awp_exit]
    simp
theorem p297 : ∀ f : F, f.ok → (encF f).length ≤ 2 ^ 45 → PSp Tryz.prog GLx 297 [f.V] [nums .u8 (encF f)] := by
  refine F.ind fun op n ins kids ih hok hb => ?_
  refine psp_of_awp k297 rfl ?_
  have h1 := F.ok1_self hok
  have hsz := hok.2
  rw [F.size_eq] at hsz
  have hkl := F.kids_len kids
  rw [encF_eq] at hb ⊢
  simp only [encNode, F.op, F.n, F.ins, F.kids, F.ok1] at *
  have il : i64 (ins.length : Int) := by unfold i64; omega
  have kl : i64 (kids.length : Int) := by unfold i64; omega
  have q1 := encI_len op
  have q2 := encI_len n
  have q3 := encI_len ins.length
  have q4 := encI_len kids.length
  simp only [List.length_append] at hb
  have room : ∀ m : Nat, m ≤ 2 ^ 46 → roomy m 1 = true := by intro m hm; simp [roomy]; omega
  simp only [c297, awp_seq, awp_reg, awp_regA, awp_block, c297r0, c297r1, entry]
  simp [F.V_eq]
  refine ⟨_, _, p104 op h1.1 _, ⟨[], rfl⟩, _, _, p104 n h1.2.1 _, ⟨[], by simp⟩, ?_⟩
  simp [room _ (show (encI op).length + (encI n).length ≤ 2 ^ 46 by omega)]
  refine ⟨_, .inl rfl, ?_⟩
  simp [c297r2]
  refine ⟨_, _, p104 ins.length il _, ?_⟩
  simp [room _ (show (encI op).length + (encI n).length + (encI ins.length).length ≤ 2 ^ 46 by omega), c297r3]
  have hl := l297a op n ins kids h1.2.2.1 h1.2.2.2 room (encI op ++ (encI n ++ encI ins.length)) (by simp only [List.length_append]; omega)
  simp [F.cells, F.op, F.n, F.ins, F.kids] at hl
  refine awp_to hl ?_
  simp [c297r7]
  refine ⟨_, _, p104 kids.length kl _, ?_⟩
  simp [-List.length_flatMap, room _ (show (encI op).length + ((encI n).length + ((encI ins.length).length + (ins.flatMap encIvl).length)) + (encI kids.length).length ≤ 2 ^ 46 by omega), c297r8]
  have hl2 := l297b op n ins kids (fun x hx h => (ih x hx (F.ok_kid hok hx) (by have := flat_len_mem (f := encF) hx; omega)).fsp h) (by omega) room (encI op ++ (encI n ++ (encI ins.length ++ (ins.flatMap encIvl ++ encI kids.length)))) (by simp only [List.length_append]; omega)
  simp [F.cells, F.op, F.n, F.ins, F.kids] at hl2
  refine awp_to hl2 ?_
  simp [c297r12, awp_ret, c297R, nums]
end Go.Va

namespace Go.Va
open Go.Proofs
def lastOf (l : List Int) (k : Nat) : Int := match k with | 0 => -1 | j + 1 => l.getD j 0
def badRef (l : List Int) (i : Int) (k : Nat) : Bool := decide (l.getD k 0 ≤ lastOf l k ∨ i ≤ l.getD k 0)
def refsOK (l : List Int) (i : Int) : Bool := !(List.range l.length).any (badRef l i)
theorem p241 (l : List Int) (i : Int) (hn : l.length ≤ 2 ^ 40) : PSp Tryz.prog GLx 241 [nums .i64 l, .int .i64 i] [.bool (refsOK l i)] := by
  refine psp_of_awp k241 rfl ?_
  simp only [c241, awp_seq, awp_reg, awp_block, c241r0, c241r1, c241r2, entry]
  simp [nums]
  refine awp_loop_inv l.length (fun k => ⟨[(1, .v (.int .i64 i)), (5, .v (.int .i64 (lastOf l k))), (8, .v (nums .i64 l)), (9, .v (.int .i64 l.length)), (10, .v (.int .i64 k))], []⟩) (fun k => ∀ j < k, badRef l i j = false) (by simp [nums, lastOf]) (by omega) ?_
  intro k hk hI
  simp only [c241l0, awp_seq, awp_reg, awp_block, awp_cond, c241r3]
  simp [nums]
  by_cases h1 : k < l.length
  · obtain ⟨x, hx⟩ : ∃ x, l[k]? = some x := ⟨_, List.getElem?_eq_getElem h1⟩
    have hw : IntKind.i64.wrap ((k : Int) + 1) = k + 1 := wrap_i64 (by omega) (by omega)
    have hb : badRef l i k = decide (x ≤ lastOf l k ∨ i ≤ x) := by unfold badRef; simp [List.getD, hx]
    have hlast : lastOf l (k + 1) = x := by simp [lastOf, List.getD, hx]
    rw [if_pos (by omega), awp_skip]
    simp only [awp_reg, c241r4, c241r5]
    simp [hx]
    by_cases b1 : x ≤ lastOf l k
    · have hbt : badRef l i k = true := by rw [hb]; simp [b1]
      simp [b1, awp_seq, awp_reg, awp_ret, c241r6, c241R]
      unfold refsOK
      rw [any_bad h1 hbt]; rfl
    · by_cases b2 : i ≤ x
      · have hbt : badRef l i k = true := by rw [hb]; simp [b2]
        simp [b1, b2, awp_seq, awp_reg, awp_ret, c241r6, c241R]
        unfold refsOK
        rw [any_bad h1 hbt]; rfl
      · have hbf : badRef l i k = false := by rw [hb]; simp; omega
        simp [b1, b2, awp_skip, awp_reg, c241r7, c241r8, hw, h1, hlast]
        intro j hj
        rcases Nat.lt_or_ge j k with h | h
        · exact hI j h
        · have : j = k := by omega
          subst this; exact hbf
  · have hk2 : k = l.length := by omega
    subst hk2
    rw [if_neg (by omega), awp_exit]
    simp [awp_reg, awp_ret, awp_seq, c241r9, c241R]
    unfold refsOK
    rw [any_good hI]; rfl
theorem p213 (l : List Int) (i : Int) (hn : l.length ≤ 2 ^ 40) : PSp Tryz.prog GLx 213 [nums .i64 l, .int .i64 i] [.bool (refsOK l i)] := by
  refine psp_of_awp k213 rfl ?_
  simp only [c213, awp_seq, awp_reg, awp_block, c213r0, c213r1, entry]
  simp [nums]
  refine awp_loop_inv l.length (fun k => ⟨[(0, .v (nums .i64 l)), (1, .v (.int .i64 i)), (5, .v (.int .i64 k))], []⟩) (fun k => ∀ j < k, badRef l i j = false) (by simp [nums]) (by omega) ?_
  intro k hk hI
  have hge : -1 ≤ lastOf l k := by
    have : ∀ k, (∀ j < k, badRef l i j = false) → -1 ≤ lastOf l k := by
      intro k
      induction k with
      | zero => intro _; simp [lastOf]
      | succ j ih =>
        intro h
        have h1 := ih fun j' h' => h j' (by omega)
        have h2 := h j (by omega)
        unfold badRef at h2; simp at h2
        have e : lastOf l (j + 1) = l.getD j 0 := rfl
        rw [e]; simp only [List.getD_eq_getElem?_getD] at *; omega
    exact this k hI
  simp only [c213l0, awp_seq, awp_reg, awp_regD, awp_block, awp_cond, c213r2]
  simp [nums]
  by_cases h1 : k < l.length
  · obtain ⟨x, hx⟩ : ∃ x, l[k]? = some x := ⟨_, List.getElem?_eq_getElem h1⟩
    have hw : IntKind.i64.wrap ((k : Int) + 1) = k + 1 := wrap_i64 (by omega) (by omega)
    have hb : badRef l i k = decide (x ≤ lastOf l k ∨ i ≤ x) := by unfold badRef; simp [List.getD, hx]
    have hbad : badRef l i k = true → refsOK l i = false := by intro h; unfold refsOK; rw [any_bad h1 h]; rfl
    have hgood : badRef l i k = false → ∀ j < k + 1, badRef l i j = false := by
      intro hbf j hj
      rcases Nat.lt_or_ge j k with h | h
      · exact hI j h
      · have : j = k := by omega
        subst this; exact hbf
    rw [if_pos (by omega), awp_skip]
    simp only [awp_regD, c213r4]
    by_cases b1 : x < 0
    · have hbt : badRef l i k = true := by rw [hb]; simp; omega
      simp [hx, b1, awp_seq, awp_reg, awp_ret, c213r5, c213R, hbad hbt]
    · by_cases b2 : i ≤ x
      · have hbt : badRef l i k = true := by rw [hb]; simp [b2]
        simp [hx, b1, b2, awp_seq, awp_reg, awp_ret, c213r5, c213R, hbad hbt]
      · cases k with
        | zero =>
          have hbf : badRef l i 0 = false := by
            have e : lastOf l 0 = -1 := rfl
            rw [hb, e]; simp; omega
          have hx2 : l[0] = x := (List.getElem?_eq_some_iff.1 hx).2
          simp at hw
          simp [hx, hx2, b1, b2, awp_skip, awp_reg, c213r3, hw, h1]
          exact hbf
        | succ j =>
          obtain ⟨y, hy⟩ : ∃ y, l[j]? = some y := ⟨_, List.getElem?_eq_getElem (by omega)⟩
          have hw2 : IntKind.i64.wrap (j : Int) = j := wrap_i64 (by omega) (by omega)
          have hl : lastOf l (j + 1) = y := by simp [lastOf, List.getD, hy]
          have hx2 : l[j + 1] = x := (List.getElem?_eq_some_iff.1 hx).2
          have h9 : (0 : Int) < (j : Int) + 1 := by omega
          have h10 : (0 : Int) ≤ (j : Int) + 1 := by omega
          by_cases b3 : x ≤ y
          · have hbt : badRef l i (j + 1) = true := by rw [hb, hl]; simp [b3]
            simp [b1, b2, h9, h10, hw2, hx, hx2, hy, b3, awp_seq, awp_reg, awp_ret, c213r5, c213R, hbad hbt]
          · have hbf : badRef l i (j + 1) = false := by rw [hb, hl]; simp; omega
            simp at hw
            simp [b1, b2, h9, h10, hw2, hx, hx2, hy, b3, awp_skip, awp_reg, c213r3, hw, h1]
            exact hgood hbf
  · have hk2 : k = l.length := by omega
    subst hk2
    rw [if_neg (by omega), awp_exit]
    simp [awp_reg, awp_ret, awp_seq, c213r6, c213R]
    unfold refsOK
    rw [any_good hI]; rfl
end Go.Va

namespace Go.Va
open Go.Proofs
structure Clm where
  refs : List Int
  body : F
def Clm.V (c : Clm) : V := .agg [nums .i64 c.refs, .int .i64 c.body.op, .int .i64 c.body.n, .list (c.body.ins.map Ivl.V), .list (c.body.kids.map F.V)]
def Clm.ok (c : Clm) : Prop := (∀ n ∈ c.refs, i64 n) ∧ c.refs.length ≤ 2 ^ 40 ∧ c.body.ok
theorem F.V_flds (f : F) : f.V = .agg [.int .i64 f.op, .int .i64 f.n, .list (f.ins.map Ivl.V), .list (f.kids.map F.V)] := by cases f; rw [F.V_eq]; rfl
def firstE (e : Nat → Int) : Nat → Nat → Int
  | _, 0 => 0
  | k, m + 1 => if e k ≠ 0 then e k else firstE e (k + 1) m
theorem firstE_zero {e : Nat → Int} : ∀ (m k : Nat), (∀ j, k ≤ j → j < k + m → e j = 0) → firstE e k m = 0
  | 0, _, _ => rfl
  | m + 1, k, h => by
    simp only [firstE, h k (by omega) (by omega)]
    simpa using firstE_zero m (k + 1) fun j h1 h2 => h j (by omega) (by omega)
theorem firstE_at {e : Nat → Int} : ∀ (m k i : Nat), k ≤ i → i < k + m → (∀ j, k ≤ j → j < i → e j = 0) → e i ≠ 0 → firstE e k m = e i
  | 0, k, i, h1, h2, _, _ => by omega
  | m + 1, k, i, h1, h2, h, hi => by
    by_cases hk : k = i
    · subst hk; simp only [firstE, if_pos hi]
    · simp only [firstE, h k (by omega) (by omega)]
      simpa using firstE_at m (k + 1) i (by omega) (by omega) (fun j h3 h4 => h j (by omega) h4) hi
def clmE (c : Clm) (k : Nat) : Int := if c.refs.length > 8 then 4 else if refsOK c.refs k then formE c.body else 1
def clmAt (l : List Clm) (k : Nat) : Int := match l[k]? with | none => 0 | some c => clmE c k
def clmsE (l : List Clm) : Int := if l.length > 32 then 4 else firstE (clmAt l) 0 l.length
theorem p138 (l : List Clm) (hl : ∀ c ∈ l, c.ok) (hn : l.length ≤ 2 ^ 40) : PSp Tryz.prog GLx 138 [.list (l.map Clm.V)] [.int .i64 (clmsE l)] := by
  refine psp_of_awp k138 rfl ?_
  obtain ⟨R, hR⟩ : ∃ R, clmsE l = R := ⟨_, rfl⟩
  rw [hR]
  unfold clmsE at hR
  simp only [c138, awp_seq, awp_reg, awp_block, awp_cond, c138r0, c138r1, entry]
  simp
  by_cases h32 : 32 < l.length
  · have h32' : 32 < (l.length : Int) := by omega
    simp [h32] at hR
    simp [h32', awp_seq, awp_reg, awp_ret, c138r2, c138R, hR]
  · have h32' : ¬ 32 < (l.length : Int) := by omega
    simp only [gt_iff_lt, h32, if_false] at hR
    simp [h32', awp_skip, awp_reg, c138r3]
    refine awp_loop_I l.length (fun k s => s.e = [(9, .v (.list (l.map Clm.V))), (10, .v (.int .i64 l.length)), (11, .v (.int .i64 k))] ∧ ∀ j < k, clmAt l j = 0) ⟨rfl, by omega⟩ ?_
    rintro k ⟨se, sh⟩ hk ⟨he, hI⟩
    simp only at he
    subst he
    simp only [c138l0, awp_seq, awp_reg, awp_block, awp_cond, c138r4]
    simp
    by_cases h1 : k < l.length
    · obtain ⟨x, hx⟩ : ∃ x, l[k]? = some x := ⟨_, List.getElem?_eq_getElem h1⟩
      obtain ⟨o1, o2, o3⟩ := hl x (List.mem_of_getElem? hx)
      have hw : IntKind.i64.wrap ((k : Int) + 1) = k + 1 := wrap_i64 (by omega) (by omega)
      have hat : clmAt l k = clmE x k := by unfold clmAt; rw [hx]
      have hbad : clmE x k ≠ 0 → R = clmE x k := fun h => by rw [← hR, firstE_at l.length 0 k (by omega) (by omega) (fun j _ h3 => hI j h3) (by rw [hat]; exact h), hat]
      have p1 := (p241 x.refs k o2).fsp
      have p2 := (p66 x.body o3).fsp
      rw [F.V_flds] at p2
      unfold clmE at hbad hat
      rw [if_pos (by omega), awp_skip]
      simp only [awp_reg, c138r5, c138r6]
      simp [hx, Clm.V, nums, putL]
      simp [nums] at p1 p2
      by_cases b1 : 8 < x.refs.length
      · have b1' : 8 < (x.refs.length : Int) := by omega
        simp [b1] at hbad
        simp [b1', awp_seq, awp_reg, awp_ret, c138r7, c138R, hbad]
      · have b1' : ¬ 8 < (x.refs.length : Int) := by omega
        simp only [gt_iff_lt, b1, if_false] at hbad hat
        simp [b1', awp_seq, awp_reg, awp_cond, c138r8]
        refine ⟨_, _, p1 _, ?_⟩
        cases hr : refsOK x.refs k with
        | false =>
          simp [hr] at hbad
          simp [awp_cond, awp_seq, awp_reg, awp_ret, c138r9, c138R, hbad]
        | true =>
          simp [hr] at hbad hat
          simp [awp_cond, awp_skip, awp_seq, awp_reg, c138r10]
          refine ⟨_, _, p2 _, ?_⟩
          by_cases b2 : formE x.body = 0
          · rw [b2] at hat
            simp [b2, c138r11, awp_cond, awp_skip, awp_reg, c138r13, hw, h1]
            intro j hj
            rcases Nat.lt_or_ge j k with h | h
            · exact hI j h
            · have : j = k := by omega
              subst this; exact hat
          · simp [b2, c138r11, awp_cond, awp_seq, awp_reg, awp_ret, c138r12, c138R, hbad b2]
    · have hk2 : k = l.length := by omega
      subst hk2
      rw [if_neg (by omega), awp_exit]
      rw [firstE_zero _ _ (fun j _ h3 => hI j (by omega))] at hR
      simp [awp_reg, awp_ret, awp_seq, c138r14, c138R, hR]
theorem p126 (l : List Clm) (hl : ∀ c ∈ l, c.ok) (hn : l.length ≤ 2 ^ 40) : PSp Tryz.prog GLx 126 [.list (l.map Clm.V)] [.int .i64 (clmsE l)] := by
  refine psp_of_awp k126 rfl ?_
  obtain ⟨R, hR⟩ : ∃ R, clmsE l = R := ⟨_, rfl⟩
  rw [hR]
  unfold clmsE at hR
  simp only [c126, awp_seq, awp_reg, awp_block, awp_cond, c126r0, c126r1, entry]
  simp
  by_cases h32 : 32 < l.length
  · have h32' : 32 < (l.length : Int) := by omega
    simp [h32] at hR
    simp [h32', awp_seq, awp_reg, awp_ret, c126r2, c126R, hR]
  · have h32' : ¬ 32 < (l.length : Int) := by omega
    simp only [gt_iff_lt, h32, if_false] at hR
    simp [h32', awp_skip, awp_reg, c126r3]
    refine awp_loop_inv l.length (fun k => ⟨[(0, .v (.list (l.map Clm.V))), (3, .v (.int .i64 k))], []⟩) (fun k => ∀ j < k, clmAt l j = 0) rfl (by omega) ?_
    intro k hk hI
    simp only [c126l0, awp_seq, awp_reg, awp_block, awp_cond, c126r4]
    simp
    by_cases h1 : k < l.length
    · obtain ⟨x, hx⟩ : ∃ x, l[k]? = some x := ⟨_, List.getElem?_eq_getElem h1⟩
      obtain ⟨o1, o2, o3⟩ := hl x (List.mem_of_getElem? hx)
      have hw : IntKind.i64.wrap ((k : Int) + 1) = k + 1 := wrap_i64 (by omega) (by omega)
      have hat : clmAt l k = clmE x k := by unfold clmAt; rw [hx]
      have hbad : clmE x k ≠ 0 → R = clmE x k := fun h => by rw [← hR, firstE_at l.length 0 k (by omega) (by omega) (fun j _ h3 => hI j h3) (by rw [hat]; exact h), hat]
      have p1 := (p213 x.refs k o2).fsp
      have p2 := (p214 x.body o3).fsp
      rw [F.V_flds] at p2
      unfold clmE at hbad hat
      rw [if_pos (by omega), awp_skip]
      simp only [awp_reg, c126r6]
      simp [hx, Clm.V, nums, putL]
      simp [nums] at p1 p2
      by_cases b1 : 8 < x.refs.length
      · have b1' : 8 < (x.refs.length : Int) := by omega
        simp [b1] at hbad
        simp [b1', awp_seq, awp_reg, awp_ret, c126r7, c126R, hbad]
      · have b1' : ¬ 8 < (x.refs.length : Int) := by omega
        simp only [gt_iff_lt, b1, if_false] at hbad hat
        simp [b1', hx, Clm.V, nums, awp_skip, awp_seq, awp_reg, awp_cond, c126r8]
        refine ⟨_, _, p1 _, ?_⟩
        cases hr : refsOK x.refs k with
        | false =>
          simp [hr] at hbad
          simp [awp_cond, awp_seq, awp_reg, awp_ret, c126r9, c126R, hbad]
        | true =>
          simp [hr] at hbad hat
          simp [hx, Clm.V, nums, awp_cond, awp_skip, awp_seq, awp_reg, c126r10]
          refine ⟨_, _, p2 _, ?_⟩
          by_cases b2 : formE x.body = 0
          · rw [b2] at hat
            simp [b2, c126r11, awp_cond, awp_skip, awp_reg, c126r5, hw, h1]
            intro j hj
            rcases Nat.lt_or_ge j k with h | h
            · exact hI j h
            · have : j = k := by omega
              subst this; exact hat
          · simp [b2, c126r11, awp_cond, awp_seq, awp_reg, awp_ret, c126r12, c126R, hbad b2]
    · have hk2 : k = l.length := by omega
      subst hk2
      rw [if_neg (by omega), awp_exit]
      rw [firstE_zero _ _ (fun j _ h3 => hI j (by omega))] at hR
      simp [awp_reg, awp_ret, awp_seq, c126r13, c126R, hR]
end Go.Va

namespace Go.Va
open Go.Proofs
def encClm (c : Clm) : List Int := encInts c.refs ++ encRaw (encF c.body)
def encClms (l : List Clm) : List Int := encI l.length ++ l.flatMap encClm
theorem p235 (l : List Clm) (hl : ∀ c ∈ l, c.ok) (hn : l.length ≤ 2 ^ 40) (hb : (encClms l).length ≤ 2 ^ 44) : PSp Tryz.prog GLx 235 [.list (l.map Clm.V)] [nums .u8 (encClms l)] := by
  refine psp_of_awp k235 rfl ?_
  have il : i64 (l.length : Int) := by unfold i64; omega
  have room : ∀ m : Nat, m ≤ 2 ^ 46 → roomy m 1 = true := by intro m hm; simp [roomy]; omega
  unfold encClms at hb ⊢
  rw [List.length_append] at hb
  simp only [c235, awp_seq, awp_reg, awp_block, c235r0, c235r1, c235r2, entry]
  simp
  refine ⟨_, _, p104 l.length il _, ?_⟩
  simp
  refine awp_loop_nat0 l.length (fun k => ⟨[(0, .v (.list (l.map Clm.V))), (3, .own 5 1 ((encI l.length ++ (l.take k).flatMap encClm).map (.int .u8))), (4, .v (.int .i64 k))], []⟩) (by simp) ?_
  intro k hk
  simp only [c235l0, awp_seq, awp_reg, awp_block, awp_cond, c235r3]
  simp
  by_cases hlt : k < l.length
  · obtain ⟨x, hx⟩ : ∃ x, l[k]? = some x := ⟨_, List.getElem?_eq_getElem hlt⟩
    have hxm := List.mem_of_getElem? hx
    have hxe : l[k] = x := (List.getElem?_eq_some_iff.1 hx).2
    obtain ⟨o1, o2, o3⟩ := hl x hxm
    have hw : IntKind.i64.wrap ((k : Int) + 1) = k + 1 := wrap_i64 (by omega) (by omega)
    have hle := flat_len_take l encClm (k + 1)
    rw [flat_take hlt, hxe, List.length_append] at hle
    have e : (l.take (k + 1)).flatMap encClm = (l.take k).flatMap encClm ++ encClm x := by rw [flat_take hlt, hxe]
    have ec : (encClm x).length = (encInts x.refs).length + (encRaw (encF x.body)).length := by simp [encClm]
    have er : (encRaw (encF x.body)).length = (uvar (encF x.body).length).length + (encF x.body).length := by simp [encRaw]
    have p1 := p107 x.refs o1 o2
    have p2 := (p297 x.body o3 (by omega)).fsp
    have p3 := p105 (encF x.body) (by omega)
    rw [F.V_flds] at p2
    have e2 : encClm x = encInts x.refs ++ encRaw (encF x.body) := rfl
    generalize encRaw (encF x.body) = B at *
    generalize encInts x.refs = A at *
    generalize encF x.body = C at *
    rw [if_pos (by omega), awp_skip]
    simp only [awp_reg, c235r5, c235r6]
    simp [nums] at p1 p2 p3
    simp [hx, Clm.V, nums]
    refine ⟨_, _, p1 _, ?_⟩
    simp [-List.length_flatMap, hx, Clm.V, room _ (show (encI l.length).length + ((l.take k).flatMap encClm).length + A.length ≤ 2 ^ 46 by omega)]
    refine ⟨_, _, p2 _, ?_⟩
    simp [-List.length_flatMap]
    refine ⟨_, _, p3 _, ?_⟩
    simp [-List.length_flatMap, hw, hlt, c235r4, room _ (show (encI l.length).length + (((l.take k).flatMap encClm).length + A.length) + B.length ≤ 2 ^ 46 by omega), e, e2]
  · have : k = l.length := by omega
    subst this
    rw [if_neg (by omega), awp_exit]
    simp [awp_reg, awp_ret, c235r7, c235R, nums]
theorem p134 (l : List Clm) (hl : ∀ c ∈ l, c.ok) (hn : l.length ≤ 2 ^ 40) (hb : (encClms l).length ≤ 2 ^ 44) : PSp Tryz.prog GLx 134 [.list (l.map Clm.V)] [nums .u8 (if clmsE l = 0 then encClms l else []), .int .i64 (clmsE l)] := by
  refine psp_of_awp k134 rfl ?_
  have p1 := (p126 l hl hn).fsp
  have p2 := (p235 l hl hn hb).fsp
  generalize clmsE l = e at *
  simp [nums] at p1 p2
  simp only [c134, awp_seq, awp_reg, awp_block, awp_cond, c134r0, c134r1, c134r2, entry]
  simp
  refine ⟨_, _, p1 _, ?_⟩
  by_cases h : e = 0
  · subst h
    simp [awp_skip, awp_reg, c134r4]
    refine ⟨_, _, p2 _, ?_⟩
    simp [awp_ret, c134R, nums]
  · simp [h, awp_seq, awp_reg, awp_ret, c134r3, c134R, nums]
end Go.Va

namespace Go.Va
structure Dat where
  cl : Int
  ix : Int
  day : Int
  file : Int
structure Own where
  party : Int
  num : Int
  den : Int
structure Lic where
  fr : Int
  to : Int
  fst : Int
  lst : Int
structure Rgt where
  file : Int
  state : Int
  force : Int
  claims : List Clm
  dates : List Dat
  bad : List Int
  owners : List Own
  lics : List Lic
def Dat.V (d : Dat) : V := .agg [.int .i64 d.cl, .int .i64 d.ix, .int .i64 d.day, .int .i64 d.file]
def Own.V (o : Own) : V := .agg [.int .i64 o.party, .int .i64 o.num, .int .i64 o.den]
def Lic.V (h : Lic) : V := .agg [.int .i64 h.fr, .int .i64 h.to, .int .i64 h.fst, .int .i64 h.lst]
def Rgt.cs (r : Rgt) : List V := [.int .i64 r.file, .int .i64 r.state, .int .i64 r.force, .list (r.claims.map Clm.V), .list (r.dates.map Dat.V), nums .i64 r.bad, .list (r.owners.map Own.V), .list (r.lics.map Lic.V)]
def Rgt.V (r : Rgt) : V := .agg r.cs
def Dat.ok (d : Dat) : Prop := i64 d.cl ∧ i64 d.ix ∧ i64 d.day ∧ i64 d.file
def Own.ok (o : Own) : Prop := i64 o.party ∧ i64 o.num ∧ i64 o.den
def Lic.ok (h : Lic) : Prop := i64 h.fr ∧ i64 h.to ∧ i64 h.fst ∧ i64 h.lst
structure Rgt.ok (r : Rgt) : Prop where
  file : i64 r.file
  state : i64 r.state
  force : i64 r.force
  claims : ∀ c ∈ r.claims, c.ok
  dates : ∀ d ∈ r.dates, d.ok
  bad : ∀ n ∈ r.bad, i64 n
  owners : ∀ o ∈ r.owners, o.ok
  lics : ∀ h ∈ r.lics, h.ok
  lc : r.claims.length ≤ 2 ^ 30
  ld : r.dates.length ≤ 2 ^ 30
  lb : r.bad.length ≤ 2 ^ 30
  lo : r.owners.length ≤ 2 ^ 30
  ll : r.lics.length ≤ 2 ^ 30
  enc : (encClms r.claims).length ≤ 2 ^ 39
def inI (n lo hi : Int) : Bool := decide (lo ≤ n ∧ n ≤ hi)
def rising {α : Type} (f : α → α → Bool) : List α → Bool
  | x :: y :: l => f x y && rising f (y :: l)
  | _ => true
def datOK (n : Nat) (d : Dat) : Bool := inI d.cl 0 (n - 1) && inI d.ix 0 63 && inI d.day 0 131072 && inI d.file 0 4095
def datLt (a b : Dat) : Bool := decide (a.cl < b.cl ∨ a.cl = b.cl ∧ a.ix < b.ix)
def ownOK (o : Own) : Bool := inI o.party 1 4095 && okR o.num o.den && decide (0 < o.num ∧ o.num ≤ o.den)
def licOK (h : Lic) : Bool := inI h.fr 1 4095 && inI h.to 1 4095 && inI h.fst 0 h.lst && decide (h.lst ≤ 131072)
def formedR (r : Rgt) : Bool :=
  inI r.file 0 4095 && inI r.state 0 4 && inI r.force 0 4 && clmsE r.claims == 0 && decide (r.dates.length ≤ 4096) && decide (r.lics.length ≤ 4096) &&
  (r.dates.all (datOK r.claims.length) && rising datLt r.dates) && (r.bad.all (fun i => inI i 0 (r.claims.length - 1)) && rising (fun a b => decide (a < b)) r.bad) &&
  (r.owners.all ownOK && rising (fun a b => decide (a.party < b.party)) r.owners) && r.lics.all licOK
def encDat (d : Dat) : List Int := encI d.cl ++ encI d.ix ++ encI d.day ++ encI d.file
def encOwn (o : Own) : List Int := encI o.party ++ encI o.num ++ encI o.den
def encLic (h : Lic) : List Int := encI h.fr ++ encI h.to ++ encI h.fst ++ encI h.lst
def encR (r : Rgt) : List Int :=
  encI r.file ++ encI r.state ++ encI r.force ++ encRaw (encClms r.claims) ++ encI r.dates.length ++ r.dates.flatMap encDat ++ encInts r.bad ++
  encI r.owners.length ++ r.owners.flatMap encOwn ++ encI r.lics.length ++ r.lics.flatMap encLic
end Go.Va

namespace Go.Va
section
variable {P : Program} {GL : Globals}
def Row.low (n : Nat) : Row → Bool
  | .cells ds => D.lts n ds
  | .map _ _ _ => true
  | .dead => true
  | .obj _ _ _ => false
theorem dlt_mono {n m : Nat} (h : n ≤ m) : ∀ d : D, D.lt n d = true → D.lt m d = true := by
  intro d
  refine D.rec (motive_1 := fun d => D.lt n d = true → D.lt m d = true) (motive_2 := fun l => D.lts n l = true → D.lts m l = true) ?_ ?_ ?_ ?_ ?_ ?_ ?_ ?_ ?_ ?_ ?_ ?_ ?_ ?_ d
  all_goals simp only [D.lt, D.lts, decide_eq_true_eq, Bool.and_eq_true, implies_true, true_implies, imp_self]
  all_goals first
    | (intros; omega)
    | (intro a b iha ihb hab; exact ⟨iha hab.1, ihb hab.2⟩)
    | (intros; assumption)
    | skip
theorem take_get {μ : List Nat} {r n b : Nat} (h : μ[r]? = some b) (hr : r < n) : (μ.take n)[r]? = some b := by
  rw [List.getElem?_take, if_pos hr]; exact h
theorem lts_get {n : Nat} : ∀ {ds : List D} {i : Nat} {d : D}, D.lts n ds = true → ds[i]? = some d → D.lt n d = true
  | d :: ds, i, x, h, hi => by
    simp only [D.lts, Bool.and_eq_true] at h
    cases i with
    | zero => simp at hi; subst hi; exact h.1
    | succ i => exact lts_get h.2 (by simpa using hi)
theorem RepC.low {g : Gh} {μ : List Nat} {n : Nat} {d : D} {u : Value} (h : RepC g μ d u) (hl : D.lt n d = true) : RepC g (μ.take n) d u := by
  cases d <;> simp only [RepC] at h ⊢
  · exact h
  · obtain ⟨b, hb, rfl⟩ := h; exact ⟨b, take_get hb (by simpa [D.lt] using hl), rfl⟩
theorem RepE.low {g : Gh} {w : World} {μ : List Nat} {n : Nat} {d : D} {u : Value} (h : RepE g w μ d u) (hl : D.lt n d = true) : RepE g w (μ.take n) d u := by
  cases d <;> simp only [RepE] at h ⊢ <;> try exact h
  · obtain ⟨b, hb, rfl⟩ := h; exact ⟨b, take_get hb (by simpa [D.lt] using hl), rfl⟩
  · obtain ⟨b, cap, hb, rfl, hn⟩ := h; exact ⟨b, cap, take_get hb (by simpa [D.lt] using hl), rfl, hn⟩
  · obtain ⟨b, hb, rfl⟩ := h; exact ⟨b, take_get hb (by simpa [D.lt] using hl), rfl⟩
  · obtain ⟨vs, rfl, h⟩ := h
    exact ⟨vs, rfl, h.1, fun i x v hx hv => (h.2 i x v hx hv).low (lts_get (by simpa [D.lt] using hl) hx)⟩
  · obtain ⟨vs, rfl, h⟩ := h
    exact ⟨vs, rfl, h.1, fun i x v hx hv => (h.2 i x v hx hv).low (lts_get (by simpa [D.lt] using hl) hx)⟩
  · obtain ⟨b, hb, rfl⟩ := h; exact ⟨b, take_get hb (by simpa [D.lt] using hl), rfl⟩
theorem RepG.low {g : Gh} {w : World} {μ : List Nat} {n : Nat} {d : D} {u : Value} (h : RepG g w μ d u) (hl : D.lt n d = true) : RepG g w (μ.take n) d u := by
  cases d <;> simp only [RepG] at h ⊢ <;> first
    | exact h.low hl
    | (obtain ⟨vs, rfl, h, h1, h2⟩ := h
       exact ⟨vs, rfl, ⟨h.1, fun i x v hx hv => (h.2 i x v hx hv).low (lts_get (by simpa [D.lt] using hl) hx)⟩, h1, h2⟩)
theorem RepD.low {g : Gh} {w : World} {μ : List Nat} {n : Nat} {d : D} {u : Value} (h : RepD g w μ d u) (hl : D.lt n d = true) : RepD g w (μ.take n) d u := by
  cases d <;> simp only [RepD] at h ⊢ <;> first
    | exact h.low hl
    | (obtain ⟨vs, rfl, h⟩ := h
       exact ⟨vs, rfl, h.1, fun i x v hx hv => (h.2 i x v hx hv).low (lts_get (by simpa [D.lt] using hl) hx)⟩)
theorem Inv.low {g : Gh} {w : World} {μ : List Nat} {t : Nat → D} {u : Nat → Value} {h J : List Row} {O : Nat → Prop} (hi : Inv g w μ t u (h ++ J) O) (ht : ∀ n, D.lt h.length (t n) = true) (hh : ∀ row ∈ h, Row.low h.length row = true) :
    Inv g w (μ.take h.length) t u h O := by
  have hμl : (μ.take h.length).length = h.length := by have := hi.len; simp at this ⊢; omega
  have hget : ∀ {r b : Nat}, (μ.take h.length)[r]? = some b → r < h.length ∧ μ[r]? = some b := by
    intro r b hb
    rw [List.getElem?_take] at hb
    split at hb
    · exact ⟨‹_›, hb⟩
    · cases hb
  have hblk : ∀ p b, blk t u h w (μ.take h.length) p = some b → blk t u (h ++ J) w μ p = some b := by
    intro p b hp
    cases p with
    | tmp n k => exact hp
    | cell r k =>
      simp only [blk] at hp ⊢
      by_cases hr : r < h.length
      · have e1 : cellD (h ++ J) r k = cellD h r k := by simp only [cellD, List.getElem?_append_left hr]
        have e2 : cellU w (μ.take h.length) r k = cellU w μ r k := by simp only [cellU, List.getElem?_take, if_pos hr]
        rw [e1, ← e2]; exact hp
      · simp only [cellD, List.getElem?_eq_none (show h.length ≤ r by omega)] at hp
        simp [own1] at hp
  refine ⟨hi.agree, hi.olt, fun n => (hi.rep n).low (ht n), hμl, ?_, ?_, ?_, fun p q b hp hq => hi.uniq p q b (hblk p b hp) (hblk q b hq), ?_⟩
  · intro r row b hr hb
    obtain ⟨hlt, hb⟩ := hget hb
    have hrow := hi.rows r row b (by rw [List.getElem?_append_left hlt]; exact hr) hb
    have hlow := hh row (List.mem_of_getElem? hr)
    cases row with
    | cells ds =>
      obtain ⟨vs, T, h1, h2, h3, h4⟩ := hrow
      exact ⟨vs, T, h1, ⟨h2.1, fun i x v hx hv => (h2.2 i x v hx hv).low (lts_get hlow hx)⟩, h3, h4⟩
    | map es st ck => exact hrow
    | obj tag p m => simp [Row.low] at hlow
    | dead => exact hrow
  · intro r r' b hr hr'
    exact hi.nod r r' b (hget hr).2 (hget hr').2
  · intro b hb
    exact hi.mo b (List.mem_of_mem_take hb)
  · intro p b hp
    obtain ⟨h1, h2⟩ := hi.sep p b (hblk p b hp)
    exact ⟨fun hm => h1 (List.mem_of_mem_take hm), h2⟩
theorem lt_at0 {n : Nat} {d : D} (h : D.lt n d = true) (k : Nat) : D.lt n (at0 .any d k) = true := by
  simp only [at0]
  split
  · exact h
  · rfl
theorem lts_all {n : Nat} : ∀ {ds : List D}, (∀ d ∈ ds, D.lt n d = true) → D.lts n ds = true
  | [], _ => rfl
  | d :: ds, h => by simp only [D.lts, Bool.and_eq_true]; exact ⟨h d (by simp), lts_all fun x hx => h x (by simp [hx])⟩
theorem lt_retDs {n : Nat} {ds : List D} (h : ∀ d ∈ ds, D.lt n d = true) : D.lt n (retDs ds) = true := by
  match ds with
  | [] => rfl
  | [x] => exact h x (by simp)
  | x :: y :: r => simp only [retDs, D.lt]; exact lts_all h
theorem fsp_low {f n : Nat} {ac : AC} {rs : List AR} {args rets : List D} {h h' : List Row} (hk : chkF P GL f n ac rs = true) (hn : args.length = n) (hl : h.length ≤ h'.length)
    (hh : ∀ row ∈ h', Row.low h'.length row = true) (hr : ∀ d ∈ rets, D.lt h'.length d = true)
    (hw : awp P GL ac (fun e s => (match e with | .exit _ => False | _ => True) ∧ resDs s rs = some rets ∧ ∃ J, s.h = h' ++ J) ⟨entryD args, h⟩) : FSp P GL f args h rets h' := by
  obtain ⟨h1, h2⟩ := calls_core (rets := rets) (h' := h') hk hn (awp_mono ac (fun e s => by
    rintro ⟨h1, h2, J, h3⟩
    refine ⟨h1, rets, h2, fun g w μ v O hi => ⟨μ.take h'.length, fun μ0 hμ0 ⟨tl, hp⟩ => ?_, ?_⟩⟩
    · subst hp
      rw [List.take_append, List.take_of_length_le (by omega)]
      exact List.prefix_append _ _
    · rw [h3] at hi
      exact hi.low (lt_at0 (lt_retDs hr)) hh) hw)
  refine ⟨h1, fun g w μ us O hinv hgl hall htame => h2 g w μ us O hall.1 (hinv.enter (fun n => ?_) (fun n k => ?_)) hgl⟩
  · simp only [atL]
    cases hx : args[n]? with
    | none => simp [RepD, RepG, RepE]
    | some x =>
      obtain ⟨v, hv, hr⟩ := hall.get hx
      rw [hv]
      exact hr.toD
  · simp only [atL]
    cases hx : args[n]? with
    | none => cases k <;> simp [ownAt, own1]
    | some x =>
      obtain ⟨v, hv, hr⟩ := hall.get hx
      rw [hv]
      exact ownAt_of1 hr (htame n x v hx hv) k
end
end Go.Va

namespace Go.Va
open Go.Proofs
def aroundI (a n : Int) : Int := if a < 0 then (IntKind.i64.wrap (0 - IntKind.i64.wrap (a + 1))).tmod n else a.tmod n
theorem p11 (a n : Int) (hn : n ≠ 0) : PSp Tryz.prog GLx 11 [.int .i64 a, .int .i64 n] [.int .i64 (aroundI a n)] := by
  refine psp_of_awp k11 rfl ?_
  unfold aroundI
  by_cases h1 : a < 0 <;> simp [c11, awp, c11r0, c11r1, c11r2, c11r3, c11R, entry, h1, hn]
def pickI (l : List Int) (i n : Int) : Int := if i < 0 then 0 else match l[i.toNat]? with | some x => aroundI x n | none => 0
theorem p47 (l : List Int) (i n : Int) (hn : n ≠ 0) : PSp Tryz.prog GLx 47 [nums .i64 l, .int .i64 i, .int .i64 n] [.int .i64 (pickI l i n)] := by
  refine psp_of_awp k47 rfl ?_
  unfold pickI
  by_cases h1 : i < 0
  · simp [c47, awp, c47r0, c47r1, c47r2, c47R, entry, h1, nums]
  · by_cases h2 : (l.length : Int) ≤ i
    · have : l[i.toNat]? = none := by rw [List.getElem?_eq_none_iff]; omega
      simp [c47, awp, c47r0, c47r1, c47r2, c47R, entry, h1, h2, nums, this]
    · have hlt : i.toNat < l.length := by omega
      have hx : l[i.toNat]? = some l[i.toNat] := List.getElem?_eq_getElem hlt
      have h0 : 0 ≤ i := by omega
      simp [c47, awp, c47r0, c47r1, c47r3, c47R, entry, h1, h2, nums, hx, h0, V.cells, fnOf, D.norm, argsOf, D.arg]
      refine ⟨_, ⟨_, (p11 l[i.toNat] n hn).fsp []⟩, ?_⟩
      simp [retDs]
end Go.Va

namespace Go.Va
open Go.Proofs
def pieceA (k : Int) : F := .mk 1 ((IntKind.i64.wrap (k.tdiv 8)).tmod 6) [] []
def pieceC (k : Int) : F := .mk 2 ((IntKind.i64.wrap (k.tdiv 8)).tmod 2) [⟨(IntKind.i64.wrap (k.tdiv 48)).tmod 4, 1,
  IntKind.i64.wrap (IntKind.i64.wrap ((IntKind.i64.wrap (k.tdiv 48)).tmod 4 + 1) + (IntKind.i64.wrap (k.tdiv 192)).tmod 2), 1, (IntKind.i64.wrap (k.tdiv 384)).tmod 2 == 1, false, false, false⟩] []
def pieceF (n : Int) : F :=
  let k := aroundI n 1048576
  if k.tmod 8 = 0 ∨ k.tmod 8 = 1 ∨ k.tmod 8 = 2 then pieceA k
  else if k.tmod 8 = 3 ∨ k.tmod 8 = 4 then pieceC k
  else if k.tmod 8 = 5 then .mk 4 0 [] [pieceC k, pieceA k]
  else if k.tmod 8 = 6 then .mk 3 0 [] [pieceA k]
  else .mk 6 0 [] [pieceA k]
set_option maxRecDepth 100000 in
set_option maxHeartbeats 2000000 in
theorem p212 (n : Int) : PSp Tryz.prog GLx 212 [.int .i64 n] [(pieceF n).V] := by
  refine psp_of_awp k212 rfl ?_
  have p1 := (p11 n 1048576 (by decide)).fsp
  unfold pieceF pieceA pieceC
  generalize aroundI n 1048576 = k at *
  simp at p1
  simp only [c212, awp_seq, awp_reg, awp_block, awp_cond, c212r0, c212r1, entry]
  simp
  refine ⟨_, _, p1 _, ?_⟩
  simp [c212r2, putL]
  simp [c212r3, putL]
  simp [c212r4, putL]
  simp [c212r5, putL]
  by_cases h0 : k.tmod 8 = 0
  · simp [c212r6, c212r7, h0, awp_seq, awp_skip, awp_reg, c212r10, putL, awp_ret, c212R, F.V_eq]
  by_cases h1 : k.tmod 8 = 1
  · simp [c212r6, c212r7, c212r8, h1, awp_seq, awp_skip, awp_reg, awp_cond, c212r10, putL, awp_ret, c212R, F.V_eq]
  by_cases h2 : k.tmod 8 = 2
  · simp [c212r6, c212r7, c212r8, c212r9, h2, awp_seq, awp_skip, awp_reg, awp_cond, c212r10, putL, awp_ret, c212R, F.V_eq]
  by_cases h3 : k.tmod 8 = 3
  · simp [c212r6, c212r7, c212r8, c212r9, c212r11, h3, awp_seq, awp_skip, awp_reg, awp_cond, c212r13, putL, awp_ret, c212R, F.V_eq, Ivl.V]
  by_cases h4 : k.tmod 8 = 4
  · simp [c212r6, c212r7, c212r8, c212r9, c212r11, c212r12, h4, awp_seq, awp_skip, awp_reg, awp_cond, c212r13, putL, awp_ret, c212R, F.V_eq, Ivl.V]
  by_cases h5 : k.tmod 8 = 5
  · simp [c212r6, c212r7, c212r8, c212r9, c212r11, c212r12, c212r14, h5, awp_seq, awp_skip, awp_reg, awp_cond, c212r15, putL, awp_ret, c212R, F.V_eq, Ivl.V]
  by_cases h6 : k.tmod 8 = 6
  · simp [c212r6, c212r7, c212r8, c212r9, c212r11, c212r12, c212r14, c212r16, h6, awp_seq, awp_skip, awp_reg, awp_cond, c212r17, putL, awp_ret, c212R, F.V_eq]
  simp [c212r6, c212r7, c212r8, c212r9, c212r11, c212r12, c212r14, c212r16, h0, h1, h2, h3, h4, h5, h6, awp_seq, awp_skip, awp_reg, awp_cond, c212r18, putL, awp_ret, c212R, F.V_eq]
end Go.Va

namespace Go.Va
open Go.Proofs
theorem aroundI_b (a n : Int) (hn : 0 < n) : -n < aroundI a n ∧ aroundI a n < n := by
  have key : ∀ b : Int, -n < b.tmod n ∧ b.tmod n < n := fun b => by
    have h1 := Int.tmod_lt_of_pos b hn
    have h2 := Int.tmod_lt_of_pos (-b) hn
    rw [Int.neg_tmod] at h2
    omega
  unfold aroundI
  split <;> exact key _
theorem pickI_b (l : List Int) (i n : Int) (hn : 0 < n) : -n < pickI l i n ∧ pickI l i n < n := by
  unfold pickI
  split
  · omega
  · split
    · exact aroundI_b _ _ hn
    · omega
def claimF (l : List Int) (i : Nat) : Clm :=
  let k := pickI l (2 * i + 1) 1000
  let m := pickI l (2 * i + 2) 1048576
  ⟨if i = 2 ∧ (IntKind.i64.wrap (k.tdiv 16)).tmod 4 = 0 then [0, 1] else if 0 < i ∧ (IntKind.i64.wrap (k.tdiv 4)).tmod 2 = 0 then [(IntKind.i64.wrap (k.tdiv 8)).tmod i] else [],
   if k.tmod 4 = 0 then .mk 5 0 [] [pieceF m, pieceF (IntKind.i64.wrap (k.tdiv 4))] else pieceF m⟩
def manyC (l : List Int) : Nat := (1 + pickI l 0 3).toNat
def claimsF (l : List Int) : List Clm := (List.range (manyC l)).map (claimF l)
theorem manyC_le (l : List Int) : manyC l ≤ 3 := by have := pickI_b l 0 3 (by decide); unfold manyC; omega
def c124t : AC := (.seq (.seq (.reg c124r10 [0, 3, 4, 5, 6, 7, 46]) (.cond (.t 46 false) (.reg c124r11 [0, 3, 4, 5, 6, 7]) .skip)) (.seq (.seq (.reg c124r12 [0, 3, 4, 5, 7, 60]) (.cond (.t 60 false) (.reg c124r13 [0, 3, 4, 5, 7]) .skip)) (.reg c124r14 [0, 3, 4, 5])))
def c124m : AC := (.seq (.reg c124r8 [0, 3, 4, 5, 6, 7, 30]) (.cond (.t 30 false) (.regD c124r9 [0, 3, 4, 5, 6, 7] [[], [0], [], [2], [2, 3], [0, 1, 2, 3, 4], [0, 1, 2, 3, 4, 5], [0, 1, 2, 3, 4, 5, 6], [0, 1, 2, 3, 4, 5, 6, 7]]) .skip))
theorem c124l0_eq : c124l0 = (.seq (.seq (.reg c124r4 [0, 3, 4, 5, 13]) (.cond (.t 13 false) .skip (.exit 0))) (.seq (.block 1 (.seq (.reg c124r6 [0, 3, 4, 5, 6]) (.seq (.reg c124r7 [0, 3, 4, 5, 6, 7]) (.seq c124m c124t)))) (.reg c124r5 [0, 3, 4, 5]))) := rfl
def refsF (i : Nat) (k : Int) : List Int := if i = 2 ∧ (IntKind.i64.wrap (k.tdiv 16)).tmod 4 = 0 then [0, 1] else if 0 < i ∧ (IntKind.i64.wrap (k.tdiv 4)).tmod 2 = 0 then [(IntKind.i64.wrap (k.tdiv 8)).tmod i] else []
set_option maxRecDepth 100000 in
theorem l124t (i : Nat) (k : Int) (b : F) (d0 d4 dI : D) (hdI : dI.copy = .v (.list (b.ins.map Ivl.V))) (xs : List V) (J : List Row) (hi : i ≤ 3) (hxs : xs.length ≤ 3) (hh : headOK 5 xs = true) (Q : AExit → St → Prop)
    (hQ : ∀ J', Q .normal ⟨[(0, d0), (3, .own 130 5 (xs ++ [Clm.V ⟨refsF i k, b⟩])), (4, d4), (5, .v (.int .i64 i))], J'⟩) :
    ∀ e, find e 0 = d0 → find e 3 = .own 130 5 xs → find e 4 = d4 → find e 5 = .v (.int .i64 i) → find e 6 = .v (.int .i64 k) → find e 7 = .ref J.length 0 → awp Tryz.prog GLx c124t Q ⟨e,
      J ++ [.cells [.own 3 1 [], .v (.int .i64 b.op), .v (.int .i64 b.n), dI, .v (.list (b.kids.map F.V))]]⟩ := by
  simp only [D.copy] at hdI
  intro e f0 f3 f4 f5 f6 f7
  have hroom : roomy (xs.length + 1) 88 = true := by simp [roomy]; omega
  have hq : ∀ (refs : List Int) J', refs = refsF i k → Q .normal ⟨[(0, d0), (3, .own 130 5 (xs ++ [V.agg [.list (refs.map (.int .i64)), .int .i64 b.op, .int .i64 b.n, .list (b.ins.map Ivl.V), .list (b.kids.map F.V)]])), (4, d4), (5, .v (.int .i64 i))], J'⟩ := by
    rintro refs J' rfl
    exact hQ J'
  clear hQ
  unfold refsF at hq
  unfold c124t
  simp only [awp_seq, awp_reg, awp_cond, c124r10]
  simp [f0, f3, f4, f5, f6, f7]
  by_cases hi0 : i = 0
  · subst hi0
    simp [awp_skip, c124r12, c124r14, hroom, hdI]
    exact hq [] _ (by simp)
  have hi1 : 0 < i := by omega
  have hi1' : (i : Int) ≠ 0 := by omega
  by_cases h2 : (IntKind.i64.wrap (k.tdiv 4)).tmod 2 = 0
  · simp [hi1, h2, awp_reg, c124r11, hi1', hi0]
    by_cases h3 : i = 2
    · subst h3
      by_cases h4 : (IntKind.i64.wrap (k.tdiv 16)).tmod 4 = 0
      · simp [c124r12, h4, awp_reg, c124r13, c124r14, hroom, hdI]
        exact hq [0, 1] _ (by simp [h4])
      · simp [c124r12, h4, awp_skip, c124r14, hroom, hdI]
        exact hq [(IntKind.i64.wrap (k.tdiv 8)).tmod 2] _ (by simp [h4, h2])
    · have h3' : ¬ (i : Int) = 2 := by omega
      simp [c124r12, h3, h3', awp_skip, c124r14, hroom, hdI]
      exact hq [(IntKind.i64.wrap (k.tdiv 8)).tmod i] _ (by simp [h3, h2, hi1])
  · simp [hi1, h2, awp_skip]
    by_cases h3 : i = 2
    · subst h3
      by_cases h4 : (IntKind.i64.wrap (k.tdiv 16)).tmod 4 = 0
      · simp [c124r12, h4, awp_reg, c124r13, c124r14, hroom, hdI]
        exact hq [0, 1] _ (by simp [h4])
      · simp [c124r12, h4, awp_skip, c124r14, hroom, hdI]
        exact hq [] _ (by simp [h4, h2])
    · have h3' : ¬ (i : Int) = 2 := by omega
      simp [c124r12, h3, h3', awp_skip, c124r14, hroom, hdI]
      exact hq [] _ (by simp [h3, h2])
set_option maxRecDepth 100000 in
theorem l124m (k : Int) (f g : F) (hg : PSp Tryz.prog GLx 212 [.int .i64 (IntKind.i64.wrap (k.tdiv 4))] [g.V]) (d0 d4 d5 : D) (xs : List V) (J : List Row) (Q : AExit → St → Prop)
    (hQ : ∀ (b : F) e (dI : D), dI.copy = .v (.list (b.ins.map Ivl.V)) → b = (if k.tmod 4 = 0 then .mk 5 0 [] [f, g] else f) → find e 0 = d0 → find e 3 = .own 130 5 xs → find e 4 = d4 → find e 5 = d5 → find e 6 = .v (.int .i64 k) → find e 7 = .ref J.length 0 → Q .normal ⟨e,
      J ++ [.cells [.own 3 1 [], .v (.int .i64 b.op), .v (.int .i64 b.n), dI, .v (.list (b.kids.map F.V))]]⟩) :
    awp Tryz.prog GLx c124m Q ⟨[(0, d0), (3, .own 130 5 xs), (4, d4), (5, d5), (6, .v (.int .i64 k)), (7, .ref J.length 0)],
      J ++ [.cells [.own 3 1 [], .v (.int .i64 f.op), .v (.int .i64 f.n), .v (.list (f.ins.map Ivl.V)), .v (.list (f.kids.map F.V))]]⟩ := by
  unfold c124m
  simp only [awp_seq, awp_reg, awp_cond, c124r8]
  simp
  by_cases h4 : k.tmod 4 = 0
  · rw [if_pos h4] at hQ ⊢
    have hQ := hQ _ [(0, d0), (3, .own 130 5 xs), (4, d4), (5, d5), (6, .v (.int .i64 k)), (7, .ref J.length 0)] (.own 368 8 []) rfl rfl rfl rfl rfl rfl rfl rfl
    simp only [F.op, F.n, F.ins, F.kids, List.map_cons, List.map_nil] at hQ
    rw [F.V_flds] at hg
    rw [F.V_flds f, F.V_flds g] at hQ
    simp only [awp_regD, c124r9]
    simp
    refine ⟨_, _, ⟨rfl, rfl⟩, _, hg, ?_⟩
    simp [putL]
    exact hQ
  · rw [if_neg h4] at hQ ⊢
    rw [awp_skip]
    exact hQ f _ _ rfl rfl rfl rfl rfl rfl rfl rfl
set_option maxRecDepth 100000 in
theorem p124 (l : List Int) : PSp Tryz.prog GLx 124 [nums .i64 l] [.list ((claimsF l).map Clm.V)] := by
  refine psp_of_awp k124 rfl ?_
  have p1 := (p47 l 0 3 (by decide)).fsp
  have hb := pickI_b l 0 3 (by decide)
  have hm : manyC l = (1 + pickI l 0 3).toNat := rfl
  have hm3 := manyC_le l
  have w1 : IntKind.i64.wrap (1 + pickI l 0 3) = 1 + pickI l 0 3 := wrap_i64 (by omega) (by omega)
  simp [nums] at p1
  simp only [c124, awp_seq, awp_reg, awp_block, c124r0, c124r1, c124r2, c124r3, entry]
  simp [nums]
  refine ⟨_, _, p1 _, ?_⟩
  simp [w1]
  generalize 1 + pickI l 0 3 = M at *
  refine awp_loop_I (manyC l) (fun i s => s.e = [(0, .v (nums .i64 l)), (3, .own 130 5 ((List.range i).map fun j => (claimF l j).V)), (4, .v (.int .i64 M)), (5, .v (.int .i64 i))]) (by simp [nums]) ?_
  rintro i ⟨se, J⟩ hi he
  simp only at he
  subst he
  rw [c124l0_eq]
  simp only [awp_seq, awp_reg, awp_block, awp_cond, c124r4]
  simp [nums]
  by_cases hlt : i < manyC l
  · have hlt' : (i : Int) < M := by omega
    have v1 : IntKind.i64.wrap (2 * (i : Int)) = 2 * i := wrap_i64 (by omega) (by omega)
    have v2 : IntKind.i64.wrap (2 * (i : Int) + 1) = 2 * i + 1 := wrap_i64 (by omega) (by omega)
    have v3 : IntKind.i64.wrap (2 * (i : Int) + 2) = 2 * i + 2 := wrap_i64 (by omega) (by omega)
    have hw : IntKind.i64.wrap ((i : Int) + 1) = i + 1 := wrap_i64 (by omega) (by omega)
    have p2 := (p47 l (2 * i + 1) 1000 (by decide)).fsp
    have p3 := (p47 l (2 * i + 2) 1048576 (by decide)).fsp
    have hcl : ∀ b, b = (if (pickI l (2 * i + 1) 1000).tmod 4 = 0 then F.mk 5 0 [] [pieceF (pickI l (2 * i + 2) 1048576), pieceF (IntKind.i64.wrap ((pickI l (2 * i + 1) 1000).tdiv 4))] else pieceF (pickI l (2 * i + 2) 1048576)) → (⟨refsF i (pickI l (2 * i + 1) 1000), b⟩ : Clm) = claimF l i := by
      rintro b rfl; rfl
    have p4 := (p212 (pickI l (2 * i + 2) 1048576)).fsp
    have p5 := p212 (IntKind.i64.wrap ((pickI l (2 * i + 1) 1000).tdiv 4))
    generalize pickI l (2 * i + 1) 1000 = k at *
    generalize pickI l (2 * i + 2) 1048576 = m at *
    generalize pieceF m = f at *
    generalize pieceF (IntKind.i64.wrap (k.tdiv 4)) = g at *
    rw [F.V_flds] at p4
    simp [nums] at p2 p3 p4
    rw [if_pos hlt', awp_skip]
    simp only [awp_reg, c124r6]
    simp [v1, v2]
    refine ⟨_, _, p2 _, ?_⟩
    simp [c124r7, v1, v3]
    refine ⟨_, _, p3 _, ?_⟩
    simp
    refine ⟨_, _, p4 _, ?_⟩
    simp [putL]
    refine l124m k f g p5 _ _ _ _ J _ ?_
    intro b e dI hdI hbb f0 f3 f4 f5 f6 f7
    simp only []
    refine l124t i k b _ _ dI hdI _ J (by omega) (by simp; omega) ?_ _ ?_ e f0 f3 f4 f5 f6 f7
    · cases i with
      | zero => rfl
      | succ i => simp [List.range_succ_eq_map, Clm.V]
    · intro J'
      rw [hcl b hbb]
      simp [c124r5, hw, hlt, List.range_succ]
  · have : i = manyC l := by omega
    subst this
    have hlt' : ¬ ((manyC l : Nat) : Int) < M := by omega
    rw [if_neg hlt', awp_exit]
    simp [awp_reg, awp_ret, c124r15, c124R, claimsF, nums, Function.comp_def]
end Go.Va

namespace Go.Va
open Go.Proofs
def datF (l : List Int) (i : Nat) : Dat := ⟨i, (pickI l (4 + i) 1000).tmod 3, IntKind.i64.wrap (36000 + (pickI l (4 + i) 1000).tmod 50), (pickI l (4 + i) 1000).tmod 20⟩
def badF (l : List Int) (i : Nat) : Option Int := if (pickI l (4 + i) 1000).tmod 5 = 0 then some i else none
def ownF (l : List Int) (i : Nat) : Own := ⟨IntKind.i64.wrap (1 + 2 * i + (pickI l (9 + i) 1000).tmod 2), 1, pickI l 8 3⟩
def licF (l : List Int) (i : Nat) : Option Lic :=
  let k := pickI l (9 + i) 1000
  if k.tmod 3 = 0 then some ⟨IntKind.i64.wrap (1 + k.tmod 5), IntKind.i64.wrap (2 + k.tmod 7), k, IntKind.i64.wrap (k + IntKind.i64.wrap (k.tdiv 7))⟩ else none
def someF (l : List Int) : Rgt :=
  ⟨pickI l 0 40, pickI l 1 5, if pickI l 2 3 = 0 then pickI l 3 5 else 0, claimsF l, (List.range (claimsF l).length).map (datF l), (List.range (claimsF l).length).filterMap (badF l),
   (List.range (pickI l 8 3).toNat).map (ownF l), (List.range (pickI l 8 3).toNat).filterMap (licF l)⟩
theorem claimsF_len (l : List Int) : (claimsF l).length ≤ 3 := by have := manyC_le l; simpa [claimsF] using this
def mkR (a b c : Int) (cl : List Clm) (ds : List Dat) (bad : List Int) (os : List Own) (ls : List Lic) : Row :=
  .cells [.v (.int .i64 a), .v (.int .i64 b), .v (.int .i64 c), .v (.list (cl.map Clm.V)), .own 131 4 (ds.map Dat.V), .own 3 1 (bad.map (.int .i64)), .own 135 3 (os.map Own.V), .own 137 4 (ls.map Lic.V)]
set_option maxRecDepth 100000 in
theorem l48_0 (l : List Int) (a b c : Int) (cl : List Clm) (hcl : cl.length ≤ 3) (R0 : Row) :
    awp Tryz.prog GLx (.loop c48l0) (fun e s => e = .exit 0 ∧ find s.e 0 = .v (nums .i64 l) ∧ find s.e 2 = .ref 0 0 ∧ find s.e 3 = .ref 1 0 ∧ s.h = [R0, mkR a b c cl ((List.range cl.length).map (datF l)) ((List.range cl.length).filterMap (badF l)) [] []])
      ⟨[(0, .v (nums .i64 l)), (2, .ref 0 0), (3, .ref 1 0), (4, .v (.int .i64 0))], [R0, mkR a b c cl [] [] [] []]⟩ := by
  refine awp_loop_nat0 cl.length (fun i => ⟨[(0, .v (nums .i64 l)), (2, .ref 0 0), (3, .ref 1 0), (4, .v (.int .i64 i))], [R0, mkR a b c cl ((List.range i).map (datF l)) ((List.range i).filterMap (badF l)) [] []]⟩) (by simp) ?_
  intro i hi
  simp only [c48l0, awp_seq, awp_reg, awp_block, awp_cond, c48r5]
  simp [mkR]
  by_cases hlt : i < cl.length
  · have v1 : IntKind.i64.wrap (4 + (i : Int)) = 4 + i := wrap_i64 (by omega) (by omega)
    have hw : IntKind.i64.wrap ((i : Int) + 1) = i + 1 := wrap_i64 (by omega) (by omega)
    have p1 := (p47 l (4 + i) 1000 (by decide)).fsp
    have hlb : ((List.range i).filterMap (badF l)).length ≤ i := by have := List.length_filterMap_le (badF l) (List.range i); simpa using this
    have r1 : roomy (i + 1) 32 = true := by simp [roomy]; omega
    have r2 : roomy (((List.range i).filterMap (badF l)).length + 1) 8 = true := by simp [roomy]; omega
    simp [nums] at p1
    have hd : datF l i = ⟨i, (pickI l (4 + i) 1000).tmod 3, IntKind.i64.wrap (36000 + (pickI l (4 + i) 1000).tmod 50), (pickI l (4 + i) 1000).tmod 20⟩ := rfl
    have hb : badF l i = if (pickI l (4 + i) 1000).tmod 5 = 0 then some (i : Int) else none := rfl
    generalize pickI l (4 + i) 1000 = k at *
    rw [if_pos (by omega), awp_skip]
    simp only [awp_reg, c48r7]
    simp [v1, nums]
    refine ⟨_, _, p1 _, ?_⟩
    simp [c48r8, putL, r1]
    by_cases h5 : k.tmod 5 = 0
    · simp [c48r9, h5, awp_reg, c48r10, r2, c48r6, hw, hlt, List.range_succ, hd, hb, Dat.V]
    · simp [c48r9, h5, awp_skip, c48r6, hw, hlt, List.range_succ, hd, hb, Dat.V]
  · have : i = cl.length := by omega
    subst this
    rw [if_neg (by omega), awp_exit]
    simp
set_option maxRecDepth 100000 in
theorem l48_1 (l : List Int) (a b c : Int) (cl : List Clm) (ds : List Dat) (bad : List Int) (R0 : Row) :
    awp Tryz.prog GLx (.loop c48l1) (fun e s => e = .exit 2 ∧ find s.e 2 = .ref 0 0 ∧ find s.e 3 = .ref 1 0 ∧ s.h = [R0, mkR a b c cl ds bad ((List.range (pickI l 8 3).toNat).map (ownF l)) ((List.range (pickI l 8 3).toNat).filterMap (licF l))])
      ⟨[(0, .v (nums .i64 l)), (2, .ref 0 0), (3, .ref 1 0), (6, .v (.int .i64 (pickI l 8 3))), (7, .v (.int .i64 0))], [R0, mkR a b c cl ds bad [] []]⟩ := by
  have hN := pickI_b l 8 3 (by decide)
  have hO : ∀ i, ownF l i = ⟨IntKind.i64.wrap (1 + 2 * i + (pickI l (9 + i) 1000).tmod 2), 1, pickI l 8 3⟩ := fun _ => rfl
  generalize pickI l 8 3 = N at *
  refine awp_loop_nat0 N.toNat (fun i => ⟨[(0, .v (nums .i64 l)), (2, .ref 0 0), (3, .ref 1 0), (6, .v (.int .i64 N)), (7, .v (.int .i64 i))], [R0, mkR a b c cl ds bad ((List.range i).map (ownF l)) ((List.range i).filterMap (licF l))]⟩) (by simp) ?_
  intro i hi
  simp only [c48l1, awp_seq, awp_reg, awp_block, awp_cond, c48r13]
  simp [mkR]
  by_cases hlt : i < N.toNat
  · have hlt' : (i : Int) < N := by omega
    have v1 : IntKind.i64.wrap (9 + (i : Int)) = 9 + i := wrap_i64 (by omega) (by omega)
    have v2 : IntKind.i64.wrap (2 * (i : Int)) = 2 * i := wrap_i64 (by omega) (by omega)
    have v3 : IntKind.i64.wrap (1 + 2 * (i : Int)) = 1 + 2 * i := wrap_i64 (by omega) (by omega)
    have hw : IntKind.i64.wrap ((i : Int) + 1) = i + 1 := wrap_i64 (by omega) (by omega)
    have p1 := (p47 l (9 + i) 1000 (by decide)).fsp
    have hlb : ((List.range i).filterMap (licF l)).length ≤ i := by have := List.length_filterMap_le (licF l) (List.range i); simpa using this
    have r1 : roomy (i + 1) 24 = true := by simp [roomy]; omega
    have r2 : roomy (((List.range i).filterMap (licF l)).length + 1) 32 = true := by simp [roomy]; omega
    simp [nums] at p1
    have hd := hO i
    have hb : licF l i = if (pickI l (9 + i) 1000).tmod 3 = 0 then some ⟨IntKind.i64.wrap (1 + (pickI l (9 + i) 1000).tmod 5), IntKind.i64.wrap (2 + (pickI l (9 + i) 1000).tmod 7), (pickI l (9 + i) 1000), IntKind.i64.wrap ((pickI l (9 + i) 1000) + IntKind.i64.wrap ((pickI l (9 + i) 1000).tdiv 7))⟩ else none := rfl
    generalize pickI l (9 + i) 1000 = k at *
    rw [if_pos (by omega), awp_skip]
    simp only [awp_reg, c48r15]
    simp [v1, nums]
    refine ⟨_, _, p1 _, ?_⟩
    simp [c48r16, putL, r1, v2, v3]
    by_cases h5 : k.tmod 3 = 0
    · simp [c48r17, h5, awp_reg, c48r18, putL, r2, c48r14, hw, hlt', List.range_succ, hd, hb, Own.V, Lic.V]
    · simp [c48r17, h5, awp_skip, c48r14, hw, hlt', List.range_succ, hd, hb, Own.V]
  · have : i = N.toNat := by omega
    subst this
    rw [if_neg (by omega), awp_exit]
    simp
def c48t : AC := (.seq (.seq (.reg c48r4 [0, 2, 3, 4]) (.block 0 (.loop c48l0))) (.seq (.reg c48r11 [0, 2, 3, 6]) (.seq (.seq (.reg c48r12 [0, 2, 3, 6, 7]) (.block 2 (.loop c48l1))) (.seq (.reg c48r19 [2]) .ret))))
theorem c48_eq : c48 = (.seq (.reg c48r0 [0, 2]) (.seq (.reg c48r1 [0, 2, 3]) (.seq (.seq (.reg c48r2 [0, 2, 3, 18]) (.cond (.t 18 false) (.reg c48r3 [0, 2, 3]) .skip)) c48t))) := rfl
set_option maxRecDepth 100000 in
theorem p48 (l : List Int) : PSp Tryz.prog GLx 48 [nums .i64 l] [(someF l).V] := by
  refine psp_of_awp k48 rfl ?_
  have p1 := (p47 l 0 40 (by decide)).fsp
  have p2 := (p47 l 1 5 (by decide)).fsp
  have p3 := (p124 l).fsp
  have p4 := (p47 l 2 3 (by decide)).fsp
  have p5 := (p47 l 3 5 (by decide)).fsp
  have p6 := (p47 l 8 3 (by decide)).fsp
  have hl0 := fun c R0 => l48_0 l (pickI l 0 40) (pickI l 1 5) c (claimsF l) (claimsF_len l) R0
  have hl1 := fun c ds bad R0 => l48_1 l (pickI l 0 40) (pickI l 1 5) c (claimsF l) ds bad R0
  simp [nums, mkR] at p1 p2 p3 p4 p5 p6 hl0 hl1
  rw [c48_eq]
  simp only [awp_seq, awp_reg, awp_block, awp_cond, c48r0, c48r1, entry]
  simp [nums]
  refine ⟨_, _, p1 _, ?_⟩
  simp
  refine ⟨_, _, p2 _, ?_⟩
  simp
  refine ⟨_, _, p3 _, ?_⟩
  simp [putL, c48r2]
  refine ⟨_, _, p4 _, ?_⟩
  simp
  have fin : ∀ (c : Int) (e : Env), find e 0 = .v (nums .i64 l) → find e 2 = .ref 0 0 → find e 3 = .ref 1 0 → c = (if pickI l 2 3 = 0 then pickI l 3 5 else 0) →
      awp Tryz.prog GLx c48t (fun e s => (match e with | .exit _ => False | _ => True) ∧ resVs s c48R = some [(someF l).V])
        ⟨e, [.cells [.v (.int .i64 0), .v (.int .i64 0), .v (.int .i64 0), .own 130 5 [], .own 131 4 [], .own 3 1 [], .own 135 3 [], .own 137 4 []],
          .cells [.v (.int .i64 (pickI l 0 40)), .v (.int .i64 (pickI l 1 5)), .v (.int .i64 c), .v (.list ((claimsF l).map Clm.V)), .own 131 4 [], .own 3 1 [], .own 135 3 [], .own 137 4 []]]⟩ := by
    intro c e f0 f2 f3 hc
    unfold c48t
    simp only [awp_seq, awp_reg, awp_block, c48r4]
    simp [f0, f2, f3, nums]
    refine awp_mono _ ?_ (hl0 c _)
    rintro e ⟨se, sh⟩ ⟨rfl, g0, g2, g3, hh⟩
    simp only at g0 g2 g3 hh
    subst hh
    simp [c48r11, g0, g2, g3]
    refine ⟨_, _, p6 _, ?_⟩
    simp [c48r12]
    have q := hl1 c ((List.range (claimsF l).length).map (datF l)) ((List.range (claimsF l).length).filterMap (badF l)) (.cells [.v (.int .i64 0), .v (.int .i64 0), .v (.int .i64 0), .own 130 5 [], .own 131 4 [], .own 3 1 [], .own 135 3 [], .own 137 4 []])
    simp at q
    refine awp_mono _ ?_ q
    rintro e ⟨se, sh⟩ ⟨rfl, g2, g3, hh⟩
    simp only at g2 g3 hh
    subst hh
    simp [c48r19, g2, g3, awp_ret, c48R, putL, someF, Rgt.V, Rgt.cs, nums, hc]
  by_cases h0 : pickI l 2 3 = 0
  · simp [h0, awp_reg, c48r3]
    refine ⟨_, _, p5 _, ?_⟩
    simp [putL]
    exact fin _ _ rfl rfl rfl (by simp [h0])
  · simp [h0, awp_skip]
    exact fin _ _ rfl rfl rfl (by simp [h0])
end Go.Va

namespace Go.Va
open Go.Proofs
theorem wrap_ok (n : Int) : i64 (IntKind.i64.wrap n) := by
  have h1 := Int.emod_nonneg n (b := 18446744073709551616) (by decide)
  have h2 := Int.emod_lt_of_pos n (b := 18446744073709551616) (by decide)
  unfold IntKind.wrap i64
  simp only [IntKind.bits, IntKind.signed]
  have e1 : ((2 : Int) ^ 64) = 18446744073709551616 := by decide
  have e2 : ((2 : Int) ^ (64 - 1)) = 9223372036854775808 := by decide
  simp only [e1, e2, Bool.true_and, decide_eq_true_eq, ge_iff_le]
  split <;> omega
theorem tmod_b (b n : Int) (hn : 0 < n) : -n < b.tmod n ∧ b.tmod n < n := by
  have h1 := Int.tmod_lt_of_pos b hn
  have h2 := Int.tmod_lt_of_pos (-b) hn
  rw [Int.neg_tmod] at h2
  omega
theorem tmod_ok (b n : Int) (hn : 0 < n) (h : n ≤ 2 ^ 40) : i64 (b.tmod n) := by have := tmod_b b n hn; unfold i64; omega
theorem pickI_ok (l : List Int) (i n : Int) (hn : 0 < n) (h : n ≤ 2 ^ 40) : i64 (pickI l i n) := by have := pickI_b l i n hn; unfold i64; omega
structure F.tiny (m : Nat) (f : F) : Prop where
  one : ∀ g ∈ f.nodes, g.ok1 ∧ g.ins.length ≤ 1
  len : f.nodes.length ≤ m
  size : f.size ≤ m
theorem F.tiny.ok {m : Nat} {f : F} (h : f.tiny m) (hm : m ≤ 2 ^ 20) : f.ok := ⟨fun g hg => (h.one g hg).1, by have := h.size; omega⟩
theorem flat_le {α : Type} {f : α → List Int} (c : Nat) : ∀ l : List α, (∀ x ∈ l, (f x).length ≤ c) → (l.flatMap f).length ≤ c * l.length
  | [], _ => by simp
  | x :: l, h => by
    have h1 := h x (by simp)
    have h2 := flat_le c l fun y hy => h y (by simp [hy])
    simp only [List.flatMap_cons, List.length_append, List.length_cons, Nat.mul_succ]; omega
theorem encInts_le (l : List Int) : (encInts l).length ≤ 10 + 10 * l.length := by
  have h1 := uvar_len l.length
  have h2 := flat_encI_len l
  rw [encInts, List.length_append]; omega
theorem F.tiny.enc {m : Nat} {f : F} (h : f.tiny m) : (encF f).length ≤ 200 * m := by
  have key := flat_le (f := encNode) 200 f.nodes fun g hg => by
    have h1 := (h.one g hg).2
    have h2 := flat_le (f := encIvl) 100 g.ins fun x _ => by
      have := encInts_le [x.ln, x.ld, x.hn, x.hd, b01 x.lo, b01 x.ho, b01 x.li, b01 x.hi]
      simp only [List.length_cons, List.length_nil] at this
      exact Nat.le_trans this (by decide)
    have := encI_len g.op; have := encI_len g.n; have := encI_len g.ins.length; have := encI_len g.kids.length
    simp only [encNode, List.length_append]; omega
  have := h.len
  have : 200 * f.nodes.length ≤ 200 * m := Nat.mul_le_mul_left _ this
  exact Nat.le_trans key this
theorem pieceA_tiny (k : Int) : (pieceA k).tiny 1 := by
  refine ⟨?_, by simp [pieceA, F.nodes_eq], by simp [pieceA, F.size_eq]⟩
  simp only [pieceA, F.nodes_eq, List.flatMap_nil, List.mem_singleton, forall_eq, F.ok1, F.op, F.n, F.ins]
  exact ⟨⟨by unfold i64; omega, tmod_ok _ _ (by decide) (by decide), by simp, by simp⟩, by simp⟩
theorem pieceC_tiny (k : Int) : (pieceC k).tiny 1 := by
  refine ⟨?_, by simp [pieceC, F.nodes_eq], by simp [pieceC, F.size_eq]⟩
  simp only [pieceC, F.nodes_eq, List.flatMap_nil, List.mem_singleton, forall_eq, F.ok1, F.op, F.n, F.ins]
  exact ⟨⟨by unfold i64; omega, tmod_ok _ _ (by decide) (by decide), ⟨tmod_ok _ _ (by decide) (by decide), by simp [i64], wrap_ok _, by simp [i64]⟩, by simp⟩, by simp⟩
theorem tiny_node {op : Int} {kids : List F} {m : Nat} (ho : i64 op) (hk : ∀ k ∈ kids, k.tiny m) : (F.mk op 0 [] kids).tiny (1 + m * kids.length) := by
  have s : ∀ l : List F, (∀ k ∈ l, k.tiny m) → (l.flatMap F.nodes).length ≤ m * l.length ∧ (l.map F.size).sum ≤ m * l.length := by
    intro l
    induction l with
    | nil => simp
    | cons x l ih =>
      intro h
      have h1 := h x (by simp)
      have h2 := ih fun k hk => h k (by simp [hk])
      have := h1.len; have := h1.size
      simp only [List.flatMap_cons, List.length_append, List.length_cons, List.map_cons, List.sum_cons, Nat.mul_succ]; omega
  have s1 := s kids hk
  refine ⟨?_, by rw [F.nodes_eq, List.length_cons]; omega, by rw [F.size_eq]; omega⟩
  intro g hg
  rw [F.nodes_eq] at hg
  rcases List.mem_cons.1 hg with rfl | hg
  · exact ⟨⟨ho, by simp [F.n, i64], by simp [F.ins], by simp [F.ins]⟩, by simp [F.ins]⟩
  · obtain ⟨k, hk1, hk2⟩ := List.mem_flatMap.1 hg
    exact (hk k hk1).one g hk2
theorem F.tiny.mono {m n : Nat} {f : F} (h : f.tiny m) (hn : m ≤ n) : f.tiny n := ⟨h.one, Nat.le_trans h.len hn, Nat.le_trans h.size hn⟩
theorem pieceF_tiny (n : Int) : (pieceF n).tiny 3 := by
  unfold pieceF
  generalize aroundI n 1048576 = k
  have o : ∀ n : Int, 0 ≤ n → n ≤ 6 → i64 n := fun n h1 h2 => by unfold i64; omega
  simp only
  repeat' split
  · exact (pieceA_tiny k).mono (by decide)
  · exact (pieceC_tiny k).mono (by decide)
  · exact (tiny_node (m := 1) (o _ (by decide) (by decide)) (by simp [pieceA_tiny, pieceC_tiny])).mono (by simp)
  · exact (tiny_node (m := 1) (o _ (by decide) (by decide)) (by simp [pieceA_tiny])).mono (by simp)
  · exact (tiny_node (m := 1) (o _ (by decide) (by decide)) (by simp [pieceA_tiny])).mono (by simp)
structure Clm.tiny (c : Clm) : Prop where
  refs : ∀ n ∈ c.refs, i64 n
  lr : c.refs.length ≤ 2
  body : c.body.tiny 7
theorem Clm.tiny.ok {c : Clm} (h : c.tiny) : c.ok := ⟨h.refs, by have := h.lr; omega, h.body.ok (by decide)⟩
theorem claimF_tiny (l : List Int) (i : Nat) (hi : i ≤ 3) : (claimF l i).tiny := by
  unfold claimF
  generalize pickI l (2 * i + 1) 1000 = k
  generalize pickI l (2 * i + 2) 1048576 = m
  refine ⟨?_, ?_, ?_⟩
  · simp only
    split
    · simp [i64]
    · split
      · rename_i h
        simp only [List.mem_singleton, forall_eq]
        exact tmod_ok _ _ (by omega) (by omega)
      · simp
  · simp only
    split
    · simp
    · split <;> simp
  · simp only
    split
    · exact (tiny_node (m := 3) (by unfold i64; omega) (by simp [pieceF_tiny])).mono (by simp)
    · exact (pieceF_tiny m).mono (by decide)
structure Rgt.tiny (m : Nat) (r : Rgt) : Prop where
  file : i64 r.file
  state : i64 r.state
  force : i64 r.force
  claims : ∀ c ∈ r.claims, c.tiny
  dates : ∀ d ∈ r.dates, d.ok
  bad : ∀ n ∈ r.bad, i64 n
  owners : ∀ o ∈ r.owners, o.ok
  lics : ∀ h ∈ r.lics, h.ok
  lc : r.claims.length ≤ m
  ld : r.dates.length ≤ m
  lb : r.bad.length ≤ m
  lo : r.owners.length ≤ m
  ll : r.lics.length ≤ m
theorem encClm_le {c : Clm} (h : c.tiny) : (encClm c).length ≤ 1500 := by
  have h1 := encInts_le c.refs
  have h2 := h.lr
  have h3 := h.body.enc
  have h4 := uvar_len (encF c.body).length
  simp only [encClm, encRaw, List.length_append]; omega
theorem encClms_le {l : List Clm} (h : ∀ c ∈ l, c.tiny) : (encClms l).length ≤ 10 + 1500 * l.length := by
  have h1 := flat_le (f := encClm) 1500 l fun c hc => encClm_le (h c hc)
  have h2 := encI_len l.length
  simp only [encClms, List.length_append]; omega
theorem Rgt.tiny.ok {m : Nat} {r : Rgt} (h : r.tiny m) (hm : m ≤ 2 ^ 20) : r.ok := by
  have := h.lc; have := h.ld; have := h.lb; have := h.lo; have := h.ll
  have := encClms_le h.claims
  exact ⟨h.file, h.state, h.force, fun c hc => (h.claims c hc).ok, h.dates, h.bad, h.owners, h.lics, by omega, by omega, by omega, by omega, by omega, by omega⟩
theorem someF_tiny (l : List Int) : (someF l).tiny 3 := by
  have hc := claimsF_len l
  have hp := pickI_b l 8 3 (by decide)
  have o : ∀ i n : Int, 0 < n → n ≤ 2 ^ 40 → i64 (pickI l i n) := fun i n => pickI_ok l i n
  refine ⟨o 0 40 (by decide) (by decide), o 1 5 (by decide) (by decide), ?_, ?_, ?_, ?_, ?_, ?_, hc, ?_, ?_, ?_, ?_⟩
  · simp only [someF]
    split
    · exact o 3 5 (by decide) (by decide)
    · simp [i64]
  · intro c h
    simp only [someF, claimsF, List.mem_map, List.mem_range] at h
    obtain ⟨i, hi, rfl⟩ := h
    have := manyC_le l
    exact claimF_tiny l i (by omega)
  · intro d h
    simp only [someF, List.mem_map, List.mem_range] at h
    obtain ⟨i, hi, rfl⟩ := h
    exact ⟨by simp only [datF]; unfold i64; omega, tmod_ok _ _ (by decide) (by decide), wrap_ok _, tmod_ok _ _ (by decide) (by decide)⟩
  · intro n h
    simp only [someF, List.mem_filterMap, List.mem_range, badF] at h
    obtain ⟨i, hi, h⟩ := h
    split at h
    · simp only [Option.some.injEq] at h
      subst h
      unfold i64; omega
    · simp at h
  · intro w h
    simp only [someF, List.mem_map, List.mem_range] at h
    obtain ⟨i, hi, rfl⟩ := h
    exact ⟨wrap_ok _, by simp [ownF, i64], o 8 3 (by decide) (by decide)⟩
  · intro w h
    simp only [someF, List.mem_filterMap, List.mem_range, licF] at h
    obtain ⟨i, hi, h⟩ := h
    split at h
    · simp only [Option.some.injEq] at h
      subst h
      exact ⟨wrap_ok _, wrap_ok _, o (9 + i) 1000 (by decide) (by decide), wrap_ok _⟩
    · simp at h
  · simp only [someF, List.length_map, List.length_range]; exact hc
  · have := List.length_filterMap_le (badF l) (List.range (claimsF l).length)
    simp only [someF]; rw [List.length_range] at this; omega
  · simp only [someF, List.length_map, List.length_range]; omega
  · have := List.length_filterMap_le (licF l) (List.range (pickI l 8 3).toNat)
    simp only [someF]; rw [List.length_range] at this; omega
end Go.Va

namespace Go.Va
open Go.Proofs
theorem p125 (n lo hi : Int) : PSp Tryz.prog GLx 125 [.int .i64 n, .int .i64 lo, .int .i64 hi] [.bool (inI n lo hi)] := by
  refine psp_of_awp k125 rfl ?_
  by_cases h1 : lo ≤ n <;> by_cases h2 : n ≤ hi <;> simp [c125, awp, c125r0, c125r1, c125R, entry, h1, h2, inI]
theorem p216 (n lo hi : Int) : PSp Tryz.prog GLx 216 [.int .i64 n, .int .i64 lo, .int .i64 hi] [.bool (inI n lo hi)] := by
  refine psp_of_awp k216 rfl ?_
  by_cases h1 : lo ≤ n <;> by_cases h2 : n ≤ hi <;> simp [c216, awp, c216r0, c216r1, c216R, entry, h1, h2, inI]
theorem p220 (a b : Dat) : PSp Tryz.prog GLx 220 [a.V, b.V] [.bool (datLt a b)] := by
  refine psp_of_awp k220 rfl ?_
  unfold datLt
  by_cases h1 : a.cl < b.cl
  · simp [c220, awp, c220r0, c220r1, c220R, entry, Dat.V, h1]
  · by_cases h2 : a.cl = b.cl
    · simp [c220, awp, c220r0, c220r1, c220R, entry, Dat.V, h2]
    · simp [c220, awp, c220r0, c220r1, c220R, entry, Dat.V, h1, h2]
theorem p224 (a b : Int) : PSp Tryz.prog GLx 224 [.int .i64 a, .int .i64 b] [.bool (decide (a < b))] := by
  refine psp_of_awp k224 rfl ?_
  simp [c224, awp, c224r0, c224r1, c224R, entry]
theorem p229 (a b : Own) : PSp Tryz.prog GLx 229 [a.V, b.V] [.bool (decide (a.party < b.party))] := by
  refine psp_of_awp k229 rfl ?_
  simp [c229, awp, c229r0, c229r1, c229R, entry, Own.V]
theorem p231 (x : Lic) : PSp Tryz.prog GLx 231 [x.V] [.bool (licOK x)] := by
  refine psp_of_awp k231 rfl ?_
  have p1 := (p216 x.fr 1 4095).fsp
  have p2 := (p216 x.to 1 4095).fsp
  have p3 := (p216 x.fst 0 x.lst).fsp
  unfold licOK
  generalize inI x.fr 1 4095 = A at *
  generalize inI x.to 1 4095 = B at *
  generalize inI x.fst 0 x.lst = C at *
  simp at p1 p2 p3
  simp only [c231, awp_seq, awp_reg, c231r0, c231r1, entry]
  simp [Lic.V]
  refine ⟨_, _, p1 _, ?_⟩
  cases A with
  | false => simp [awp_ret, c231R]
  | true =>
    simp
    refine ⟨_, _, p2 _, ?_⟩
    cases B with
    | false => simp [awp_ret, c231R]
    | true =>
      simp
      refine ⟨_, _, p3 _, ?_⟩
      cases C with
      | false => simp [awp_ret, c231R]
      | true => simp [awp_ret, c231R]
theorem okR11 : okR 1 1 = true := by decide
theorem p226 (x : Own) (hx : x.ok) : PSp Tryz.prog GLx 226 [x.V] [.bool (ownOK x)] := by
  refine psp_of_awp k226 rfl ?_
  have p1 := (p216 x.party 1 4095).fsp
  have p2 := (p227 x.num x.den 1 1 hx.2.1 hx.2.2 (by unfold i64; omega) (by unfold i64; omega)).fsp
  rw [okR11, Bool.and_true] at p2
  unfold ownOK
  generalize inI x.party 1 4095 = A at *
  simp only [c226, awp_seq, awp_reg, c226r0, c226r1, entry]
  simp [Own.V]
  cases hR : okR x.num x.den with
  | false =>
    rw [hR] at p2
    simp [ratV] at p1 p2
    refine ⟨_, _, p2 _, ?_⟩
    simp [c226r2]
    refine ⟨_, _, p1 _, ?_⟩
    cases A <;> simp [awp_ret, c226R]
  | true =>
    rw [hR] at p2
    simp [ratV] at p1 p2
    refine ⟨_, _, p2 _, ?_⟩
    simp [c226r2]
    refine ⟨_, _, p1 _, ?_⟩
    have hc : (cmpR x.num x.den 1 1 ≤ 0) ↔ x.num ≤ x.den := by unfold cmpR; simp; split <;> (try split) <;> omega
    cases A with
    | false => simp [awp_ret, c226R]
    | true =>
      by_cases h1 : x.num ≤ x.den
      · have h2 := hc.2 h1
        simp [h2, h1, awp_ret, c226R]
      · have h2 : ¬ cmpR x.num x.den 1 1 ≤ 0 := fun h => h1 (hc.1 h)
        simp [h2, h1, awp_ret, c226R]
def Low (h : List Row) : Prop := ∀ row ∈ h, Row.low h.length row = true
theorem p218 (x : Dat) (n : Int) (h : List Row) (r : Nat) (hr : h[r]? = some (.cells [.v (.int .i64 n)])) (hn : 0 ≤ n ∧ n ≤ 2 ^ 40) (hl : Low h) :
    FSp Tryz.prog GLx 218 [.v x.V, .ref r 0] h [.v (.bool (inI x.cl 0 (n - 1) && inI x.ix 0 63 && inI x.day 0 131072 && inI x.file 0 4095))] h := by
  refine fsp_low k218 rfl (Nat.le_refl _) hl (by simp [D.lt]) ?_
  have w1 : IntKind.i64.wrap (n - 1) = n - 1 := wrap_i64 (by omega) (by omega)
  have p1 := (p216 x.cl 0 (n - 1)).fsp
  have p2 := (p216 x.ix 0 63).fsp
  have p3 := (p216 x.day 0 131072).fsp
  have p4 := (p216 x.file 0 4095).fsp
  have hr' := get_old [.cells [.v (.int .i64 x.cl), .v (.int .i64 x.ix), .v (.int .i64 x.day), .v (.int .i64 x.file)]] hr
  generalize inI x.cl 0 (n - 1) = A at *
  generalize inI x.ix 0 63 = B at *
  generalize inI x.day 0 131072 = C at *
  generalize inI x.file 0 4095 = E at *
  simp at p1 p2 p3 p4
  simp only [c218, awp_seq, awp_reg, c218r0, c218r1, entryD]
  simp [Dat.V, hr', w1]
  refine ⟨_, _, p1 _, ?_⟩
  cases A with
  | false => simp [awp_ret, c218R]
  | true =>
    simp
    refine ⟨_, _, p2 _, ?_⟩
    cases B with
    | false => simp [awp_ret, c218R]
    | true =>
      simp
      refine ⟨_, _, p3 _, ?_⟩
      cases C with
      | false => simp [awp_ret, c218R]
      | true =>
        simp
        refine ⟨_, _, p4 _, ?_⟩
        cases E <;> simp [awp_ret, c218R]
theorem p222 (x n : Int) (h : List Row) (r : Nat) (hr : h[r]? = some (.cells [.v (.int .i64 n)])) (hn : 0 ≤ n ∧ n ≤ 2 ^ 40) :
    FSp Tryz.prog GLx 222 [.v (.int .i64 x), .ref r 0] h [.v (.bool (inI x 0 (n - 1)))] h := by
  refine fsp_of_awp k222 rfl ?_
  have w1 : IntKind.i64.wrap (n - 1) = n - 1 := wrap_i64 (by omega) (by omega)
  have p1 := (p216 x 0 (n - 1)).fsp
  simp at p1
  simp only [c222, awp_seq, awp_reg, c222r0, c222r1, entryD]
  simp [hr, w1]
  refine ⟨_, _, p1 _, ?_⟩
  simp [awp_ret, c222R]
end Go.Va

namespace Go.Va
open Go.Proofs
theorem Low.app {h : List Row} (hl : Low h) {row : Row} (hr : Row.low (h.length + 1) row = true) : Low (h ++ [row]) := by
  intro x hx
  rw [List.length_append]
  rcases List.mem_append.1 hx with hx | hx
  · have h1 := hl _ hx
    cases x with
    | cells ds =>
      refine lts_all fun d hd => ?_
      obtain ⟨i, hi⟩ := List.getElem?_of_mem hd
      exact dlt_mono (by simp) d (lts_get h1 hi)
    | _ => exact h1
  · simp at hx; subst hx; exact hr
theorem IdxR.map {P : Program} {GL : Globals} {fid : Nat} {caps : List D} {α : Type} {f : α → V} {p : α → Bool} {l : List α} {h : List Row} (hp : ∀ x ∈ l, FSp P GL fid (.v (f x) :: caps) h [.v (.bool (p x))] h) :
    IdxR P GL fid caps (l.map f) h (l.findIdx? p) h := by
  induction l with
  | nil => exact ⟨rfl, rfl⟩
  | cons x xs ih =>
    refine ⟨p x, h, hp x (by simp), ?_⟩
    cases hx : p x with
    | true => simp [List.findIdx?_cons, hx]
    | false =>
      simp only [Bool.false_eq_true, if_false]
      exact ⟨_, ih fun y hy => hp y (by simp [hy]), by simp [List.findIdx?_cons, hx]⟩
theorem all_idx {α : Type} (p : α → Bool) (l : List α) : (l.findIdx? fun x => !p x).isSome = !l.all p := by
  rw [findIdx_any, List.not_all_eq_any_not]
theorem rising_iff {α : Type} (f : α → α → Bool) : ∀ l : List α, rising f l = true ↔ ∀ (i : Nat) x y, l[i]? = some x → l[i + 1]? = some y → f x y = true
  | [] => by simp [rising]
  | [x] => by simp [rising]
  | x :: y :: l => by
    simp only [rising, Bool.and_eq_true, rising_iff f (y :: l)]
    constructor
    · rintro ⟨h1, h2⟩ i a b ha hb
      cases i with
      | zero => simp at ha hb; subst ha; subst hb; exact h1
      | succ i => exact h2 i a b (by simpa using ha) (by simpa using hb)
    · exact fun h => ⟨h 0 x y rfl rfl, fun i a b ha hb => h (i + 1) a b (by simpa using ha) (by simpa using hb)⟩
theorem p288 (x : Dat) (b : Bool) (fd : D) (fid : Nat) (caps : List D) (hf : FV fd fid caps) (h : List Row) (q : Nat) (hq : h[q]? = some (.cells [fd])) (hl : Low h)
    (hp : ∀ H, Low H → (∀ (i : Nat) y, h[i]? = some y → H[i]? = some y) → FSp Tryz.prog GLx fid (.v x.V :: caps) H [.v (.bool b)] H) : FSp Tryz.prog GLx 288 [.v x.V, .ref q 0] h [.v (.bool (!b))] h := by
  refine fsp_low k288 rfl (Nat.le_refl _) hl (by simp [D.lt]) ?_
  have hq' := get_old [.cells [.v (.int .i64 x.cl), .v (.int .i64 x.ix), .v (.int .i64 x.day), .v (.int .i64 x.file)]] hq
  have hp' := hp _ (hl.app (row := .cells [.v (.int .i64 x.cl), .v (.int .i64 x.ix), .v (.int .i64 x.day), .v (.int .i64 x.file)]) rfl) fun _ _ h => get_old _ h
  have hcp := hf.cp
  have hfn := hf.fn
  have hny := hf.ny
  have hnt := hf.nt
  simp only [D.copy] at hcp
  try simp [Dat.V, ] at hp'
  simp only [c288, awp_seq, awp_reg, c288r0, entryD]
  simp [Dat.V, c288r1, hq', hcp, -fnOf, -D.norm]
  rw [hfn]
  simp
  refine ⟨_, _, hp', ?_⟩
  simp [awp_ret, c288R]
theorem p217 (l : List Dat) (P : Dat → Bool) (fd : D) (fid : Nat) (caps : List D) (hf : FV fd fid caps) (hfc : fd.cells? = some [fd]) (hfr : fd.toRow = fd) (h : List Row) (hl : Low h) (hlow : D.lt h.length fd = true) (hn : l.length < 2 ^ 40)
    (hp : ∀ x ∈ l, ∀ H, Low H → (∀ (i : Nat) y, h[i]? = some y → H[i]? = some y) → FSp Tryz.prog GLx fid (.v x.V :: caps) H [.v (.bool (P x))] H) :
    FSp Tryz.prog GLx 217 [.v (.list (l.map Dat.V)), fd] h [.v (.bool (l.all P))] h := by
  refine fsp_low k217 rfl (Nat.le_refl _) hl (by simp [D.lt]) ?_
  have hcp := hf.cp
  simp only [D.copy] at hcp
  have hl2 : Low (h ++ [.cells [fd]]) := hl.app (by simp [Row.low, D.lts, dlt_mono (Nat.le_succ _) _ hlow])
  have hidx : IdxR Tryz.prog GLx 288 [.ref h.length 0] (l.map Dat.V) (h ++ [.cells [fd]]) (l.findIdx? fun x => !P x) (h ++ [.cells [fd]]) :=
    IdxR.map fun x hx => p288 x (P x) fd fid caps hf _ h.length (get_app _ _) hl2 fun H h1 h2 => hp x hx H h1 fun i y hy => h2 i y (get_old _ hy)
  have hcf := p277 (.func 288 [.ref h.length 0]) 288 [.ref h.length 0] (FV.r 288 h.length 0 []) (l.map Dat.V) (by simpa using hn) (by
    intro x hx
    obtain ⟨y, _, rfl⟩ := List.mem_map.1 hx
    exact ⟨_, rfl, rfl⟩) hidx
  rw [all_idx] at hcf
  simp only [c217, awp_seq, awp_reg, c217r0, entryD]
  simp [hcp, hfc, hfr, -D.cells?, -D.toRow]
  simp only [c217r1]
  simp
  try simp at hcf
  refine ⟨_, _, hcf, ?_⟩
  simp [awp_ret, c217R]
theorem p289 (x : Int) (b : Bool) (fd : D) (fid : Nat) (caps : List D) (hf : FV fd fid caps) (h : List Row) (q : Nat) (hq : h[q]? = some (.cells [fd])) (hl : Low h)
    (hp : ∀ H, Low H → (∀ (i : Nat) y, h[i]? = some y → H[i]? = some y) → FSp Tryz.prog GLx fid (.v (.int .i64 x) :: caps) H [.v (.bool b)] H) : FSp Tryz.prog GLx 289 [.v (.int .i64 x), .ref q 0] h [.v (.bool (!b))] h := by
  refine fsp_of_awp k289 rfl ?_
  have hq' := hq
  have hp' := hp h hl fun _ _ h => h
  have hcp := hf.cp
  have hfn := hf.fn
  have hny := hf.ny
  have hnt := hf.nt
  simp only [D.copy] at hcp
  try simp [] at hp'
  simp only [c289, awp_seq, awp_reg, c289r0, entryD]
  simp [c289r1, hq', hcp, -fnOf, -D.norm]
  rw [hfn]
  simp
  refine ⟨_, _, hp', ?_⟩
  simp [awp_ret, c289R]
theorem p221 (l : List Int) (P : Int → Bool) (fd : D) (fid : Nat) (caps : List D) (hf : FV fd fid caps) (hfc : fd.cells? = some [fd]) (hfr : fd.toRow = fd) (h : List Row) (hl : Low h) (hlow : D.lt h.length fd = true) (hn : l.length < 2 ^ 40)
    (hp : ∀ x ∈ l, ∀ H, Low H → (∀ (i : Nat) y, h[i]? = some y → H[i]? = some y) → FSp Tryz.prog GLx fid (.v (.int .i64 x) :: caps) H [.v (.bool (P x))] H) :
    FSp Tryz.prog GLx 221 [.v (.list (l.map (V.int .i64))), fd] h [.v (.bool (l.all P))] h := by
  refine fsp_low k221 rfl (Nat.le_refl _) hl (by simp [D.lt]) ?_
  have hcp := hf.cp
  simp only [D.copy] at hcp
  have hl2 : Low (h ++ [.cells [fd]]) := hl.app (by simp [Row.low, D.lts, dlt_mono (Nat.le_succ _) _ hlow])
  have hidx : IdxR Tryz.prog GLx 289 [.ref h.length 0] (l.map (V.int .i64)) (h ++ [.cells [fd]]) (l.findIdx? fun x => !P x) (h ++ [.cells [fd]]) :=
    IdxR.map fun x hx => p289 x (P x) fd fid caps hf _ h.length (get_app _ _) hl2 fun H h1 h2 => hp x hx H h1 fun i y hy => h2 i y (get_old _ hy)
  have hcf := p151 (.func 289 [.ref h.length 0]) 289 [.ref h.length 0] (FV.r 289 h.length 0 []) (l.map (V.int .i64)) (by simpa using hn) (by
    intro x hx
    obtain ⟨y, _, rfl⟩ := List.mem_map.1 hx
    exact ⟨_, rfl⟩) hidx
  rw [all_idx] at hcf
  simp only [c221, awp_seq, awp_reg, c221r0, entryD]
  simp [hcp, hfc, hfr, -D.cells?, -D.toRow]
  simp only [c221r1]
  simp
  try simp at hcf
  refine ⟨_, _, hcf, ?_⟩
  simp [awp_ret, c221R]
theorem p290 (x : Own) (b : Bool) (fd : D) (fid : Nat) (caps : List D) (hf : FV fd fid caps) (h : List Row) (q : Nat) (hq : h[q]? = some (.cells [fd])) (hl : Low h)
    (hp : ∀ H, Low H → (∀ (i : Nat) y, h[i]? = some y → H[i]? = some y) → FSp Tryz.prog GLx fid (.v x.V :: caps) H [.v (.bool b)] H) : FSp Tryz.prog GLx 290 [.v x.V, .ref q 0] h [.v (.bool (!b))] h := by
  refine fsp_low k290 rfl (Nat.le_refl _) hl (by simp [D.lt]) ?_
  have hq' := get_old [.cells [.v (.int .i64 x.party), .v (.int .i64 x.num), .v (.int .i64 x.den)]] hq
  have hp' := hp _ (hl.app (row := .cells [.v (.int .i64 x.party), .v (.int .i64 x.num), .v (.int .i64 x.den)]) rfl) fun _ _ h => get_old _ h
  have hcp := hf.cp
  have hfn := hf.fn
  have hny := hf.ny
  have hnt := hf.nt
  simp only [D.copy] at hcp
  try simp [Own.V, ] at hp'
  simp only [c290, awp_seq, awp_reg, c290r0, entryD]
  simp [Own.V, c290r1, hq', hcp, -fnOf, -D.norm]
  rw [hfn]
  simp
  refine ⟨_, _, hp', ?_⟩
  simp [awp_ret, c290R]
theorem p225 (l : List Own) (P : Own → Bool) (fd : D) (fid : Nat) (caps : List D) (hf : FV fd fid caps) (hfc : fd.cells? = some [fd]) (hfr : fd.toRow = fd) (h : List Row) (hl : Low h) (hlow : D.lt h.length fd = true) (hn : l.length < 2 ^ 40)
    (hp : ∀ x ∈ l, ∀ H, Low H → (∀ (i : Nat) y, h[i]? = some y → H[i]? = some y) → FSp Tryz.prog GLx fid (.v x.V :: caps) H [.v (.bool (P x))] H) :
    FSp Tryz.prog GLx 225 [.v (.list (l.map Own.V)), fd] h [.v (.bool (l.all P))] h := by
  refine fsp_low k225 rfl (Nat.le_refl _) hl (by simp [D.lt]) ?_
  have hcp := hf.cp
  simp only [D.copy] at hcp
  have hl2 : Low (h ++ [.cells [fd]]) := hl.app (by simp [Row.low, D.lts, dlt_mono (Nat.le_succ _) _ hlow])
  have hidx : IdxR Tryz.prog GLx 290 [.ref h.length 0] (l.map Own.V) (h ++ [.cells [fd]]) (l.findIdx? fun x => !P x) (h ++ [.cells [fd]]) :=
    IdxR.map fun x hx => p290 x (P x) fd fid caps hf _ h.length (get_app _ _) hl2 fun H h1 h2 => hp x hx H h1 fun i y hy => h2 i y (get_old _ hy)
  have hcf := p183 (.func 290 [.ref h.length 0]) 290 [.ref h.length 0] (FV.r 290 h.length 0 []) (l.map Own.V) (by simpa using hn) (by
    intro x hx
    obtain ⟨y, _, rfl⟩ := List.mem_map.1 hx
    exact ⟨_, rfl, rfl⟩) hidx
  rw [all_idx] at hcf
  simp only [c225, awp_seq, awp_reg, c225r0, entryD]
  simp [hcp, hfc, hfr, -D.cells?, -D.toRow]
  simp only [c225r1]
  simp
  try simp at hcf
  refine ⟨_, _, hcf, ?_⟩
  simp [awp_ret, c225R]
theorem p294 (x : Lic) (b : Bool) (fd : D) (fid : Nat) (caps : List D) (hf : FV fd fid caps) (h : List Row) (q : Nat) (hq : h[q]? = some (.cells [fd])) (hl : Low h)
    (hp : ∀ H, Low H → (∀ (i : Nat) y, h[i]? = some y → H[i]? = some y) → FSp Tryz.prog GLx fid (.v x.V :: caps) H [.v (.bool b)] H) : FSp Tryz.prog GLx 294 [.v x.V, .ref q 0] h [.v (.bool (!b))] h := by
  refine fsp_low k294 rfl (Nat.le_refl _) hl (by simp [D.lt]) ?_
  have hq' := get_old [.cells [.v (.int .i64 x.fr), .v (.int .i64 x.to), .v (.int .i64 x.fst), .v (.int .i64 x.lst)]] hq
  have hp' := hp _ (hl.app (row := .cells [.v (.int .i64 x.fr), .v (.int .i64 x.to), .v (.int .i64 x.fst), .v (.int .i64 x.lst)]) rfl) fun _ _ h => get_old _ h
  have hcp := hf.cp
  have hfn := hf.fn
  have hny := hf.ny
  have hnt := hf.nt
  simp only [D.copy] at hcp
  try simp [Lic.V, ] at hp'
  simp only [c294, awp_seq, awp_reg, c294r0, entryD]
  simp [Lic.V, c294r1, hq', hcp, -fnOf, -D.norm]
  rw [hfn]
  simp
  refine ⟨_, _, hp', ?_⟩
  simp [awp_ret, c294R]
theorem p230 (l : List Lic) (P : Lic → Bool) (fd : D) (fid : Nat) (caps : List D) (hf : FV fd fid caps) (hfc : fd.cells? = some [fd]) (hfr : fd.toRow = fd) (h : List Row) (hl : Low h) (hlow : D.lt h.length fd = true) (hn : l.length < 2 ^ 40)
    (hp : ∀ x ∈ l, ∀ H, Low H → (∀ (i : Nat) y, h[i]? = some y → H[i]? = some y) → FSp Tryz.prog GLx fid (.v x.V :: caps) H [.v (.bool (P x))] H) :
    FSp Tryz.prog GLx 230 [.v (.list (l.map Lic.V)), fd] h [.v (.bool (l.all P))] h := by
  refine fsp_low k230 rfl (Nat.le_refl _) hl (by simp [D.lt]) ?_
  have hcp := hf.cp
  simp only [D.copy] at hcp
  have hl2 : Low (h ++ [.cells [fd]]) := hl.app (by simp [Row.low, D.lts, dlt_mono (Nat.le_succ _) _ hlow])
  have hidx : IdxR Tryz.prog GLx 294 [.ref h.length 0] (l.map Lic.V) (h ++ [.cells [fd]]) (l.findIdx? fun x => !P x) (h ++ [.cells [fd]]) :=
    IdxR.map fun x hx => p294 x (P x) fd fid caps hf _ h.length (get_app _ _) hl2 fun H h1 h2 => hp x hx H h1 fun i y hy => h2 i y (get_old _ hy)
  have hcf := p293 (.func 294 [.ref h.length 0]) 294 [.ref h.length 0] (FV.r 294 h.length 0 []) (l.map Lic.V) (by simpa using hn) (by
    intro x hx
    obtain ⟨y, _, rfl⟩ := List.mem_map.1 hx
    exact ⟨_, rfl, rfl⟩) hidx
  rw [all_idx] at hcf
  simp only [c230, awp_seq, awp_reg, c230r0, entryD]
  simp [hcp, hfc, hfr, -D.cells?, -D.toRow]
  simp only [c230r1]
  simp
  try simp at hcf
  refine ⟨_, _, hcf, ?_⟩
  simp [awp_ret, c230R]
theorem p219 (l : List Dat) (hn : l.length ≤ 2 ^ 40) : PSp Tryz.prog GLx 219 [.list (l.map Dat.V), .func 220 []] [.bool (rising datLt l)] := by
  refine psp_of_awp k219 rfl ?_
  obtain ⟨R, hR⟩ : ∃ R, rising datLt l = R := ⟨_, rfl⟩
  rw [hR]
  have hri := rising_iff datLt l
  have hmx : (if IntKind.i64.wrap ((l.length : Int) - 1) < 0 then 0 else IntKind.i64.wrap ((l.length : Int) - 1)) = ((l.length - 1 : Nat) : Int) := by
    rw [wrap_i64 (by omega) (by omega)]; split <;> omega
  simp only [c219, awp_seq, awp_reg, awp_block, c219r0, c219r1, entry]
  simp [hmx]
  refine awp_loop_inv (l.length - 1) (fun k => ⟨[(0, .v (.list (l.map Dat.V))), (1, .v (.func 220 [])), (9, .v (.int .i64 (l.length - 1 : Nat))), (10, .v (.int .i64 k))], []⟩) (fun k => ∀ j < k, ∀ x y, l[j]? = some x → l[j + 1]? = some y → datLt x y = true) (by simp) (by simp) ?_
  intro k hk hI
  simp only [c219l0, awp_seq, awp_reg, awp_block, awp_cond, c219r2]
  simp
  by_cases hlt : k < l.length - 1
  · obtain ⟨x, hx⟩ : ∃ x, l[k]? = some x := ⟨_, List.getElem?_eq_getElem (by omega)⟩
    obtain ⟨y, hy⟩ : ∃ y, l[k + 1]? = some y := ⟨_, List.getElem?_eq_getElem (by omega)⟩
    have hw : IntKind.i64.wrap ((k : Int) + 1) = ((k + 1 : Nat) : Int) := wrap_i64 (by omega) (by omega)
    have hge : (0 : Int) ≤ ((k + 1 : Nat) : Int) := by omega
    have hlt' : (k : Int) < ((l.length - 1 : Nat) : Int) := by omega
    have hp := (p220 x y).fsp
    have hnat : (((k + 1 : Nat) : Int)).toNat = k + 1 := by omega
    generalize hb : datLt x y = b at *
    rw [if_pos (by omega), awp_skip]
    simp only [awp_reg, awp_regD, c219r3, c219r4]
    simp [Dat.V, hb] at hp
    simp only [Int.natCast_add, Int.natCast_one] at hw hge hnat
    simp [hx, hy, Dat.V, hw, hge, hnat]
    refine ⟨_, _, (hp []), ?_⟩
    cases b with
    | false =>
      have hf : R = false := by
        rw [← hR]
        cases h : rising datLt l with
        | false => rfl
        | true => exact absurd ((hri.1 h k x y hx hy).symm.trans hb) (by decide)
      simp [awp_seq, awp_reg, awp_ret, c219r5, c219R, hf]
    | true =>
      simp [awp_skip, awp_reg, c219r6, hw]
      refine ⟨hlt, fun j hj a c ha hc => ?_⟩
      rcases Nat.lt_or_ge j k with h | h
      · simpa using hI j h a c ha hc
      · have : j = k := by omega
        subst this
        rw [hx] at ha; rw [hy] at hc
        cases ha; cases hc
        simpa using hb
  · have hk2 : k = l.length - 1 := by omega
    have ht : R = true := by
      rw [← hR]
      refine hri.2 fun j a c ha hc => hI j ?_ a c ha hc
      have := (List.getElem?_eq_some_iff.1 hc).1
      omega
    rw [if_neg (by omega), awp_exit]
    simp [awp_reg, awp_ret, awp_seq, c219r7, c219R, ht]
theorem p223 (l : List Int) (hn : l.length ≤ 2 ^ 40) : PSp Tryz.prog GLx 223 [.list (l.map (V.int .i64)), .func 224 []] [.bool (rising (fun a b => decide (a < b)) l)] := by
  refine psp_of_awp k223 rfl ?_
  obtain ⟨R, hR⟩ : ∃ R, rising (fun a b => decide (a < b)) l = R := ⟨_, rfl⟩
  rw [hR]
  have hri := rising_iff (fun a b => decide (a < b)) l
  have hmx : (if IntKind.i64.wrap ((l.length : Int) - 1) < 0 then 0 else IntKind.i64.wrap ((l.length : Int) - 1)) = ((l.length - 1 : Nat) : Int) := by
    rw [wrap_i64 (by omega) (by omega)]; split <;> omega
  simp only [c223, awp_seq, awp_reg, awp_block, c223r0, c223r1, entry]
  simp [hmx]
  refine awp_loop_inv (l.length - 1) (fun k => ⟨[(0, .v (.list (l.map (V.int .i64)))), (1, .v (.func 224 [])), (9, .v (.int .i64 (l.length - 1 : Nat))), (10, .v (.int .i64 k))], []⟩) (fun k => ∀ j < k, ∀ x y, l[j]? = some x → l[j + 1]? = some y → (fun a b => decide (a < b)) x y = true) (by simp) (by simp) ?_
  intro k hk hI
  simp only [c223l0, awp_seq, awp_reg, awp_block, awp_cond, c223r2]
  simp
  by_cases hlt : k < l.length - 1
  · obtain ⟨x, hx⟩ : ∃ x, l[k]? = some x := ⟨_, List.getElem?_eq_getElem (by omega)⟩
    obtain ⟨y, hy⟩ : ∃ y, l[k + 1]? = some y := ⟨_, List.getElem?_eq_getElem (by omega)⟩
    have hw : IntKind.i64.wrap ((k : Int) + 1) = ((k + 1 : Nat) : Int) := wrap_i64 (by omega) (by omega)
    have hge : (0 : Int) ≤ ((k + 1 : Nat) : Int) := by omega
    have hlt' : (k : Int) < ((l.length - 1 : Nat) : Int) := by omega
    have hp := (p224 x y).fsp
    have hnat : (((k + 1 : Nat) : Int)).toNat = k + 1 := by omega
    generalize hb : (fun a b => decide (a < b)) x y = b at *
    rw [if_pos (by omega), awp_skip]
    simp only [awp_reg, awp_regD, c223r3, c223r4]
    simp [hb] at hp
    simp only [Int.natCast_add, Int.natCast_one] at hw hge hnat
    simp [hx, hy, hw, hge, hnat]
    refine ⟨_, _, (hp []), ?_⟩
    cases b with
    | false =>
      have hf : R = false := by
        rw [← hR]
        cases h : rising (fun a b => decide (a < b)) l with
        | false => rfl
        | true => exact absurd ((hri.1 h k x y hx hy).symm.trans hb) (by decide)
      simp [awp_seq, awp_reg, awp_ret, c223r5, c223R, hf]
    | true =>
      simp [awp_skip, awp_reg, c223r6, hw]
      refine ⟨hlt, fun j hj a c ha hc => ?_⟩
      rcases Nat.lt_or_ge j k with h | h
      · simpa using hI j h a c ha hc
      · have : j = k := by omega
        subst this
        rw [hx] at ha; rw [hy] at hc
        cases ha; cases hc
        simpa using hb
  · have hk2 : k = l.length - 1 := by omega
    have ht : R = true := by
      rw [← hR]
      refine hri.2 fun j a c ha hc => hI j ?_ a c ha hc
      have := (List.getElem?_eq_some_iff.1 hc).1
      omega
    rw [if_neg (by omega), awp_exit]
    simp [awp_reg, awp_ret, awp_seq, c223r7, c223R, ht]
theorem p228 (l : List Own) (hn : l.length ≤ 2 ^ 40) : PSp Tryz.prog GLx 228 [.list (l.map Own.V), .func 229 []] [.bool (rising (fun a b => decide (a.party < b.party)) l)] := by
  refine psp_of_awp k228 rfl ?_
  obtain ⟨R, hR⟩ : ∃ R, rising (fun a b => decide (a.party < b.party)) l = R := ⟨_, rfl⟩
  rw [hR]
  have hri := rising_iff (fun a b => decide (a.party < b.party)) l
  have hmx : (if IntKind.i64.wrap ((l.length : Int) - 1) < 0 then 0 else IntKind.i64.wrap ((l.length : Int) - 1)) = ((l.length - 1 : Nat) : Int) := by
    rw [wrap_i64 (by omega) (by omega)]; split <;> omega
  simp only [c228, awp_seq, awp_reg, awp_block, c228r0, c228r1, entry]
  simp [hmx]
  refine awp_loop_inv (l.length - 1) (fun k => ⟨[(0, .v (.list (l.map Own.V))), (1, .v (.func 229 [])), (9, .v (.int .i64 (l.length - 1 : Nat))), (10, .v (.int .i64 k))], []⟩) (fun k => ∀ j < k, ∀ x y, l[j]? = some x → l[j + 1]? = some y → (fun a b => decide (a.party < b.party)) x y = true) (by simp) (by simp) ?_
  intro k hk hI
  simp only [c228l0, awp_seq, awp_reg, awp_block, awp_cond, c228r2]
  simp
  by_cases hlt : k < l.length - 1
  · obtain ⟨x, hx⟩ : ∃ x, l[k]? = some x := ⟨_, List.getElem?_eq_getElem (by omega)⟩
    obtain ⟨y, hy⟩ : ∃ y, l[k + 1]? = some y := ⟨_, List.getElem?_eq_getElem (by omega)⟩
    have hw : IntKind.i64.wrap ((k : Int) + 1) = ((k + 1 : Nat) : Int) := wrap_i64 (by omega) (by omega)
    have hge : (0 : Int) ≤ ((k + 1 : Nat) : Int) := by omega
    have hlt' : (k : Int) < ((l.length - 1 : Nat) : Int) := by omega
    have hp := (p229 x y).fsp
    have hnat : (((k + 1 : Nat) : Int)).toNat = k + 1 := by omega
    generalize hb : (fun a b => decide (a.party < b.party)) x y = b at *
    rw [if_pos (by omega), awp_skip]
    simp only [awp_reg, awp_regD, c228r3, c228r4]
    simp [Own.V, hb] at hp
    simp only [Int.natCast_add, Int.natCast_one] at hw hge hnat
    simp [hx, hy, Own.V, hw, hge, hnat]
    refine ⟨_, _, (hp []), ?_⟩
    cases b with
    | false =>
      have hf : R = false := by
        rw [← hR]
        cases h : rising (fun a b => decide (a.party < b.party)) l with
        | false => rfl
        | true => exact absurd ((hri.1 h k x y hx hy).symm.trans hb) (by decide)
      simp [awp_seq, awp_reg, awp_ret, c228r5, c228R, hf]
    | true =>
      simp [awp_skip, awp_reg, c228r6, hw]
      refine ⟨hlt, fun j hj a c ha hc => ?_⟩
      rcases Nat.lt_or_ge j k with h | h
      · simpa using hI j h a c ha hc
      · have : j = k := by omega
        subst this
        rw [hx] at ha; rw [hy] at hc
        cases ha; cases hc
        simpa using hb
  · have hk2 : k = l.length - 1 := by omega
    have ht : R = true := by
      rw [← hR]
      refine hri.2 fun j a c ha hc => hI j ?_ a c ha hc
      have := (List.getElem?_eq_some_iff.1 hc).1
      omega
    rw [if_neg (by omega), awp_exit]
    simp [awp_reg, awp_ret, awp_seq, c228r7, c228R, ht]
end Go.Va

namespace Go.Va
open Go.Proofs
theorem p135 (xs : List Int) (n : Int) (hn : i64 n) (hl : xs.length ≤ 2 ^ 45) : OSp Tryz.prog GLx 135 [.own 5 1 (xs.map (.int .u8)), .v (.int .i64 n)] [.own 5 1 ((xs ++ encI n).map (.int .u8))] := by
  refine osp_of_awp k135 rfl fun h => ?_
  have he := encI_len n
  have hroom : roomy (xs.length + (encI n).length) 1 = true := by simp [roomy]; omega
  simp only [c135, awp_seq, awp_reg, c135r0, c135r1, entryD]
  simp
  refine ⟨_, _, (p104 n hn h), ?_⟩
  simp [hroom, awp_ret, c135R]
theorem p135n (n : Int) (hn : i64 n) : OSp Tryz.prog GLx 135 [.nil 5 1, .v (.int .i64 n)] [.own 5 1 ((encI n).map (.int .u8))] := by
  refine osp_of_awp k135 rfl fun h => ?_
  have he := encI_len n
  have hroom : roomy (encI n).length 1 = true := by simp [roomy]; omega
  simp only [c135, awp_seq, awp_reg, c135r0, c135r1, entryD]
  simp
  refine ⟨_, _, (p104 n hn h), ?_⟩
  simp [hroom, awp_ret, c135R]
theorem rising_all {α : Type} {ok : α → Bool} {f : α → α → Bool} {l : List α} (P : Nat → Bool) (hP : ∀ (k : Nat) x, l[k]? = some x → (∀ j < k, P j = true) → P k = (ok x && (match k with | 0 => true | j + 1 => match l[j]? with | some y => f y x | none => true))) :
    (l.all ok && rising f l) = decide (∀ k < l.length, P k = true) := by
  rw [Bool.eq_iff_iff, Bool.and_eq_true, rising_iff, List.all_eq_true, decide_eq_true_eq]
  constructor
  · rintro ⟨h1, h2⟩
    have key : ∀ n, ∀ k < n, k < l.length → P k = true := by
      intro n
      induction n with
      | zero => intro k hk; omega
      | succ n ih =>
        intro k hk hkl
        have hx : l[k]? = some l[k] := List.getElem?_eq_getElem hkl
        rw [hP k _ hx fun j hj => ih j (by omega) (by omega), h1 _ (List.getElem_mem hkl), Bool.true_and]
        cases k with
        | zero => rfl
        | succ j =>
          have hy : l[j]? = some l[j] := List.getElem?_eq_getElem (by omega)
          simp only [hy]
          exact h2 j _ _ hy hx
    exact fun k hk => key (k + 1) k (by omega) hk
  · intro h
    have h3 : ∀ (k : Nat) x, l[k]? = some x → (ok x && (match k with | 0 => true | j + 1 => match l[j]? with | some y => f y x | none => true)) = true := by
      intro k x hx
      have hk := (List.getElem?_eq_some_iff.1 hx).1
      rw [← hP k x hx fun j hj => h j (by omega)]
      exact h k hk
    refine ⟨fun x hx => ?_, fun i x y hx hy => ?_⟩
    · obtain ⟨k, hk⟩ := List.getElem?_of_mem hx
      have := h3 k x hk
      simp only [Bool.and_eq_true] at this
      exact this.1
    · have := h3 (i + 1) y hy
      simp only [Bool.and_eq_true, hx] at this
      exact this.2
end Go.Va

namespace Go.Va
open Go.Proofs
def Rgt.row (r : Rgt) : Row := .cells [.v (.int .i64 r.file), .v (.int .i64 r.state), .v (.int .i64 r.force), .v (.list (r.claims.map Clm.V)), .v (.list (r.dates.map Dat.V)), .v (nums .i64 r.bad), .v (.list (r.owners.map Own.V)), .v (.list (r.lics.map Lic.V))]
def prevOK {α : Type} (f : α → α → Bool) (l : List α) (k : Nat) (x : α) : Bool := match k with | 0 => true | j + 1 => match l[j]? with | some y => f y x | none => true
set_option maxRecDepth 100000 in
set_option maxHeartbeats 4000000 in
theorem r49_27 (x : Lic) (q : Nat) (H : List Row) (hq : H[q]? = some (.cells [.v (.int .i64 x.fr), .v (.int .i64 x.to), .v (.int .i64 x.fst), .v (.int .i64 x.lst)])) (d10 : D) (K : St → Prop)
    (hK : ∀ e', find e' 1 = .ref 0 0 → find e' 10 = d10 → find e' 228 = .v (.bool (!licOK x)) → K ⟨e', H⟩) :
    awpOps Tryz.prog GLx c49r27 K ⟨[(1, .ref 0 0), (10, d10), (11, .ref q 0)], H⟩ := by
  have p1 := (p125 x.fr 1 4095).fsp
  have p2 := (p125 x.to 1 4095).fsp
  have p3 := (p125 x.fst 0 x.lst).fsp
  unfold licOK at hK
  generalize inI x.fr 1 4095 = A at *
  generalize inI x.to 1 4095 = B at *
  generalize inI x.fst 0 x.lst = C at *
  simp at p1 p2 p3
  simp only [c49r27]
  simp [hq]
  refine ⟨_, _, p1 _, ?_⟩
  cases A with
  | false => simp; exact hK _ rfl rfl rfl
  | true =>
  simp [hq]
  refine ⟨_, _, p2 _, ?_⟩
  cases B with
  | false => simp; exact hK _ rfl rfl rfl
  | true =>
  simp [hq]
  refine ⟨_, _, p3 _, ?_⟩
  cases C with
  | false => simp; exact hK _ rfl rfl rfl
  | true =>
  simp [hq]
  refine hK _ rfl rfl ?_
  simp
  by_cases h : x.lst ≤ 131072 <;> simp [h] <;> omega
end Go.Va

namespace Go.Va
open Go.Proofs
set_option maxRecDepth 100000 in
set_option maxHeartbeats 4000000 in
theorem r49_9 (x : Dat) (n : Nat) (last : Int) (q : Nat) (H : List Row) (hq : H[q]? = some (.cells [.v (.int .i64 x.cl), .v (.int .i64 x.ix), .v (.int .i64 x.day), .v (.int .i64 x.file)])) (hn : n ≤ 2 ^ 30) (d1 d5 : D) (K : St → Prop)
    (hK : ∀ e', find e' 1 = d1 → find e' 3 = .v (.int .i64 n) → find e' 5 = d5 → find e' 6 = .ref q 0 → find e' 98 = .v (.bool (!(datOK n x && decide (last < 64 * x.cl + x.ix)))) → K ⟨e', H⟩) :
    awpOps Tryz.prog GLx c49r9 K ⟨[(1, d1), (3, .v (.int .i64 n)), (4, .v (.int .i64 last)), (5, d5), (6, .ref q 0)], H⟩ := by
  have p1 := (p125 x.cl 0 (n - 1)).fsp
  have p2 := (p125 x.ix 0 63).fsp
  have p3 := (p125 x.day 0 131072).fsp
  have p4 := (p125 x.file 0 4095).fsp
  have w0 : IntKind.i64.wrap ((n : Int) - 1) = n - 1 := wrap_i64 (by omega) (by omega)
  have b1 : inI x.cl 0 (n - 1) = true → 0 ≤ x.cl ∧ x.cl ≤ n - 1 := by simp [inI]
  have b2 : inI x.ix 0 63 = true → 0 ≤ x.ix ∧ x.ix ≤ 63 := by simp [inI]
  unfold datOK at hK
  generalize inI x.cl 0 (n - 1) = A at *
  generalize inI x.ix 0 63 = B at *
  generalize inI x.day 0 131072 = C at *
  generalize inI x.file 0 4095 = E at *
  simp at p1 p2 p3 p4
  simp only [c49r9]
  simp [hq, w0]
  refine ⟨_, _, p1 _, ?_⟩
  cases A with
  | false => simp; exact hK _ rfl rfl rfl rfl rfl
  | true =>
  simp [hq]
  refine ⟨_, _, p2 _, ?_⟩
  cases B with
  | false => simp; exact hK _ rfl rfl rfl rfl rfl
  | true =>
  have b1 := b1 rfl
  have b2 := b2 rfl
  have w1 : IntKind.i64.wrap (64 * x.cl) = 64 * x.cl := wrap_i64 (by omega) (by omega)
  have w2 : IntKind.i64.wrap (64 * x.cl + x.ix) = 64 * x.cl + x.ix := wrap_i64 (by omega) (by omega)
  simp [hq]
  refine ⟨_, _, p3 _, ?_⟩
  cases C with
  | false => simp; exact hK _ rfl rfl rfl rfl rfl
  | true =>
  simp [hq]
  refine ⟨_, _, p4 _, ?_⟩
  cases E with
  | false => simp; exact hK _ rfl rfl rfl rfl rfl
  | true =>
  simp [hq, w1, w2]
  refine hK _ rfl rfl rfl rfl ?_
  simp
  by_cases h : last < 64 * x.cl + x.ix <;> simp [h] <;> omega
end Go.Va

namespace Go.Va
open Go.Proofs
set_option maxRecDepth 100000 in
set_option maxHeartbeats 4000000 in
theorem r49_15 (r : Rgt) (n k : Nat) (x : Int) (H : List Row) (h0 : H[0]? = some r.row) (hx : r.bad[k]? = some x) (hn : n ≤ 2 ^ 30) (hk : k ≤ 2 ^ 30) (d111 : D) (K : St → Prop)
    (hK : ∀ e', find e' 1 = .ref 0 0 → find e' 3 = .v (.int .i64 n) → find e' 7 = .v (.int .i64 k) → find e' 140 = .v (.bool (!(inI x 0 (n - 1) && prevOK (fun a b => decide (a < b)) r.bad k x))) → K ⟨e', H⟩) :
    awpJ Tryz.prog GLx c49r15 K ⟨[(1, .ref 0 0), (3, .v (.int .i64 n)), (7, .v (.int .i64 k)), (111, d111)], H⟩ := by
  have p1 := p125 x 0 (n - 1)
  have w0 : IntKind.i64.wrap ((n : Int) - 1) = n - 1 := wrap_i64 (by omega) (by omega)
  generalize inI x 0 (n - 1) = A at *
  simp only [c49r15]
  simp [h0, Rgt.row, w0, nums, hx]
  refine ⟨_, _, ⟨rfl, rfl⟩, _, p1, ?_⟩
  cases A with
  | false => simp; exact hK _ rfl rfl rfl rfl
  | true =>
  cases k with
  | zero => simp; exact hK _ rfl rfl rfl rfl
  | succ j =>
    have hj : j < r.bad.length := by have := (List.getElem?_eq_some_iff.1 hx).1; omega
    obtain ⟨y, hy⟩ : ∃ y, r.bad[j]? = some y := ⟨_, List.getElem?_eq_getElem hj⟩
    have w1 : IntKind.i64.wrap (((j + 1 : Nat) : Int) - 1) = j := by rw [wrap_i64 (by omega) (by omega)]; omega
    have w2 : (0 : Int) < ((j + 1 : Nat) : Int) := by omega
    have w5 : IntKind.i64.wrap (j : Int) = j := wrap_i64 (by omega) (by omega)
    have w3 : (0 : Int) ≤ ((j + 1 : Nat) : Int) := by omega
    have w4 : ((j + 1 : Nat) : Int).toNat = j + 1 := by omega
    simp only [Int.natCast_add, Int.natCast_one] at w1 w2 w3 w4
    simp [h0, Rgt.row, nums, hx, w1, w2, w5, w3, w4, hy]
    refine hK _ rfl rfl (by simp) ?_
    simp [prevOK, hy]
    by_cases h : y < x <;> simp [h] <;> omega
end Go.Va

namespace Go.Va
open Go.Proofs
set_option maxRecDepth 100000 in
set_option maxHeartbeats 4000000 in
theorem r49_21 (r : Rgt) (k : Nat) (x : Own) (hxo : x.ok) (q : Nat) (H : List Row) (h0 : H[0]? = some r.row) (hx : r.owners[k]? = some x) (hk : k ≤ 2 ^ 30) (hq : H[q]? = some (.cells [.v (.int .i64 x.party), .v (.int .i64 x.num), .v (.int .i64 x.den)])) (K : St → Prop)
    (hK : ∀ e', find e' 1 = .ref 0 0 → find e' 8 = .v (.int .i64 k) → find e' 193 = .v (.bool (!(ownOK x && prevOK (fun a b => decide (a.party < b.party)) r.owners k x))) → K ⟨e', H⟩) :
    awpJ Tryz.prog GLx c49r21 K ⟨[(1, .ref 0 0), (8, .v (.int .i64 k)), (9, .ref q 0)], H⟩ := by
  have p1 := p125 x.party 1 4095
  have p2 := p127 x.num x.den hxo.2.1 hxo.2.2
  unfold ownOK at hK
  generalize inI x.party 1 4095 = A at *
  generalize okR x.num x.den = B at *
  simp [ratV] at p2
  simp only [c49r21]
  simp [hq]
  refine ⟨_, _, ⟨rfl, rfl⟩, _, p1, ?_⟩
  cases A with
  | false => simp; exact hK _ rfl rfl rfl
  | true =>
  simp [hq]
  refine ⟨_, _, ⟨rfl, rfl⟩, _, p2, ?_⟩
  cases B with
  | false => simp; exact hK _ rfl rfl rfl
  | true =>
  simp [hq]
  by_cases h1 : x.num ≤ 0
  · have h1' : ¬ 0 < x.num := by omega
    simp [h1]; exact hK _ rfl rfl (by simp [h1'])
  have h1' : 0 < x.num := by omega
  simp [h1, hq]
  by_cases h2 : x.den < x.num
  · have h2' : ¬ x.num ≤ x.den := by omega
    simp [h2]; exact hK _ rfl rfl (by simp [h2'])
  have h2' : x.num ≤ x.den := by omega
  simp [h2]
  cases k with
  | zero => simp; exact hK _ rfl rfl (by simp [h1', h2', prevOK])
  | succ j =>
    have hj : j < r.owners.length := by have := (List.getElem?_eq_some_iff.1 hx).1; omega
    obtain ⟨y, hy⟩ : ∃ y, r.owners[j]? = some y := ⟨_, List.getElem?_eq_getElem hj⟩
    have w1 : IntKind.i64.wrap (((j + 1 : Nat) : Int) - 1) = j := by rw [wrap_i64 (by omega) (by omega)]; omega
    have w2 : (0 : Int) < ((j + 1 : Nat) : Int) := by omega
    have w5 : IntKind.i64.wrap (j : Int) = j := wrap_i64 (by omega) (by omega)
    simp only [Int.natCast_add, Int.natCast_one] at w1 w2
    simp [h0, Rgt.row, hq, w1, w2, w5, hy, Own.V]
    refine hK _ rfl (by simp) ?_
    simp [prevOK, hy, h1', h2']
    by_cases h : y.party < x.party <;> simp [h] <;> omega
end Go.Va

namespace Go.Va
open Go.Proofs
def lastD (ds : List Dat) : Nat → Int
  | 0 => -1
  | j + 1 => match ds[j]? with | some y => 64 * y.cl + y.ix | none => -1
def pD (n : Nat) (ds : List Dat) (k : Nat) : Bool := match ds[k]? with | some x => datOK n x && decide (lastD ds k < 64 * x.cl + x.ix) | none => true
def pL {α : Type} (ok : α → Bool) (f : α → α → Bool) (l : List α) (k : Nat) : Bool := match l[k]? with | some x => ok x && prevOK f l k x | none => true
theorem inI_iff (n lo hi : Int) : inI n lo hi = true ↔ lo ≤ n ∧ n ≤ hi := by simp [inI]
theorem datOK_b {n : Nat} {x : Dat} (h : datOK n x = true) : 0 ≤ x.cl ∧ x.cl ≤ n - 1 ∧ 0 ≤ x.ix ∧ x.ix ≤ 63 := by
  simp only [datOK, Bool.and_eq_true, inI_iff] at h
  omega
theorem dates_dec (n : Nat) (ds : List Dat) : (ds.all (datOK n) && rising datLt ds) = decide (∀ k < ds.length, pD n ds k = true) := by
  refine rising_all (pD n ds) fun k x hx hprev => ?_
  simp only [pD, hx]
  cases hok : datOK n x with
  | false => simp
  | true =>
    have b := datOK_b hok
    simp only [Bool.true_and]
    cases k with
    | zero =>
      have : -1 < 64 * x.cl + x.ix := by omega
      simp [lastD, this]
    | succ j =>
      cases hy : ds[j]? with
      | none =>
        have : -1 < 64 * x.cl + x.ix := by omega
        simp [lastD, hy, this]
      | some y =>
        have h1 := hprev j (by omega)
        simp only [pD, hy, Bool.and_eq_true] at h1
        have b2 := datOK_b h1.1
        simp only [lastD, hy, datLt]
        rw [Bool.eq_iff_iff]; simp; omega
theorem list_dec {α : Type} (ok : α → Bool) (f : α → α → Bool) (l : List α) : (l.all ok && rising f l) = decide (∀ k < l.length, pL ok f l k = true) := by
  refine rising_all (pL ok f l) fun k x hx _ => ?_
  simp only [pL, hx]
  rfl
theorem all_dec {α : Type} (ok : α → Bool) (l : List α) : l.all ok = decide (∀ k < l.length, ∀ x, l[k]? = some x → ok x = true) := by
  rw [Bool.eq_iff_iff, List.all_eq_true, decide_eq_true_eq]
  constructor
  · exact fun h k _ x hx => h x (List.mem_of_getElem? hx)
  · intro h x hx
    obtain ⟨k, hk⟩ := List.getElem?_of_mem hx
    exact h k (List.getElem?_eq_some_iff.1 hk).1 x hk
set_option maxRecDepth 100000 in
theorem l49_0 (r : Rgt) (n : Nat) (hn : n ≤ 2 ^ 30) (hl : r.dates.length ≤ 2 ^ 30) (J0 : List Row) (Q : AExit → St → Prop)
    (hgo : (∀ k < r.dates.length, pD n r.dates k = true) → ∀ e J, find e 1 = .ref 0 0 → find e 3 = .v (.int .i64 n) → Q (.exit 0) ⟨e, r.row :: J⟩)
    (hbad : ¬ (∀ k < r.dates.length, pD n r.dates k = true) → ∀ s, find s.e 2 = .v (.bool false) → Q .ret s) :
    awp Tryz.prog GLx (.loop c49l0) Q ⟨[(1, .ref 0 0), (3, .v (.int .i64 n)), (4, .v (.int .i64 (-1))), (5, .v (.int .i64 0))], r.row :: J0⟩ := by
  refine awp_loop_I r.dates.length (fun k s => s.e = [(1, .ref 0 0), (3, .v (.int .i64 n)), (4, .v (.int .i64 (lastD r.dates k))), (5, .v (.int .i64 k))] ∧ (∃ J, s.h = r.row :: J) ∧ ∀ j < k, pD n r.dates j = true) ⟨rfl, ⟨J0, rfl⟩, by simp⟩ ?_
  rintro k ⟨se, sh⟩ hk ⟨he, ⟨J, hh⟩, hI⟩
  simp only at he hh
  subst he hh
  simp only [c49l0, awp_seq, awp_reg, awp_block, awp_cond, c49r6]
  simp [Rgt.row]
  by_cases hlt : k < r.dates.length
  · obtain ⟨x, hx⟩ : ∃ x, r.dates[k]? = some x := ⟨_, List.getElem?_eq_getElem hlt⟩
    have hw : IntKind.i64.wrap ((k : Int) + 1) = k + 1 := wrap_i64 (by omega) (by omega)
    have hpk : pD n r.dates k = (datOK n x && decide (lastD r.dates k < 64 * x.cl + x.ix)) := by simp only [pD, hx]
    have hnx : lastD r.dates (k + 1) = 64 * x.cl + x.ix := by simp only [lastD, hx]
    rw [if_pos (by omega), awp_skip]
    simp only [awp_reg, c49r8]
    simp [hx, Dat.V, putL]
    refine r49_9 x n (lastD r.dates k) (J.length + 1) _ (by simp) hn _ _ _ ?_
    intro e' f1 f3 f5 f6 f98
    rw [← hpk] at f98
    simp [f98]
    cases hp : pD n r.dates k with
    | false =>
      have hnot : ¬ ∀ k < r.dates.length, pD n r.dates k = true := fun h => by rw [h k hlt] at hp; cases hp
      simp [awp_reg, awp_ret, c49r10]
      exact hbad hnot _ rfl
    | true =>
      rw [hp] at hpk
      have hdo : datOK n x = true := by
        have := hpk.symm
        simp only [Bool.and_eq_true] at this
        exact this.1
      have b := datOK_b hdo
      have w1 : IntKind.i64.wrap (64 * x.cl) = 64 * x.cl := wrap_i64 (by omega) (by omega)
      have w2 : IntKind.i64.wrap (64 * x.cl + x.ix) = 64 * x.cl + x.ix := wrap_i64 (by omega) (by omega)
      simp [awp_skip, c49r11, f1, f3, f5, f6, w1, w2, c49r7, hw, hlt, hnx]
      intro j hj
      rcases Nat.lt_or_ge j k with h | h
      · exact hI j h
      · have : j = k := by omega
        subst this; exact hp
  · have : k = r.dates.length := by omega
    subst this
    rw [if_neg (by omega), awp_exit]
    simp
    exact hgo hI _ J rfl rfl
set_option maxRecDepth 100000 in
theorem l49_1 (r : Rgt) (n : Nat) (hn : n ≤ 2 ^ 30) (hl : r.bad.length ≤ 2 ^ 30) (J : List Row) (Q : AExit → St → Prop)
    (hgo : (∀ k < r.bad.length, pL (fun i => inI i 0 (n - 1)) (fun a b => decide (a < b)) r.bad k = true) → ∀ e, find e 1 = .ref 0 0 → Q (.exit 2) ⟨e, r.row :: J⟩)
    (hbad : ¬ (∀ k < r.bad.length, pL (fun i => inI i 0 (n - 1)) (fun a b => decide (a < b)) r.bad k = true) → ∀ s, find s.e 2 = .v (.bool false) → Q .ret s) :
    awp Tryz.prog GLx (.loop c49l1) Q ⟨[(1, .ref 0 0), (3, .v (.int .i64 n)), (7, .v (.int .i64 0))], r.row :: J⟩ := by
  refine awp_loop_inv r.bad.length (fun k => ⟨[(1, .ref 0 0), (3, .v (.int .i64 n)), (7, .v (.int .i64 k))], r.row :: J⟩) (fun k => ∀ j < k, pL (fun i => inI i 0 (n - 1)) (fun a b => decide (a < b)) r.bad j = true) rfl (by simp) ?_
  intro k hk hI
  simp only [c49l1, awp_seq, awp_reg, awp_block, awp_cond, c49r13]
  simp [Rgt.row, nums]
  by_cases hlt : k < r.bad.length
  · obtain ⟨x, hx⟩ : ∃ x, r.bad[k]? = some x := ⟨_, List.getElem?_eq_getElem hlt⟩
    have hw : IntKind.i64.wrap ((k : Int) + 1) = k + 1 := wrap_i64 (by omega) (by omega)
    have hpk : pL (fun i => inI i 0 (n - 1)) (fun a b => decide (a < b)) r.bad k = (inI x 0 (n - 1) && prevOK (fun a b => decide (a < b)) r.bad k x) := by simp only [pL, hx]
    rw [if_pos (by omega), awp_skip]
    simp only [awp_regD]
    try simp
    refine r49_15 r n k x (r.row :: J) rfl hx hn (by omega) _ _ ?_
    intro e' f1 f3 f7 f140
    rw [← hpk] at f140
    simp [f140]
    cases hp : pL (fun i => inI i 0 (n - 1)) (fun a b => decide (a < b)) r.bad k with
    | false =>
      have hnot : ¬ ∀ k < r.bad.length, pL (fun i => inI i 0 (n - 1)) (fun a b => decide (a < b)) r.bad k = true := fun h => by rw [h k hlt] at hp; cases hp
      simp [awp_reg, awp_ret, c49r16]
      exact hbad hnot _ rfl
    | true =>
      simp [awp_skip, awp_reg, f1, f3, f7, c49r14, hw, hlt, Rgt.row, nums]
      intro j hj
      rcases Nat.lt_or_ge j k with h | h
      · exact hI j h
      · have : j = k := by omega
        subst this; exact hp
  · have : k = r.bad.length := by omega
    subst this
    rw [if_neg (by omega), awp_exit]
    simp
    exact hgo hI _ rfl
set_option maxRecDepth 100000 in
theorem l49_2 (r : Rgt) (ho : ∀ o ∈ r.owners, o.ok) (hl : r.owners.length ≤ 2 ^ 30) (J0 : List Row) (Q : AExit → St → Prop)
    (hgo : (∀ k < r.owners.length, pL ownOK (fun a b => decide (a.party < b.party)) r.owners k = true) → ∀ e J, find e 1 = .ref 0 0 → Q (.exit 4) ⟨e, r.row :: J⟩)
    (hbad : ¬ (∀ k < r.owners.length, pL ownOK (fun a b => decide (a.party < b.party)) r.owners k = true) → ∀ s, find s.e 2 = .v (.bool false) → Q .ret s) :
    awp Tryz.prog GLx (.loop c49l2) Q ⟨[(1, .ref 0 0), (8, .v (.int .i64 0))], r.row :: J0⟩ := by
  refine awp_loop_I r.owners.length (fun k s => s.e = [(1, .ref 0 0), (8, .v (.int .i64 k))] ∧ (∃ J, s.h = r.row :: J) ∧ ∀ j < k, pL ownOK (fun a b => decide (a.party < b.party)) r.owners j = true) ⟨rfl, ⟨J0, rfl⟩, by simp⟩ ?_
  rintro k ⟨se, sh⟩ hk ⟨he, ⟨J, hh⟩, hI⟩
  simp only at he hh
  subst he hh
  simp only [c49l2, awp_seq, awp_reg, awp_block, awp_cond, c49r18]
  simp [Rgt.row]
  by_cases hlt : k < r.owners.length
  · obtain ⟨x, hx⟩ : ∃ x, r.owners[k]? = some x := ⟨_, List.getElem?_eq_getElem hlt⟩
    have hw : IntKind.i64.wrap ((k : Int) + 1) = k + 1 := wrap_i64 (by omega) (by omega)
    have hpk : pL ownOK (fun a b => decide (a.party < b.party)) r.owners k = (ownOK x && prevOK (fun a b => decide (a.party < b.party)) r.owners k x) := by simp only [pL, hx]
    rw [if_pos (by omega), awp_skip]
    simp only [awp_reg, c49r20]
    simp [hx, Own.V, putL, awp_regD]
    refine r49_21 r k x (ho x (List.mem_of_getElem? hx)) (J.length + 1) _ (by rfl) hx (by omega) (by simp) _ ?_
    intro e' f1 f8 f193
    rw [← hpk] at f193
    simp [f193]
    cases hp : pL ownOK (fun a b => decide (a.party < b.party)) r.owners k with
    | false =>
      have hnot : ¬ ∀ k < r.owners.length, pL ownOK (fun a b => decide (a.party < b.party)) r.owners k = true := fun h => by rw [h k hlt] at hp; cases hp
      simp [awp_reg, awp_ret, c49r22]
      exact hbad hnot _ rfl
    | true =>
      simp [awp_skip, awp_reg, f1, f8, c49r19, hw, hlt]
      intro j hj
      rcases Nat.lt_or_ge j k with h | h
      · exact hI j h
      · have : j = k := by omega
        subst this; exact hp
  · have : k = r.owners.length := by omega
    subst this
    rw [if_neg (by omega), awp_exit]
    simp
    exact hgo hI _ J rfl
set_option maxRecDepth 100000 in
theorem l49_3 (r : Rgt) (hl : r.lics.length ≤ 2 ^ 30) (J0 : List Row) (Q : AExit → St → Prop)
    (hgo : r.lics.all licOK = true → ∀ s, Q (.exit 6) s)
    (hbad : r.lics.all licOK = false → ∀ s, find s.e 2 = .v (.bool false) → Q .ret s) :
    awp Tryz.prog GLx (.loop c49l3) Q ⟨[(1, .ref 0 0), (10, .v (.int .i64 0))], r.row :: J0⟩ := by
  refine awp_loop_I r.lics.length (fun k s => s.e = [(1, .ref 0 0), (10, .v (.int .i64 k))] ∧ (∃ J, s.h = r.row :: J) ∧ ∀ j < k, ∀ x, r.lics[j]? = some x → licOK x = true) ⟨rfl, ⟨J0, rfl⟩, by simp⟩ ?_
  rintro k ⟨se, sh⟩ hk ⟨he, ⟨J, hh⟩, hI⟩
  simp only at he hh
  subst he hh
  simp only [c49l3, awp_seq, awp_reg, awp_block, awp_cond, c49r24]
  simp [Rgt.row]
  by_cases hlt : k < r.lics.length
  · obtain ⟨x, hx⟩ : ∃ x, r.lics[k]? = some x := ⟨_, List.getElem?_eq_getElem hlt⟩
    have hw : IntKind.i64.wrap ((k : Int) + 1) = k + 1 := wrap_i64 (by omega) (by omega)
    rw [if_pos (by omega), awp_skip]
    simp only [awp_reg, c49r26]
    simp [hx, Lic.V, putL]
    refine r49_27 x (J.length + 1) _ (by simp) _ _ ?_
    intro e' f1 f10 f228
    simp [f228]
    cases hp : licOK x with
    | false =>
      have hnot : r.lics.all licOK = false := by
        rw [List.all_eq_false]
        exact ⟨x, List.mem_of_getElem? hx, by rw [hp]; decide⟩
      simp [awp_reg, awp_ret, c49r28]
      exact hbad hnot _ rfl
    | true =>
      simp [awp_skip, awp_reg, f1, f10, c49r25, hw, hlt]
      intro j hj y hy
      rcases Nat.lt_or_ge j k with h | h
      · exact hI j h y hy
      · have : j = k := by omega
        subst this
        rw [hx] at hy; cases hy; exact hp
  · have : k = r.lics.length := by omega
    subst this
    rw [if_neg (by omega), awp_exit]
    simp
    refine hgo ?_ _
    rw [all_dec, decide_eq_true_eq]; exact hI
end Go.Va

namespace Go.Va
open Go.Proofs
def c49t : AC := (.seq (.reg c49r4 [1, 3, 4]) (.seq (.seq (.reg c49r5 [1, 3, 4, 5]) (.block 0 (.loop c49l0))) (.seq (.seq (.reg c49r12 [1, 3, 7]) (.block 2 (.loop c49l1))) (.seq (.seq (.reg c49r17 [1, 8]) (.block 4 (.loop c49l2))) (.seq (.seq (.reg c49r23 [1, 10]) (.block 6 (.loop c49l3))) (.seq (.reg c49r29 [2]) .ret))))))
theorem c49_eq : c49 = (.seq (.reg c49r0 [1]) (.seq (.reg c49r1 [1, 3]) (.seq (.seq (.reg c49r2 [1, 3, 48]) (.cond (.t 48 false) (.seq (.reg c49r3 [2]) .ret) .skip)) c49t))) := rfl
set_option maxRecDepth 100000 in
set_option maxHeartbeats 1000000 in
theorem p49 (r : Rgt) (hr : r.ok) : PSp Tryz.prog GLx 49 [r.V] [.bool (formedR r)] := by
  refine psp_of_awp k49 rfl ?_
  obtain ⟨R, hR⟩ : ∃ R, formedR r = R := ⟨_, rfl⟩
  rw [hR]
  unfold formedR at hR
  have hlc := hr.lc
  have p1 := (p125 r.file 0 4095).fsp
  have p2 := (p125 r.state 0 4).fsp
  have p3 := (p125 r.force 0 4).fsp
  have p4 := (p126 r.claims hr.claims (by omega)).fsp
  have hD := dates_dec r.claims.length r.dates
  have hB := list_dec (fun i => inI i 0 (r.claims.length - 1)) (fun a b => decide (a < b)) r.bad
  have hO := list_dec ownOK (fun a b => decide (a.party < b.party)) r.owners
  rw [hD, hB, hO] at hR
  simp at p1 p2 p3 p4
  rw [c49_eq]
  simp only [awp_seq, awp_reg, awp_block, awp_cond, c49r0, c49r1, entry]
  simp [Rgt.V, Rgt.cs]
  generalize inI r.file 0 4095 = A1 at *
  generalize inI r.state 0 4 = A2 at *
  generalize inI r.force 0 4 = A3 at *
  generalize clmsE r.claims = A4 at *
  simp only [c49r2]
  simp
  refine ⟨_, _, p1 _, ?_⟩
  cases A1 with
  | false => simp at hR; simp [awp_seq, awp_reg, awp_ret, c49r3, c49R, hR]
  | true =>
  simp
  refine ⟨_, _, p2 _, ?_⟩
  cases A2 with
  | false => simp at hR; simp [awp_seq, awp_reg, awp_ret, c49r3, c49R, hR]
  | true =>
  simp
  refine ⟨_, _, p3 _, ?_⟩
  cases A3 with
  | false => simp at hR; simp [awp_seq, awp_reg, awp_ret, c49r3, c49R, hR]
  | true =>
  simp
  refine ⟨_, _, p4 _, ?_⟩
  by_cases h4 : A4 = 0
  case neg =>
    have hf : R = false := by rw [← hR]; simp [h4]
    simp [h4, awp_seq, awp_reg, awp_ret, c49r3, c49R, hf]
  subst h4
  by_cases h5 : 4096 < r.dates.length
  · have h5' : 4096 < (r.dates.length : Int) := by omega
    have hf : R = false := by rw [← hR]; simp [show ¬ r.dates.length ≤ 4096 by omega]
    simp [h5', awp_seq, awp_reg, awp_ret, c49r3, c49R, hf]
  have h5' : ¬ 4096 < (r.dates.length : Int) := by omega
  by_cases h6 : 4096 < r.lics.length
  · have h6' : 4096 < (r.lics.length : Int) := by omega
    have hf : R = false := by rw [← hR]; simp [show ¬ r.lics.length ≤ 4096 by omega]
    simp [h5', h6', awp_seq, awp_reg, awp_ret, c49r3, c49R, hf]
  have h6' : ¬ 4096 < (r.lics.length : Int) := by omega
  have e5 : decide (r.dates.length ≤ 4096) = true := by simpa using h5
  have e6 : decide (r.lics.length ≤ 4096) = true := by simpa using h6
  rw [e5, e6] at hR
  simp only [beq_self_eq_true, Bool.and_true, Bool.true_and] at hR
  simp [h5', h6', awp_skip]
  have fin : ∀ e, find e 1 = .ref 0 0 → find e 3 = .v (.int .i64 r.claims.length) → awp Tryz.prog GLx c49t (fun e s => (match e with | .exit _ => False | _ => True) ∧ resVs s c49R = some [.bool R]) ⟨e, [r.row]⟩ := by
    intro e f1 f3
    unfold c49t
    simp only [awp_seq, awp_reg, awp_block, c49r4, c49r5]
    simp [f1, f3]
    refine l49_0 r r.claims.length hlc hr.ld [] _ ?_ ?_
    · intro hd e J g1 g3
      rw [decide_eq_true hd, Bool.true_and] at hR
      simp [c49r12, g1, g3]
      refine l49_1 r r.claims.length hlc hr.lb J _ ?_ ?_
      · intro hb e g1
        rw [decide_eq_true hb, Bool.true_and] at hR
        simp [c49r17, g1]
        refine l49_2 r hr.owners hr.lo J _ ?_ ?_
        · intro ho e J2 g1
          rw [decide_eq_true ho, Bool.true_and] at hR
          simp [c49r23, g1]
          refine l49_3 r hr.ll J2 _ ?_ ?_
          · intro hl s
            rw [hl] at hR
            simp [c49r29, awp_ret, c49R, ← hR]
          · intro hl s hs
            rw [hl] at hR
            simp [c49R, hs, ← hR]
        · intro ho s hs
          rw [decide_eq_false ho, Bool.false_and] at hR
          simp [c49R, hs, ← hR]
      · intro hb s hs
        rw [decide_eq_false hb] at hR
        simp at hR
        simp [c49R, hs, ← hR]
    · intro hd s hs
      rw [decide_eq_false hd] at hR
      simp at hR
      simp [c49R, hs, ← hR]
  exact fin _ rfl rfl
end Go.Va

namespace Go.Va
open Go.Proofs
def parentsV : V := .list [.list [], .list [.int .i64 0], .list [.int .i64 0], .list [.int .i64 1, .int .i64 2], .list [], .list [.int .i64 4]]
theorem p16 : PSp Tryz.prog GLx 16 [] [parentsV] := by
  refine psp_of_awp k16 rfl ?_
  simp [c16, awp_seq, awp_reg, awp_ret, c16r0, c16r1, c16R, entry, parentsV]
def fileF (n : Int) : Int := ([0, 7, 8, 4095, 2047][n.toNat]?).getD 0
def rightF (l : List Int) (i : Nat) : Rgt :=
  let r := someF (l.drop (min l.length (1 + 4 * i)))
  { r with file := fileF ((i + pickI l 0 5).tmod 5), force := if i % 2 = 0 then 0 else r.force }
def rightsF (l : List Int) : List Rgt := ((List.range (pickI l 0 5).toNat).map (rightF l)).filter formedR
theorem rightF_tiny (l : List Int) (i : Nat) : (rightF l i).tiny 3 := by
  have h := someF_tiny (l.drop (min l.length (1 + 4 * i)))
  refine ⟨?_, h.state, ?_, h.claims, h.dates, h.bad, h.owners, h.lics, h.lc, h.ld, h.lb, h.lo, h.ll⟩
  · simp only [rightF, fileF]
    generalize ((i + pickI l 0 5).tmod 5).toNat = k
    match k with
    | 0 | 1 | 2 | 3 | 4 => simp [i64]
    | k + 5 => simp [i64]
  · simp only [rightF]
    split
    · simp [i64]
    · exact h.force
def c10b : AC := (.seq (.reg c10r6 [0, 3, 4, 5, 6]) (.seq (.reg c10r7 [0, 3, 4, 5, 6]) (.seq (.seq (.reg c10r8 [0, 3, 4, 5, 6, 34]) (.cond (.t 34 false) (.reg c10r9 [0, 3, 4, 5, 6]) .skip)) (.seq (.reg c10r10 [0, 3, 4, 5, 6, 7]) (.seq (.reg c10r11 [0, 3, 4, 5, 6, 38]) (.cond (.t 38 false) (.reg c10r12 [0, 3, 4, 5]) .skip))))))
theorem c10l0_eq : c10l0 = (.seq (.seq (.reg c10r4 [0, 3, 4, 5, 12]) (.cond (.t 12 false) .skip (.exit 0))) (.seq (.block 1 c10b) (.reg c10r5 [0, 3, 4, 5]))) := rfl
set_option maxRecDepth 100000 in
theorem l10b (l : List Int) (n : Int) (k : Nat) (A : List Rgt) (J : List Row) (hk : k < n.toNat) (hn5 : n < 5) (hA : A.length ≤ k) (S Q : Rgt)
    (hr : Q = { S with file := fileF ((k + n).tmod 5), force := if k % 2 = 0 then 0 else S.force })
    (p2 : PSp Tryz.prog GLx 48 [nums .i64 (l.drop (min l.length (1 + 4 * k)))] [S.V])
    (p3 : PSp Tryz.prog GLx 49 [Q.V] [.bool (formedR Q)]) (K : AExit → St → Prop)
    (hK : ∀ e J', find e 0 = .v (nums .i64 l) → find e 3 = .own 32 8 ((A ++ (if formedR Q then [Q] else [])).map Rgt.V) → find e 4 = .v (.int .i64 n) → find e 5 = .v (.int .i64 k) → K .normal ⟨e, J'⟩) :
    ∀ e, find e 0 = .v (nums .i64 l) → find e 3 = .own 32 8 (A.map Rgt.V) → find e 4 = .v (.int .i64 n) → find e 5 = .v (.int .i64 k) → awp Tryz.prog GLx c10b K ⟨e, J⟩ := by
  intro e f0 f3 f4 f5
  have v2 : IntKind.i64.wrap (4 * (k : Int)) = 4 * k := wrap_i64 (by omega) (by omega)
  have v3 : IntKind.i64.wrap (1 + 4 * (k : Int)) = 1 + 4 * k := wrap_i64 (by omega) (by omega)
  have v4 : IntKind.i64.wrap ((k : Int) + n) = k + n := wrap_i64 (by omega) (by omega)
  have hroom : roomy (A.length + 1) 144 = true := by simp [roomy]; omega
  have hmin : (if 1 + 4 * (k : Int) < (l.length : Int) then 1 + 4 * (k : Int) else (l.length : Int)) = (min l.length (1 + 4 * k) : Nat) := by split <;> omega
  have p2 := p2.fsp
  have p3 := p3.fsp
  have hlen : min l.length (1 + 4 * k) ≤ l.length := Nat.min_le_left _ _
  generalize min l.length (1 + 4 * k) = m at *
  simp [nums, Rgt.V, Rgt.cs] at p2 p3 f0
  unfold c10b
  simp only [awp_seq, awp_reg, awp_cond, c10r6]
  have htk : (l.map (V.int .i64)).take l.length = l.map (V.int .i64) := List.take_of_length_le (by simp)
  simp [v2, v3, nums, hmin, hlen, Rgt.V, Rgt.cs, htk, f0, f3, f4, f5]
  refine ⟨_, _, p2 _, ?_⟩
  have t0 : 0 ≤ ((k : Int) + n).tmod 5 := Int.tmod_nonneg _ (by omega)
  have t1 : ([V.int .i64 0, V.int .i64 7, V.int .i64 8, V.int .i64 4095, V.int .i64 2047])[(((k : Int) + n).tmod 5).toNat]? = some (.int .i64 (fileF (((k : Int) + n).tmod 5))) := by
    have t2 := tmod_b ((k : Int) + n) 5 (by decide)
    unfold fileF
    obtain ⟨q, hq⟩ : ∃ q, (((k : Int) + n).tmod 5).toNat = q := ⟨_, rfl⟩
    rw [hq]
    have : q < 5 := by omega
    match q, this with
    | 0, _ | 1, _ | 2, _ | 3, _ | 4, _ => rfl
  generalize fileF (((k : Int) + n).tmod 5) = fl at *
  simp [putL, c10r7, v4, t0, t1, f0, f3, f4, f5]
  have hcl : ∀ f : Int, Q.claims = S.claims ∧ Q.dates = S.dates ∧ Q.bad = S.bad ∧ Q.owners = S.owners ∧ Q.lics = S.lics ∧ Q.file = fl ∧ Q.state = S.state ∧ Q.force = if k % 2 = 0 then 0 else S.force := by subst hr; simp
  obtain ⟨e1, e2, e3, e4, e5, e6, e7, e8⟩ := hcl 0
  rw [e1, e2, e3, e4, e5, e6, e7, e8] at p3
  have hk2 : (k : Int).tmod 2 = 0 ↔ k % 2 = 0 := by rw [Int.tmod_eq_emod_of_nonneg (by omega)]; omega
  by_cases h2 : k % 2 = 0
  · rw [if_pos h2] at p3 e8
    have h2' := hk2.2 h2
    simp [c10r8, f0, f3, f4, f5, h2', awp_reg, c10r9, putL, c10r10, D.vs?, D.v?]
    refine ⟨_, _, (p3 _), ?_⟩
    cases hf : formedR Q with
    | false =>
      rw [hf] at hK
      simp [c10r11, f0, f3, f4, f5, awp_skip]
      exact hK _ _ (by simp [nums]) (by simp) (by simp) (by simp)
    | true =>
      rw [hf] at hK
      simp [c10r11, f0, f3, f4, f5, awp_reg, c10r12, hroom, D.vs?, D.v?]
      exact hK _ _ (by simp [nums]) (by simp [Rgt.V, Rgt.cs, e1, e2, e3, e4, e5, e6, e7, e8, nums]) (by simp) (by simp)
  · rw [if_neg h2] at p3 e8
    have h2' : ¬ (k : Int).tmod 2 = 0 := fun h => h2 (hk2.1 h)
    simp [c10r8, f0, f3, f4, f5, h2', awp_skip, putL, awp_reg, c10r10, D.vs?, D.v?]
    refine ⟨_, _, (p3 _), ?_⟩
    cases hf : formedR Q with
    | false =>
      rw [hf] at hK
      simp [c10r11, f0, f3, f4, f5, awp_skip]
      exact hK _ _ (by simp [nums]) (by simp) (by simp) (by simp)
    | true =>
      rw [hf] at hK
      simp [c10r11, f0, f3, f4, f5, awp_reg, c10r12, hroom, D.vs?, D.v?]
      exact hK _ _ (by simp [nums]) (by simp [Rgt.V, Rgt.cs, e1, e2, e3, e4, e5, e6, e7, e8, nums]) (by simp) (by simp)
set_option maxRecDepth 100000 in
theorem p10 (l : List Int) : PSp Tryz.prog GLx 10 [nums .i64 l] [.list ((rightsF l).map Rgt.V)] := by
  refine psp_of_awp k10 rfl ?_
  have p1 := (p47 l 0 5 (by decide)).fsp
  have hn := pickI_b l 0 5 (by decide)
  have hrf : ∀ i : Nat, rightF l i = { someF (l.drop (min l.length (1 + 4 * i))) with file := fileF ((i + pickI l 0 5).tmod 5), force := if i % 2 = 0 then 0 else (someF (l.drop (min l.length (1 + 4 * i)))).force } := fun _ => rfl
  have hres : rightsF l = ((List.range (pickI l 0 5).toNat).map (rightF l)).filter formedR := rfl
  generalize rightsF l = R at *
  generalize pickI l 0 5 = n at *
  simp [nums] at p1
  simp only [c10, awp_seq, awp_reg, awp_block, c10r0, c10r1, entry]
  simp [c10r2, nums]
  refine ⟨_, _, p1 _, ?_⟩
  simp [c10r3]
  refine awp_loop_I n.toNat (fun k s => s.e = [(0, .v (nums .i64 l)), (3, .own 32 8 ((((List.range k).map (rightF l)).filter formedR).map Rgt.V)), (4, .v (.int .i64 n)), (5, .v (.int .i64 k))]) (by simp [nums]) ?_
  rintro k ⟨se, sh⟩ hk he
  simp only at he
  subst he
  simp only [c10l0_eq, awp_seq, awp_reg, awp_block, awp_cond, c10r4]
  simp
  by_cases hlt : k < n.toNat
  · have v1 : IntKind.i64.wrap ((k : Int) + 1) = k + 1 := wrap_i64 (by omega) (by omega)
    have v2 : IntKind.i64.wrap (4 * (k : Int)) = 4 * k := wrap_i64 (by omega) (by omega)
    have v3 : IntKind.i64.wrap (1 + 4 * (k : Int)) = 1 + 4 * k := wrap_i64 (by omega) (by omega)
    have v4 : IntKind.i64.wrap ((k : Int) + n) = k + n := wrap_i64 (by omega) (by omega)
    have hr := hrf k
    have hle : (((List.range k).map (rightF l)).filter formedR).length ≤ k := by have := List.length_filter_le formedR ((List.range k).map (rightF l)); simpa using this
    have hsucc : ((List.range (k + 1)).map (rightF l)).filter formedR = ((List.range k).map (rightF l)).filter formedR ++ (if formedR (rightF l k) then [rightF l k] else []) := by
      rw [List.range_succ, List.map_append, List.filter_append]
      simp [List.filter_cons]
    rw [hsucc]
    have p2 := p48 (l.drop (min l.length (1 + 4 * k)))
    have p3 := p49 (rightF l k) ((rightF_tiny l k).ok (by decide))
    generalize ((List.range k).map (rightF l)).filter formedR = A at *
    generalize rightF l k = Q at *
    generalize someF (l.drop (min l.length (1 + 4 * k))) = S at *
    rw [if_pos (by omega), awp_skip]
    simp only [awp_block]
    refine l10b l n k A _ hlt hn.2 hle S Q hr p2 p3 _ ?_ _ (by simp [nums]) (by simp) (by simp) (by simp)
    intro e J' f0 f3 f4 f5
    simp only [nums] at f0
    simp only [awp_reg]
    simp [c10r5, v1, hlt, f0, f3, f4, f5, nums]
    omega
  · have : k = n.toNat := by omega
    subst this
    rw [if_neg (by omega), awp_exit]
    simp [c10r13, awp_ret, c10R, hres]
end Go.Va

namespace Go.Va
open Go.Proofs
def spoilF (r : Rgt) (how by_ : Int) : Rgt :=
  let h := aroundI how 10
  if h = 0 then { r with file := by_ }
  else if h = 1 then { r with state := by_ }
  else if h = 2 then { r with force := by_ }
  else if h = 3 then { r with claims := r.claims ++ [⟨[by_], .mk 0 0 [] []⟩] }
  else if h = 4 then { r with dates := r.dates ++ [⟨(r.claims.length : Int) - 1, by_, 0, 0⟩] }
  else if h = 5 then { r with dates := r.dates ++ [⟨by_, 63, by_, 0⟩] }
  else if h = 6 then { r with bad := r.bad ++ [by_] }
  else if h = 7 then { r with owners := r.owners ++ [⟨by_, 1, 1⟩] }
  else if h = 8 then { r with owners := r.owners ++ [⟨4095, by_, 2⟩] }
  else { r with lics := r.lics ++ [⟨1, 2, 5, by_⟩] }
theorem spoilF_tiny {m : Nat} {r : Rgt} (h : r.tiny m) (hm : m ≤ 2 ^ 40) (how by_ : Int) (hb : i64 by_) : (spoilF r how by_).tiny (m + 1) := by
  have h0 := h.lc; have h1 := h.ld; have h2 := h.lb; have h3 := h.lo; have h4 := h.ll
  have hcl : ∀ c ∈ r.claims ++ [⟨[by_], .mk 0 0 [] []⟩], c.tiny := by
    intro c hc
    rcases List.mem_append.1 hc with hc | hc
    · exact h.claims c hc
    · simp only [List.mem_singleton] at hc
      subst hc
      exact ⟨by simpa using hb, by simp, (tiny_node (m := 0) (by simp [i64]) (by simp)).mono (by simp)⟩
  have ap : ∀ {α : Type} {P : α → Prop} {l : List α} {x : α}, (∀ y ∈ l, P y) → P x → ∀ y ∈ l ++ [x], P y := by
    intro α P l x h1 h2 y hy
    rcases List.mem_append.1 hy with hy | hy
    · exact h1 y hy
    · simp only [List.mem_singleton] at hy
      subst hy
      exact h2
  have z : i64 0 := by simp [i64]
  unfold spoilF
  simp only
  repeat' split
  · exact ⟨hb, h.state, h.force, h.claims, h.dates, h.bad, h.owners, h.lics, by simp only; omega, by simp only; omega, by simp only; omega, by simp only; omega, by simp only; omega⟩
  · exact ⟨h.file, hb, h.force, h.claims, h.dates, h.bad, h.owners, h.lics, by simp only; omega, by simp only; omega, by simp only; omega, by simp only; omega, by simp only; omega⟩
  · exact ⟨h.file, h.state, hb, h.claims, h.dates, h.bad, h.owners, h.lics, by simp only; omega, by simp only; omega, by simp only; omega, by simp only; omega, by simp only; omega⟩
  · exact ⟨h.file, h.state, h.force, hcl, h.dates, h.bad, h.owners, h.lics, by simpa using h0, by simp only; omega, by simp only; omega, by simp only; omega, by simp only; omega⟩
  · exact ⟨h.file, h.state, h.force, h.claims, ap h.dates ⟨by unfold i64; simp only; omega, hb, z, z⟩, h.bad, h.owners, h.lics, by simp only; omega, by simpa using h1, by simp only; omega, by simp only; omega, by simp only; omega⟩
  · exact ⟨h.file, h.state, h.force, h.claims, ap h.dates ⟨hb, by simp [i64], hb, z⟩, h.bad, h.owners, h.lics, by simp only; omega, by simpa using h1, by simp only; omega, by simp only; omega, by simp only; omega⟩
  · exact ⟨h.file, h.state, h.force, h.claims, h.dates, ap h.bad hb, h.owners, h.lics, by simp only; omega, by simp only; omega, by simpa using h2, by simp only; omega, by simp only; omega⟩
  · exact ⟨h.file, h.state, h.force, h.claims, h.dates, h.bad, ap h.owners ⟨hb, by simp [i64], by simp [i64]⟩, h.lics, by simp only; omega, by simp only; omega, by simp only; omega, by simpa using h3, by simp only; omega⟩
  · exact ⟨h.file, h.state, h.force, h.claims, h.dates, h.bad, ap h.owners ⟨by simp [i64], hb, by simp [i64]⟩, h.lics, by simp only; omega, by simp only; omega, by simp only; omega, by simpa using h3, by simp only; omega⟩
  · exact ⟨h.file, h.state, h.force, h.claims, h.dates, h.bad, h.owners, ap h.lics ⟨by simp [i64], by simp [i64], by simp [i64], hb⟩, by simp only; omega, by simp only; omega, by simp only; omega, by simp only; omega, by simpa using h4⟩
theorem ho_dat (l : List Dat) : headOK 4 (l.map Dat.V) = true := by cases l <;> rfl
theorem ho_own (l : List Own) : headOK 3 (l.map Own.V) = true := by cases l <;> rfl
theorem ho_lic (l : List Lic) : headOK 4 (l.map Lic.V) = true := by cases l <;> rfl
theorem ho_clm (l : List Clm) : headOK 5 (l.map Clm.V) = true := by cases l <;> rfl
theorem ho_int (l : List Int) : headOK 1 (l.map (V.int .i64)) = true := by cases l <;> rfl
set_option maxRecDepth 100000 in
set_option maxHeartbeats 2000000 in
theorem p12 {m : Nat} (r : Rgt) (ht : r.tiny m) (hm : m ≤ 2 ^ 20) (how by_ : Int) : PSp Tryz.prog GLx 12 [r.V, .int .i64 how, .int .i64 by_] [(spoilF r how by_).V] := by
  refine psp_of_awp k12 rfl ?_
  have p1 := (p11 how 10 (by decide)).fsp
  have r0 := ht.lc; have r1 := ht.ld; have r2 := ht.lb; have r3 := ht.lo; have r4 := ht.ll
  have b0 : roomy (r.claims.length + 1) 88 = true := by simp [roomy]; omega
  have b1 : roomy (r.dates.length + 1) 32 = true := by simp [roomy]; omega
  have b2 : roomy (r.bad.length + 1) 8 = true := by simp [roomy]; omega
  have b3 : roomy (r.owners.length + 1) 24 = true := by simp [roomy]; omega
  have b4 : roomy (r.lics.length + 1) 32 = true := by simp [roomy]; omega
  have d0 : roomy r.claims.length 88 = true := by simp [roomy]; omega
  have d1 : roomy r.dates.length 32 = true := by simp [roomy]; omega
  have d2 : roomy r.bad.length 8 = true := by simp [roomy]; omega
  have d3 : roomy r.owners.length 24 = true := by simp [roomy]; omega
  have d4 : roomy r.lics.length 32 = true := by simp [roomy]; omega
  have w1 : IntKind.i64.wrap ((r.claims.length : Int) - 1) = r.claims.length - 1 := wrap_i64 (by omega) (by omega)
  have hs : spoilF r how by_ = spoilF r how by_ := rfl
  obtain ⟨S, hS⟩ : ∃ S, spoilF r how by_ = S := ⟨_, rfl⟩
  rw [hS]
  unfold spoilF at hS
  generalize aroundI how 10 = h at *
  simp at p1
  simp only [c12, awp_seq, awp_reg, awp_block, c12r0, c12r1, entry]
  simp [Rgt.V, Rgt.cs, nums, putL, d1, ho_dat]
  simp [c12r2, putL, d2, ho_int]
  simp [c12r3, putL, d3, ho_own]
  simp [c12r4, putL, d4, ho_lic, c12r5]
  refine ⟨_, _, p1 _, ?_⟩
  simp only [awp_seq, awp_reg, awp_cond, c12r7]
  simp
  by_cases h0 : h = 0
  · subst h0
    simp at hS
    subst hS
    simp [awp_reg, awp_seq, awp_cond, c12r8, putL, b0, b1, b2, b3, b4, d0, w1, ho_clm, c12r25, awp_ret, c12R, D.vs?, D.v?, Dat.V, Own.V, Lic.V, Clm.V, F.op, F.n, F.ins, F.kids, nums]
  by_cases h1 : h = 1
  · subst h1
    simp at hS
    subst hS
    simp [awp_reg, awp_seq, awp_cond, c12r9, c12r10, putL, b0, b1, b2, b3, b4, d0, w1, ho_clm, c12r25, awp_ret, c12R, D.vs?, D.v?, Dat.V, Own.V, Lic.V, Clm.V, F.op, F.n, F.ins, F.kids, nums]
  by_cases h2 : h = 2
  · subst h2
    simp at hS
    subst hS
    simp [awp_reg, awp_seq, awp_cond, c12r9, c12r11, c12r12, putL, b0, b1, b2, b3, b4, d0, w1, ho_clm, c12r25, awp_ret, c12R, D.vs?, D.v?, Dat.V, Own.V, Lic.V, Clm.V, F.op, F.n, F.ins, F.kids, nums]
  by_cases h3 : h = 3
  · subst h3
    simp at hS
    subst hS
    simp [awp_reg, awp_seq, awp_cond, c12r9, c12r11, c12r13, c12r14, putL, b0, b1, b2, b3, b4, d0, w1, ho_clm, c12r25, awp_ret, c12R, D.vs?, D.v?, Dat.V, Own.V, Lic.V, Clm.V, F.op, F.n, F.ins, F.kids, nums]
  by_cases h4 : h = 4
  · subst h4
    simp at hS
    subst hS
    simp [awp_reg, awp_seq, awp_cond, c12r9, c12r11, c12r13, c12r15, c12r16, putL, b0, b1, b2, b3, b4, d0, w1, ho_clm, c12r25, awp_ret, c12R, D.vs?, D.v?, Dat.V, Own.V, Lic.V, Clm.V, F.op, F.n, F.ins, F.kids, nums]
  by_cases h5 : h = 5
  · subst h5
    simp at hS
    subst hS
    simp [awp_reg, awp_seq, awp_cond, c12r9, c12r11, c12r13, c12r15, c12r17, c12r18, putL, b0, b1, b2, b3, b4, d0, w1, ho_clm, c12r25, awp_ret, c12R, D.vs?, D.v?, Dat.V, Own.V, Lic.V, Clm.V, F.op, F.n, F.ins, F.kids, nums]
  by_cases h6 : h = 6
  · subst h6
    simp at hS
    subst hS
    simp [awp_reg, awp_seq, awp_cond, c12r9, c12r11, c12r13, c12r15, c12r17, c12r19, c12r20, putL, b0, b1, b2, b3, b4, d0, w1, ho_clm, c12r25, awp_ret, c12R, D.vs?, D.v?, Dat.V, Own.V, Lic.V, Clm.V, F.op, F.n, F.ins, F.kids, nums]
  by_cases h7 : h = 7
  · subst h7
    simp at hS
    subst hS
    simp [awp_reg, awp_seq, awp_cond, c12r9, c12r11, c12r13, c12r15, c12r17, c12r19, c12r21, c12r22, putL, b0, b1, b2, b3, b4, d0, w1, ho_clm, c12r25, awp_ret, c12R, D.vs?, D.v?, Dat.V, Own.V, Lic.V, Clm.V, F.op, F.n, F.ins, F.kids, nums]
  by_cases h8 : h = 8
  · subst h8
    simp at hS
    subst hS
    simp [awp_reg, awp_seq, awp_cond, c12r9, c12r11, c12r13, c12r15, c12r17, c12r19, c12r21, c12r23, c12r24, putL, b0, b1, b2, b3, b4, d0, w1, ho_clm, c12r25, awp_ret, c12R, D.vs?, D.v?, Dat.V, Own.V, Lic.V, Clm.V, F.op, F.n, F.ins, F.kids, nums]
  simp [h0, h1, h2, h3, h4, h5, h6, h7, h8] at hS
  subst hS
  simp [h0, h1, h2, h3, h4, h5, h6, h7, h8, awp_reg, awp_seq, awp_cond, c12r9, c12r11, c12r13, c12r15, c12r17, c12r19, c12r21, c12r23, c12r6, putL, b4, c12r25, awp_ret, c12R, D.vs?, D.v?, Lic.V]
end Go.Va

namespace Go.Va
open Go.Proofs
theorem map_take_succ {α : Type} {l : List α} {k : Nat} {x : α} (h : l[k]? = some x) (f : α → V) : (l.map f).take (k + 1) = (l.map f).take k ++ [f x] := by
  rw [List.take_add_one, List.getElem?_map, h]; rfl
theorem map_take_all {α : Type} (l : List α) (f : α → V) : (l.map f).take l.length = l.map f := List.take_of_length_le (by simp)
def mkL (r : Rgt) (ds : List Dat) (os : List Own) (ls : List Lic) : Row :=
  .cells [.v (.int .i64 r.file), .v (.int .i64 r.state), .v (.int .i64 r.force), .v (.list (r.claims.map Clm.V)), .own 88 4 (ds.map Dat.V), .v (nums .i64 r.bad), .own 246 3 (os.map Own.V), .own 247 4 (ls.map Lic.V)]
set_option maxRecDepth 100000 in
theorem l53_0 (r : Rgt) (hn : r.dates.length ≤ 2 ^ 30) (R1 : Row) (os : List Own) (ls : List Lic) :
    awp Tryz.prog GLx (.loop c53l0) (fun e s => e = .exit 0 ∧ find s.e 1 = .ref 0 0 ∧ find s.e 2 = .ref 1 0 ∧ find s.e 3 = .ref 2 0 ∧ s.h = [r.row, R1, mkL r r.dates os ls])
      ⟨[(1, .ref 0 0), (2, .ref 1 0), (3, .ref 2 0), (4, .v (.int .i64 0))], [r.row, R1, mkL r [] os ls]⟩ := by
  refine awp_loop_nat0 r.dates.length (fun k => ⟨[(1, .ref 0 0), (2, .ref 1 0), (3, .ref 2 0), (4, .v (.int .i64 k))], [r.row, R1, mkL r (r.dates.take k) os ls]⟩) (by simp) ?_
  intro k hk
  simp only [c53l0, awp_seq, awp_reg, awp_block, awp_cond, c53r3]
  simp [Rgt.row]
  by_cases hlt : k < r.dates.length
  · obtain ⟨x, hxk⟩ : ∃ x, r.dates[k]? = some x := ⟨_, List.getElem?_eq_getElem hlt⟩
    have hxe : r.dates[k] = x := (List.getElem?_eq_some_iff.1 hxk).2
    have hw : IntKind.i64.wrap ((k : Int) + 1) = k + 1 := wrap_i64 (by omega) (by omega)
    have hroom : roomy (k + 1) 32 = true := by simp [roomy]; omega
    have ht : (r.dates.take k).length = k := by simp; omega
    have hm : min k r.dates.length = k := by omega
    have e := map_take_succ hxk Dat.V
    rw [if_pos (by omega), awp_skip]
    simp only [awp_regD, c53r5]
    simp [hxk, Dat.V, mkL, putL, hm, hroom]
    simp [c53r4, hw, hlt, e, Dat.V, mkL, Rgt.row]
  · have : k = r.dates.length := by omega
    subst this
    rw [if_neg (by omega), awp_exit]
    simp [Rgt.row]
set_option maxRecDepth 100000 in
theorem l53_1 (r : Rgt) (hn : r.owners.length ≤ 2 ^ 30) (R1 : Row) (ds : List Dat) (ls : List Lic) :
    awp Tryz.prog GLx (.loop c53l1) (fun e s => e = .exit 2 ∧ find s.e 1 = .ref 0 0 ∧ find s.e 2 = .ref 1 0 ∧ find s.e 3 = .ref 2 0 ∧ s.h = [r.row, R1, mkL r ds r.owners ls])
      ⟨[(1, .ref 0 0), (2, .ref 1 0), (3, .ref 2 0), (5, .v (.int .i64 0))], [r.row, R1, mkL r ds [] ls]⟩ := by
  refine awp_loop_nat0 r.owners.length (fun k => ⟨[(1, .ref 0 0), (2, .ref 1 0), (3, .ref 2 0), (5, .v (.int .i64 k))], [r.row, R1, mkL r ds (r.owners.take k) ls]⟩) (by simp) ?_
  intro k hk
  simp only [c53l1, awp_seq, awp_reg, awp_block, awp_cond, c53r7]
  simp [Rgt.row]
  by_cases hlt : k < r.owners.length
  · obtain ⟨x, hxk⟩ : ∃ x, r.owners[k]? = some x := ⟨_, List.getElem?_eq_getElem hlt⟩
    have hxe : r.owners[k] = x := (List.getElem?_eq_some_iff.1 hxk).2
    have hw : IntKind.i64.wrap ((k : Int) + 1) = k + 1 := wrap_i64 (by omega) (by omega)
    have hroom : roomy (k + 1) 24 = true := by simp [roomy]; omega
    have ht : (r.owners.take k).length = k := by simp; omega
    have hm : min k r.owners.length = k := by omega
    have e := map_take_succ hxk Own.V
    rw [if_pos (by omega), awp_skip]
    simp only [awp_regD, c53r9]
    simp [hxk, Own.V, mkL, putL, hm, hroom]
    simp [c53r8, hw, hlt, e, Own.V, mkL, Rgt.row]
  · have : k = r.owners.length := by omega
    subst this
    rw [if_neg (by omega), awp_exit]
    simp [Rgt.row]
set_option maxRecDepth 100000 in
theorem l53_2 (r : Rgt) (hn : r.lics.length ≤ 2 ^ 30) (R1 : Row) (ds : List Dat) (os : List Own) :
    awp Tryz.prog GLx (.loop c53l2) (fun e s => e = .exit 4 ∧ find s.e 1 = .ref 0 0 ∧ find s.e 2 = .ref 1 0 ∧ find s.e 3 = .ref 2 0 ∧ ∃ J, s.h = r.row :: R1 :: mkL r ds os r.lics :: J)
      ⟨[(1, .ref 0 0), (2, .ref 1 0), (3, .ref 2 0), (6, .v (.int .i64 0))], [r.row, R1, mkL r ds os []]⟩ := by
  refine awp_loop_I r.lics.length (fun k s => s.e = [(1, .ref 0 0), (2, .ref 1 0), (3, .ref 2 0), (6, .v (.int .i64 k))] ∧ ∃ J, s.h = r.row :: R1 :: mkL r ds os (r.lics.take k) :: J) ⟨by simp, [], by simp⟩ ?_
  rintro k ⟨se, sh⟩ hk ⟨he, J2, hh⟩
  simp only at he hh
  subst he hh
  simp only [c53l2, awp_seq, awp_reg, awp_block, awp_cond, c53r11]
  simp [Rgt.row]
  by_cases hlt : k < r.lics.length
  · obtain ⟨x, hxk⟩ : ∃ x, r.lics[k]? = some x := ⟨_, List.getElem?_eq_getElem hlt⟩
    have hxe : r.lics[k] = x := (List.getElem?_eq_some_iff.1 hxk).2
    have hw : IntKind.i64.wrap ((k : Int) + 1) = k + 1 := wrap_i64 (by omega) (by omega)
    have hroom : roomy (k + 1) 32 = true := by simp [roomy]; omega
    have ht : (r.lics.take k).length = k := by simp; omega
    have hm : min k r.lics.length = k := by omega
    have e := map_take_succ hxk Lic.V
    rw [if_pos (by omega), awp_skip]
    simp only [awp_reg, c53r13]
    simp [hxk, Lic.V, mkL, putL, hm, hroom]
    simp only [c53r14]
    simp [mkL, putL, hm, hroom]
    simp [c53r12, hw, hlt, e, Lic.V, mkL, Rgt.row]
  · have : k = r.lics.length := by omega
    subst this
    rw [if_neg (by omega), awp_exit]
    simp [Rgt.row]
set_option maxRecDepth 100000 in
theorem p53 (r : Rgt) (hr : r.ok) : PSp Tryz.prog GLx 53 [r.V] [r.V] := by
  refine psp_of_awp k53 rfl ?_
  simp only [c53, awp_seq, awp_reg, awp_block, c53r0, c53r1, entry]
  simp [Rgt.V, Rgt.cs, putL, c53r2]
  have q0 := fun R1 => l53_0 r hr.ld R1 [] []
  have q1 := fun R1 => l53_1 r hr.lo R1 r.dates []
  have q2 := fun R1 => l53_2 r hr.ll R1 r.dates r.owners
  simp only [mkL, Rgt.row, Rgt.cs, List.map_nil] at q0 q1 q2
  refine awp_mono _ ?_ (q0 _)
  rintro e ⟨se, sh⟩ ⟨rfl, f1, f2, f3, hh⟩
  simp only at f1 f2 f3 hh
  subst hh
  simp [c53r6, f1, f2, f3]
  refine awp_mono _ ?_ (q1 _)
  rintro e ⟨se, sh⟩ ⟨rfl, f1, f2, f3, hh⟩
  simp only at f1 f2 f3 hh
  subst hh
  simp [c53r10, f1, f2, f3]
  refine awp_mono _ ?_ (q2 _)
  rintro e ⟨se, sh⟩ ⟨rfl, f1, f2, f3, J, hh⟩
  simp only at f1 f2 f3 hh
  subst hh
  simp [c53r15, f1, f2, f3, awp_ret, c53R, D.vs?, D.v?, putL, nums]
theorem p14 (l : List Rgt) (hl : ∀ r ∈ l, r.ok) (hn : l.length ≤ 2 ^ 30) : PSp Tryz.prog GLx 14 [.list (l.map Rgt.V)] [.list (l.map Rgt.V)] := by
  refine psp_of_awp k14 rfl ?_
  simp only [c14, awp_seq, awp_reg, awp_block, c14r0, c14r1, c14r2, entry]
  simp
  refine awp_loop_nat0 l.length (fun k => ⟨[(0, .v (.list (l.map Rgt.V))), (3, .own 74 8 ((l.take k).map Rgt.V)), (4, .v (.int .i64 k))], []⟩) (by simp) ?_
  intro k hk
  simp only [c14l0, awp_seq, awp_reg, awp_block, awp_cond, c14r3]
  simp
  by_cases hlt : k < l.length
  · obtain ⟨x, hxk⟩ : ∃ x, l[k]? = some x := ⟨_, List.getElem?_eq_getElem hlt⟩
    have hxe : l[k] = x := (List.getElem?_eq_some_iff.1 hxk).2
    have hw : IntKind.i64.wrap ((k : Int) + 1) = k + 1 := wrap_i64 (by omega) (by omega)
    have hroom : roomy (k + 1) 144 = true := by simp [roomy]; omega
    have hm : min k l.length = k := by omega
    have e := map_take_succ hxk Rgt.V
    have p1 := (p53 x (hl x (List.mem_of_getElem? hxk))).fsp
    rw [if_pos (by omega), awp_skip]
    simp only [awp_reg, c14r5]
    simp [Rgt.V, Rgt.cs] at p1
    simp [hxk, Rgt.V, Rgt.cs]
    refine ⟨_, _, p1 _, ?_⟩
    simp [hm, hroom, c14r4, hw, hlt, e, Rgt.V, Rgt.cs]
  · have : k = l.length := by omega
    subst this
    rw [if_neg (by omega), awp_exit]
    simp [c14r6, awp_ret, c14R, map_take_all]
end Go.Va

namespace Go.Va
open Go.Proofs
theorem p129 (l : List Int) (hi : ∀ n ∈ l, i64 n) (hn : l.length ≤ 2 ^ 30) (h : List Row) (w : Nat) (xs : List Int) (hw : h[w]? = some (wr xs)) (hb : xs.length ≤ 2 ^ 44) :
    FSp Tryz.prog GLx 129 [.v (nums .i64 l), .ref w 0] h [] (h.set w (wr (xs ++ l.flatMap encI))) := by
  refine fsp_of_awp k129 rfl ?_
  obtain ⟨HH, hHH⟩ : ∃ HH, h.set w (wr (xs ++ l.flatMap encI)) = HH := ⟨_, rfl⟩
  rw [hHH]
  simp only [c129, awp_seq, awp_reg, awp_block, c129r0, entryD]
  simp [nums]
  refine awp_loop_nat0 l.length (fun k => ⟨[(1, .ref w 0), (5, .v (nums .i64 l)), (6, .v (.int .i64 l.length)), (7, .v (.int .i64 k))], h.set w (wr (xs ++ (l.take k).flatMap encI))⟩) ?_ ?_
  · have : h.set w (wr xs) = h := by
      obtain ⟨g1, g2⟩ := List.getElem?_eq_some_iff.1 hw
      rw [← g2, List.set_getElem_self]
    simp [nums, this]
  intro k hk
  simp only [c129l0, awp_seq, awp_reg, awp_block, awp_cond, c129r1]
  simp [nums]
  by_cases h1 : k < l.length
  · have hx : l[k]? = some l[k] := List.getElem?_eq_getElem h1
    have hww : IntKind.i64.wrap ((k : Int) + 1) = k + 1 := wrap_i64 (by omega) (by omega)
    have hf := flat_encI_len (l.take k)
    have ht : (l.take k).length = k := by simp; omega
    rw [if_pos (by omega), awp_skip]
    simp only [awp_reg, c129r2, c129r3]
    simp [hx]
    refine ⟨_, _, (p98 l[k] (hi _ (List.getElem_mem h1)) (h.set w (wr (xs ++ (l.take k).flatMap encI))) w _ (get_set hw) (by rw [List.length_append]; omega)), ?_⟩
    simp [c129r4, hww, h1]
    rw [flat_take h1]
  · have : k = l.length := by omega
    subst this
    rw [if_neg (by omega), awp_exit]
    simp [c129R, hHH]
set_option maxHeartbeats 1000000 in
theorem p128 (r : Rgt) (hr : r.ok) : PSp Tryz.prog GLx 128 [r.V] [.bool (formedR r)] := by
  refine psp_of_awp k128 rfl ?_
  obtain ⟨R, hR⟩ : ∃ R, formedR r = R := ⟨_, rfl⟩
  rw [hR]
  unfold formedR at hR
  have hlc := hr.lc
  have hld := hr.ld
  have hll := hr.ll
  have p1 := (p216 r.file 0 4095).fsp
  have p2 := (p216 r.state 0 4).fsp
  have p3 := (p216 r.force 0 4).fsp
  have p4 := (p138 r.claims hr.claims (by omega)).fsp
  have p5 := fun (h : List Row) (q : Nat) (hq : h[q]? = some (.cells [.v (.int .i64 r.claims.length)])) (hl : Low h) =>
    p217 r.dates (datOK r.claims.length) (.func 218 [.ref q 0]) 218 [.ref q 0] (FV.r 218 q 0 []) rfl rfl h hl (by simp [D.lt, D.lts]; exact lt_of_get hq) (by omega) fun x _ H h1 h2 => p218 x r.claims.length H q (h2 q _ hq) ⟨by omega, by omega⟩ h1
  have p6 := (p219 r.dates (by omega)).fsp
  have p7 := fun (h : List Row) (q : Nat) (hq : h[q]? = some (.cells [.v (.int .i64 r.claims.length)])) (hl : Low h) =>
    p221 r.bad (fun i => inI i 0 (r.claims.length - 1)) (.func 222 [.ref q 0]) 222 [.ref q 0] (FV.r 222 q 0 []) rfl rfl h hl (by simp [D.lt, D.lts]; exact lt_of_get hq) (by have := hr.lb; omega) fun x _ H h1 h2 => p222 x r.claims.length H q (h2 q _ hq) ⟨by omega, by omega⟩
  have p8 := (p223 r.bad (by have := hr.lb; omega)).fsp
  have p9 := fun (h : List Row) (hl : Low h) => p225 r.owners ownOK (.v (.func 226 [])) 226 [] (FV.v 226 []) rfl rfl h hl rfl (by have := hr.lo; omega) fun x hx H h1 h2 => (p226 x (hr.owners x hx)).fsp H
  have p10 := (p228 r.owners (by have := hr.lo; omega)).fsp
  have p11 := fun (h : List Row) (hl : Low h) => p230 r.lics licOK (.v (.func 231 [])) 231 [] (FV.v 231 []) rfl rfl h hl rfl (by omega) fun x hx H h1 h2 => (p231 x).fsp H
  have low2 : ∀ a b c d e f g i n : V, Low [.cells [.v a, .v b, .v c, .v d, .v e, .v f, .v g, .v i], .cells [.v n]] := by
    intro a b c d e f g i n row hrow
    simp at hrow
    rcases hrow with rfl | rfl <;> rfl
  simp [nums] at p1 p2 p3 p4 p5 p6 p7 p8 p9 p10 p11
  simp only [c128, awp_seq, awp_reg, awp_block, awp_cond, c128r0, c128r1, entry]
  simp [Rgt.V, Rgt.cs, putL]
  generalize inI r.file 0 4095 = A1 at *
  generalize inI r.state 0 4 = A2 at *
  generalize inI r.force 0 4 = A3 at *
  generalize clmsE r.claims = A4 at *
  generalize r.dates.all (datOK r.claims.length) = B1 at *
  generalize rising datLt r.dates = B2 at *
  generalize (r.bad.all fun i => inI i 0 (r.claims.length - 1)) = B3 at *
  generalize rising (fun a b => decide (a < b)) r.bad = B4 at *
  generalize r.owners.all ownOK = B5 at *
  generalize rising (fun a b => decide (a.party < b.party)) r.owners = B6 at *
  generalize r.lics.all licOK = B7 at *
  simp only [c128r2]
  simp
  refine ⟨_, _, p1 _, ?_⟩
  cases A1 with
  | false => simp at hR; simp [awp_seq, awp_reg, awp_ret, c128r3, c128R, hR]
  | true =>
  simp
  refine ⟨_, _, p2 _, ?_⟩
  cases A2 with
  | false => simp at hR; simp [awp_seq, awp_reg, awp_ret, c128r3, c128R, hR]
  | true =>
  simp
  refine ⟨_, _, p3 _, ?_⟩
  cases A3 with
  | false => simp at hR; simp [awp_seq, awp_reg, awp_ret, c128r3, c128R, hR]
  | true =>
  simp
  refine ⟨_, _, p4 _, ?_⟩
  by_cases h4 : A4 = 0
  case neg =>
    have hf : R = false := by rw [← hR]; simp [h4]
    simp [h4, awp_seq, awp_reg, awp_ret, c128r3, c128R, hf]
  subst h4
  by_cases h5 : 4096 < r.dates.length
  · have h5' : 4096 < (r.dates.length : Int) := by omega
    have hf : R = false := by rw [← hR]; simp; omega
    simp [h5', awp_seq, awp_reg, awp_ret, c128r3, c128R, hf]
  have h5' : ¬ 4096 < (r.dates.length : Int) := by omega
  by_cases h6 : 4096 < r.lics.length
  · have h6' : 4096 < (r.lics.length : Int) := by omega
    have hf : R = false := by rw [← hR]; simp; omega
    simp [h5', h6', awp_seq, awp_reg, awp_ret, c128r3, c128R, hf]
  have h6' : ¬ 4096 < (r.lics.length : Int) := by omega
  have e5 : r.dates.length ≤ 4096 := by omega
  have e6 : r.lics.length ≤ 4096 := by omega
  have hR2 : (B1 && B2 && (B3 && B4) && (B5 && B6) && B7) = R := by rw [← hR]; simp [e5, e6]
  clear hR
  simp [h5', h6', awp_skip]
  generalize hrows : [Row.cells [D.v (V.int IntKind.i64 r.file), D.v (V.int IntKind.i64 r.state), D.v (V.int IntKind.i64 r.force), D.v (V.list (List.map Clm.V r.claims)), D.v (V.list (List.map Dat.V r.dates)), D.v (nums IntKind.i64 r.bad), D.v (V.list (List.map Own.V r.owners)), D.v (V.list (List.map Lic.V r.lics))],
    Row.cells [D.v (V.int IntKind.i64 ↑r.claims.length)]] = H
  have hlow : Low H := by rw [← hrows]; exact low2 _ _ _ _ _ _ _ _ _
  have h0 : H[0]? = some (Row.cells [D.v (V.int IntKind.i64 r.file), D.v (V.int IntKind.i64 r.state), D.v (V.int IntKind.i64 r.force), D.v (V.list (List.map Clm.V r.claims)), D.v (V.list (List.map Dat.V r.dates)), D.v (nums IntKind.i64 r.bad), D.v (V.list (List.map Own.V r.owners)), D.v (V.list (List.map Lic.V r.lics))]) := by rw [← hrows]; rfl
  have h1 : H[1]? = some (Row.cells [D.v (V.int IntKind.i64 ↑r.claims.length)]) := by rw [← hrows]; rfl
  have s4 : ∀ (K : St → Prop) (e : Env), find e 1 = .ref 0 0 → find e 3 = .ref 1 0 → (∀ e', find e' 1 = .ref 0 0 → find e' 3 = .ref 1 0 → find e' 4 = .v (.bool (B1 && B2)) → K ⟨e', H⟩) → awpOps Tryz.prog GLx c128r4 K ⟨e, H⟩ := by
    intro K e f1 f3 hK
    simp only [c128r4]
    simp [D.vs?, D.v?, f1, f3, h0]
    refine ⟨_, _, (p5 _ 1 h1 hlow), ?_⟩
    cases B1 with
    | false => simp; exact hK _ f1 f3 rfl
    | true =>
      simp [h0, nums]
      refine ⟨_, _, (p6 _), ?_⟩
      cases B2 <;> (simp; exact hK _ f1 f3 rfl)
  have s5 : ∀ (K : St → Prop) (e : Env), find e 1 = .ref 0 0 → find e 3 = .ref 1 0 → (∀ e', find e' 1 = .ref 0 0 → find e' 4 = find e 4 → find e' 5 = .v (.bool (B3 && B4)) → K ⟨e', H⟩) → awpOps Tryz.prog GLx c128r5 K ⟨e, H⟩ := by
    intro K e f1 f3 hK
    simp only [c128r5]
    simp [D.vs?, D.v?, f1, f3, h0, nums]
    refine ⟨_, _, (p7 _ 1 h1 hlow), ?_⟩
    cases B3 with
    | false => simp; exact hK _ f1 rfl rfl
    | true =>
      simp [h0, nums]
      refine ⟨_, _, (p8 _), ?_⟩
      cases B4 <;> (simp; exact hK _ f1 rfl rfl)
  have s6 : ∀ (K : St → Prop) (e : Env), find e 1 = .ref 0 0 → (∀ e', find e' 1 = .ref 0 0 → find e' 4 = find e 4 → find e' 5 = find e 5 → find e' 6 = .v (.bool (B5 && B6)) → K ⟨e', H⟩) → awpOps Tryz.prog GLx c128r6 K ⟨e, H⟩ := by
    intro K e f1 hK
    simp only [c128r6]
    simp [f1, h0]
    refine ⟨_, _, (p9 _ hlow), ?_⟩
    cases B5 with
    | false => simp; exact hK _ f1 rfl rfl rfl
    | true =>
      simp [h0, nums]
      refine ⟨_, _, (p10 _), ?_⟩
      cases B6 <;> (simp; exact hK _ f1 rfl rfl rfl)
  have s7 : ∀ (K : St → Prop) (e : Env), find e 1 = .ref 0 0 → (∀ e', find e' 4 = find e 4 → find e' 5 = find e 5 → find e' 6 = find e 6 → find e' 7 = .v (.bool B7) → K ⟨e', H⟩) → awpOps Tryz.prog GLx c128r7 K ⟨e, H⟩ := by
    intro K e f1 hK
    simp only [c128r7]
    simp [f1, h0]
    refine ⟨_, _, (p11 _ hlow), ?_⟩
    simp
    exact hK _ rfl rfl rfl rfl
  refine s4 _ _ rfl rfl ?_
  intro e4 g1 g3 g4
  refine s5 _ _ (by simp [g1]) (by simp [g3]) ?_
  intro e5 k1 k4 k5
  refine s6 _ _ (by simp [k1]) ?_
  intro e6' m1 m4 m5 m6
  refine s7 _ _ (by simp [m1]) ?_
  intro e7 n4 n5 n6 n7
  simp at k4 m4 m5 n4 n5 n6
  generalize (B1 && B2) = C1 at *
  generalize (B3 && B4) = C2 at *
  generalize (B5 && B6) = C3 at *
  subst hR2
  simp only [c128r8]
  simp [n4, n5, n6, n7, m4, m5, m6, k4, k5, g4]
  cases C1 <;> cases C2 <;> cases C3 <;> simp [awp_ret, c128R]
end Go.Va

namespace Go.Va
open Go.Proofs
def X232 (A B R : Row) (xs : List Int) : List Row := [A, wr xs, .cells [.ref 1 0], B, R]
theorem ivl_i64 {x : Ivl} (hx : x.ok) : ∀ n ∈ [x.ln, x.ld, x.hn, x.hd, b01 x.lo, b01 x.ho, b01 x.li, b01 x.hi], i64 n := by
  intro n hn
  simp at hn
  rcases hn with rfl | rfl | rfl | rfl | rfl | rfl | rfl | rfl
  · exact hx.1
  · exact hx.2.1
  · exact hx.2.2.1
  · exact hx.2.2.2
  all_goals exact b01_i64 _
def Ivl.row (x : Ivl) : Row := .cells [.v (.int .i64 x.ln), .v (.int .i64 x.ld), .v (.int .i64 x.hn), .v (.int .i64 x.hd), .v (.bool x.lo), .v (.bool x.ho), .v (.bool x.li), .v (.bool x.hi)]
theorem l232 (A B R : Row) (ins : List Ivl) (hins : ∀ x ∈ ins, x.ok) (hl : ins.length ≤ 2 ^ 40) (xs : List Int) (hb : xs.length + (ins.flatMap encIvl).length ≤ 2 ^ 43) (d6 : D) (J : List Row) :
    awp Tryz.prog GLx (.loop c232l1) (fun e s => e = .exit 2 ∧ find s.e 5 = .ref 2 0 ∧ find s.e 6 = d6 ∧ s.h = X232 A B R (xs ++ ins.flatMap encIvl) ++ (J ++ ins.map Ivl.row))
      ⟨[(5, .ref 2 0), (6, d6), (33, .v (.list (ins.map Ivl.V))), (34, .v (.int .i64 ins.length)), (35, .v (.int .i64 0))], X232 A B R xs ++ J⟩ := by
  refine awp_loop_I ins.length (fun k s => s.e = [(5, .ref 2 0), (6, d6), (33, .v (.list (ins.map Ivl.V))), (34, .v (.int .i64 ins.length)), (35, .v (.int .i64 k))] ∧ s.h = X232 A B R (xs ++ (ins.take k).flatMap encIvl) ++ (J ++ (ins.map Ivl.row).take k)) ⟨rfl, by simp⟩ ?_
  rintro k ⟨se, sh⟩ hk ⟨he, hh⟩
  simp only at he hh
  subst he hh
  simp only [c232l1, awp_seq, awp_reg, awp_block, awp_cond, c232r11]
  simp
  by_cases hlt : k < ins.length
  · obtain ⟨x, hx⟩ : ∃ x, ins[k]? = some x := ⟨_, List.getElem?_eq_getElem hlt⟩
    have hxe : ins[k] = x := (List.getElem?_eq_some_iff.1 hx).2
    have ox := hins x (List.mem_of_getElem? hx)
    have hw : IntKind.i64.wrap ((k : Int) + 1) = k + 1 := wrap_i64 (by omega) (by omega)
    rw [if_pos (by omega), awp_skip]
    simp only [awp_reg, awp_regD, c232r12, c232r13]
    simp [hx, Ivl.V, putL, X232]
    refine ⟨_, _, ⟨rfl, rfl⟩, _, p295 x.lo, _, _, ⟨rfl, rfl⟩, _, p295 x.ho, _, _, ⟨rfl, rfl⟩, _, p295 x.li, _, _, ⟨rfl, rfl⟩, _, p295 x.hi, ?_⟩
    simp
    have hle := flat_len_take ins encIvl (k + 1)
    rw [flat_take hlt, hxe, List.length_append] at hle
    have hp := fun h hr => p100 [x.ln, x.ld, x.hn, x.hd, b01 x.lo, b01 x.ho, b01 x.li, b01 x.hi] (ivl_i64 ox) (by simp) h 1 (xs ++ (ins.take k).flatMap encIvl) hr (by rw [List.length_append]; omega)
    simp [nums] at hp
    refine ⟨_, _, hp _ rfl, ?_⟩
    have htk : ins.take (k + 1) = ins.take k ++ [x] := by rw [List.take_succ_eq_append_getElem hlt, hxe]
    have htr : (ins.map Ivl.row).take (k + 1) = (ins.map Ivl.row).take k ++ [x.row] := by rw [← List.map_take, htk, List.map_append, List.map_take]; rfl
    simp [c232r14, hw, hlt, htk, -List.map_take]
    exact ⟨rfl, htr.symm⟩
  · have : k = ins.length := by omega
    subst this
    rw [if_neg (by omega), awp_exit]
    simp
    exact List.take_of_length_le (by simp)
end Go.Va

namespace Go.Va
open Go.Proofs
theorem y232 (A B : Row) (e0 : Env) (he : find e0 5 = .ref 2 0) (g : F) (hg : g.ok1) (hk : g.kids.length ≤ 2 ^ 40) (xs : List Int) (hb : xs.length + (encNode g).length ≤ 2 ^ 43) (J : List Row) :
    YSp Tryz.prog GLx 4 [.v g.V] (X232 A B (recRow Tryz.prog GLx .ready e0 [18] c232a0 c232b0) xs ++ J) true (X232 A B (recRow Tryz.prog GLx .ready e0 [18] c232a0 c232b0) (xs ++ encNode g) ++ (J ++ (.cells g.cells :: g.ins.map Ivl.row))) := by
  obtain ⟨op, n, ins, kids⟩ := g
  obtain ⟨o1, o2, o3, o4⟩ := hg
  simp only [F.op, F.n, F.ins, F.kids] at *
  refine ysp_of_awp (e0 := e0) (ps := [18]) (asg := c232a0) (body := c232b0) (by simp [X232]) rfl ?_
  simp only [F.cells, F.op, F.n, F.ins, F.kids, F.V_eq, encNode] at *
  simp only [List.length_append] at hb
  have il : i64 (ins.length : Int) := by unfold i64; omega
  have kl : i64 (kids.length : Int) := by unfold i64; omega
  simp only [setPs, c232a0, c232b0, awp_reg, awp_block, awp_seq, c232r6, c232r7, c232r8, c232r9, c232r10]
  simp [X232, he, putL]
  refine ⟨_, _, (p98 op o1 _ 1 xs rfl (by omega)), ?_⟩
  simp
  refine ⟨_, _, (p98 n o2 _ 1 (xs ++ encI op) rfl (by simp; omega)), ?_⟩
  simp
  refine ⟨_, _, (p98 ins.length il _ 1 (xs ++ (encI op ++ encI n)) (by simp) (by simp; omega)), ?_⟩
  simp
  have hl := l232 A B (recRow Tryz.prog GLx .busy e0 [18] c232a0 c232b0) ins o3 o4 (xs ++ (encI op ++ (encI n ++ encI ins.length))) (by simp only [List.length_append]; omega) (.ref (J.length + 5) 0) (J ++ [.cells [.v (.int .i64 op), .v (.int .i64 n), .v (.list (ins.map Ivl.V)), .v (.list (kids.map F.V))]])
  simp [X232] at hl
  refine awp_mono _ ?_ hl
  rintro e ⟨se, sh⟩ ⟨rfl, h5, h6, hh⟩
  simp only at h5 h6 hh
  subst hh
  simp [c232r15, h5, h6]
  refine ⟨_, _, (p98 kids.length kl _ 1 (xs ++ (encI op ++ (encI n ++ (encI ins.length ++ ins.flatMap encIvl)))) (by simp) (by simp only [List.length_append]; omega)), ?_⟩
  simp [roundEnd]
  rfl
theorem r232 (A B : Row) (e0 : Env) (he : find e0 5 = .ref 2 0) : ∀ (ns : List F), (∀ g ∈ ns, g.ok1 ∧ g.kids.length ≤ 2 ^ 40) → ∀ xs : List Int, xs.length + (ns.flatMap encNode).length ≤ 2 ^ 43 →
    RunY Tryz.prog GLx 4 (ns.map F.V) (X232 A B (recRow Tryz.prog GLx .ready e0 [18] c232a0 c232b0) xs) true (X232 A B (recRow Tryz.prog GLx .ready e0 [18] c232a0 c232b0) (xs ++ ns.flatMap encNode)) := by
  intro ns
  induction ns with
  | nil => intro _ xs _; exact ⟨rfl, by simp⟩
  | cons g ns ih =>
    intro hk xs hb
    rw [List.flatMap_cons, List.length_append] at hb
    obtain ⟨h1, h2⟩ := hk g (by simp)
    refine ⟨true, X232 A B (recRow Tryz.prog GLx .ready e0 [18] c232a0 c232b0) (xs ++ encNode g), rfl, fun J => ⟨_, y232 A B e0 he g h1 h2 xs (by omega) J⟩, ?_⟩
    have := ih (fun x hx => hk x (by simp [hx])) (xs ++ encNode g) (by rw [List.length_append]; omega)
    rw [List.append_assoc] at this
    exact this
theorem F.kids_le : ∀ f : F, ∀ g ∈ f.nodes, g.kids.length ≤ f.size := by
  refine F.ind fun op n ins kids ih g hg => ?_
  rw [F.size_eq]
  rw [F.nodes_eq] at hg
  rcases List.mem_cons.1 hg with rfl | hg
  · have := F.kids_len kids; simp only [F.kids]; omega
  · obtain ⟨k, hk, hg⟩ := List.mem_flatMap.1 hg
    have := ih k hk g hg
    have := F.kid_size hk; omega
theorem p232 (f : F) (hok : f.ok) (hb : (encF f).length ≤ 2 ^ 43) : PSp Tryz.prog GLx 232 [f.V] [nums .u8 (if formE f = 0 then encF f else []), .int .i64 (formE f)] := by
  refine psp_of_awp k232 rfl ?_
  have h1 := (p66 f hok).fsp
  have h68 := p68 f
  have hsz := hok.2
  have hr := r232 (.cells f.cells) (.cells f.cells) (cpE [(5, .ref 2 0), (17, .func 147 [.ref 3 0])]) rfl f.nodes (fun g hg => ⟨hok.1 g hg, by have := F.kids_le f g hg; omega⟩) [] (by simpa [encF] using hb)
  obtain ⟨J, hp⟩ := p147 f hok 4 3 _ _ _ hr rfl
  have e0 : ([] : List Int) ++ f.nodes.flatMap encNode = encF f := rfl
  rw [e0] at hp
  generalize encF f = bs at *
  generalize formE f = er at *
  obtain ⟨op, n, ins, kids⟩ := f
  simp only [F.cells, F.op, F.n, F.ins, F.kids, F.V_eq] at *
  simp only [c232, awp_seq, awp_reg, awp_block, awp_cond, c232r0, c232r1, c232r2, entry]
  simp at h1 h68
  simp
  refine ⟨_, _, h1 _, ?_⟩
  by_cases h0 : er = 0
  · subst h0
    simp [awp_skip, awp_reg, c232r4, c232r5, putL]
    refine ⟨_, _, h68 _, ?_⟩
    simp
    refine awp_range_of 147 [.ref 3 0] [] _ _ .ready rfl rfl hp rfl ?_
    simp [rangeEnd, awp_reg, c232r16, X232]
    refine ⟨_, _, (p102 _ 1 bs rfl (by omega)), ?_⟩
    simp [awp_ret, c232R, nums]
  · simp [h0, awp_seq, awp_reg, awp_ret, c232r3, c232R, nums]
end Go.Va

namespace Go.Va
open Go.Proofs
def isB (l : List Int) : Prop := ∀ x ∈ l, 0 ≤ x ∧ x < 256
theorem isB.app {a b : List Int} (ha : isB a) (hb : isB b) : isB (a ++ b) := fun x hx => (List.mem_append.1 hx).elim (ha x) (hb x)
theorem isB.flat {α : Type} {f : α → List Int} {l : List α} (h : ∀ x ∈ l, isB (f x)) : isB (l.flatMap f) := fun y hy => by
  obtain ⟨x, hx, hy⟩ := List.mem_flatMap.1 hy
  exact h x hx y hy
theorem isB.uvarF : ∀ (k : Nat) (n : Int), 0 ≤ n → n < 128 ^ (k + 1) → isB (Go.Va.uvarF k n)
  | 0, n, h0, h1 => by
    have e : (128 : Int) ^ (0 + 1) = 128 := by decide
    intro x hx
    simp [Go.Va.uvarF] at hx; subst hx; omega
  | k + 1, n, h0, h1 => by
    simp only [Go.Va.uvarF]
    split
    · intro x hx; simp at hx; omega
    · intro x hx
      rcases List.mem_cons.1 hx with rfl | hx
      · omega
      · exact isB.uvarF k (n / 128) (by omega) (Int.ediv_lt_of_lt_mul (by decide) (by rw [← Int.pow_succ]; exact h1)) x hx
theorem isB.uvar {n : Int} (h0 : 0 ≤ n) (h1 : n < 18446744073709551616) : isB (Go.Va.uvar n) := by
  have e : (128 : Int) ^ (9 + 1) = 1180591620717411303424 := by decide
  exact isB.uvarF 9 n h0 (by omega)
theorem isB.encI {n : Int} (h : i64 n) : isB (Go.Va.encI n) := isB.uvar (zigI_u64 h).1 (zigI_u64 h).2
theorem isB.encInts {l : List Int} (h : ∀ n ∈ l, i64 n) (hl : l.length ≤ 2 ^ 60) : isB (Go.Va.encInts l) := (isB.uvar (by omega) (by omega)).app (isB.flat fun n hn => isB.encI (h n hn))
theorem isB.encRaw {l : List Int} (h : isB l) (hl : l.length ≤ 2 ^ 60) : isB (Go.Va.encRaw l) := (isB.uvar (by omega) (by omega)).app h
theorem isB.encF {f : F} (hf : f.ok) : isB (Go.Va.encF f) := by
  refine isB.flat fun g hg => ?_
  obtain ⟨h1, h2, h3, h4⟩ := hf.1 g hg
  have hk := F.kids_le f g hg
  have hs := hf.2
  exact (isB.encI h1).app ((isB.encI h2).app ((isB.encI (by unfold i64; omega)).app ((isB.flat fun x hx => isB.encInts (ivl_i64 (h3 x hx)) (by simp)).app (isB.encI (by unfold i64; omega)))))
theorem isB.encClms {l : List Clm} (hl : ∀ c ∈ l, c.ok) (hn : l.length ≤ 2 ^ 40) (hb : (Go.Va.encClms l).length ≤ 2 ^ 60) : isB (Go.Va.encClms l) := by
  refine (isB.encI (by unfold i64; omega)).app (isB.flat fun c hc => ?_)
  obtain ⟨o1, o2, o3⟩ := hl c hc
  unfold Go.Va.encClms at hb
  rw [List.length_append] at hb
  have := flat_len_mem (f := encClm) hc
  simp only [encClm, List.length_append, Go.Va.encRaw] at this
  exact (isB.encInts o1 (by omega)).app (isB.encRaw (isB.encF o3) (by omega))
theorem firstE_all {e : Nat → Int} : ∀ (m k : Nat), firstE e k m = 0 → ∀ j, k ≤ j → j < k + m → e j = 0
  | 0, k, _, j, h1, h2 => by omega
  | m + 1, k, h, j, h1, h2 => by
    simp only [firstE] at h
    split at h
    · rename_i h3; exact absurd h h3
    · rename_i h3
      by_cases hj : j = k
      · subst hj; simpa using h3
      · exact firstE_all m (k + 1) h j (by omega) (by omega)
theorem clmsE_all {l : List Clm} (h : clmsE l = 0) : ∀ c ∈ l, formE c.body = 0 := by
  intro c hc
  unfold clmsE at h
  split at h
  · cases h
  · obtain ⟨k, hk, hx⟩ := List.getElem_of_mem hc
    have := firstE_all _ _ h k (by omega) (by omega)
    unfold clmAt at this
    rw [List.getElem?_eq_getElem hk, hx] at this
    simp only [clmE] at this
    split at this
    · cases this
    · split at this
      · exact this
      · cases this
theorem p130 (l : List Clm) (hl : ∀ c ∈ l, c.ok) (hn : l.length ≤ 2 ^ 40) (hb : (encClms l).length ≤ 2 ^ 39) : PSp Tryz.prog GLx 130 [.list (l.map Clm.V)] [nums .u8 (if clmsE l = 0 then encClms l else []), .int .i64 (clmsE l)] := by
  refine psp_of_awp k130 rfl ?_
  have p1 := (p138 l hl hn).fsp
  have hz : clmsE l = 0 → ∀ c ∈ l, formE c.body = 0 := clmsE_all
  have il : i64 (l.length : Int) := by unfold i64; omega
  generalize clmsE l = e at *
  unfold encClms at hb ⊢
  rw [List.length_append] at hb
  simp only [c130, awp_seq, awp_reg, awp_block, awp_cond, c130r0, c130r1, c130r2, entry]
  simp
  refine ⟨_, _, p1 _, ?_⟩
  by_cases h : e = 0
  · subst h
    have hz := hz rfl
    simp [awp_skip, awp_reg, c130r4, c130r5, putL]
    refine ⟨_, _, (p98 l.length il _ 0 [] rfl (by simp)), ?_⟩
    simp [c130r6]
    refine awp_loop_I l.length (fun k s => s.e = [(5, .ref 0 0), (21, .v (.list (l.map Clm.V))), (22, .v (.int .i64 l.length)), (23, .v (.int .i64 k))] ∧ ∃ J, s.h = wr (encI l.length ++ (l.take k).flatMap encClm) :: J) ⟨rfl, [], by simp⟩ ?_
    rintro k ⟨se, sh⟩ hk ⟨he, J, hh⟩
    simp only at he hh
    subst he hh
    simp only [c130l0, awp_seq, awp_reg, awp_block, awp_cond, c130r7]
    simp
    by_cases hlt : k < l.length
    · obtain ⟨x, hx⟩ : ∃ x, l[k]? = some x := ⟨_, List.getElem?_eq_getElem hlt⟩
      have hxm := List.mem_of_getElem? hx
      have hxe : l[k] = x := (List.getElem?_eq_some_iff.1 hx).2
      obtain ⟨o1, o2, o3⟩ := hl x hxm
      have hf := hz x hxm
      have hw : IntKind.i64.wrap ((k : Int) + 1) = k + 1 := wrap_i64 (by omega) (by omega)
      have hle := flat_len_take l encClm (k + 1)
      rw [flat_take hlt, hxe, List.length_append] at hle
      have e : (l.take (k + 1)).flatMap encClm = (l.take k).flatMap encClm ++ encClm x := by rw [flat_take hlt, hxe]
      have ec : (encClm x).length = (encInts x.refs).length + (encRaw (encF x.body)).length := by simp [encClm]
      have er : (encRaw (encF x.body)).length = (uvar (encF x.body).length).length + (encF x.body).length := by simp [encRaw]
      have p2 := (p232 x.body o3 (by omega)).fsp
      have hp100 := fun h hr => p100 x.refs o1 o2 h 0 (encI l.length ++ (l.take k).flatMap encClm) hr (by rw [List.length_append]; omega)
      have hbytes : isB (encF x.body) := isB.encF o3
      have hp99 := fun h hr => p99 (encF x.body) hbytes (by omega) h 0 (encI l.length ++ ((l.take k).flatMap encClm ++ encInts x.refs)) hr (by simp only [List.length_append]; omega)
      rw [F.V_flds, hf] at p2
      have e2 : encClm x = encInts x.refs ++ encRaw (encF x.body) := rfl
      generalize encRaw (encF x.body) = B at *
      generalize encInts x.refs = A at *
      generalize encF x.body = C at *
      rw [if_pos (by omega), awp_skip]
      simp only [awp_reg, c130r8, c130r9, c130r10]
      simp [nums] at p2 hp99 hp100
      simp [hx, Clm.V, nums, putL]
      refine ⟨_, _, p2 _, ?_⟩
      simp [awp_skip, awp_reg, c130r12]
      refine ⟨_, _, (hp100 _ rfl), ?_⟩
      simp [c130r13]
      refine ⟨_, _, (hp99 _ rfl), ?_⟩
      simp [c130r14, hw, hlt, e, e2]
    · have : k = l.length := by omega
      subst this
      rw [if_neg (by omega), awp_exit]
      simp [awp_reg, c130r15]
      refine ⟨_, _, (p102 _ 0 (encI l.length ++ l.flatMap encClm) rfl (by rw [List.length_append]; omega)), ?_⟩
      simp [awp_ret, c130R, nums]
  · simp [h, awp_seq, awp_reg, awp_ret, c130r3, c130R, nums]
end Go.Va

