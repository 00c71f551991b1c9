/- Part 2 of the proof that ExtractMakes returns true for every input and leaves its arguments alone. Condition: the variable that the row lists holds what the text of the program lays. Texts joined here: VaNc VaNd VaO VaOa VaOb VaOc VaOd VaOe VaP VaQ Vg VwA VsA. -/
import Derived.Laws.MakeOwn
import Derived.Laws.OwnMore
import Derived.OrdersIn
import Derived.Laws.Cover3
import Derived.RangeFuncRecord
import Derived.Test.YtopldfpkgbkomaaGreatDoorProg
import Derived.Test.YtopldfpkgbkomaaGreatDoorL01
set_option linter.all false
namespace Go.Va
section
variable {P : Program} {GL : Globals} {N : Nat}
theorem mkm_ok {o : Oper} {d t : Nat} {rs : Option Operand} (ho : o.dst = some d) (hop : o.op = .makeMap t rs) (hrs : rs = none) (hd : d < N) : EffOK P GL N o (.mkm d) := by
  intro g w μ s s' a O hg hs
  simp only [AI.step, Option.some.injEq] at hs; subst hs
  subst hrs
  have hinv := hg.inv.newAny (.map [] [] 0) (.map #[] 0) ⟨#[], heap_alloc_new w _, MapKept.stamped_empty 0, rfl, .nil, fun o => Gh.lt_of hg.inv.agree (Nat.le_refl _) o⟩ (fun k ds d h => by cases h)
  refine ⟨.map (some w.heap.size), w.alloc (.map #[] 0), g, μ ++ [w.heap.size], .inl ?_, ⟨?_, hg.glob, by rw [put_size, hg.sz]⟩, chg_alloc _ g w _, List.prefix_append _ _⟩
  · simp [execOp, hop, Instr.makeMap]
  · rw [ho, put_get _ (hg.sz ▸ hd)]
    refine hinv.set ⟨w.heap.size, ?_, rfl⟩ fun k => by cases k <;> simp [ownAt, own1]
    rw [← hg.inv.len]; simp
theorem mksl_ok {o : Oper} {d t e : Nat} {x c : Operand} {q : Opd} {z : D} (ho : o.dst = some d) (hop : o.op = .makeSlice t x c) (hd : d < N) (hxc : c = x) (hk : oe GL x q = true)
    (hu : P.underlying t = some (.slice e)) (hz : zeroIs P e [z] = true) (hsz : sizeIs P e 1 = true) (hby : ((P.info? e).map fun i => decide (i.bytes ≤ 1048576)) = some true) : EffOK P GL N o (.mksl d q z) := by
  intro g w μ s s' a O hg hs
  subst hxc
  simp only [AI.step] at hs
  have hr := (hg.gd P).ev hk
  split at hs
  · rename_i k n hn
    rw [hn] at hr
    have hxv := rep_int hr
    split at hs
    · rename_i hlt
      simp only [Option.some.injEq] at hs; subst hs
      unfold zeroIs at hz
      split at hz
      · rename_i zv hzz
        cases hit : P.info? e with
        | none => simp [hit] at hzz
        | some it =>
          have hz1 : it.zero = some zv := by simpa [hit] using hzz
          have hsz1 : it.size = 1 := by simpa [sizeIs, hit] using hsz
          have hby1 : it.bytes ≤ 1048576 := by simpa [hit] using hby
          obtain ⟨r1, r2, r3⟩ := zip_rep_row (g := g) (w := w) (μ := μ) hz
          obtain ⟨v0, hv0⟩ : ∃ v0, zv.cells.toList = [v0] := by
            have := r1.1
            match hq : zv.cells.toList, this with
            | [v0], _ => exact ⟨v0, rfl⟩
          rw [hv0] at r1 r2 r3
          have hcell : zv.cells = #[v0] := by rw [← Array.toList_inj, hv0]
          have hrep := (All2.cons_iff.1 r1).1
          have hrun := run_make (P := P) w t e it zv hu hit hz1 k k n n hlt.1 (Int.le_refl _) (by
            have h1 : (it.bytes : Int) ≤ 1048576 := by omega
            have h2 : (it.bytes : Int) * n ≤ 1048576 * n := Int.mul_le_mul_of_nonneg_right h1 hlt.1
            omega) (by omega)
          have hmade : madeCells zv.cells (n.toNat * it.size) = (List.replicate n.toNat v0).toArray := by
            rw [← Array.toList_inj, hcell, hsz1, Nat.mul_one, toList_madeCells_one]
          rw [hmade] at hrun
          have hnew := hg.inv.newRow (zs := List.replicate n.toNat z) (vs := List.replicate n.toNat v0) e
            ⟨by simp, fun i x v hx hv => by
              have h1 := (List.mem_replicate.1 (List.mem_of_getElem? hx)).2
              have h2 := (List.mem_replicate.1 (List.mem_of_getElem? hv)).2
              subst h1; subst h2; exact hrep⟩
            (fun v hv => by have := (List.mem_replicate.1 hv).2; subst this; exact r2 _ (by simp))
            (fun i x v hx hv => by
              have h1 := (List.mem_replicate.1 (List.mem_of_getElem? hx)).2
              have h2 := (List.mem_replicate.1 (List.mem_of_getElem? hv)).2
              subst h1; subst h2; exact r3 0 _ _ rfl rfl)
          refine ⟨.slice (some ⟨w.heap.size, 0, none⟩) n.toNat n.toNat, w.alloc (.cells (List.replicate n.toNat v0).toArray e), g, μ ++ [w.heap.size], .inl (by simp [execOp, hop, hxv, hrun]), ?_, chg_alloc _ g w _, List.prefix_append _ _⟩
          rw [ho]
          have hgn : Gs GL N g (w.alloc (.cells (List.replicate n.toNat v0).toArray e)) (μ ++ [w.heap.size]) ⟨s.e, s.h ++ [.cells (List.replicate n.toNat z)]⟩ a O := ⟨hnew, hg.glob, hg.sz⟩
          have hrd : RepD g (w.alloc (.cells (List.replicate n.toNat v0).toArray e)) (μ ++ [w.heap.size]) (.sref s.h.length n.toNat) (.slice (some ⟨w.heap.size, 0, none⟩) n.toNat n.toNat) := ⟨w.heap.size, n.toNat, by rw [← hg.inv.len]; simp, rfl, Nat.le_refl _⟩
          exact hgn.set hd hrd fun k => by cases k <;> simp [ownAt, own1]
      · cases hz
    · cases hs
  · cases hs
theorem heap_put {w : World} {b : Nat} {o o' : Obj} (hb : w.heap[b]? = some o) (g : Gh) (hg : ∀ o, g.m b o = none) (hag : ∀ b o v, g.m b o = some v → w.cell? ⟨b, o, none⟩ = some v) :
    ({ w with heap := w.heap.setIfInBounds b o' } : World).heap[b]? = some o' ∧ Chg (fun x => x = b) g w g { w with heap := w.heap.setIfInBounds b o' } ∧
    ∀ b' o v, g.m b' o = some v → ({ w with heap := w.heap.setIfInBounds b o' } : World).cell? ⟨b', o, none⟩ = some v := by
  have h := MapKept.heap_set (o' := o') hb
  refine ⟨h.1, ⟨Gh.le.refl g, by simp, fun b' _ hne => h.2 b' hne, fun _ _ _ _ => rfl, rfl, rfl⟩, fun b' o v hv => ?_⟩
  by_cases hbb : b' = b
  · subst hbb; rw [hg o] at hv; cases hv
  · rw [World.cell?_of_block (a := ⟨b', o, none⟩) (h.2 b' hbb)]; exact hag b' o v hv
theorem map_eraseIdx' {α β : Type} (f : α → β) : ∀ (l : List α) (i : Nat), (l.eraseIdx i).map f = (l.map f).eraseIdx i
  | [], _ => by simp
  | x :: l, 0 => by simp
  | x :: l, i + 1 => by simp [map_eraseIdx' f l i]
theorem born_modify (ents : Array MapEntry) (j : Nat) (f : MapEntry → MapEntry) (hf : ∀ e, (f e).born = e.born) : (ents.modify j f).toList.map (·.born) = ents.toList.map (·.born) := by
  apply List.ext_getElem?
  intro i
  simp only [List.getElem?_map, Array.getElem?_toList, Array.getElem?_modify]
  by_cases hij : j = i
  · subst hij
    cases ents[j]? <;> simp [hf]
  · simp [hij]
theorem mput_ok {o : Oper} {t : Nat} {x k v : Operand} {m' k' v' : Opd} {st : Bool} {ks : List Nat} (ho : o.dst = none) (hop : o.op = .mapUpdate t x k v)
    (ht : (match P.underlying t with | some (.map kt _) => keyIs P kt st ks | _ => false) = true) (hm : oe GL x m' = true) (hk : oe GL k k' = true) (hv : oe GL v v' = true) : EffOK P GL N o (.mput m' k' v' st ks) := by
  intro g w μ s s' a O hg hs
  simp only [AI.step] at hs
  have hrm := (hg.gd P).ev hm
  have hrk := (hg.gd P).ev hk
  have hrv := (hg.gd P).ev hv
  split at ht
  · rename_i kt el hu
    split at hs
    · rename_i r hmv
      rw [hmv] at hrm
      obtain ⟨b, hb, hxv⟩ := hrm
      have hbm := List.mem_of_getElem? hb
      split at hs
      · rename_i es bs clock hr
        obtain ⟨ents, hheap, hst, hbs, hall, hgn⟩ := mapRow hg.inv hr hb
        have hget := MapKept.run_getObj_map (P := P) hheap
        split at hs
        · rename_i kv vv hkv hvv
          have hkr := toV_rep hrk hkv
          have hvr := toV_rep hrv hvv
          split at hs
          · rename_i hko
            have hck := fun e => run_chkKey (P := P) (w := w) hkr ht hko e
            split at hs
            · rename_i hf
              simp only [Option.some.injEq] at hs; subst hs
              have hfk := findKey_run (P := P) (w := w) hkr ht hko hall hf
              have hno := (find_run (P := P) (w := w) hkr ht hko hall hf).2.2 rfl
              obtain ⟨p1, p2, p3⟩ := heap_put (o' := .map (ents.push { key := a.eval k, val := a.eval v, born := clock }) (clock + 1)) hheap g hgn hg.inv.agree
              refine ⟨undef, _, g, μ, .inr ⟨?_, rfl⟩, ⟨?_, hg.glob, by rw [put_size, hg.sz]⟩, p2.mono (not_both O hg hbm), List.prefix_refl _⟩
              · simp [execOp, hop, hxv, Instr.mapUpdate, run_underlying hu, hget, hck, hfk, MapKept.run_setObj_map _ hheap, Result.andThen]
              · rw [ho]
                refine hg.inv.setAny hr hb (.map (es ++ [(kv, vv)]) (bs ++ [clock]) (clock + 1)) p2 p3 ⟨_, p1, MapKept.stamped_push hst hno, by simp [hbs], ?_, hgn⟩ (fun k ds d h => by cases h)
                simp only [Array.toList_push]
                exact hall.append (.cons ⟨hkr, hvr⟩ .nil)
            · rename_i j hf
              simp only [Option.some.injEq] at hs; subst hs
              have hfk := findKey_run (P := P) (w := w) hkr ht hko hall hf
              obtain ⟨e, he, hek⟩ := (find_run (P := P) (w := w) hkr ht hko hall hf).2.1 j rfl
              simp only [Option.bind_some, he, Option.map_some] at hfk
              have hej : ents[j]? = some e := by simpa using he
              have hsb : (Instr.keyThatStays (a.eval k) (a.eval k)).run P w = .ok (a.eval k) w := by
                have := (key_same hkr hkr hko hko (b := true) (by
                  simp only [keyOK, Bool.and_eq_true] at hko
                  cases h2 : V.eqL ks kv.cells kv.cells with
                  | none => simp [h2] at hko
                  | some b => cases b <;> simp [h2] at hko ⊢)).2 9999
                simp [Instr.keyThatStays, this]
              obtain ⟨p1, p2, p3⟩ := heap_put (o' := .map (ents.modify j fun e => { e with key := a.eval k, val := a.eval v }) clock) hheap g hgn hg.inv.agree
              refine ⟨undef, _, g, μ, .inr ⟨?_, rfl⟩, ⟨?_, hg.glob, by rw [put_size, hg.sz]⟩, p2.mono (not_both O hg hbm), List.prefix_refl _⟩
              · simp [execOp, hop, hxv, Instr.mapUpdate, run_underlying hu, hget, hck, hfk, hej, hek, hsb, MapKept.run_setObj_map _ hheap, Result.andThen]
              · rw [ho]
                refine hg.inv.setAny hr hb (.map (es.set j (kv, vv)) bs clock) p2 p3 ⟨_, p1, MapKept.stamped_modify hst _ _ (fun _ _ => rfl) (fun e' _ he' => ?_), ?_, ?_, hgn⟩ (fun k ds d h => by cases h)
                · rw [hej] at he'; cases he'; exact hek.symm
                · rw [← hbs]; exact born_modify _ _ _ fun _ => rfl
                · have hset : (ents.modify j fun e => { e with key := a.eval k, val := a.eval v }).toList = ents.toList.set j { e with key := a.eval k, val := a.eval v } := by
                    apply List.ext_getElem?
                    intro i
                    simp only [Array.getElem?_toList, Array.getElem?_modify, List.getElem?_set]
                    by_cases hij : j = i
                    · subst hij
                      obtain ⟨hlt, heq⟩ := Array.getElem?_eq_some_iff.1 hej
                      simp [hlt, heq]
                    · simp [hij]
                  rw [hset]
                  exact hall.set ⟨hkr, hvr⟩
            · cases hs
          · cases hs
        · cases hs
      · cases hs
    · cases hs
  · cases ht
theorem set_self {α : Type} {l : List α} {r : Nat} {x : α} (h : l[r]? = some x) : l.set r x = l := by
  apply List.ext_getElem?
  intro i
  rw [List.getElem?_set]
  by_cases hi : r = i
  · subst hi; have := (List.getElem?_eq_some_iff.1 h).1; simp [this, h]; exact ((List.getElem?_eq_some_iff.1 h).2).symm
  · simp [hi]
theorem eraseIdx_all2 {α β : Type} {R : α → β → Prop} {xs : List α} {ys : List β} (h : All2 R xs ys) (i : Nat) : All2 R (xs.eraseIdx i) (ys.eraseIdx i) := by
  induction xs generalizing ys i with
  | nil =>
    have := List.eq_nil_of_length_eq_zero h.1
    subst this; simpa using (All2.nil : All2 R [] [])
  | cons x xs ih =>
    cases ys with
    | nil => simp [All2] at h
    | cons y ys =>
      rw [All2.cons_iff] at h
      cases i with
      | zero => simpa using h.2
      | succ i => simp only [List.eraseIdx_cons_succ]; exact .cons h.1 (ih h.2 i)
theorem mdel_ok {o : Oper} {d : Option Nat} {t t2 : Nat} {x k : Operand} {m' k' : Opd} {st : Bool} {ks : List Nat} (ho : o.dst = d) (hd : ∀ n, d = some n → n < N) (hop : o.op = .call { callee := .builtin .delete, args := #[x, k], argTypes := #[t, t2] })
    (ht : (match P.underlying t with | some (.map kt _) => keyIs P kt st ks | _ => false) = true) (hm : oe GL x m' = true) (hk : oe GL k k' = true) : EffOK P GL N o (.mdel d m' k' st ks) := by
  intro g w μ s s' a O hg hs
  simp only [AI.step] at hs
  have hrm := (hg.gd P).ev hm
  have hrk := (hg.gd P).ev hk
  have fin : ∀ {g' : Gh} {w' : World} {h' : List Row}, Gs GL N g' w' μ ⟨s.e, h'⟩ a O → Gs GL N g' w' μ ⟨setO s.e d (.tup []), h'⟩ (a.put o.dst (.tuple #[])) O := by
    intro g' w' h' hgs
    rw [ho]
    cases d with
    | none => exact ⟨hgs.inv, hgs.glob, by rw [put_size, hgs.sz]⟩
    | some n => exact hgs.set (hd n rfl) ⟨[], rfl, .nil⟩ fun k => by simp [ownAt, own1]
  split at ht
  · rename_i kt el hu
    split at hs
    · rename_i r hmv
      rw [hmv] at hrm
      obtain ⟨b, hb, hxv⟩ := hrm
      have hbm := List.mem_of_getElem? hb
      split at hs
      · rename_i es bs clock hr
        obtain ⟨ents, hheap, hst, hbs, hall, hgn⟩ := mapRow hg.inv hr hb
        have hget := MapKept.run_getObj_map (P := P) hheap
        split at hs
        · rename_i kv hkv
          have hkr := toV_rep hrk hkv
          split at hs
          · rename_i hko
            have hck := fun e => run_chkKey (P := P) (w := w) hkr ht hko e
            split at hs
            · rename_i hf
              simp only [Option.some.injEq] at hs; subst hs
              have hfk := findKey_run (P := P) (w := w) hkr ht hko hall hf
              obtain ⟨p1, p2, p3⟩ := heap_put (o' := .map ents clock) hheap g hgn hg.inv.agree
              refine ⟨.tuple #[], _, g, μ, .inl ?_, fin ⟨?_, hg.glob, hg.sz⟩, p2.mono (not_both O hg hbm), List.prefix_refl _⟩
              · simp [execOp, hop, hxv, resolve, invoke, builtin, Builtin.delete_, run_underlying hu, hget, hck, hfk, MapKept.run_setObj_map _ hheap, Result.andThen]
              · have := hg.inv.setAny hr hb (.map es bs clock) p2 p3 ⟨_, p1, hst, hbs, hall, hgn⟩ (fun k ds d h => by cases h)
                rwa [set_self hr] at this
            · rename_i j hf
              simp only [Option.some.injEq] at hs; subst hs
              have hfk := findKey_run (P := P) (w := w) hkr ht hko hall hf
              obtain ⟨e, he, hek⟩ := (find_run (P := P) (w := w) hkr ht hko hall hf).2.1 j rfl
              simp only [Option.bind_some, he, Option.map_some] at hfk
              obtain ⟨p1, p2, p3⟩ := heap_put (o' := .map (ents.eraseIdxIfInBounds j) clock) hheap g hgn hg.inv.agree
              refine ⟨.tuple #[], _, g, μ, .inl ?_, fin ⟨?_, hg.glob, hg.sz⟩, p2.mono (not_both O hg hbm), List.prefix_refl _⟩
              · simp [execOp, hop, hxv, resolve, invoke, builtin, Builtin.delete_, run_underlying hu, hget, hck, hfk, MapKept.run_setObj_map _ hheap, Result.andThen]
              · refine hg.inv.setAny hr hb (.map (es.eraseIdx j) (bs.eraseIdx j) clock) p2 p3 ⟨_, p1, MapKept.stamped_erase hst j, ?_, ?_, hgn⟩ (fun k ds d h => by cases h)
                all_goals
                  have hj : j < ents.size := by have := (List.getElem?_eq_some_iff.1 he).1; simpa using this
                  have : (ents.eraseIdxIfInBounds j).toList = ents.toList.eraseIdx j := by simp [Array.eraseIdxIfInBounds, hj]
                · rw [this, ← hbs, map_eraseIdx']
                · rw [this]; exact eraseIdx_all2 hall j
            · cases hs
          · cases hs
        · cases hs
      · cases hs
    · cases hs
  · cases ht
theorem ment_ok {o : Oper} {d t : Nat} {x k : Operand} {m' k' : Opd} {st : Bool} {ks : List Nat} (ho : o.dst = some d) (hd : d < N) (hop : o.op = .mapEntry t x k)
    (ht : (match P.underlying t with | some (.map kt _) => keyIs P kt st ks | _ => false) = true) (hm : oe GL x m' = true) (hk : oe GL k k' = true) : EffOK P GL N o (.ment d m' k' st ks) := by
  intro g w μ s s' a O hg hs
  simp only [AI.step] at hs
  have hrm := (hg.gd P).ev hm
  have hrk := (hg.gd P).ev hk
  split at ht
  · rename_i kt el hu
    split at hs
    · rename_i r hmv
      rw [hmv] at hrm
      obtain ⟨b, hb, hxv⟩ := hrm
      have hbm := List.mem_of_getElem? hb
      split at hs
      · rename_i es bs clock hr
        obtain ⟨ents, hheap, hst, hbs, hall, hgn⟩ := mapRow hg.inv hr hb
        have hget := MapKept.run_getObj_map (P := P) hheap
        split at hs
        · rename_i kv hkv
          have hkr := toV_rep hrk hkv
          split at hs
          · rename_i hko
            have hck := fun e => run_chkKey (P := P) (w := w) hkr ht hko e
            split at hs
            · rename_i j hf
              split at hs
              · rename_i p n hp hn
                simp only [Option.some.injEq] at hs; subst hs
                have hfk := findKey_run (P := P) (w := w) hkr ht hko hall hf
                obtain ⟨e, he, hek⟩ := (find_run (P := P) (w := w) hkr ht hko hall hf).2.1 j rfl
                simp only [Option.bind_some, he, Option.map_some] at hfk
                have hej : ents[j]? = some e := by simpa using he
                have hsb : (Instr.keyThatStays (a.eval k) (a.eval k)).run P w = .ok (a.eval k) w := by
                  have := (key_same hkr hkr hko hko (b := true) (by
                    simp only [keyOK, Bool.and_eq_true] at hko
                    cases h2 : V.eqL ks kv.cells kv.cells with
                    | none => simp [h2] at hko
                    | some b => cases b <;> simp [h2] at hko ⊢)).2 9999
                  simp [Instr.keyThatStays, this]
                have hborn : e.born = n := by
                  have : bs[j]? = some e.born := by rw [← hbs]; simp [hej]
                  rw [hn] at this; simpa using this.symm
                have hval : RepV g p.2 e.val := (hall.2 j p e hp he).2
                have hsame : ents.modify j (fun e => { e with key := a.eval k }) = ents := by
                  apply Array.ext_getElem?
                  intro i
                  rw [Array.getElem?_modify]
                  by_cases hij : j = i
                  · subst hij; simp [hej, ← hek]
                  · simp [hij]
                obtain ⟨p1, p2, p3⟩ := heap_put (o' := .map ents clock) hheap g hgn hg.inv.agree
                refine ⟨.tuple #[e.val, .int .i64 n], _, g, μ, .inl ?_, ?_, p2.mono (not_both O hg hbm), List.prefix_refl _⟩
                · simp [execOp, hop, hxv, Instr.mapEntry, run_underlying hu, hget, hck, hfk, hej, hek, hsb, hsame, MapKept.run_setObj_map _ hheap, Result.andThen, goInt, hborn]
                · have h1 := hg.inv.setAny hr hb (.map es bs clock) p2 p3 ⟨_, p1, hst, hbs, hall, hgn⟩ (fun k ds d h => by cases h)
                  rw [set_self hr] at h1
                  rw [ho]
                  have hgs : Gs GL N g { w with heap := w.heap.setIfInBounds b (.map ents clock) } μ s a O := ⟨h1, hg.glob, hg.sz⟩
                  refine hgs.set hd (x := .tup [.v p.2, .v (.int .i64 n)]) ⟨[e.val, .int .i64 n], rfl, .cons hval (.cons (.int _ _) .nil)⟩ fun k => ?_
                  simp only [ownAt, List.toList_toArray]
                  cases k with
                  | zero => rfl
                  | succ k => cases k with
                    | zero => rfl
                    | succ k => simp [own1]
              · cases hs
            · cases hs
          · cases hs
        · cases hs
      · cases hs
    · cases hs
  · cases ht
theorem mest_ok {o : Oper} {t : Nat} {x b0 v : Operand} {m' b' v' : Opd} (ho : o.dst = none) (hop : o.op = .entryStore t x b0 v) (hm : oe GL x m' = true) (hk : oe GL b0 b' = true) (hv : oe GL v v' = true) :
    EffOK P GL N o (.mest m' b' v') := by
  intro g w μ s s' a O hg hs
  simp only [AI.step] at hs
  have hrm := (hg.gd P).ev hm
  have hrk := (hg.gd P).ev hk
  have hrv := (hg.gd P).ev hv
  split at hs
  · rename_i r hmv
    rw [hmv] at hrm
    obtain ⟨b, hb, hxv⟩ := hrm
    have hbm := List.mem_of_getElem? hb
    split at hs
    · rename_i es bs clock hr
      obtain ⟨ents, hheap, hst, hbs, hall, hgn⟩ := mapRow hg.inv hr hb
      have hget := MapKept.run_getObj_map (P := P) hheap
      split at hs
      · rename_i kk n vv hbv hvv
        rw [hbv] at hrk
        have hbi := rep_int hrk
        have hvr := toV_rep hrv hvv
        split at hs
        · rename_i j hj
          split at hs
          · rename_i p hp
            simp only [Option.some.injEq] at hs; subst hs
            have hidx : ents.findIdx? (fun e => (e.born : Int) == n) = some j := by
              rw [← hbs, List.findIdx?_map] at hj
              have : ents = ents.toList.toArray := by simp
              rw [this, List.findIdx?_toArray]; exact hj
            obtain ⟨p1, p2, p3⟩ := heap_put (o' := .map (ents.modify j fun e => { e with val := a.eval v }) clock) hheap g hgn hg.inv.agree
            obtain ⟨e, he, hep⟩ := hall.get hp
            have hej : ents[j]? = some e := by simpa using he
            refine ⟨undef, _, g, μ, .inr ⟨?_, rfl⟩, ⟨?_, hg.glob, by rw [put_size, hg.sz]⟩, p2.mono (not_both O hg hbm), List.prefix_refl _⟩
            · simp [execOp, hop, hxv, hbi, Instr.entryStore, hget, asInt, asIntOf, hidx, MapKept.run_setObj_map _ hheap, Result.andThen]
            · rw [ho]
              refine hg.inv.setAny hr hb (.map (es.set j (p.1, vv)) bs clock) p2 p3 ⟨_, p1, MapKept.stamped_modify hst _ _ (fun _ _ => rfl) (fun e' _ he' => rfl), ?_, ?_, hgn⟩ (fun k ds d h => by cases h)
              · rw [← hbs]; exact born_modify _ _ _ fun _ => rfl
              · have hset : (ents.modify j fun e => { e with val := a.eval v }).toList = ents.toList.set j { e with val := a.eval v } := by
                  apply List.ext_getElem?
                  intro i
                  simp only [Array.getElem?_toList, Array.getElem?_modify, List.getElem?_set]
                  by_cases hij : j = i
                  · subst hij
                    obtain ⟨hlt, heq⟩ := Array.getElem?_eq_some_iff.1 hej
                    simp [hlt, heq]
                  · simp [hij]
                rw [hset]
                exact hall.set ⟨hep.1, hvr⟩
          · cases hs
        · cases hs
      · cases hs
    · cases hs
  · cases hs
end
end Go.Va

namespace Go.Va
def rnm : List (Nat × Nat) → Nat → Nat
  | [], r => r
  | p :: π, r => if p.1 = r then p.2 else rnm π r
def flip (π : List (Nat × Nat)) : List (Nat × Nat) := π.map fun p => (p.2, p.1)
mutual
def D.ren (π : List (Nat × Nat)) : D → D
  | .ref r o => .ref (rnm π r) o
  | .sref r n => .sref (rnm π r) n
  | .mref r => .mref (rnm π r)
  | .yld r => .yld (rnm π r)
  | .agg ds => .agg (D.rens π ds)
  | .tup ds => .tup (D.rens π ds)
  | .func f ds => .func f (D.rens π ds)
  | .meth f ds => .meth f (D.rens π ds)
  | .v x => .v x
  | .any => .any
  | .nil e s => .nil e s
  | .own e s xs => .own e s xs
def D.rens (π : List (Nat × Nat)) : List D → List D
  | [] => []
  | d :: ds => D.ren π d :: D.rens π ds
end
theorem rens_map (π : List (Nat × Nat)) : ∀ ds : List D, D.rens π ds = ds.map (D.ren π)
  | [] => rfl
  | d :: ds => by simp only [D.rens, List.map_cons, rens_map π ds]
def Row.ren (π : List (Nat × Nat)) : Row → Row
  | .cells ds => .cells (D.rens π ds)
  | x => x
def permOK (n0 len : Nat) (π : List (Nat × Nat)) : Bool :=
  (List.range len).all fun r => decide (rnm π r < len) && decide (rnm (flip π) r < len) && rnm (flip π) (rnm π r) == r && rnm π (rnm (flip π) r) == r && (decide (n0 ≤ r) || rnm (flip π) r == r)
def Row.isObj : Row → Bool
  | .obj _ _ _ => true
  | _ => false
def noObj (h : List Row) : Bool := h.all fun r => !r.isObj
def renRows (π : List (Nat × Nat)) (h : List Row) : List Row := (List.range h.length).map fun i => ((h[rnm (flip π) i]?).getD .dead).ren π
def renμ (π : List (Nat × Nat)) (μ : List Nat) : List Nat := (List.range μ.length).map fun i => (μ[rnm (flip π) i]?).getD 0
def RenS (n0 : Nat) (s s2 : St) : Prop :=
  s2 = s ∨ ∃ π, permOK n0 s.h.length π = true ∧ noObj s.h = true ∧ (∀ n, find s2.e n = (find s.e n).ren π) ∧ s2.h = renRows π s.h
section
variable {g : Gh} {w : World} {μ : List Nat} {π : List (Nat × Nat)}
theorem RepC.ren {μ' : List Nat} (hπ : ∀ r b, μ[r]? = some b → μ'[rnm π r]? = some b) {d : D} {u : Value} (h : RepC g μ d u) : RepC g μ' (d.ren π) u := by
  cases d <;> simp only [RepC, D.ren] at h ⊢
  · exact h
  · obtain ⟨b, hb, rfl⟩ := h; exact ⟨b, hπ _ _ hb, rfl⟩
theorem RepE.ren {μ' : List Nat} (hπ : ∀ r b, μ[r]? = some b → μ'[rnm π r]? = some b) {d : D} {u : Value} (h : RepE g w μ d u) : RepE g w μ' (d.ren π) u := by
  cases d <;> simp only [RepE, D.ren] at h ⊢
  · exact h
  · exact h
  · exact h
  · obtain ⟨b, hb, rfl⟩ := h; exact ⟨b, hπ _ _ hb, rfl⟩
  · obtain ⟨b, cap, hb, rfl, hn⟩ := h; exact ⟨b, cap, hπ _ _ hb, rfl, hn⟩
  · obtain ⟨b, hb, rfl⟩ := h; exact ⟨b, hπ _ _ hb, rfl⟩
  · obtain ⟨vs, rfl, h⟩ := h
    refine ⟨vs, rfl, ?_⟩
    rw [rens_map]
    exact All2.map_left (fun x y hx => RepC.ren hπ hx) h
  · obtain ⟨vs, rfl, h⟩ := h
    refine ⟨vs, rfl, ?_⟩
    rw [rens_map]
    exact All2.map_left (fun x y hx => RepC.ren hπ hx) h
  · obtain ⟨b, hb, rfl⟩ := h; exact ⟨b, hπ _ _ hb, rfl⟩
theorem own1_ren (d : D) (v : Value) : own1 (d.ren π) v = own1 d v := by cases d <;> simp only [D.ren] <;> simp only [own1]
theorem RepG.ren {μ' : List Nat} (hπ : ∀ r b, μ[r]? = some b → μ'[rnm π r]? = some b) {d : D} {u : Value} (h : RepG g w μ d u) : RepG g w μ' (d.ren π) u := by
  have key : RepE g w μ d u → RepE g w μ' (d.ren π) u := fun h => RepE.ren hπ h
  cases d with
  | agg ds =>
    obtain ⟨vs, rfl, ha, h1, h2⟩ := h
    simp only [D.ren]
    refine ⟨vs, rfl, ?_, h1, fun d hd v => ?_⟩
    · rw [rens_map]; exact All2.map_left (fun x y hx => RepE.ren hπ hx) ha
    · rw [rens_map, List.mem_map] at hd
      obtain ⟨d', hd', rfl⟩ := hd
      rw [own1_ren]; exact h2 d' hd' v
  | _ => simp only [D.ren] at key ⊢; exact key h
theorem RepD.ren {μ' : List Nat} (hπ : ∀ r b, μ[r]? = some b → μ'[rnm π r]? = some b) {d : D} {u : Value} (h : RepD g w μ d u) : RepD g w μ' (d.ren π) u := by
  have key : RepG g w μ d u → RepG g w μ' (d.ren π) u := fun h => RepG.ren hπ h
  cases d with
  | tup ds =>
    obtain ⟨vs, rfl, ha⟩ := h
    simp only [D.ren]
    refine ⟨vs, rfl, ?_⟩
    rw [rens_map]; exact All2.map_left (fun x y hx => RepG.ren hπ hx) ha
  | _ => simp only [D.ren] at key ⊢; exact key h
theorem ownAt_ren (d : D) (v : Value) (k : Nat) : ownAt (d.ren π) v k = ownAt d v k := by
  cases d with
  | tup ds =>
    have e : ∀ v : Value, own1 ((ds.map (D.ren π))[k]?.getD .any) v = own1 (ds[k]?.getD .any) v := by
      intro v
      simp only [List.getElem?_map]
      cases ds[k]? with
      | none => rfl
      | some d => simp [own1_ren]
    have e2 : ∀ (ds : List D) (v : Value), own1 (.tup ds) v = none := fun _ _ => rfl
    simp only [D.ren, rens_map]
    cases v <;> cases k <;> simp only [ownAt, e, e2]
  | _ => cases k <;> simp only [D.ren, ownAt, own1]
theorem Inv.ren {t t' : Nat → D} {u : Nat → Value} {h : List Row} {O : Nat → Prop} {n0 : Nat} (hi : Inv g w μ t u h O) (hp : permOK n0 h.length π = true) (ho : noObj h = true) (ht : ∀ n, t' n = (t n).ren π) :
    Inv g w (renμ π μ) t' u (renRows π h) O := by
  have hlen : μ.length = h.length := hi.len
  have hp' : ∀ r, r < h.length → rnm π r < h.length ∧ rnm (flip π) r < h.length ∧ rnm (flip π) (rnm π r) = r ∧ rnm π (rnm (flip π) r) = r := by
    intro r hr
    have := List.all_eq_true.1 hp r (List.mem_range.2 hr)
    simp only [Bool.and_eq_true, decide_eq_true_eq, beq_iff_eq] at this
    exact ⟨this.1.1.1.1, this.1.1.1.2, this.1.1.2, this.1.2⟩
  have hμ : ∀ r b, (renμ π μ)[r]? = some b ↔ r < h.length ∧ μ[rnm (flip π) r]? = some b := by
    intro r b
    simp only [renμ, List.getElem?_map]
    by_cases hr : r < h.length
    · have : (List.range μ.length)[r]? = some r := List.getElem?_range (by omega)
      have hlt := (hp' r hr).2.1
      have e1 : μ[rnm (flip π) r]? = some μ[rnm (flip π) r] := List.getElem?_eq_getElem (by omega)
      simp only [this, Option.map_some, e1, Option.getD_some, hr, true_and]
    · have : (List.range μ.length)[r]? = none := by simp; omega
      simp [this, hr]
  have hh : ∀ r row, (renRows π h)[r]? = some row ↔ r < h.length ∧ ∃ row0, h[rnm (flip π) r]? = some row0 ∧ row = row0.ren π := by
    intro r row
    simp only [renRows, List.getElem?_map]
    by_cases hr : r < h.length
    · have : (List.range h.length)[r]? = some r := List.getElem?_range hr
      have hlt := (hp' r hr).2.1
      have e1 : h[rnm (flip π) r]? = some h[rnm (flip π) r] := List.getElem?_eq_getElem hlt
      simp only [this, Option.map_some, e1, Option.getD_some, hr, true_and, Option.some.injEq]
      exact ⟨fun h => ⟨_, rfl, h.symm⟩, fun ⟨x, hx, hr⟩ => by rw [hr, hx]⟩
    · have : (List.range h.length)[r]? = none := by simp; omega
      simp [this, hr]
  have hπ : ∀ r b, μ[r]? = some b → (renμ π μ)[rnm π r]? = some b := by
    intro r b hb
    have hr : r < h.length := by have := (List.getElem?_eq_some_iff.1 hb).1; omega
    rw [hμ]
    exact ⟨(hp' r hr).1, by rw [(hp' r hr).2.2.1]; exact hb⟩
  have hcellU : ∀ r k, r < h.length → cellU w (renμ π μ) r k = cellU w μ (rnm (flip π) r) k := by
    intro r k hr
    simp only [cellU]
    have hlt := (hp' r hr).2.1
    have e1 : μ[rnm (flip π) r]? = some μ[rnm (flip π) r] := List.getElem?_eq_getElem (by omega)
    rw [(hμ r _).2 ⟨hr, e1⟩, e1]
  have hcellD : ∀ r k v, r < h.length → own1 (cellD (renRows π h) r k) v = own1 (cellD h (rnm (flip π) r) k) v := by
    intro r k v hr
    have hlt := (hp' r hr).2.1
    have e1 : h[rnm (flip π) r]? = some h[rnm (flip π) r] := List.getElem?_eq_getElem hlt
    simp only [cellD, (hh r _).2 ⟨hr, _, e1, rfl⟩, e1]
    cases h[rnm (flip π) r] with
    | cells ds =>
      simp only [Row.ren, rens_map, List.getElem?_map]
      cases ds[k]? with
      | none => rfl
      | some d => simp [own1_ren]
    | _ => rfl
  have hout : ∀ r k v, ¬ r < h.length → own1 (cellD (renRows π h) r k) v = none := by
    intro r k v hr
    have : (renRows π h)[r]? = none := by simp [renRows]; omega
    simp [cellD, this, own1]
  have hblk : ∀ p b, blk t' u (renRows π h) w (renμ π μ) p = some b → blk t u h w μ (match p with | .tmp n k => .tmp n k | .cell r k => .cell (rnm (flip π) r) k) = some b := by
    intro p b hb
    cases p with
    | tmp n k => simp only [blk, ht, ownAt_ren] at hb ⊢; exact hb
    | cell r k =>
      simp only [blk] at hb ⊢
      by_cases hr : r < h.length
      · rw [hcellD r k _ hr, hcellU r k hr] at hb; exact hb
      · rw [hout r k _ hr] at hb; cases hb
  have hblt : ∀ r k b, blk t' u (renRows π h) w (renμ π μ) (.cell r k) = some b → r < h.length := by
    intro r k b hb
    by_cases hr : r < h.length
    · exact hr
    · simp only [blk, hout r k _ hr] at hb; cases hb
  have hmem : ∀ b, b ∈ renμ π μ → b ∈ μ := by
    intro b hb
    obtain ⟨r, hr⟩ := List.mem_iff_getElem?.1 hb
    exact List.mem_of_getElem? ((hμ r b).1 hr).2
  refine ⟨hi.agree, hi.olt, fun n => by rw [ht]; exact (hi.rep n).ren hπ, by simp [renμ, renRows, hlen], ?_, ?_, fun b hb => hi.mo b (hmem b hb), ?_, fun p b hb => ⟨fun hm => (hi.sep _ b (hblk p b hb)).1 (hmem b hm), (hi.sep _ b (hblk p b hb)).2⟩⟩
  · intro r row b hr hb
    obtain ⟨_, row0, hr0, rfl⟩ := (hh r row).1 hr
    have hb0 := ((hμ r b).1 hb).2
    have := hi.rows _ row0 b hr0 hb0
    cases row0 with
    | cells ds =>
      obtain ⟨vs, T, h1, h2, h3, h4⟩ := this
      exact ⟨vs, T, h1, by rw [rens_map]; exact All2.map_left (fun x y hx => RepE.ren hπ hx) h2, h3, h4⟩
    | map es st ck => exact this
    | obj tag p m =>
      have := List.all_eq_true.1 ho _ (List.mem_of_getElem? hr0)
      simp [Row.isObj] at this
    | dead => exact this
  · intro r r' b hb hb'
    obtain ⟨hr, h1⟩ := (hμ r b).1 hb
    obtain ⟨hr', h2⟩ := (hμ r' b).1 hb'
    have := hi.nod _ _ b h1 h2
    rw [← (hp' r hr).2.2.2, ← (hp' r' hr').2.2.2, this]
  · intro p q b hp hq
    have h1 := hblk p b hp
    have h2 := hblk q b hq
    have := hi.uniq _ _ b h1 h2
    cases p with
    | tmp n k => cases q with
      | tmp n' k' => exact this
      | cell r' k' => cases this
    | cell r k => cases q with
      | tmp n' k' => cases this
      | cell r' k' =>
        simp only [Pl.cell.injEq] at this
        have hr := hblt r k b hp
        have hr' := hblt r' k' b hq
        rw [← (hp' r hr).2.2.2, ← (hp' r' hr').2.2.2, this.1, this.2]
end
section
variable {GL : Globals} {N : Nat}
theorem Gs.ren {g : Gh} {w : World} {μ : List Nat} {s s2 : St} {a : Act} {O : Nat → Prop} {n0 : Nat} (hg : Gs GL N g w μ s a O) (hr : RenS n0 s s2) : ∃ μ2, Gs GL N g w μ2 s2 a O ∧ ∀ μ0 : List Nat, μ0.length ≤ n0 → μ0 <+: μ → μ0 <+: μ2 := by
  rcases hr with rfl | ⟨π, hp, ho, he, hh⟩
  · exact ⟨μ, hg, fun _ _ h => h⟩
  · refine ⟨renμ π μ, ⟨?_, hg.glob, hg.sz⟩, fun μ0 hl hpre => ?_⟩
    · rw [hh]; exact hg.inv.ren hp ho he
    · have hlen : μ.length = s.h.length := hg.inv.len
      rw [List.prefix_iff_eq_take]
      apply List.ext_getElem?
      intro i
      rw [List.getElem?_take]
      by_cases hi : i < μ0.length
      · rw [if_pos hi]
        have h1 : μ0[i]? = some μ0[i] := List.getElem?_eq_getElem hi
        have h2 : μ[i]? = some μ0[i] := pre_get hpre h1
        have hi2 : i < s.h.length := by have := (List.getElem?_eq_some_iff.1 h2).1; omega
        have := List.all_eq_true.1 hp i (List.mem_range.2 hi2)
        simp only [Bool.and_eq_true, Bool.or_eq_true, decide_eq_true_eq, beq_iff_eq] at this
        have h3 : rnm (flip π) i = i := by
          rcases this.2 with h | h
          · omega
          · exact h
        simp only [renμ, List.getElem?_map, List.getElem?_range (show i < μ.length by omega), Option.map_some, h3, h2, Option.getD_some, h1]
      · rw [if_neg hi, List.getElem?_eq_none (by omega)]
end
end Go.Va

namespace Go.Va
inductive AExit where
  | normal
  | exit (id : Nat)
  | ret
structure GI where
  g : Option (Nat × Bool)
  i : AI
  deriving Inhabited
def okF (P : Program) (f : Nat) : Bool :=
  match P.funcs[f]? with
  | some fn => fn.body.isSome && !(fn.name == "runtime.NumGoroutine")
  | none => false
def retD : List V → D
  | [x] => .v x
  | xs => .tup (xs.map .v)
def Agree (g : Gh) (w : World) : Prop := ∀ b o v, g.m b o = some v → w.cell? ⟨b, o, none⟩ = some v
def PSp (P : Program) (GL : Globals) (f : Nat) (args rets : List V) : Prop :=
  okF P f = true ∧ ∀ (g : Gh) (w : World) (us : List Value), Agree g w → GlobOK GL g → All2 (RepV g) args us →
    Calls P f us.toArray w fun e w' => ∃ v g', e = .returned v ∧ RepD g' w' [] (retD rets) v ∧ Chg (fun _ => False) g w g' w' ∧ Agree g' w'
def WF (r : Option Nat) : Fence := { Fence.wide with round := r }
def YSp (P : Program) (GL : Globals) (r : Nat) (args : List D) (h : List Row) (b : Bool) (h' : List Row) : Prop :=
  ∀ (g : Gh) (w : World) (μ : List Nat) (us : List Value) (O : Nat → Prop), Inv g w μ anyT anyU h O → GlobOK GL g → All2 (RepG g w μ) args us → Tame args us → ∀ bl, μ[r]? = some bl →
    ∃ fn tmps asg body, (Instr.yield bl us.toArray).run P w = .ok (.round bl fn tmps asg body) w ∧
      RoundIn (WF none) 0 P bl fn tmps asg body w fun e w' => ∃ g' μ', e = .returned (.bool b) ∧ Inv g' w' μ' anyT anyU h' O ∧ Chg (fun b => ¬ O b) g w g' w' ∧ μ <+: μ'
def FSp (P : Program) (GL : Globals) (f : Nat) (args : List D) (h : List Row) (rets : List D) (h' : List Row) : Prop :=
  okF P f = true ∧ ∀ (g : Gh) (w : World) (μ : List Nat) (us : List Value) (O : Nat → Prop), Inv g w μ anyT anyU h O → GlobOK GL g → All2 (RepG g w μ) args us → Tame args us →
    Calls P f us.toArray w fun e w' => ∃ v g' μ', e = .returned v ∧ Inv g' w' μ' (at0 .any (retDs rets)) (at0 (.bool false) v) h' O ∧ Chg (fun b => ¬ O b) g w g' w' ∧ μ <+: μ'
def atL {α : Type} (z : α) (l : List α) : Nat → α := fun n => (l[n]?).getD z
def OSp (P : Program) (GL : Globals) (f : Nat) (args rets : List D) : Prop :=
  okF P f = true ∧ ∀ (g : Gh) (w : World) (μ : List Nat) (us : List Value) (O : Nat → Prop) (h : List Row), us.length = args.length → Inv g w μ (atL .any args) (atL undef us) h O → GlobOK GL g →
    Calls P f us.toArray w fun e w' => ∃ v g' μ', e = .returned v ∧ Inv g' w' μ' (at0 .any (retDs rets)) (at0 (.bool false) v) h O ∧ Chg (fun b => ¬ O b) g w g' w' ∧ μ <+: μ'
def AI.dst : AI → Option Nat
  | .p d _ | .mv d _ | .alloc d _ | .box d _ | .take d _ | .app d _ _ _ _ _ | .appS d _ _ _ _ | .bsl d _ _ _ | .s2b d _ | .nilS d _ _ | .mkm d | .mksl d _ _ | .ment d _ _ _ _ => some d
  | .mdel d _ _ _ _ => d
  | .mput _ _ _ _ _ => none
  | .mest _ _ _ => none
  | .store _ _ _ => none
  | .call d _ _ => d
  | .callF d _ _ => d
  | .callC d _ _ => d
  | .callO d _ _ _ => d
  | .appR d _ _ _ _ _ | .frz d _ _ => some d
section
variable (P : Program) (GL : Globals)
def awpCall (d : Option Nat) (f : Opd) (args : List Opd) (K : St → Prop) (s : St) : Prop :=
  match f.ev s.e with
  | .yld r => ∃ b h', YSp P GL r (argsOf s.e args) s.h b h' ∧ K ⟨setO s.e d (.v (.bool b)), h'⟩
  | .meth fid fs => ∃ rets h', FSp P GL fid (fs ++ argsOf s.e args) s.h rets h' ∧ K ⟨setO s.e d (retDs rets), h'⟩
  | fd => match fnOf fd with
    | some (fid, caps) => ∃ rets h', FSp P GL fid (argsOf s.e args ++ caps) s.h rets h' ∧ K ⟨setO s.e d (retDs rets), h'⟩
    | none => False
def awpI (i : AI) (K : St → Prop) (s : St) : Prop :=
  match i with
  | .call d f args => awpCall P GL d f args K s
  | .callF d f args => awpCall P GL d f args K s
  | .callC d f args => awpCall P GL d f args K s
  | .callO d f q args => ∃ fid rets, fnOf (f.ev s.e) = some (fid, []) ∧ OSp P GL fid (q.ev s.e :: argsOf s.e args) rets ∧ K ⟨setO (q.clear s.e) d (retDs rets), s.h⟩
  | .appR d x y e sz by_ => match x.ev s.e, (y.ev s.e).toV with
    | .nil _ _, some (.list ys) => headOK sz ys = true ∧ roomy ys.length by_ = true ∧ if ys.isEmpty = true then K ⟨(d, .nil e sz) :: s.e, s.h⟩ else
        ∀ k, K ⟨(d, .sref s.h.length ys.length) :: s.e, s.h ++ [.cells ((ys.flatMap V.cells).map .v ++ List.replicate k .any)]⟩
    | _, _ => False
  | .frz d x sz => match x.ev s.e with
    | .nil _ _ => K ⟨(d, .v (.list [])) :: s.e, s.h⟩
    | .sref r n => match s.h[r]? with
      | some (.cells ds) => 0 < sz ∧ ∃ xs : List V, xs.length = n ∧ (∀ x ∈ xs, x.cells.length = sz) ∧ D.vs? (ds.take (n * sz)) = some (xs.flatMap V.cells) ∧ K ⟨(d, .v (.list xs)) :: s.e, s.h.set r .dead⟩
      | _ => False
    | _ => False
  | .nilS d ne x => match (x.ev s.e).copy with
    | .v (.list []) | .nil _ _ => K ⟨(d, .v (.bool (true != ne))) :: s.e, s.h⟩ ∧ K ⟨(d, .v (.bool (false != ne))) :: s.e, s.h⟩
    | .v (.list (_ :: _)) => K ⟨(d, .v (.bool (false != ne))) :: s.e, s.h⟩
    | _ => False
  | i => match i.step s with
    | some s' => K s'
    | none => False
def awpG (x : GI) (K : St → Prop) (s : St) : Prop :=
  match x.g with
  | none => awpI P GL x.i K s
  | some (t, want) => match find s.e t with
    | .v (.bool b) => if b = want then awpI P GL x.i K s else K ⟨setO s.e x.i.dst (.tup []), s.h⟩
    | .tup [] => K ⟨setO s.e x.i.dst (.tup []), s.h⟩
    | _ => False
def awpOps : List GI → (St → Prop) → St → Prop
  | [], K, s => K s
  | x :: rest, K, s => awpG P GL x (awpOps rest K) s
def normE (e : Env) : List Nat → Env
  | [] => []
  | n :: ns => (n, find e n) :: normE e ns
end
def chkI (P : Program) (GL : Globals) (N : Nat) (o : Oper) (ai : AI) : Bool :=
  match ai with
  | .p d i => o.dst == some d && decide (d < N) && chkP P GL o.op i
  | .mv d q => o.dst == some d && decide (d < N) && movable q && (match o.op with | .move x => oe GL x q | .assign x => oe GL x q | _ => false)
  | .alloc d zs => o.dst == some d && decide (d < N) && (match o.op with | .alloc t => zeroIs P t zs | _ => false)
  | .box d q => o.dst == some d && decide (d < N) && (match o.op with | .box _ x => oe GL x q | _ => false)
  | .store p q n => o.dst == none && (match o.op with | .store t p' x => oe GL p' p && oe GL x q && sizeIs P t n | _ => false)
  | .take d p => o.dst == some d && decide (d < N) && (match o.op with | .load t p' => oe GL p' p && isK P t (fun | .slice _ => true | _ => false) | _ => false)
  | .app d q r e s by_ => o.dst == some d && decide (d < N) && (match o.op with
    | .call { callee := .builtin .append, args, argTypes } => two2 args.toList (fun x y => oe GL x q && oe GL y r) && baseOK q &&
        two2 argTypes.toList (fun t t2 => sliceIs P t e && isK P t2 (fun | .slice _ => true | _ => false)) && elemIs P e s by_
    | _ => false)
  | .appS d q r e by_ => o.dst == some d && decide (d < N) && (match o.op with
    | .call { callee := .builtin .append, args, argTypes } => two2 args.toList (fun x y => oe GL x q && oe GL y r) && baseOK q &&
        two2 argTypes.toList (fun t t2 => sliceIs P t e && isK P t2 (fun | .string => true | _ => false)) && elemIs P e 1 by_
    | _ => false)
  | .bsl d e s qs => o.dst == some d && decide (d < N) && (match o.op with
    | .buildSlice t n ps => sliceIs P t e && (match P.info? e with | some i => elemIs P e s i.bytes | none => false) && ps.toList.length == n && decide (n * s ≤ 2 ^ 24) && inOrder GL 0 ps.toList qs
    | _ => false)
  | .s2b d q => o.dst == some d && decide (d < N) && (match o.op with | .convert s t x => isK P s (fun | .string => true | _ => false) && byteSl P t && oe GL x q | _ => false)
  | .mkm d => o.dst == some d && decide (d < N) && (match o.op with | .makeMap _ none => true | _ => false)
  | .mksl d q z => o.dst == some d && decide (d < N) && (match o.op with
    | .makeSlice t x c => (match x, c with | .tmp a, .tmp b => a == b | _, _ => false) && oe GL x q && (match P.underlying t with | some (.slice e) => zeroIs P e [z] && sizeIs P e 1 && ((P.info? e).map fun i => decide (i.bytes ≤ 1048576)) == some true | _ => false)
    | _ => false)
  | .mput m k v st ks => o.dst == none && (match o.op with | .mapUpdate t x i y => (match P.underlying t with | some (.map kt _) => keyIs P kt st ks | _ => false) && oe GL x m && oe GL i k && oe GL y v | _ => false)
  | .ment d m k st ks => o.dst == some d && decide (d < N) && (match o.op with | .mapEntry t x i => (match P.underlying t with | some (.map kt _) => keyIs P kt st ks | _ => false) && oe GL x m && oe GL i k | _ => false)
  | .mest m b v => o.dst == none && (match o.op with | .entryStore _ x i y => oe GL x m && oe GL i b && oe GL y v | _ => false)
  | .mdel d m k st ks => o.dst == d && (match d with | some d => decide (d < N) | none => true) && (match o.op with
    | .call { callee := .builtin .delete, args, argTypes } => two2 args.toList (fun x y => oe GL x m && oe GL y k) && two2 argTypes.toList (fun t _ => match P.underlying t with | some (.map kt _) => keyIs P kt st ks | _ => false)
    | _ => false)
  | .nilS d ne q => o.dst == some d && decide (d < N) && (match o.op with | .binOp op t x y _ => (op == if ne then .neq else .eql) && (match y with | .const (.slice none 0 0) => true | _ => false) && isK P t (fun | .slice _ => true | _ => false) && oe GL x q | _ => false)
  | .call d f args => (match o.op with
    | .call { callee := .value f', args := asx, .. } => o.dst == d && (match d with | some d => decide (d < N) | none => true) && oe GL f' f && zipOK (oe GL) asx.toList args
    | _ => false)
  | .callF d f args => (match o.op with
    | .call { callee := .value f', args := asx, .. } => o.dst == d && (match d with | some d => decide (d < N) | none => true) && oe GL f' f && zipOK (oe GL) asx.toList args
    | _ => false)
  | .callC d f args => (match o.op with
    | .call { callee := .value f', args := asx, .. } => o.dst == d && (match d with | some d => decide (d < N) | none => true) && oe GL f' f && zipOK (oe GL) asx.toList args
    | _ => false)
  | .callO d f q args => (match o.op with
    | .call { callee := .value f', args := asx, .. } => o.dst == d && (match d with | some d => decide (d < N) | none => true) && oe GL f' f && zipOK (oe GL) asx.toList (q :: args) && baseOK q
    | _ => false)
  | .appR d q r e s by_ => o.dst == some d && decide (d < N) && (match o.op with
    | .call { callee := .builtin .append, args, argTypes } => two2 args.toList (fun x y => oe GL x q && oe GL y r) &&
        two2 argTypes.toList (fun t t2 => sliceIs P t e && isK P t2 (fun | .slice _ => true | _ => false)) && elemIs P e s by_ && ((P.info? e).bind (·.zero)).any (fun z => z.cells.toList.all Value.oneCell')
    | _ => false)
  | .frz d q _ => o.dst == some d && decide (d < N) && (match o.op with | .move x => oe GL x q | .assign x => oe GL x q | _ => false)
def chkG (P : Program) (GL : Globals) (N : Nat) (ops : Array Oper) (i : Nat) (x : GI) : Bool :=
  match ops[i]? with
  | none => false
  | some o => (match o.guard, x.g with
    | none, none => true
    | some (j, want), some (t, want') => (ops[j]?).bind (·.dst) == some t && want == want' && x.i.dst == o.dst
    | _, _ => false) && chkI P GL N o x.i
theorem callsIn_wf {r : Option Nat} {n : Nat} {P : Program} {f : FuncId} {args : Array Value} {w : World} {R : Ending → World → Prop} (h : Calls P f args w R) : CallsIn (WF r) n P f args w R :=
  (callsIn_wide (n := n)).2 h
theorem find_norm (e : Env) : ∀ (ns : List Nat) (n : Nat), find (normE e ns) n = if n ∈ ns then find e n else .any
  | [], n => by simp [normE, find]
  | m :: ns, n => by
    simp only [normE, find]
    by_cases h : m = n
    · simp [h]
    · rw [if_neg h, find_norm e ns n]
      simp [Ne.symm h]
section
variable {P : Program} {GL : Globals} {N : Nat} {r : Option Nat}
theorem Gs.norm {g : Gh} {w : World} {μ : List Nat} {s : St} {a : Act} {O : Nat → Prop} (hg : Gs GL N g w μ s a O) (ns : List Nat) : Gs GL N g w μ ⟨normE s.e ns, s.h⟩ a O where
  inv := hg.inv.weaken _ fun n => by
    rw [find_norm]
    by_cases h : n ∈ ns
    · exact .inl (by simp [h])
    · exact .inr ⟨fun v _ => by simp [h, RepD, RepG, RepE], fun v k => by simp only [h, if_false]; cases k <;> simp [ownAt, own1]⟩
  glob := hg.glob
  sz := hg.sz
theorem eff_ok {o : Oper} {ai : AI} (h : chkI P GL N o ai = true) (hc : ∀ d f args, ai ≠ .call d f args) (hc2 : ∀ d ne x, ai ≠ .nilS d ne x) (hc3 : ∀ d f args, ai ≠ .callF d f args ∧ ai ≠ .callC d f args) (hc4 : ∀ d f q args, ai ≠ .callO d f q args) (hc5 : ∀ d x y e s b, ai ≠ .appR d x y e s b ∧ ai ≠ .frz d x s) : EffOK P GL N o ai ∧ ∀ c, o.op ≠ .defer c := by
  cases ai with
  | p d i =>
    simp only [chkI, Bool.and_eq_true, beq_iff_eq, decide_eq_true_eq] at h
    refine ⟨p_ok h.1.1 h.1.2 h.2, fun c hc => ?_⟩
    rw [hc] at h; simp [chkP] at h
  | mv d q =>
    simp only [chkI, Bool.and_eq_true, beq_iff_eq, decide_eq_true_eq] at h
    obtain ⟨⟨⟨h1, h2⟩, h3⟩, h4⟩ := h
    split at h4
    · rename_i x hx; exact ⟨mv_ok h1 (.inl hx) h2 h4 h3, fun c hc => by rw [hx] at hc; cases hc⟩
    · rename_i x hx; exact ⟨mv_ok h1 (.inr hx) h2 h4 h3, fun c hc => by rw [hx] at hc; cases hc⟩
    · cases h4
  | alloc d zs =>
    simp only [chkI, Bool.and_eq_true, beq_iff_eq, decide_eq_true_eq] at h
    obtain ⟨⟨h1, h2⟩, h4⟩ := h
    split at h4
    · rename_i t hx; exact ⟨alloc_ok h1 hx h2 h4, fun c hc => by rw [hx] at hc; cases hc⟩
    · cases h4
  | box d q =>
    simp only [chkI, Bool.and_eq_true, beq_iff_eq, decide_eq_true_eq] at h
    obtain ⟨⟨h1, h2⟩, h4⟩ := h
    split at h4
    · rename_i t x hx; exact ⟨box_ok h1 hx h2 h4, fun c hc => by rw [hx] at hc; cases hc⟩
    · cases h4
  | store p q n =>
    simp only [chkI, Bool.and_eq_true, beq_iff_eq] at h
    obtain ⟨h1, h4⟩ := h
    split at h4
    · rename_i t p' x hx
      simp only [Bool.and_eq_true] at h4
      exact ⟨store_ok h1 hx h4.1.1 h4.1.2 h4.2, fun c hc => by rw [hx] at hc; cases hc⟩
    · cases h4
  | take d p =>
    simp only [chkI, Bool.and_eq_true, beq_iff_eq, decide_eq_true_eq] at h
    obtain ⟨⟨h1, h2⟩, h4⟩ := h
    split at h4
    · rename_i t p' hx
      simp only [Bool.and_eq_true] at h4
      obtain ⟨el, hel⟩ := isK_slice h4.2
      exact ⟨take_ok h1 hx h2 h4.1 hel, fun c hc => by rw [hx] at hc; cases hc⟩
    · cases h4
  | app d q r e s by_ =>
    simp only [chkI, Bool.and_eq_true, beq_iff_eq, decide_eq_true_eq] at h
    obtain ⟨⟨h1, h2⟩, h4⟩ := h
    split at h4
    · rename_i asx ts hx
      simp only [Bool.and_eq_true] at h4
      obtain ⟨⟨⟨k1, k2⟩, k3⟩, k4⟩ := h4
      obtain ⟨x, y, rfl, j1⟩ := two_arr k1
      obtain ⟨t, t2, rfl, j3⟩ := two_arr k3
      simp only [Bool.and_eq_true] at j1 j3
      obtain ⟨e2, he2⟩ := isK_slice j3.2
      exact ⟨app_ok h1 hx h2 j1.1 j1.2 k2 j3.1 (e2 := e2) (by simp [sliceIs, he2]) k4, fun c hc => by rw [hx] at hc; cases hc⟩
    · cases h4
  | appS d q r e by_ =>
    simp only [chkI, Bool.and_eq_true, beq_iff_eq, decide_eq_true_eq] at h
    obtain ⟨⟨h1, h2⟩, h4⟩ := h
    split at h4
    · rename_i asx ts hx
      simp only [Bool.and_eq_true] at h4
      obtain ⟨⟨⟨k1, k2⟩, k3⟩, k4⟩ := h4
      obtain ⟨x, y, rfl, j1⟩ := two_arr k1
      obtain ⟨t, t2, rfl, j3⟩ := two_arr k3
      simp only [Bool.and_eq_true] at j1 j3
      exact ⟨appS_ok h1 hx h2 j1.1 j1.2 k2 j3.1 j3.2 k4, fun c hc => by rw [hx] at hc; cases hc⟩
    · cases h4
  | bsl d e s qs =>
    simp only [chkI, Bool.and_eq_true, beq_iff_eq, decide_eq_true_eq] at h
    obtain ⟨⟨h1, h2⟩, h4⟩ := h
    split at h4
    · rename_i t n ps hx
      simp only [Bool.and_eq_true, beq_iff_eq, decide_eq_true_eq] at h4
      obtain ⟨⟨⟨⟨k1, k2⟩, k3⟩, k4⟩, k5⟩ := h4
      split at k2
      · exact ⟨bsl_ok h1 hx h2 k1 k2 k3 k4 k5, fun c hc => by rw [hx] at hc; cases hc⟩
      · cases k2
    · cases h4
  | s2b d x =>
    simp only [chkI, Bool.and_eq_true, beq_iff_eq, decide_eq_true_eq] at h
    obtain ⟨⟨h1, h2⟩, h4⟩ := h
    split at h4
    · rename_i s t x hx
      simp only [Bool.and_eq_true] at h4
      exact ⟨s2b_ok h1 hx h2 h4.2 h4.1.1 h4.1.2, fun c hc => by rw [hx] at hc; cases hc⟩
    · cases h4
  | mkm d =>
    simp only [chkI, Bool.and_eq_true, beq_iff_eq, decide_eq_true_eq] at h
    obtain ⟨⟨h1, h2⟩, h4⟩ := h
    split at h4
    · rename_i t hx; exact ⟨mkm_ok h1 hx rfl h2, fun c hc => by rw [hx] at hc; cases hc⟩
    · cases h4
  | mksl d q z =>
    simp only [chkI, Bool.and_eq_true, beq_iff_eq, decide_eq_true_eq] at h
    obtain ⟨⟨h1, h2⟩, h4⟩ := h
    split at h4
    · rename_i t x c hx
      simp only [Bool.and_eq_true] at h4
      obtain ⟨⟨k1, k2⟩, k3⟩ := h4
      split at k1
      · rename_i a b
        have hab : b = a := (beq_iff_eq.1 k1).symm
        split at k3
        · rename_i e hu
          simp only [Bool.and_eq_true, beq_iff_eq] at k3
          exact ⟨mksl_ok h1 hx h2 (by rw [hab]) k2 hu k3.1.1 k3.1.2 k3.2, fun c hc => by rw [hx] at hc; cases hc⟩
        · cases k3
      · cases k1
    · cases h4
  | mput m k v st ks =>
    simp only [chkI, Bool.and_eq_true, beq_iff_eq] at h
    obtain ⟨h1, h4⟩ := h
    split at h4
    · rename_i t x i y hx
      simp only [Bool.and_eq_true] at h4
      exact ⟨mput_ok h1 hx h4.1.1.1 h4.1.1.2 h4.1.2 h4.2, fun c hc => by rw [hx] at hc; cases hc⟩
    · cases h4
  | ment d m k st ks =>
    simp only [chkI, Bool.and_eq_true, beq_iff_eq, decide_eq_true_eq] at h
    obtain ⟨⟨h1, h2⟩, h4⟩ := h
    split at h4
    · rename_i t x i hx
      simp only [Bool.and_eq_true] at h4
      exact ⟨ment_ok h1 h2 hx h4.1.1 h4.1.2 h4.2, fun c hc => by rw [hx] at hc; cases hc⟩
    · cases h4
  | mest m b v =>
    simp only [chkI, Bool.and_eq_true, beq_iff_eq] at h
    obtain ⟨h1, h4⟩ := h
    split at h4
    · rename_i t x i y hx
      simp only [Bool.and_eq_true] at h4
      exact ⟨mest_ok h1 hx h4.1.1 h4.1.2 h4.2, fun c hc => by rw [hx] at hc; cases hc⟩
    · cases h4
  | mdel d m k st ks =>
    simp only [chkI, Bool.and_eq_true, beq_iff_eq] at h
    obtain ⟨⟨h1, h2⟩, h4⟩ := h
    split at h4
    · rename_i asx ts hx
      simp only [Bool.and_eq_true] at h4
      obtain ⟨x, y, rfl, j1⟩ := two_arr h4.1
      obtain ⟨t, t2, rfl, j3⟩ := two_arr h4.2
      simp only [Bool.and_eq_true] at j1
      exact ⟨mdel_ok h1 (fun n hn => by subst hn; simpa using h2) hx j3 j1.1 j1.2, fun c hc => by rw [hx] at hc; cases hc⟩
    · cases h4
  | nilS d ne x => exact absurd rfl (hc2 d ne x)
  | call d f args => exact absurd rfl (hc d f args)
  | callF d f args => exact absurd rfl (hc3 d f args).1
  | callC d f args => exact absurd rfl (hc3 d f args).2
  | callO d f q args => exact absurd rfl (hc4 d f q args)
  | appR d x y e s b => exact absurd rfl (hc5 d x y e s b).1
  | frz d x s => exact absurd rfl (hc5 d x x 0 s 0).2
def ExOK : AExit → Exit → Prop
  | .normal, .normal => True
  | .exit i, .exit j => i = j
  | .ret, .ret => True
  | _, _ => False
def After (GL : Globals) (N : Nat) (Q : St → Prop) (g : Gh) (w : World) (μ : List Nat) (a : Act) (O : Nat → Prop) (a' : Act) (w' : World) : Prop :=
  ∃ s' g' μ', Q s' ∧ Gs GL N g' w' μ' s' a' O ∧ Chg (fun b => ¬ O b) g w g' w' ∧ μ <+: μ' ∧ a'.defers = a.defers
theorem After.trans {Q : St → Prop} {g : Gh} {w : World} {μ : List Nat} {a : Act} {O : Nat → Prop} {g1 : Gh} {w1 : World} {μ1 : List Nat} {a1 : Act} {a2 : Act} {w2 : World}
    (hc : Chg (fun b => ¬ O b) g w g1 w1) (hμ : μ <+: μ1) (hd : a1.defers = a.defers) (h : After GL N Q g1 w1 μ1 a1 O a2 w2) : After GL N Q g w μ a O a2 w2 := by
  obtain ⟨s', g', μ', hq, hg, hc', hμ', hd'⟩ := h
  exact ⟨s', g', μ', hq, hg, hc.trans hc', hμ.trans hμ', hd'.trans hd⟩
theorem put_defers (a : Act) (d : Option Nat) (v : Value) : (a.put d v).defers = a.defers := by cases d <;> rfl
theorem retD_rep {g : Gh} {w : World} {μ : List Nat} {rets : List V} {v : Value} (h : RepD g w [] (retD rets) v) : RepD g w μ (retD rets) v ∧ ∀ k, ownAt (retD rets) v k = none := by
  unfold retD at h ⊢
  split
  · rename_i x; exact ⟨h, fun k => own_v _ _ _⟩
  · rename_i hne
    split at h
    · rename_i x; exact absurd rfl (hne x)
    · obtain ⟨vs, rfl, ha⟩ := h
      refine ⟨⟨vs, rfl, ha.1, fun i x v hx hv => ?_⟩, fun k => ?_⟩
      · have := ha.2 i x v hx hv
        simp only [List.getElem?_map, Option.map_eq_some_iff] at hx
        obtain ⟨y, _, rfl⟩ := hx
        exact this
      · simp only [ownAt]
        cases hk : (rets.map D.v)[k]? with
        | none => simp [own1]
        | some d =>
          simp only [List.getElem?_map, Option.map_eq_some_iff] at hk
          obtain ⟨y, _, rfl⟩ := hk
          simp [own1]
theorem repC_args {g : Gh} {w : World} {μ : List Nat} {caps : List D} {vs : List Value} (h : All2 (RepC g μ) caps vs) : All2 (RepG g w μ) caps vs ∧ Tame caps vs := by
  refine ⟨h.imp fun d v h => ?_, fun i d v hd hv => ?_⟩
  · cases d <;> first | exact h | exact h.elim
  · have := h.2 i d v hd hv
    cases d <;> first | rfl | exact this.elim
theorem Gs.setR {g : Gh} {w : World} {μ : List Nat} {s : St} {a : Act} {O : Nat → Prop} (h : Gs GL N g w μ s a O) {d : Nat} (hd : d < N) {x : D} {v : Value}
    (hi : Inv g w μ (fun n => if d = n then x else find s.e n) (fun n => if d = n then v else a.tmps.getD n undef) s.h O) : Gs GL N g w μ ⟨(d, x) :: s.e, s.h⟩ (a.put (some d) v) O where
  inv := by rw [put_get v (h.sz ▸ hd)]; exact hi
  glob := h.glob
  sz := by rw [put_size, h.sz]
theorem awpI_sound0 {o : Oper} {ai : AI} (hc3 : ∀ d f args, ai ≠ .callF d f args ∧ ai ≠ .callC d f args) (hc4 : ∀ d f q args, ai ≠ .callO d f q args) (hc5 : ∀ d x y e s b, ai ≠ .appR d x y e s b ∧ ai ≠ .frz d x s) (hk : chkI P GL N o ai = true) {K : St → Prop} {g : Gh} {w : World} {μ : List Nat} {s : St} {a : Act} {O : Nat → Prop} (hg : Gs GL N g w μ s a O)
    (h : awpI P GL ai K s) {next : Act → World → Prop} {Q : Exit → Act → World → Prop}
    (hn : ∀ s' g' w' μ' a', K s' → Gs GL N g' w' μ' s' a' O → Chg (fun b => ¬ O b) g w g' w' → μ <+: μ' → a'.defers = a.defers → next a' w') : o.wpIn (WF r) 0 P a w next Q := by
  refine ⟨fun _ _ => trivial, ?_⟩
  by_cases hc2 : ∃ d ne x, ai = .nilS d ne x
  · obtain ⟨d, ne, q, rfl⟩ := hc2
    simp only [chkI, Bool.and_eq_true, beq_iff_eq, decide_eq_true_eq] at hk
    obtain ⟨⟨hdst, hdN⟩, h4⟩ := hk
    split at h4
    · rename_i op t x y s' hop
      simp only [Bool.and_eq_true] at h4
      obtain ⟨⟨⟨hb, hy⟩, ht⟩, hx⟩ := h4
      rw [Oper.semAt_eq _ _ _ (fun c hc => by rw [hop] at hc; cases hc)]
      obtain ⟨el, hu⟩ := isK_slice ht
      split at hy
      · have hr := ((hg.gd P).ev hx).copy
        have fin : ∀ (b : Bool), (execOp a.eval o).run P w = .ok (.value (.bool b)) w → K ⟨(d, .v (.bool b)) :: s.e, s.h⟩ → Oper.uponIn (WF r) 0 P o a next Q ((execOp a.eval o).run P w) := by
          intro b hrun hK
          rw [hrun]
          refine hn _ g w μ _ hK ?_ (Chg.refl _ _ _) (List.prefix_refl _) (put_defers _ _ _)
          rw [hdst]
          exact hg.set hdN (.bool b) fun k => own_v _ _ _
        have hrun : ∀ (ad : Option Addr) (n c : Nat), a.eval x = .slice ad n c → (execOp a.eval o).run P w = .ok (.value (.bool (ad.isNone != ne))) w := by
          intro ad n c hv
          have hg : (eqGuard op t x (.const (.slice none 0 0)) (.slice ad n c) (.slice none 0 0)).run P w = .ok () w := eqGuard_skip ⟨by simp, by simp⟩
          have heq := run_equal_slice_nil (P := P) w t el ad n c hu
          have hev : a.eval (.const (.slice none 0 0)) = .slice none 0 0 := rfl
          have := beq_binop hb
          subst this
          cases ne <;> simp [execOp, hop, hv, hev, binOp, heq] at hg ⊢ <;> simp [hg, heq]
        simp only [awpI] at h
        split at h
        · rename_i hc
          rw [hc] at hr
          have hr' : RepV g (.list []) (a.eval x) := hr
          generalize hv : a.eval x = u at hr'
          cases hr' with
          | lnil => exact fin _ (hrun none 0 0 hv) h.1
          | list _ ad cap _ _ hs => exact fin _ (hrun (some ad) _ cap hv) h.2
        · rename_i hc
          rw [hc] at hr
          obtain ⟨ad, hv, _⟩ := hr
          cases ad with
          | none => exact fin _ (hrun none 0 0 hv) h.1
          | some ad => exact fin _ (hrun (some ad) 0 0 hv) h.2
        · rename_i y ys hc
          rw [hc] at hr
          have hr' : RepV g (.list (y :: ys)) (a.eval x) := hr
          generalize hv : a.eval x = u at hr'
          cases hr' with
          | list _ ad cap _ _ hs => exact fin _ (hrun (some ad) _ cap hv) h
        · exact h.elim
      · cases hy
    · cases h4
  by_cases hc : ∀ d f args, ai ≠ .call d f args
  · obtain ⟨heff, hnd⟩ := eff_ok hk hc (fun d ne x h => hc2 ⟨d, ne, x, h⟩) hc3 hc4 hc5
    rw [Oper.semAt_eq _ _ _ hnd]
    have h' : ∃ s', ai.step s = some s' ∧ K s' := by
      unfold awpI at h
      split at h
      · exact absurd rfl (hc _ _ _)
      · exact absurd rfl (hc3 _ _ _).1
      · exact absurd rfl (hc3 _ _ _).2
      · exact absurd rfl (hc4 _ _ _ _)
      · exact absurd rfl (hc5 _ _ _ _ _ _).1
      · exact absurd rfl (hc5 _ _ default 0 _ 0).2
      · exact absurd ⟨_, _, _, rfl⟩ hc2
      · split at h
        · rename_i s' hs; exact ⟨s', hs, h⟩
        · exact h.elim
    obtain ⟨s', hs, hK⟩ := h'
    obtain ⟨v, w', g', μ', hrun, hgs, hch, hμ⟩ := heff hg hs
    rcases hrun with hrun | ⟨hrun, rfl⟩
    · rw [hrun]; exact hn s' g' w' μ' _ hK hgs hch hμ (put_defers _ _ _)
    · rw [hrun]; exact hn s' g' w' μ' _ hK hgs hch hμ (put_defers _ _ _)
  · have : ∃ d f args, ai = .call d f args := by
      cases ai <;> first | exact ⟨_, _, _, rfl⟩ | exact absurd (fun _ _ _ h => by cases h) hc
    obtain ⟨d, f, args, rfl⟩ := this
    have h : (∃ r b h', f.ev s.e = .yld r ∧ YSp P GL r (argsOf s.e args) s.h b h' ∧ K ⟨setO s.e d (.v (.bool b)), h'⟩) ∨
        (∃ fid fs rets h', f.ev s.e = .meth fid fs ∧ FSp P GL fid (fs ++ argsOf s.e args) s.h rets h' ∧ K ⟨setO s.e d (retDs rets), h'⟩) ∨
        ∃ fid caps rets h', fnOf (f.ev s.e) = some (fid, caps) ∧ FSp P GL fid (argsOf s.e args ++ caps) s.h rets h' ∧ K ⟨setO s.e d (retDs rets), h'⟩ := by
      simp only [awpI, awpCall] at h
      split at h
      · rename_i r hf; obtain ⟨b, h', h1, h2⟩ := h; exact .inl ⟨r, b, h', hf, h1, h2⟩
      · rename_i fid fs hf; obtain ⟨rets, h', h1, h2⟩ := h; exact .inr (.inl ⟨fid, fs, rets, h', hf, h1, h2⟩)
      · split at h
        · rename_i fid caps hf; obtain ⟨rets, h', h1, h2⟩ := h; exact .inr (.inr ⟨fid, caps, rets, h', hf, h1, h2⟩)
        · exact h.elim
    rcases h with ⟨rr, yb, h', hf, hsp, hK⟩ | ⟨fid, fs, rets, h', hf, ⟨hok, hsp⟩, hK⟩ | h
    · simp only [chkI] at hk
      split at hk
      · rename_i f' asx ts hop
        simp only [Bool.and_eq_true, beq_iff_eq] at hk
        obtain ⟨⟨⟨hdst, hdN⟩, hkf⟩, hka⟩ := hk
        rw [Oper.semAt_eq _ _ _ (fun c hc => by rw [hop] at hc; cases hc)]
        have hrf := (hg.gd P).ev hkf
        rw [hf] at hrf
        obtain ⟨bl, hbl, hcv⟩ := hrf
        obtain ⟨har, hat⟩ := argsOf_rep (hg.gd P) hka
        obtain ⟨fn, tmps, asg, body, hy, hround⟩ := hsp g w μ _ _ hg.inv.call hg.glob har hat bl hbl
        have hrun : (execOp a.eval o).run P w = .ok (.round bl fn tmps asg body) w := by
          have h2 : asx.map a.eval = (asx.toList.map a.eval).toArray := by rw [← Array.toList_inj]; simp
          simp [execOp, hop, resolve, hcv, Deferred.ofValue, invoke, h2, hy]
        rw [hrun, Oper.uponIn_round]
        refine ⟨(fun h => by simp [WF, Fence.wide] at h), ?_⟩
        refine RoundIn.mono (F := WF r) (show RoundIn (WF r) 0 P bl fn tmps asg body w _ from hround) ?_
        rintro e w' ⟨g', μ', rfl, hinv, hch, hμ⟩
        have hgs : Gs GL N g' w' μ' ⟨s.e, h'⟩ a O := ⟨hg.inv.ret hinv hch hμ, hg.glob.mono hch.le, hg.sz⟩
        refine hn ⟨setO s.e d (.v (.bool yb)), h'⟩ g' w' μ' _ hK ?_ (hch.mono fun _ h ho => h (.inl ho)) hμ (put_defers _ _ _)
        rw [hdst]
        cases d with
        | none => exact ⟨hgs.inv, hgs.glob, by rw [put_size, hgs.sz]⟩
        | some d => exact hgs.set (by simpa using hdN) (.bool yb) fun k => own_v _ _ _
      · cases hk
    · simp only [chkI] at hk
      split at hk
      · rename_i f' asx ts hop
        simp only [Bool.and_eq_true, beq_iff_eq] at hk
        obtain ⟨⟨⟨hdst, hdN⟩, hkf⟩, hka⟩ := hk
        rw [Oper.semAt_eq _ _ _ (fun c hc => by rw [hop] at hc; cases hc)]
        have hrf := (hg.gd P).ev hkf
        rw [hf] at hrf
        obtain ⟨cvs, hcv, hcr0⟩ := hrf
        obtain ⟨hcr, hct⟩ := repC_args (w := w) hcr0
        obtain ⟨har, hat⟩ := argsOf_rep (hg.gd P) hka
        have hall := hcr.append har
        have htm := hct.append hcr.1 hat
        have hcall := hsp g w μ _ _ hg.inv.call hg.glob hall htm
        have hrun : (execOp a.eval o).run P w = .ok (.enter fid (cvs ++ asx.toList.map a.eval).toArray) w := by
          unfold okF at hok
          split at hok
          · rename_i fn hfn
            simp only [Bool.and_eq_true, Bool.not_eq_true'] at hok
            have h1 : ¬ fn.body = none := by cases hb : fn.body <;> simp_all
            have h3 : ¬ fn.name = "runtime.NumGoroutine" := by simpa using hok.2
            have h2 : (cvs.toArray ++ asx.map a.eval) = (cvs ++ asx.toList.map a.eval).toArray := by
              rw [← Array.toList_inj]; simp
            simp [execOp, hop, resolve, hcv, Deferred.ofValue, invoke, callFunc, hfn, h3, h1, h2]
          · cases hok
        rw [hrun, Oper.uponIn_enter]
        refine ⟨(fun h => by simp [WF, Fence.wide] at h), callsIn_wf ?_⟩
        refine hcall.mono ?_
        rintro e w' ⟨v, g', μ', rfl, hinv, hch, hμ⟩
        have hgs : Gs GL N g' w' μ' ⟨s.e, h'⟩ a O := ⟨hg.inv.ret hinv.leave hch hμ, hg.glob.mono hch.le, hg.sz⟩
        refine hn ⟨setO s.e d (retDs rets), h'⟩ g' w' μ' _ hK ?_ (hch.mono fun _ h ho => h (.inl ho)) hμ (put_defers _ _ _)
        rw [hdst]
        cases d with
        | none => exact ⟨hgs.inv, hgs.glob, by rw [put_size, hgs.sz]⟩
        | some d => exact hgs.setR (by simpa using hdN) (hg.inv.retV hinv hgs.inv d)
      · cases hk
    obtain ⟨fid, caps, rets, h', hf, ⟨hok, hsp⟩, hK⟩ := h
    simp only [chkI] at hk
    split at hk
    · rename_i f' asx ts hop
      simp only [Bool.and_eq_true, beq_iff_eq] at hk
      obtain ⟨⟨⟨hdst, hdN⟩, hkf⟩, hka⟩ := hk
      rw [Oper.semAt_eq _ _ _ (fun c hc => by rw [hop] at hc; cases hc)]
      obtain ⟨cvs, hcv, hcr, hct⟩ := fnOf_rep ((hg.gd P).ev hkf) hf
      obtain ⟨har, hat⟩ := argsOf_rep (hg.gd P) hka
      have hall := har.append hcr
      have htm := hat.append har.1 hct
      have hcall := hsp g w μ _ _ hg.inv.call hg.glob hall htm
      have hrun : (execOp a.eval o).run P w = .ok (.enter fid (asx.toList.map a.eval ++ cvs).toArray) w := by
        unfold okF at hok
        split at hok
        · rename_i fn hfn
          simp only [Bool.and_eq_true, Bool.not_eq_true'] at hok
          have h1 : ¬ fn.body = none := by cases hb : fn.body <;> simp_all
          have h3 : ¬ fn.name = "runtime.NumGoroutine" := by simpa using hok.2
          have h2 : (asx.map a.eval ++ cvs.toArray) = (asx.toList.map a.eval ++ cvs).toArray := by
            rw [← Array.toList_inj]; simp
          simp [execOp, hop, resolve, hcv, Deferred.ofValue, invoke, callFunc, hfn, h3, h1, h2]
        · cases hok
      rw [hrun, Oper.uponIn_enter]
      refine ⟨(fun h => by simp [WF, Fence.wide] at h), callsIn_wf ?_⟩
      refine hcall.mono ?_
      rintro e w' ⟨v, g', μ', rfl, hinv, hch, hμ⟩
      have hgs : Gs GL N g' w' μ' ⟨s.e, h'⟩ a O := ⟨hg.inv.ret hinv.leave hch hμ, hg.glob.mono hch.le, hg.sz⟩
      refine hn ⟨setO s.e d (retDs rets), h'⟩ g' w' μ' _ hK ?_ (hch.mono fun _ h ho => h (.inl ho)) hμ (put_defers _ _ _)
      rw [hdst]
      cases d with
      | none => exact ⟨hgs.inv, hgs.glob, by rw [put_size, hgs.sz]⟩
      | some d => exact hgs.setR (by simpa using hdN) (hg.inv.retV hinv hgs.inv d)
    · cases hk
theorem Inv.callO {g : Gh} {w : World} {μ : List Nat} {t t' : Nat → D} {u : Nat → Value} {h : List Row} {O : Nat → Prop} (hi : Inv g w μ t u h O) (ht : ∀ n k b, ownAt (t' n) (u n) k = some b → ownAt (t n) (u n) k = some b)
    {x : D} {v : Value} {ds : List D} {us : List Value} (hx : RepD g w μ x v) (hall : All2 (RepG g w μ) ds us) (htm : Tame ds us)
    (hown : ∀ k b, ownAt x v k = some b → ∃ m, ownAt (t m) (u m) k = some b ∧ t' m = .any) :
    Inv g w μ (atL .any (x :: ds)) (atL undef (v :: us)) h (Ocall t' u O) := by
  have tail : ∀ n k, ownAt (atL .any (x :: ds) (n + 1)) (atL undef (v :: us) (n + 1)) k = none := by
    intro n k
    simp only [atL, List.getElem?_cons_succ]
    cases hd : ds[n]? with
    | none => cases k <;> simp [ownAt, own1]
    | some d =>
      obtain ⟨y, hy, hr⟩ := hall.get hd
      rw [hy]
      exact ownAt_of1 hr (htm n d y hd hy) k
  have head : ∀ k b, blk (atL .any (x :: ds)) (atL undef (v :: us)) h w μ (.tmp 0 k) = some b → ∃ m, blk t u h w μ (.tmp m k) = some b ∧ t' m = .any := fun k b hb => hown k b hb
  have own_any : ∀ (v : Value) k, ownAt .any v k = none := fun v k => by cases k <;> simp [ownAt, own1]
  refine ⟨hi.agree, fun b hb => ?_, fun n => ?_, hi.len, hi.rows, hi.nod, fun b hb ho => ?_, fun p q b hp hq => ?_, fun p b hp => ?_⟩
  · rcases hb with hb | ⟨n, k, hb⟩
    · exact hi.olt b hb
    · exact hi.blk_lt (p := .tmp n k) (ht n k b hb)
  · cases n with
    | zero => exact hx
    | succ n =>
      simp only [atL, List.getElem?_cons_succ]
      cases hd : ds[n]? with
      | none => simp [RepD, RepG, RepE]
      | some d =>
        obtain ⟨y, hy, hr⟩ := hall.get hd
        rw [hy]
        exact hr.toD
  · rcases ho with ho | ⟨n, k, ho⟩
    · exact hi.mo b hb ho
    · exact (hi.sep (.tmp n k) b (ht n k b ho)).1 hb
  · cases p with
    | tmp n k =>
      cases n with
      | succ n => have hp' : ownAt _ _ k = some b := hp; rw [tail n k] at hp'; cases hp'
      | zero =>
        obtain ⟨m, hm, _⟩ := head k b hp
        cases q with
        | tmp n' k' =>
          cases n' with
          | succ n' => have hq' : ownAt _ _ k' = some b := hq; rw [tail n' k'] at hq'; cases hq'
          | zero =>
            obtain ⟨m', hm', _⟩ := head k' b hq
            have := hi.uniq _ _ b hm hm'
            cases this; rfl
        | cell r' k' => have := hi.uniq _ (.cell r' k') b hm hq; cases this
    | cell r k =>
      cases q with
      | tmp n' k' =>
        cases n' with
        | succ n' => have hq' : ownAt _ _ k' = some b := hq; rw [tail n' k'] at hq'; cases hq'
        | zero =>
          obtain ⟨m', hm', _⟩ := head k' b hq
          have := hi.uniq (.cell r k) _ b hp hm'
          cases this
      | cell r' k' => exact hi.uniq (.cell r k) (.cell r' k') b hp hq
  · cases p with
    | tmp n k =>
      cases n with
      | succ n => have hp' : ownAt _ _ k = some b := hp; rw [tail n k] at hp'; cases hp'
      | zero =>
        obtain ⟨m, hm, hma⟩ := head k b hp
        refine ⟨(hi.sep _ b hm).1, fun ho => ?_⟩
        rcases ho with ho | ⟨n', k', ho⟩
        · exact (hi.sep _ b hm).2 ho
        · have := hi.uniq _ (.tmp n' k') b hm (ht n' k' b ho)
          cases this
          rw [hma, own_any] at ho; cases ho
    | cell r k =>
      obtain ⟨h1, h2⟩ := hi.sep (.cell r k) b hp
      refine ⟨h1, fun ho => ?_⟩
      rcases ho with ho | ⟨n', k', ho⟩
      · exact h2 ho
      · have := hi.uniq (.cell r k) (.tmp n' k') b hp (ht n' k' b ho)
        cases this
theorem callO_sound {o : Oper} {d : Option Nat} {f q : Opd} {args : List Opd} (hk : chkI P GL N o (.callO d f q args) = true) {K : St → Prop} {g : Gh} {w : World} {μ : List Nat} {s : St} {a : Act} {O : Nat → Prop} (hg : Gs GL N g w μ s a O)
    (h : awpI P GL (.callO d f q args) K s) {next : Act → World → Prop} {Q : Exit → Act → World → Prop}
    (hn : ∀ s' g' w' μ' a', K s' → Gs GL N g' w' μ' s' a' O → Chg (fun b => ¬ O b) g w g' w' → μ <+: μ' → a'.defers = a.defers → next a' w') : o.wpIn (WF r) 0 P a w next Q := by
  refine ⟨fun _ _ => trivial, ?_⟩
  simp only [chkI] at hk
  split at hk
  · rename_i f' asx ts hop
    simp only [Bool.and_eq_true, beq_iff_eq] at hk
    obtain ⟨⟨⟨⟨hdst, hdN⟩, hkf⟩, hka⟩, hb⟩ := hk
    obtain ⟨fid, rets, hf, ⟨hok, hsp⟩, hK⟩ := h
    rw [Oper.semAt_eq _ _ _ (fun c hc => by rw [hop] at hc; cases hc)]
    obtain ⟨cvs, hcv, hcr, _⟩ := fnOf_rep ((hg.gd P).ev hkf) hf
    have hcv0 : cvs = [] := List.eq_nil_of_length_eq_zero (by have := hcr.1; simpa using this)
    subst hcv0
    obtain ⟨x, as', has⟩ : ∃ x as', asx.toList = x :: as' := by
      cases h : asx.toList with
      | nil => rw [h] at hka; simp [zipOK] at hka
      | cons x as' => exact ⟨x, as', rfl⟩
    rw [has] at hka
    simp only [zipOK, Bool.and_eq_true] at hka
    obtain ⟨hkx, hka⟩ := hka
    have hrx := (hg.gd P).ev hkx
    obtain ⟨har, hat⟩ := argsOf_rep (hg.gd P) hka
    have hclear : (find (q.clear s.e) = find s.e ∧ ∀ k b, ownAt (q.ev s.e) (a.eval x) k = some b → False) ∨ ∃ m, q = .t m true ∧ find (q.clear s.e) = fun n => if m = n then .any else find s.e n := by
      cases q with
      | t m mv => cases mv with
        | false => simp [baseOK] at hb
        | true => exact .inr ⟨m, rfl, rfl⟩
      | c d =>
        refine .inl ⟨rfl, fun k b hkb => ?_⟩
        cases x with
        | const v =>
          simp only [oe] at hkx
          unfold constD at hkx
          split at hkx <;> first | (cases k <;> simp [Opd.ev, Act.eval, ownAt, own1] at hkb; done) | (rename_i h _; cases h) | cases hkx
          all_goals (cases k <;> simp_all [Opd.ev, Act.eval, ownAt, own1])
        | tmp n => simp [oe] at hkx
        | global n => simp [oe] at hkx
        | func f => cases k <;> cases d <;> simp [Opd.ev, Act.eval, ownAt, own1] at hkb
      | g n cs => simp [baseOK] at hb
    have hInvC : Inv g w μ (find (q.clear s.e)) (fun n => a.tmps.getD n undef) s.h O := by
      rcases hclear with ⟨h, _⟩ | ⟨m, _, h⟩
      · rw [h]; exact hg.inv
      · rw [h]
        refine hg.inv.weaken _ fun n => ?_
        by_cases hn : m = n
        · exact .inr ⟨fun v _ => by simp [hn, RepD, RepG, RepE], fun v k => by simp only [hn, if_true]; cases k <;> simp [ownAt, own1]⟩
        · exact .inl (by simp [hn])
    have hin := hg.inv.callO (t' := find (q.clear s.e)) (ds := argsOf s.e args) (us := as'.map a.eval) (x := q.ev s.e) (v := a.eval x) (fun n k b hb => by
        rcases hclear with ⟨h, _⟩ | ⟨m, _, h⟩
        · rw [h] at hb; exact hb
        · rw [h] at hb
          by_cases hn : m = n
          · simp only [hn, if_true] at hb; cases k <;> simp [ownAt, own1] at hb
          · simpa [hn] using hb) hrx har hat (fun k b hkb => by
        rcases hclear with ⟨_, h⟩ | ⟨m, rfl, h⟩
        · exact (h k b hkb).elim
        · refine ⟨m, ?_, by rw [h]; simp⟩
          cases x with
          | tmp n =>
            simp only [oe, beq_iff_eq] at hkx
            subst hkx
            simpa [Opd.ev, Act.eval] using hkb
          | const v => simp [oe] at hkx
          | global n => simp [oe] at hkx
          | func f => simp [oe] at hkx)
    have hcall := hsp g w μ (a.eval x :: as'.map a.eval) _ s.h (by simp [har.1.symm, argsOf] at *; have := har.1; simpa [argsOf] using this) hin hg.glob
    have hrun : (execOp a.eval o).run P w = .ok (.enter fid (a.eval x :: as'.map a.eval).toArray) w := by
      unfold okF at hok
      split at hok
      · rename_i fn hfn
        simp only [Bool.and_eq_true, Bool.not_eq_true'] at hok
        have h1 : ¬ fn.body = none := by cases hb : fn.body <;> simp_all
        have h3 : ¬ fn.name = "runtime.NumGoroutine" := by simpa using hok.2
        have h2 : asx.map a.eval = (a.eval x :: as'.map a.eval).toArray := by
          rw [← Array.toList_inj]; simp [has]
        simp [execOp, hop, resolve, hcv, Deferred.ofValue, invoke, callFunc, hfn, h3, h1, h2]
      · cases hok
    rw [hrun, Oper.uponIn_enter]
    refine ⟨(fun h => by simp [WF, Fence.wide] at h), callsIn_wf ?_⟩
    refine hcall.mono ?_
    rintro e w' ⟨v, g', μ', rfl, hinv, hch, hμ⟩
    have hgs : Gs GL N g' w' μ' ⟨q.clear s.e, s.h⟩ a O := ⟨hInvC.ret hinv.leave hch hμ, hg.glob.mono hch.le, hg.sz⟩
    refine hn ⟨setO (q.clear s.e) d (retDs rets), s.h⟩ g' w' μ' _ hK ?_ (hch.mono fun _ h ho => h (.inl ho)) hμ (put_defers _ _ _)
    rw [hdst]
    cases d with
    | none => exact ⟨hgs.inv, hgs.glob, by rw [put_size, hgs.sz]⟩
    | some d => exact hgs.setR (by simpa using hdN) (hInvC.retV hinv hgs.inv d)
  · cases hk
theorem unflat {g : Gh} {sz : Nat} : ∀ {xs : List V} {us : List Value}, (∀ x ∈ xs, x.cells.length = sz) → All2 (RepV g) (xs.flatMap V.cells) us → (∀ u ∈ us, u.oneCell' = true) →
    ∃ vs : List Value, All2 (RepV g) xs vs ∧ us = vs.flatMap (fun v => v.cells.toList) ∧ ∀ v ∈ vs, v.cells.size = sz
  | [], us, _, h, _ => by
    have := h.1
    simp at this; subst this
    exact ⟨[], .nil, rfl, by simp⟩
  | x :: xs, us, hx, h, h1 => by
    rw [List.flatMap_cons] at h
    have hxl := hx x (by simp)
    have ha : All2 (RepV g) x.cells (us.take sz) := by
      have := h.take sz
      rwa [List.take_append_of_le_length (by omega), List.take_of_length_le (by omega)] at this
    have hb : All2 (RepV g) (xs.flatMap V.cells) (us.drop sz) := by
      have := h.drop sz
      rwa [← hxl, List.drop_left, hxl] at this
    obtain ⟨vs, h2, h3, h4⟩ := unflat (fun y hy => hx y (by simp [hy])) hb (fun u hu => h1 u (List.mem_of_mem_drop hu))
    have ho : ∀ u ∈ us.take sz, u.oneCell' = true := fun u hu => h1 u (List.mem_of_mem_take hu)
    have hlt : (us.take sz).length = sz := by rw [ha.1, hxl]
    obtain ⟨v, hv1, hv2⟩ : ∃ v, RepV g x v ∧ v.cells.toList = us.take sz := by
      generalize us.take sz = ut at ha ho
      have one : x.cells = [x] → ∃ v, RepV g x v ∧ v.cells.toList = ut := by
        intro hc
        rw [hc] at ha
        obtain ⟨u, rfl⟩ : ∃ u, ut = [u] := by
          match ut, ha.1 with
          | [u], _ => exact ⟨u, rfl⟩
        exact ⟨u, (All2.cons_iff.1 ha).1, by rw [cells_of_one (ho u (by simp))]⟩
      cases x with
      | agg cs => exact ⟨.agg ut.toArray, .agg' ha ho, by simp [Value.cells]⟩
      | _ => exact one rfl
    refine ⟨v :: vs, .cons hv1 h2, by rw [List.flatMap_cons, hv2, ← h3, List.take_append_drop], fun y hy => ?_⟩
    rcases List.mem_cons.1 hy with rfl | hy
    · rw [← hlt, ← hv2]; simp
    · exact h4 y hy
theorem nil_list {g : Gh} {u : Value} (h : ∃ a : Option Addr, u = .slice a 0 0 ∧ ∀ x, a = some x → x.spot = none) : RepV g (.list []) u := by
  obtain ⟨a, rfl, hs⟩ := h
  cases a with
  | none => exact .lnil
  | some a => exact .list [] a 0 0 (fun _ => .bool false) (hs a rfl) (Nat.le_refl _) (by simp) (by simp)
theorem vs_rep {g : Gh} {w : World} {μ : List Nat} : ∀ {ds : List D} {xs : List V} {us : List Value}, D.vs? ds = some xs → All2 (RepE g w μ) ds us → All2 (RepV g) xs us
  | [], xs, us, h, ha => by simp only [D.vs?, Option.some.injEq] at h; subst h; exact ⟨by simpa using ha.1, fun i x v h => by simp at h⟩
  | d :: ds, xs, us, h, ha => by
    obtain ⟨u, us', rfl⟩ : ∃ u us', us = u :: us' := by
      match us, ha.1 with
      | u :: us', _ => exact ⟨u, us', rfl⟩
    obtain ⟨h1, h2⟩ := All2.cons_iff.1 ha
    simp only [D.vs?] at h
    split at h
    · rename_i x xs' hx hxs
      simp only [Option.some.injEq] at h; subst h
      refine .cons ?_ (vs_rep hxs h2)
      cases d <;> simp only [D.v?, Option.some.injEq, reduceCtorEq] at hx <;> subst hx
      · exact h1
      · exact nil_list h1
      · exact RepOwn.list h1
    · cases h
theorem flat_vs : ∀ (vs : List Value), vs.flatMap (fun v => v.cells.toList) = flat vs.length fun i => vs.getD i (.bool false)
  | [] => rfl
  | v :: vs => by
    have e2 : flat (v :: vs).length (fun i => (v :: vs).getD i (.bool false)) = v.cells.toList ++ flat vs.length (fun i => vs.getD i (.bool false)) := by simp [flat, List.range_succ_eq_map, List.flatMap_map]
    rw [e2, List.flatMap_cons, flat_vs vs]
theorem mem_zeroCells {z : Array Value} {n : Nat} {v : Value} (h : v ∈ (Builtin.zeroCells z n).toList) : v ∈ z.toList := by
  simp [Builtin.zeroCells] at h
  obtain ⟨i, hi, rfl⟩ := h
  have h0 : 0 < z.size := by
    rcases Nat.eq_zero_or_pos z.size with h | h
    · rw [h] at hi; omega
    · exact h
  have hm := Nat.mod_lt i h0
  simp [hm]
theorem frz_sound {o : Oper} {d : Nat} {q : Opd} {sz : Nat} (hk : chkI P GL N o (.frz d q sz) = true) {K : St → Prop} {g : Gh} {w : World} {μ : List Nat} {s : St} {a : Act} {O : Nat → Prop} (hg : Gs GL N g w μ s a O)
    (h : awpI P GL (.frz d q sz) K s) {next : Act → World → Prop} {Q : Exit → Act → World → Prop}
    (hn : ∀ s' g' w' μ' a', K s' → Gs GL N g' w' μ' s' a' O → Chg (fun b => ¬ O b) g w g' w' → μ <+: μ' → a'.defers = a.defers → next a' w') : o.wpIn (WF r) 0 P a w next Q := by
  refine ⟨fun _ _ => trivial, ?_⟩
  simp only [chkI, Bool.and_eq_true, beq_iff_eq, decide_eq_true_eq] at hk
  obtain ⟨⟨hdst, hdN⟩, h4⟩ := hk
  obtain ⟨x, hop, hx⟩ : ∃ x, (o.op = .move x ∨ o.op = .assign x) ∧ oe GL x q = true := by
    split at h4
    · rename_i x hop; exact ⟨x, .inl hop, h4⟩
    · rename_i x hop; exact ⟨x, .inr hop, h4⟩
    · cases h4
  have hrun : (execOp a.eval o).run P w = .ok (.value (a.eval x)) w := by rcases hop with hop | hop <;> simp [execOp, hop]
  rw [Oper.semAt_eq _ _ _ (fun c hc => by rcases hop with hop | hop <;> rw [hop] at hc <;> cases hc), hrun]
  have hr := (hg.gd P).ev hx
  simp only [awpI] at h
  split at h
  · rename_i e' s' hq
    rw [hq] at hr
    obtain ⟨ad, hv, hsp⟩ := hr
    refine hn _ g w μ _ h ?_ (Chg.refl _ _ _) (List.prefix_refl _) (put_defers _ _ _)
    rw [hdst, hv]
    exact hg.set hdN (nil_list ⟨ad, rfl, hsp⟩) fun k => own_v _ _ _
  · rename_i r n hq
    rw [hq] at hr
    obtain ⟨b, cap, hb, hv, hnc⟩ := hr
    split at h
    · rename_i ds hrow
      obtain ⟨h0, xs, hxl, hxc, hvs, hK⟩ := h
      obtain ⟨vs, T, hheap, hall, hone, hgn⟩ := hg.inv.rows r _ b hrow hb
      have hcl := vs_rep hvs (hall.take (n * sz))
      obtain ⟨ws, w1, w2, w3⟩ := unflat hxc hcl (fun u hu => hone u (List.mem_of_mem_take hu))
      have hwl : ws.length = n := by rw [w1.1, hxl]
      let g' := g.put b 0 (vs.take (n * sz))
      have hgle : g.le g' := Gh.le_put _ fun o _ _ => hgn o
      have hchg : Chg (fun z => z = b) g w g' w := ⟨hgle, Nat.le_refl _, fun _ _ _ => rfl, fun b' _ hb' o => Gh.put_other hb' o, rfl, rfl⟩
      have hag : ∀ b' o v, g'.m b' o = some v → w.cell? ⟨b', o, none⟩ = some v := by
        intro b' o v hv
        by_cases hb' : b' = b
        · subst hb'
          rw [cell_of_row w b' o _ _ _ hheap]
          simp only [g', Gh.put] at hv
          split at hv
          · rename_i hc
            simp only [Nat.sub_zero] at hv
            have h2 := hc.2.2
            rw [List.getElem?_take] at hv
            split at hv
            · simpa using hv
            · cases hv
          · rw [hgn] at hv; cases hv
        · simp only [g', Gh.put_other hb'] at hv
          exact hg.inv.agree b' o v hv
      have hinv := hg.inv.setAny hrow hb .dead hchg hag (lt_of_heap hheap) (fun k ds d h => by cases h)
      have hgs : Gs GL N g' w μ ⟨s.e, s.h.set r .dead⟩ a O := ⟨hinv, hg.glob.mono hgle, hg.sz⟩
      have hsz : ∀ i, i < n → ((fun i => ws.getD i (.bool false)) i).cells.size = sz := fun i hi => by
        have : i < ws.length := by omega
        simp only [List.getD, List.getElem?_eq_getElem this, Option.getD_some]
        exact w3 _ (List.getElem_mem this)
      refine hn _ g' w μ _ hK ?_ (hchg.mono fun z (hz : z = b) ho => hg.inv.mo b (List.mem_of_getElem? hb) (hz ▸ ho)) (List.prefix_refl _) (put_defers _ _ _)
      rw [hdst, hv]
      refine hgs.set hdN (x := .v (.list xs)) ?_ fun k => own_v _ _ _
      rw [← hxl]
      refine RepV.list xs ⟨b, 0, none⟩ cap sz (fun i => ws.getD i (.bool false)) rfl (by omega) (fun i x hi => ?_) (fun i hi => ⟨hsz i (by omega), fun j v hj => ?_⟩)
      · obtain ⟨u, hu, hru⟩ := w1.get hi
        simp only [List.getD, hu, Option.getD_some]
        exact hru.mono hgle
      · have hjs : j < sz := by have := (List.getElem?_eq_some_iff.1 hj).1; have := hsz i (by omega); simp at *; omega
        have := Gh.put_at g b 0 (vs.take (n * sz)) (i * sz + j) v (by
          rw [w2, flat_vs, hwl, flat_get hsz (by omega) hjs]; exact hj)
        simpa using this
    · exact h.elim
  · exact h.elim
theorem appR_sound {o : Oper} {d : Nat} {q y' : Opd} {e sz by_ : Nat} (hk : chkI P GL N o (.appR d q y' e sz by_) = true) {K : St → Prop} {g : Gh} {w : World} {μ : List Nat} {s : St} {a : Act} {O : Nat → Prop} (hg : Gs GL N g w μ s a O)
    (h : awpI P GL (.appR d q y' e sz by_) K s) {next : Act → World → Prop} {Q : Exit → Act → World → Prop}
    (hn : ∀ s' g' w' μ' a', K s' → Gs GL N g' w' μ' s' a' O → Chg (fun b => ¬ O b) g w g' w' → μ <+: μ' → a'.defers = a.defers → next a' w') : o.wpIn (WF r) 0 P a w next Q := by
  refine ⟨fun _ _ => trivial, ?_⟩
  simp only [chkI, Bool.and_eq_true, beq_iff_eq, decide_eq_true_eq] at hk
  obtain ⟨⟨hdst, hdN⟩, h4⟩ := hk
  split at h4
  · rename_i asx ts hop
    simp only [Bool.and_eq_true] at h4
    obtain ⟨⟨⟨k1, k3⟩, k4⟩, k5⟩ := h4
    obtain ⟨x, y, rfl, j1⟩ := two_arr k1
    obtain ⟨t, t2, rfl, j3⟩ := two_arr k3
    simp only [Bool.and_eq_true] at j1 j3
    obtain ⟨e2, he2⟩ := isK_slice j3.2
    obtain ⟨i, z, hi, rfl, rfl, h0, hz, hzs⟩ := elemIs_inv k4
    have hz1 : ∀ v ∈ z.cells.toList, v.oneCell' = true := by
      rw [hi] at k5
      simp only [Option.bind_some, hz, Option.any_some] at k5
      exact List.all_eq_true.1 k5
    have ht := sliceIs_inv j3.1
    rw [Oper.semAt_eq _ _ _ (fun c hc => by rw [hop] at hc; cases hc)]
    simp only [awpI] at h
    split at h
    · rename_i e' s' ys hq hy
      obtain ⟨hh, hroom, h⟩ := h
      have hrq := (hg.gd P).ev j1.1
      rw [hq] at hrq
      obtain ⟨base, hev, hsp⟩ := hrq
      have hry := toV_rep ((hg.gd P).ev j1.2) hy
      obtain ⟨vy, h1, h2, h3, h3'⟩ := src_list (P := P) hg.inv.agree hry h0 hh
      by_cases hy0 : ys = []
      · subst hy0
        simp only [List.isEmpty_nil, if_true] at h
        have hrun := run_app_same (ty := o.type) ht he2 (by simp) hi h1 rfl base 0 0 (Nat.le_refl _)
        have : (execOp a.eval o).run P w = .ok (.value (.slice base 0 0)) w := by simp [execOp, hop, resolve, invoke, builtin, hev, hrun]
        rw [this]
        refine hn _ g w μ _ h ?_ (Chg.refl _ _ _) (List.prefix_refl _) (put_defers _ _ _)
        rw [hdst]
        exact hg.set hdN (x := .nil e i.size) ⟨base, rfl, hsp⟩ fun k => by cases k <;> cases base <;> simp [ownAt, own1]
      · have hpos : 0 < ys.length := List.length_pos_iff.2 hy0
        rw [if_neg (by simpa using hy0)] at h
        obtain ⟨hf63, hfit⟩ := grown_fits hroom hpos
        have hrun := run_app_grow (ty := o.type) (base := base) (len := 0) (cap := 0) (olds := []) ht he2 (by simp) hi hz h1 (fun w' _ => by cases base <;> simp [Builtin.firstCells, loadCells, loadCellsFrom]) (by omega) (by simpa using hf63) (by simpa using hfit)
        simp only [Nat.zero_add] at hrun
        have hge := grownCap_ge w ys.length 0 e
        let zs := Builtin.zeroCells z.cells (grownCap w ys.length 0 e - ys.length)
        let ob : Obj := .cells ((#[] : Array Value) ++ (flat ys.length vy).toArray ++ zs) e
        have hzsm : ∀ v ∈ zs.toList, v.oneCell' = true := by
          intro v hv
          exact hz1 v (mem_zeroCells hv)
        have hdr : Inv g w.drew μ (find s.e) (fun n => a.tmps.getD n undef) s.h O := hg.inv.chg ⟨Gh.le.refl g, Nat.le_refl _, fun _ _ _ => rfl, fun _ _ _ _ => rfl, rfl, rfl⟩ hg.inv.agree
        have hnone : ∀ o, g.m w.heap.size o = none := fun o => Gh.lt_of hg.inv.agree (Nat.le_refl _) o
        have hob : (w.drew.alloc ob).heap[w.heap.size]? = some (.cells ((flat ys.length vy ++ zs.toList).toArray) e (0, 0)) := by
          have := heap_alloc_new w.drew ob
          have e1 : (#[] : Array Value) ++ (flat ys.length vy).toArray ++ zs = (flat ys.length vy ++ zs.toList).toArray := by rw [← Array.toList_inj]; simp
          rw [← e1]; exact this
        have hfl : All2 (RepV g) (ys.flatMap V.cells) (flat ys.length vy) := by
          have : ∀ (ys : List V) (vy : Nat → Value), (∀ (j : Nat) y, ys[j]? = some y → RepV g y (vy j)) → All2 (RepV g) (ys.flatMap V.cells) (flat ys.length vy) := by
            intro ys
            induction ys with
            | nil => intro vy _; exact .nil
            | cons y ys ih =>
              intro vy hvy
              have e2 : flat (y :: ys).length vy = (vy 0).cells.toList ++ flat ys.length (fun j => vy (j + 1)) := by simp [flat, List.range_succ_eq_map, List.flatMap_map]
              rw [e2, List.flatMap_cons]
              exact (hvy 0 y rfl).cells.1.append (ih _ fun j x hx => hvy (j + 1) x (by simpa using hx))
          exact this ys vy h2
        have hcl : All2 (RepE g (w.drew.alloc ob) (μ ++ [w.heap.size])) ((ys.flatMap V.cells).map .v ++ List.replicate zs.size .any) (flat ys.length vy ++ zs.toList) := by
          refine .append (All2.map_left (f := D.v) (R := RepV g) (fun x y h => h) hfl) ⟨by simp, fun j x v hx hv => ?_⟩
          have := (List.mem_replicate.1 (List.mem_of_getElem? hx)).2
          subst this; trivial
        have hone : ∀ v ∈ flat ys.length vy ++ zs.toList, v.oneCell' = true := by
          intro v hv
          rcases List.mem_append.1 hv with hv | hv
          · obtain ⟨j, hj, hm⟩ := flat_mem hv; exact h3' j hj v hm
          · exact hzsm v hv
        have hrow : RowOK g (w.drew.alloc ob) (μ ++ [w.drew.heap.size]) w.drew.heap.size (.cells ((ys.flatMap V.cells).map .v ++ List.replicate zs.size .any)) := ⟨_, e, hob, hcl, hone, hnone⟩
        have hinv := hdr.newAny (.cells ((ys.flatMap V.cells).map .v ++ List.replicate zs.size .any)) ob hrow (fun k ds d hd hk => by
          simp only [Row.cells.injEq] at hd; subst hd
          have hm := List.mem_of_getElem? hk
          rcases List.mem_append.1 hm with hm | hm
          · obtain ⟨y, _, rfl⟩ := List.mem_map.1 hm; simp [own1]
          · have := (List.mem_replicate.1 hm).2; subst this; simp [own1])
        have hrun2 : (execOp a.eval o).run P w = .ok (.value (.slice (some ⟨w.heap.size, 0, none⟩) ys.length (grownCap w ys.length 0 e))) (w.drew.alloc ob) := by
          simp [execOp, hop, resolve, invoke, builtin, hev, hrun, ob, zs]
        rw [hrun2]
        have hdw : Chg (fun b => ¬ O b) g w g w.drew := ⟨Gh.le.refl g, Nat.le_refl _, fun _ _ _ => rfl, fun _ _ _ _ => rfl, rfl, rfl⟩
        have hch : Chg (fun b => ¬ O b) g w g (w.drew.alloc ob) := hdw.trans (chg_alloc (fun b => ¬ O b) g w.drew ob)
        refine hn _ g (w.drew.alloc ob) (μ ++ [w.heap.size]) _ (h zs.size) ?_ hch (List.prefix_append _ _) (put_defers _ _ _)
        rw [hdst]
        have hgn : Gs GL N g (w.drew.alloc ob) (μ ++ [w.heap.size]) ⟨s.e, s.h ++ [.cells ((ys.flatMap V.cells).map .v ++ List.replicate zs.size .any)]⟩ a O := ⟨hinv, hg.glob, hg.sz⟩
        exact hgn.set hdN (x := .sref s.h.length ys.length) ⟨w.heap.size, _, by rw [← hg.inv.len]; simp, rfl, hge⟩ fun k => by cases k <;> simp [ownAt, own1]
    · exact h.elim
  · cases h4
theorem awpI_sound {o : Oper} {ai : AI} (hk : chkI P GL N o ai = true) {K : St → Prop} {g : Gh} {w : World} {μ : List Nat} {s : St} {a : Act} {O : Nat → Prop} (hg : Gs GL N g w μ s a O)
    (h : awpI P GL ai K s) {next : Act → World → Prop} {Q : Exit → Act → World → Prop}
    (hn : ∀ s' g' w' μ' a', K s' → Gs GL N g' w' μ' s' a' O → Chg (fun b => ¬ O b) g w g' w' → μ <+: μ' → a'.defers = a.defers → next a' w') : o.wpIn (WF r) 0 P a w next Q := by
  by_cases hc4 : ∃ d f q args, ai = .callO d f q args
  · obtain ⟨d, f, q, args, rfl⟩ := hc4
    exact callO_sound hk hg h hn
  have hc4 : ∀ d f q args, ai ≠ .callO d f q args := fun d f q args h => hc4 ⟨d, f, q, args, h⟩
  by_cases hc5 : ∃ d x y e s b, ai = .appR d x y e s b
  · obtain ⟨d, x, y, e, s, b, rfl⟩ := hc5
    exact appR_sound hk hg h hn
  by_cases hc6 : ∃ d x s, ai = .frz d x s
  · obtain ⟨d, x, s, rfl⟩ := hc6
    exact frz_sound hk hg h hn
  have hc5 : ∀ d x y e s b, ai ≠ .appR d x y e s b ∧ ai ≠ .frz d x s := fun d x y e s b => ⟨fun h => hc5 ⟨d, x, y, e, s, b, h⟩, fun h => hc6 ⟨d, x, s, h⟩⟩
  by_cases hc : ∃ d f args, ai = .callF d f args
  · obtain ⟨d, f, args, rfl⟩ := hc
    exact awpI_sound0 (ai := .call d f args) (fun _ _ _ => ⟨(fun h => by cases h), (fun h => by cases h)⟩) (fun _ _ _ _ h => by cases h) (fun _ _ _ _ _ _ => ⟨(fun h => by cases h), (fun h => by cases h)⟩) hk hg h hn
  · by_cases hc2 : ∃ d f args, ai = .callC d f args
    · obtain ⟨d, f, args, rfl⟩ := hc2
      exact awpI_sound0 (ai := .call d f args) (fun _ _ _ => ⟨(fun h => by cases h), (fun h => by cases h)⟩) (fun _ _ _ _ h => by cases h) (fun _ _ _ _ _ _ => ⟨(fun h => by cases h), (fun h => by cases h)⟩) hk hg h hn
    · exact awpI_sound0 (fun d f args => ⟨fun h => hc ⟨d, f, args, h⟩, fun h => hc2 ⟨d, f, args, h⟩⟩) hc4 hc5 hk hg h hn
theorem awpG_sound {ops : Array Oper} {i : Nat} {x : GI} (hk1 : chkG P GL N ops i x = true) {K : St → Prop} {g : Gh} {w : World} {μ : List Nat} {s : St} {a : Act} {O : Nat → Prop} (hg : Gs GL N g w μ s a O)
    (h : awpG P GL x K s) {next : Act → World → Prop} {Q : Exit → Act → World → Prop}
    (hn : ∀ s' g' w' μ' a', K s' → Gs GL N g' w' μ' s' a' O → Chg (fun b => ¬ O b) g w g' w' → μ <+: μ' → a'.defers = a.defers → next a' w') : wpOpIn (WF r) 0 P ops Q i next a w := by
  unfold chkG at hk1
  split at hk1
  · cases hk1
  · rename_i o ho
    simp only [Bool.and_eq_true] at hk1
    obtain ⟨hgd, hki⟩ := hk1
    simp only [wpOpIn, ho]
    have go : awpI P GL x.i K s → o.wpIn (WF r) 0 P a w next Q := fun h => awpI_sound hki hg h hn
    cases hog : o.guard with
    | none =>
      cases hxg : x.g with
      | none =>
        simp only [awpG, hxg] at h
        rw [if_pos (by simp [Region.wanted, hog])]
        exact go h
      | some p => simp [hog, hxg] at hgd
    | some p =>
      obtain ⟨j, want⟩ := p
      cases hxg : x.g with
      | none => simp [hog, hxg] at hgd
      | some p' =>
        obtain ⟨t, want'⟩ := p'
        simp only [hog, hxg, Bool.and_eq_true, beq_iff_eq] at hgd
        obtain ⟨⟨hj, rfl⟩, hdst⟩ := hgd
        simp only [awpG, hxg] at h
        have hrt := hg.inv.rep t
        have skip : K ⟨setO s.e x.i.dst (.tup []), s.h⟩ → next (a.put o.dst undef) w := fun h2 => by
          refine hn _ g w μ _ h2 ?_ (Chg.refl _ _ _) (List.prefix_refl _) (put_defers _ _ _)
          rw [← hdst]
          cases hd : x.i.dst with
          | none => exact ⟨hg.inv, hg.glob, by rw [put_size, hg.sz]⟩
          | some d =>
            have hdN : d < N := by
              have : ∀ (ai : AI), chkI P GL N o ai = true → ai.dst = some d → d < N := by
                intro ai hk hd
                cases ai <;> simp only [AI.dst, Option.some.injEq, reduceCtorEq] at hd <;> (try subst hd) <;> simp only [chkI, Bool.and_eq_true, decide_eq_true_eq] at hk
                all_goals first
                  | exact hk.1.2
                  | exact hk.1.1.2
                  | (cases hk; done)
                  | (split at hk
                     · simp only [Bool.and_eq_true, beq_iff_eq, decide_eq_true_eq] at hk; first | exact hk.1.1.2 | exact hk.1.1.1.2
                     · cases hk)
              exact this x.i hki hd
            exact hg.set hdN (x := .tup []) (v := undef) ⟨[], rfl, .nil⟩ fun k => by simp [ownAt, undef, own1]
        split at h
        · rename_i b hb
          rw [hb] at hrt
          have hv := rep_bool hrt
          have hy : yielded ops a.tmps j = some b := by
            have h2 : a.tmps[t]? = some (.bool b) := by
              cases hq : a.tmps[t]? with
              | none => simp [hq, undef] at hv
              | some u => simpa [hq] using hv
            simp [yielded, hj, h2]
          by_cases hbw : b = want
          · subst hbw
            simp only [if_true] at h
            rw [if_pos (by simp [Region.wanted, hog, hy])]
            exact go h
          · simp only [hbw, if_false] at h
            rw [if_neg (by simp [Region.wanted, hog, hy, hbw])]
            exact ⟨fun _ _ => trivial, skip h⟩
        · rename_i hb
          rw [hb] at hrt
          obtain ⟨us, hv, hall⟩ := hrt
          have hu : us = [] := List.eq_nil_of_length_eq_zero hall.1
          subst hu
          have hy : yielded ops a.tmps j = none := by
            have h2 : ∀ b, a.tmps[t]? ≠ some (.bool b) := by
              intro b hb'
              simp [hb'] at hv
            unfold yielded
            rw [hj]
            show (match a.tmps[t]? with | some (.bool b) => some b | _ => none) = none
            split
            · rename_i b hb'; exact absurd hb' (h2 b)
            · rfl
          rw [if_neg (by simp [Region.wanted, hog, hy])]
          exact ⟨fun _ _ => trivial, skip h⟩
        · exact h.elim
theorem awpOps_sound {ops : Array Oper} {Q : Exit → Act → World → Prop} : ∀ (l : List Nat) (is : List GI) {K : St → Prop} {g : Gh} {w : World} {μ : List Nat} {s : St} {a : Act} {O : Nat → Prop},
    zipOK (chkG P GL N ops) l is = true → Gs GL N g w μ s a O → awpOps P GL is K s → (∀ a' w', After GL N K g w μ a O a' w' → Q .normal a' w') → wpOpsIn (WF r) 0 P ops Q l a w
  | [], [], K, g, w, μ, s, a, O, _, hg, h, hq => by
    simp only [wpOpsIn]
    exact hq a w ⟨s, g, μ, h, hg, Chg.refl _ _ _, List.prefix_refl _, rfl⟩
  | [], _ :: _, _, _, _, _, _, _, _, hk, _, _, _ => by simp [zipOK] at hk
  | _ :: _, [], _, _, _, _, _, _, _, hk, _, _, _ => by simp [zipOK] at hk
  | i :: l, x :: is, K, g, w, μ, s, a, O, hk, hg, h, hq => by
    simp only [zipOK, Bool.and_eq_true] at hk
    rw [wpOpsIn_cons]
    exact awpG_sound hk.1 hg h fun s' g' w' μ' a' hK hgs hch hμ hd => awpOps_sound l is hk.2 hgs hK fun a2 w2 h2 => hq a2 w2 (h2.trans hch hμ hd)
theorem retDs_map (rets : List V) : retDs (rets.map .v) = retD rets := by
  match rets with
  | [] => rfl
  | [x] => rfl
  | x :: y :: r => rfl
theorem PSp.fsp {f : Nat} {args rets : List V} (hp : PSp P GL f args rets) (h : List Row) : FSp P GL f (args.map .v) h (rets.map .v) h := by
  refine ⟨hp.1, fun g w μ us O hinv hgl hall _ => (hp.2 g w us hinv.agree hgl ⟨by simpa using hall.1, fun i x v hx hv => hall.2 i (.v x) v (by simp [hx]) hv⟩).mono ?_⟩
  rintro e w' ⟨v, g', rfl, hrep, hch, hag⟩
  obtain ⟨h1, h2⟩ := retD_rep (μ := μ) hrep
  rw [retDs_map]
  exact ⟨v, g', μ, rfl, (hinv.chg hch hag).set (d := 0) h1 h2, hch.mono fun _ h => h.elim, List.prefix_refl _⟩
end
end Go.Va

namespace Go.Va
def Opd.rd : Opd → List Nat
  | .t n _ => [n]
  | _ => []
def Opd.wr : Opd → List Nat
  | .t n true => [n]
  | _ => []
def Opd.rds : List Opd → List Nat
  | [] => []
  | x :: xs => x.rd ++ Opd.rds xs
def Opd.rdo : Option Opd → List Nat
  | some x => x.rd
  | none => []
def PI.rd : PI → List Nat
  | .pick c a b => c.rd ++ (a.rd ++ b.rd)
  | .build _ ps => Opd.rds (ps.map (·.2.2))
  | .load a _ _ => a.rd
  | .nilc x => x.rd
  | .bin _ x y => x.rd ++ y.rd
  | .eqB _ x y => x.rd ++ y.rd
  | .eqA _ _ x y => x.rd ++ y.rd
  | .eqP _ x y => x.rd ++ y.rd
  | .not x => x.rd
  | .neg x => x.rd
  | .inv x => x.rd
  | .cint _ x => x.rd
  | .faddr x _ _ => x.rd
  | .fld x _ _ _ => x.rd
  | .iaddr x i _ => x.rd ++ i.rd
  | .iaddrA x i _ _ => x.rd ++ i.rd
  | .idxS x i => x.rd ++ i.rd
  | .slc x lo hi _ => x.rd ++ (Opd.rdo lo ++ Opd.rdo hi)
  | .slcS x lo hi => x.rd ++ (Opd.rdo lo ++ Opd.rdo hi)
  | .slc0 x _ _ => x.rd
  | .ext x _ => x.rd
  | .mkf _ caps => Opd.rds caps
  | .mkme _ caps => Opd.rds caps
  | .idxA x i _ _ _ => x.rd ++ i.rd
  | .alen x => x.rd
  | .lenS x => x.rd
  | .b2s x => x.rd
  | .look m k _ _ _ _ _ => m.rd ++ k.rd
  | .mlen m => m.rd
  | .minmax _ x y => x.rd ++ y.rd
inductive Kd where
  | n | r | a | w | t
  deriving DecidableEq
def AI.kd : AI → Kd
  | .p _ (.load _ _ _) => .r
  | .p _ (.look _ _ _ _ _ _ _) => .r
  | .p _ (.mlen _) => .r
  | .alloc _ _ | .box _ _ | .mkm _ | .mksl _ _ _ | .callC _ _ _ => .a
  | .take _ _ => .t
  | .store _ _ _ | .mput _ _ _ _ _ | .mdel _ _ _ _ _ | .callF _ _ _ | .mest _ _ _ | .ment _ _ _ _ _ => .w
  | _ => .n
def AI.rd : AI → List Nat
  | .p _ i => i.rd
  | .mv _ x => x.rd
  | .alloc _ _ => []
  | .box _ x => x.rd
  | .store a x _ => a.rd ++ x.rd
  | .take _ a => a.rd
  | .app _ x y _ _ _ => x.rd ++ y.rd
  | .appS _ x y _ _ => x.rd ++ y.rd
  | .bsl _ _ _ ps => Opd.rds ps
  | .s2b _ x => x.rd
  | .nilS _ _ x => x.rd
  | .mkm _ => []
  | .mksl _ x _ => x.rd
  | .mput m k v _ _ => m.rd ++ (k.rd ++ v.rd)
  | .ment _ m k _ _ => m.rd ++ k.rd
  | .mest m b v => m.rd ++ (b.rd ++ v.rd)
  | .mdel _ m k _ _ => m.rd ++ k.rd
  | .call _ f args => f.rd ++ Opd.rds args
  | .callF _ f args => f.rd ++ Opd.rds args
  | .callC _ f args => f.rd ++ Opd.rds args
  | .callO _ f q args => f.rd ++ (q.rd ++ Opd.rds args)
  | .appR _ x y _ _ _ => x.rd ++ y.rd
  | .frz _ x _ => x.rd
def AI.wr : AI → List Nat
  | .p d _ | .alloc d _ | .box d _ | .take d _ | .bsl d _ _ _ | .s2b d _ | .nilS d _ _ | .mkm d | .mksl d _ _ | .ment d _ _ _ _ => [d]
  | .mput _ _ _ _ _ => []
  | .mest _ _ _ => []
  | .mdel d _ _ _ _ => d.toList
  | .mv d x | .app d x _ _ _ _ | .appS d x _ _ _ => d :: x.wr
  | .store _ x _ => x.wr
  | .call d _ _ => d.toList
  | .callF d _ _ => d.toList
  | .callC d _ _ => d.toList
  | .callO d _ q _ => d.toList ++ q.wr
  | .appR d _ _ _ _ _ | .frz d _ _ => [d]
def GI.rd (x : GI) : List Nat := (match x.g with | some (t, _) => [t] | none => []) ++ x.i.rd
def GI.wr (x : GI) : List Nat := x.i.dst.toList ++ x.i.wr
def Same (e e2 : Env) (l : List Nat) : Prop := ∀ n ∈ l, find e2 n = find e n
theorem Same.left {e e2 : Env} {a b : List Nat} (h : Same e e2 (a ++ b)) : Same e e2 a := fun n hn => h n (List.mem_append_left _ hn)
theorem Same.right {e e2 : Env} {a b : List Nat} (h : Same e e2 (a ++ b)) : Same e e2 b := fun n hn => h n (List.mem_append_right _ hn)
theorem Same.ev {e e2 : Env} {x : Opd} (h : Same e e2 x.rd) : x.ev e2 = x.ev e := by
  cases x with
  | t n mv => simp [Opd.ev, h n (by simp [Opd.rd])]
  | c d => rfl
  | g n cs => rfl
theorem Same.toVs {e e2 : Env} : ∀ {xs : List Opd}, Same e e2 (Opd.rds xs) → Go.Va.toVs e2 xs = Go.Va.toVs e xs
  | [], _ => rfl
  | x :: xs, h => by simp only [Go.Va.toVs, Same.ev (Same.left h), Same.toVs (Same.right h)]
theorem Same.argsOf {e e2 : Env} : ∀ {xs : List Opd}, Same e e2 (Opd.rds xs) → Go.Va.argsOf e2 xs = Go.Va.argsOf e xs
  | [], _ => rfl
  | x :: xs, h => by
    have := Same.argsOf (Same.right h)
    simp only [Go.Va.argsOf] at this ⊢
    simp only [List.map_cons, Same.ev (Same.left h), this]
theorem Same.caps {e e2 : Env} : ∀ {xs : List Opd}, Same e e2 (Opd.rds xs) → capsOf e2 xs = capsOf e xs
  | [], _ => rfl
  | x :: xs, h => by simp only [capsOf, Same.ev (Same.left h), Same.caps (Same.right h)]
theorem Same.fill {e e2 : Env} : ∀ {ps : List (Nat × Nat × Opd)} {cs : List D}, Same e e2 (Opd.rds (ps.map (·.2.2))) → fillD e2 cs ps = fillD e cs ps
  | [], _, _ => rfl
  | (o, n, x) :: ps, cs, h => by
    have h1 : Same e e2 x.rd := Same.left h
    have h2 : Same e e2 (Opd.rds (ps.map (·.2.2))) := Same.right h
    simp only [fillD, h1.ev]
    split
    · split
      · exact Same.fill h2
      · rfl
    · rfl
theorem Same.opt {e e2 : Env} {x : Option Opd} (h : Same e e2 (Opd.rdo x)) : x.map (·.ev e2) = x.map (·.ev e) := by
  cases x with
  | none => rfl
  | some x => simp [Same.ev (x := x) h]
def PI.kd : PI → Kd
  | .load _ _ _ => .r
  | .look _ _ _ _ _ _ _ => .r
  | .mlen _ => .r
  | _ => .n
def LoadEq (h h2 : List Row) : Prop := h2.length = h.length ∧ ∀ r : Nat, h2[r]? = h[r]? ∨ ∃ ds es : List D, h[r]? = some (.cells ds) ∧ h2[r]? = some (.cells es) ∧ es.map D.copy = ds.map D.copy
theorem LoadEq.symm {h h2 : List Row} (hq : LoadEq h h2) : LoadEq h2 h := ⟨hq.1.symm, fun r => (hq.2 r).elim (fun h => .inl h.symm) fun ⟨ds, es, h1, h2, h3⟩ => .inr ⟨es, ds, h2, h1, h3.symm⟩⟩
theorem LoadEq.take {h : List Row} {r off e sz : Nat} {ds : List D} {xs : List V} (hr : h[r]? = some (.cells ds)) (hd : ds[off]? = some (.own e sz xs)) : LoadEq h (h.set r (.cells (ds.set off (.v (.list xs))))) := by
  refine ⟨by simp, fun i => ?_⟩
  by_cases hi : r = i
  · subst hi
    refine .inr ⟨ds, _, hr, List.getElem?_set_self (List.getElem?_eq_some_iff.1 hr).1, ?_⟩
    apply List.ext_getElem?
    intro j
    rw [List.getElem?_map, List.getElem?_map, List.getElem?_set]
    by_cases hj : off = j
    · subst hj
      have := (List.getElem?_eq_some_iff.1 hd).1
      rw [if_pos rfl, if_pos this, hd]; rfl
    · rw [if_neg hj]
  · exact .inl (List.getElem?_set_ne hi)
theorem dpart_same {ds es : List D} (h : es.map D.copy = ds.map D.copy) (off n : Nat) (ag : Bool) : D.part es off n ag = D.part ds off n ag := by
  have hl : es.length = ds.length := by have := congrArg List.length h; simpa using this
  unfold D.part
  rw [hl]
  split
  · cases ag with
    | true =>
      simp only [if_true, Option.some.injEq, D.agg.injEq]
      rw [List.map_take, List.map_drop, h, ← List.map_drop, ← List.map_take]
    | false =>
      simp only [Bool.false_eq_true, if_false]
      rw [← List.getElem?_map, h, List.getElem?_map]
  · rfl
theorem PI.val_same {e : Env} {h h2 : List Row} (hq : LoadEq h h2) {i : PI} {x : D} (hv : i.val e h = some x) : i.val e h2 = some x := by
  have hmap : ∀ (r : Nat) es bs ck, h[r]? = some (.map es bs ck) → h2[r]? = some (.map es bs ck) := fun r es bs ck hr => by
    rcases hq.2 r with h | ⟨ds, _, h1, _⟩
    · rw [h]; exact hr
    · rw [h1] at hr; cases hr
  cases i <;> try exact hv
  · rename_i a n ag
    simp only [PI.val] at hv ⊢
    split at hv
    · exact hv
    · rename_i r off ha
      split at hv
      · rename_i ds hr
        rcases hq.2 r with h | ⟨ds', es, h1, h2, h3⟩
        · rw [h, hr]; exact hv
        · rw [hr] at h1
          simp only [Option.some.injEq, Row.cells.injEq] at h1; subst h1
          simp only [h2, dpart_same h3]; exact hv
      · cases hv
    · cases hv
  · rename_i m k st ks zs ag ok
    simp only [PI.val] at hv ⊢
    split at hv
    · split at hv
      · rename_i hok
        rw [if_pos hok]
        split at hv
        · rename_i z hz
          split at hv
          · exact hv
          · rename_i r ha
            split at hv
            · rename_i es bs ck hr
              simp only [hmap r es bs ck hr]; exact hv
            · cases hv
          · cases hv
        · cases hv
      · cases hv
    · cases hv
  · rename_i m
    simp only [PI.val] at hv ⊢
    split at hv
    · exact hv
    · rename_i r ha
      split at hv
      · rename_i es bs ck hr
        simp only [hmap r es bs ck hr]; exact hv
      · cases hv
    · cases hv
theorem PI.val_congr {e e2 : Env} {h : List Row} {i : PI} (hs : Same e e2 i.rd) : i.val e2 h = i.val e h := by
  cases i with
  | pick c a b => simp only [PI.val, (Same.left hs).ev, (Same.left (Same.right hs)).ev, (Same.right (Same.right hs)).ev]
  | build zs ps => simp only [PI.val, Same.fill hs]
  | load a n ag => simp only [PI.val, Same.ev (x := a) hs]
  | nilc x => simp only [PI.val, Same.ev (x := x) hs]
  | bin op x y => simp only [PI.val, (Same.left hs).ev, (Same.right hs).ev]
  | eqB ne x y => simp only [PI.val, (Same.left hs).ev, (Same.right hs).ev]
  | eqA ne ks x y => simp only [PI.val, (Same.left hs).ev, (Same.right hs).ev]
  | eqP ne x y => simp only [PI.val, (Same.left hs).ev, (Same.right hs).ev]
  | not x => simp only [PI.val, Same.ev (x := x) hs]
  | neg x => simp only [PI.val, Same.ev (x := x) hs]
  | inv x => simp only [PI.val, Same.ev (x := x) hs]
  | cint k x => simp only [PI.val, Same.ev (x := x) hs]
  | faddr x o n => simp only [PI.val, Same.ev (x := x) hs]
  | fld x o n ag => simp only [PI.val, Same.ev (x := x) hs]
  | iaddr x i s => simp only [PI.val, (Same.left hs).ev, (Same.right hs).ev]
  | iaddrA x i l s => simp only [PI.val, (Same.left hs).ev, (Same.right hs).ev]
  | idxS x i => simp only [PI.val, (Same.left hs).ev, (Same.right hs).ev]
  | slc x lo hi s => simp only [PI.val, (Same.left hs).ev, Same.opt (Same.left (Same.right hs)), Same.opt (Same.right (Same.right hs))]
  | slcS x lo hi => simp only [PI.val, (Same.left hs).ev, Same.opt (Same.left (Same.right hs)), Same.opt (Same.right (Same.right hs))]
  | slc0 x el s => simp only [PI.val, Same.ev (x := x) hs]
  | ext x i =>
    cases x with
    | t n mv => simp only [PI.val, hs n (by simp [PI.rd, Opd.rd])]
    | c d => rfl
    | g n cs => rfl
  | mkf f caps => simp only [PI.val, Same.caps hs]
  | mkme f caps => simp only [PI.val, Same.caps hs]
  | idxA x i n s ag => simp only [PI.val, (Same.left hs).ev, (Same.right hs).ev]
  | alen x => simp only [PI.val, Same.ev (x := x) hs]
  | lenS x => simp only [PI.val, Same.ev (x := x) hs]
  | look m k st ks zs ag ok => simp only [PI.val, (Same.left hs).ev, (Same.right hs).ev]
  | mlen m => simp only [PI.val, Same.ev (x := m) hs]
  | b2s x => simp only [PI.val, Same.ev (x := x) hs]
  | minmax mx x y => simp only [PI.val, (Same.left hs).ev, (Same.right hs).ev]
theorem PI.val_heap {e : Env} {h h2 : List Row} {i : PI} (hk : i.kd = .n) : i.val e h2 = i.val e h := by
  cases i <;> first | rfl | cases hk
theorem PI.val_grow {e : Env} {h t : List Row} {i : PI} {x : D} (hv : i.val e h = some x) : i.val e (h ++ t) = some x := by
  cases hk : i.kd with
  | n => rw [PI.val_heap (h2 := h ++ t) hk]; exact hv
  | r =>
    cases i with
    | load a n ag =>
      simp only [PI.val] at hv ⊢
      split at hv
      · exact hv
      · rename_i r off ha
        split at hv
        · rename_i ds hr
          have : (h ++ t)[r]? = some (.cells ds) := by rw [List.getElem?_append_left (List.getElem?_eq_some_iff.1 hr).1]; exact hr
          simp only [this]; exact hv
        · cases hv
      · cases hv
    | look m k st ks zs ag ok =>
      simp only [PI.val] at hv ⊢
      split at hv
      · split at hv
        · rename_i hok
          rw [if_pos hok]
          split at hv
          · rename_i z hz
            split at hv
            · exact hv
            · rename_i r ha
              split at hv
              · rename_i es bs ck hr
                have : (h ++ t)[r]? = some (.map es bs ck) := by rw [List.getElem?_append_left (List.getElem?_eq_some_iff.1 hr).1]; exact hr
                simp only [this]; exact hv
              · cases hv
            · cases hv
          · cases hv
        · cases hv
      · cases hv
    | mlen m =>
      simp only [PI.val] at hv ⊢
      split at hv
      · exact hv
      · rename_i r ha
        split at hv
        · rename_i es bs ck hr
          have : (h ++ t)[r]? = some (.map es bs ck) := by rw [List.getElem?_append_left (List.getElem?_eq_some_iff.1 hr).1]; exact hr
          simp only [this]; exact hv
        · cases hv
      · cases hv
    | _ => cases hk
  | a => cases i <;> cases hk
  | w => cases i <;> cases hk
  | t => cases i <;> cases hk
end Go.Va

namespace Go.Va
def Opd.clr : Opd → Env
  | .t n true => [(n, .any)]
  | _ => []
theorem clear_eq (x : Opd) (e : Env) : x.clear e = x.clr ++ e := by
  cases x with
  | t n mv => cases mv <;> rfl
  | _ => rfl
theorem clr_wr {x : Opd} {p : Nat × D} (h : p ∈ x.clr) : p.1 ∈ x.wr := by
  cases x with
  | t n mv => cases mv <;> simp_all [Opd.clr, Opd.wr]
  | _ => simp [Opd.clr] at h
structure Local (R : St → St → Prop) (rd wr : List Nat) (kd : Kd) (s : St) (δ : Env) (h' : List Row) : Prop where
  wr : ∀ p ∈ δ, p.1 ∈ wr
  here : ∀ e2, Same s.e e2 rd → R ⟨e2, s.h⟩ ⟨δ ++ e2, h'⟩
  n : kd = .n → h' = s.h ∧ ∀ e2 h2, Same s.e e2 rd → R ⟨e2, h2⟩ ⟨δ ++ e2, h2⟩
  r : kd = .r → h' = s.h ∧ (∀ e2 t, Same s.e e2 rd → R ⟨e2, s.h ++ t⟩ ⟨δ ++ e2, s.h ++ t⟩) ∧ ∀ e2 h2, LoadEq s.h h2 → Same s.e e2 rd → R ⟨e2, h2⟩ ⟨δ ++ e2, h2⟩
  a : kd = .a → ∃ t, h' = s.h ++ t
  t : kd = .t → LoadEq s.h h'
theorem Local.ofN {R : St → St → Prop} {rd wr : List Nat} {s : St} {δ : Env} {kd : Kd} (hwr : ∀ p ∈ δ, p.1 ∈ wr) (h : ∀ e2 h2, Same s.e e2 rd → R ⟨e2, h2⟩ ⟨δ ++ e2, h2⟩) : Local R rd wr kd s δ s.h where
  wr := hwr
  here := fun e2 hs => h e2 s.h hs
  n := fun _ => ⟨rfl, h⟩
  r := fun _ => ⟨rfl, fun e2 t hs => h e2 _ hs, fun e2 h2 _ hs => h e2 h2 hs⟩
  a := fun _ => ⟨[], by simp⟩
  t := fun _ => ⟨rfl, fun r => .inl rfl⟩
theorem step_local {i : AI} {s s' : St} (h : i.step s = some s') : ∃ δ h', s' = ⟨δ ++ s.e, h'⟩ ∧ Local (fun s s' => i.step s = some s') i.rd i.wr i.kd s δ h' := by
  cases i with
  | p d i =>
    simp only [AI.step, Option.map_eq_some_iff] at h
    obtain ⟨x, hx, rfl⟩ := h
    cases hk : i.kd with
    | n =>
      refine ⟨[(d, x)], s.h, rfl, .ofN (by simp [AI.wr]) fun e2 h2 hs => ?_⟩
      simp only [AI.step, PI.val_congr (i := i) hs, PI.val_heap (h := s.h) (h2 := h2) hk, hx, Option.map_some]; rfl
    | r =>
      have hkd : (AI.p d i).kd = .r := by cases i <;> first | rfl | cases hk
      refine ⟨[(d, x)], s.h, rfl, by simp [AI.wr], fun e2 hs => ?_, fun h => (by rw [hkd] at h; cases h), fun _ => ⟨rfl, fun e2 t hs => ?_, fun e2 h2 hq hs => ?_⟩, fun h => (by rw [hkd] at h; cases h), fun h => (by rw [hkd] at h; cases h)⟩
      · simp only [AI.step, PI.val_congr (i := i) hs, hx, Option.map_some]; rfl
      · simp only [AI.step, PI.val_congr (i := i) hs, PI.val_grow hx, Option.map_some]; rfl
      · simp only [AI.step, PI.val_congr (i := i) hs, PI.val_same hq hx, Option.map_some]; rfl
    | a => cases i <;> cases hk
    | w => cases i <;> cases hk
    | t => cases i <;> cases hk
  | mv d x =>
    simp only [AI.step, Option.some.injEq] at h; subst h
    refine ⟨(d, x.ev s.e) :: x.clr, s.h, by rw [clear_eq]; rfl, .ofN ?_ fun e2 h2 hs => ?_⟩
    · intro p hp
      rcases List.mem_cons.1 hp with rfl | hp
      · simp [AI.wr]
      · exact List.mem_cons_of_mem _ (clr_wr hp)
    · simp only [AI.step, Same.ev (x := x) hs, clear_eq]; rfl
  | alloc d zs =>
    simp only [AI.step, Option.some.injEq] at h; subst h
    refine ⟨[(d, .ref s.h.length 0)], _, rfl, by simp [AI.wr], fun e2 hs => rfl, (fun h => by cases h), (fun h => by cases h), (fun _ => ⟨_, rfl⟩), (fun h => by cases h)⟩
  | box d x =>
    simp only [AI.step] at h
    split at h
    · rename_i cs hcs
      simp only [Option.some.injEq] at h; subst h
      refine ⟨[(d, .ref s.h.length 0)], _, rfl, by simp [AI.wr], fun e2 hs => ?_, (fun h => by cases h), (fun h => by cases h), (fun _ => ⟨_, rfl⟩), (fun h => by cases h)⟩
      simp only [AI.step, Same.ev (x := x) hs, hcs]; rfl
    · cases h
  | store a x n =>
    have e0 : ∀ e2, Same s.e e2 (AI.store a x n).rd → a.ev e2 = a.ev s.e ∧ x.ev e2 = x.ev s.e := fun e2 hs => ⟨(Same.left hs).ev, (Same.right hs).ev⟩
    simp only [AI.step] at h
    split at h
    · rename_i r off ha
      split at h
      · rename_i ds hr
        split at h
        · rename_i e sz xs hx
          split at h
          · rename_i m
            split at h
            · rename_i hc
              simp only [Option.some.injEq] at h; subst h
              refine ⟨[(m, .any)], _, rfl, by simp [AI.wr, Opd.wr], fun e2 hs => ?_, (fun h => by cases h), (fun h => by cases h), (fun h => by cases h), (fun h => by cases h)⟩
              simp only [AI.step, (e0 e2 hs).1, ha, hr, (e0 e2 hs).2, hx, hc, and_self, if_true]; rfl
            · cases h
          · cases h
        · rename_i hne
          split at h
          · rename_i cs hcs
            split at h
            · rename_i hc
              simp only [Option.some.injEq] at h; subst h
              refine ⟨[], _, rfl, by simp, fun e2 hs => ?_, (fun h => by cases h), (fun h => by cases h), (fun h => by cases h), (fun h => by cases h)⟩
              simp only [AI.step, (e0 e2 hs).1, ha, hr, (e0 e2 hs).2, hcs]
              generalize hxe : x.ev s.e = X at hne hcs
              cases X <;> simp_all
            · cases h
          · cases h
      · cases h
    · cases h
  | take d a =>
    simp only [AI.step] at h
    split at h
    · rename_i r off ha
      split at h
      · rename_i ds hr
        split at h
        · rename_i e sz xs hx
          simp only [Option.some.injEq] at h; subst h
          refine ⟨[(d, .own e sz xs)], _, rfl, by simp [AI.wr], fun e2 hs => ?_, (fun h => by cases h), (fun h => by cases h), (fun h => by cases h), fun _ => LoadEq.take hr hx⟩
          simp only [AI.step, Same.ev (x := a) hs, ha, hr, hx]; rfl
        · cases h
      · cases h
    · cases h
  | app d x y e sz b =>
    have e0 : ∀ e2, Same s.e e2 (AI.app d x y e sz b).rd → x.ev e2 = x.ev s.e ∧ y.ev e2 = y.ev s.e := fun e2 hs => ⟨(Same.left hs).ev, (Same.right hs).ev⟩
    simp only [AI.step] at h
    split at h
    · rename_i xs ys hx hy
      split at h
      · rename_i hc
        simp only [Option.some.injEq] at h; subst h
        refine ⟨(d, .own e sz (xs ++ ys)) :: x.clr, s.h, by rw [clear_eq]; rfl, .ofN ?_ fun e2 h2 hs => ?_⟩
        · intro p hp
          rcases List.mem_cons.1 hp with rfl | hp
          · simp [AI.wr]
          · exact List.mem_cons_of_mem _ (clr_wr hp)
        · simp only [AI.step, (e0 e2 hs).1, (e0 e2 hs).2, hx, hy, hc, and_self, if_true, clear_eq]; rfl
      · cases h
    · cases h
  | appS d x y e b =>
    have e0 : ∀ e2, Same s.e e2 (AI.appS d x y e b).rd → x.ev e2 = x.ev s.e ∧ y.ev e2 = y.ev s.e := fun e2 hs => ⟨(Same.left hs).ev, (Same.right hs).ev⟩
    simp only [AI.step] at h
    split at h
    · rename_i xs ys hx hy
      split at h
      · rename_i hc
        simp only [Option.some.injEq] at h; subst h
        refine ⟨(d, .own e 1 (xs ++ ys.data.toList.map fun c => .int .u8 c.toNat)) :: x.clr, s.h, by rw [clear_eq]; rfl, .ofN ?_ fun e2 h2 hs => ?_⟩
        · intro p hp
          rcases List.mem_cons.1 hp with rfl | hp
          · simp [AI.wr]
          · exact List.mem_cons_of_mem _ (clr_wr hp)
        · simp only [AI.step, (e0 e2 hs).1, (e0 e2 hs).2, hx, hy, hc, if_true, clear_eq]; rfl
      · cases h
    · cases h
  | bsl d e sz ps =>
    simp only [AI.step] at h
    split at h
    · rename_i vs hvs
      split at h
      · rename_i hall
        cases vs with
        | nil =>
          simp only [Option.some.injEq] at h; subst h
          refine ⟨[(d, .nil e sz)], s.h, rfl, .ofN (by simp [AI.wr]) fun e2 h2 hs => ?_⟩
          simp only [AI.step, Same.toVs (xs := ps) hs, hvs]; rfl
        | cons v vs =>
          simp only [Option.some.injEq] at h; subst h
          refine ⟨[(d, .own e sz (v :: vs))], s.h, rfl, .ofN (by simp [AI.wr]) fun e2 h2 hs => ?_⟩
          simp only [AI.step, Same.toVs (xs := ps) hs, hvs, hall, if_true]; rfl
      · cases h
    · cases h
  | s2b d x =>
    simp only [AI.step] at h
    split at h
    · rename_i b hb
      simp only [Option.some.injEq] at h; subst h
      refine ⟨[(d, .v (.list (b.data.toList.map fun c => .int .u8 c.toNat)))], s.h, rfl, .ofN (by simp [AI.wr]) fun e2 h2 hs => ?_⟩
      simp only [AI.step, Same.ev (x := x) hs, hb]; rfl
    · cases h
  | nilS d ne x => cases h
  | mksl d x z =>
    simp only [AI.step] at h
    split at h
    · rename_i k n hn
      split at h
      · rename_i hc
        simp only [Option.some.injEq] at h; subst h
        refine ⟨[(d, .sref s.h.length n.toNat)], _, rfl, by simp [AI.wr], fun e2 hs => ?_, (fun h => by cases h), (fun h => by cases h), (fun _ => ⟨_, rfl⟩), (fun h => by cases h)⟩
        simp only [AI.step, Same.ev (x := x) hs, hn, if_pos hc]; rfl
      · cases h
    · cases h
  | mkm d =>
    simp only [AI.step, Option.some.injEq] at h; subst h
    exact ⟨[(d, .mref s.h.length)], _, rfl, by simp [AI.wr], fun e2 hs => rfl, (fun h => by cases h), (fun h => by cases h), (fun _ => ⟨_, rfl⟩), (fun h => by cases h)⟩
  | ment d m k st ks =>
    have e0 : ∀ e2, Same s.e e2 (AI.ment d m k st ks).rd → m.ev e2 = m.ev s.e ∧ k.ev e2 = k.ev s.e := fun e2 hs => ⟨(Same.left hs).ev, (Same.right hs).ev⟩
    have hh : ∃ x, s' = ⟨(d, x) :: s.e, s.h⟩ ∧ ∀ e2, Same s.e e2 (AI.ment d m k st ks).rd → (AI.ment d m k st ks).step ⟨e2, s.h⟩ = some ⟨(d, x) :: e2, s.h⟩ := by
      simp only [AI.step] at h
      split at h
      · rename_i r hm
        split at h
        · rename_i es bs ck hr
          split at h
          · rename_i kv hkv
            split at h
            · rename_i hko
              split at h
              · rename_i i hi
                split at h
                · rename_i p n hp hn
                  simp only [Option.some.injEq] at h; subst h
                  exact ⟨_, rfl, fun e2 hs => by simp only [AI.step, (e0 e2 hs).1, (e0 e2 hs).2, hm, hr, hkv, hko, if_true, hi, hp, hn]⟩
                · cases h
              · cases h
            · cases h
          · cases h
        · cases h
      · cases h
    obtain ⟨x, rfl, hh⟩ := hh
    exact ⟨[(d, x)], s.h, rfl, by simp [AI.wr], hh, (fun h => by cases h), (fun h => by cases h), (fun h => by cases h), (fun h => by cases h)⟩
  | mest m b v =>
    have e0 : ∀ e2, Same s.e e2 (AI.mest m b v).rd → m.ev e2 = m.ev s.e ∧ b.ev e2 = b.ev s.e ∧ v.ev e2 = v.ev s.e := fun e2 hs => ⟨(Same.left hs).ev, (Same.left (Same.right hs)).ev, (Same.right (Same.right hs)).ev⟩
    have hh : ∃ h', s' = ⟨s.e, h'⟩ ∧ ∀ e2, Same s.e e2 (AI.mest m b v).rd → (AI.mest m b v).step ⟨e2, s.h⟩ = some ⟨e2, h'⟩ := by
      simp only [AI.step] at h
      split at h
      · rename_i r hm
        split at h
        · rename_i es bs ck hr
          split at h
          · rename_i kk n vv hb hv
            split at h
            · rename_i i hi
              split at h
              · rename_i p hp
                simp only [Option.some.injEq] at h; subst h
                exact ⟨_, rfl, fun e2 hs => by simp only [AI.step, (e0 e2 hs).1, (e0 e2 hs).2.1, (e0 e2 hs).2.2, hm, hr, hb, hv, hi, hp]⟩
              · cases h
            · cases h
          · cases h
        · cases h
      · cases h
    obtain ⟨h', rfl, hh⟩ := hh
    exact ⟨[], h', rfl, by simp, hh, (fun h => by cases h), (fun h => by cases h), (fun h => by cases h), (fun h => by cases h)⟩
  | mput m k v st ks =>
    have e0 : ∀ e2, Same s.e e2 (AI.mput m k v st ks).rd → m.ev e2 = m.ev s.e ∧ k.ev e2 = k.ev s.e ∧ v.ev e2 = v.ev s.e := fun e2 hs => ⟨(Same.left hs).ev, (Same.left (Same.right hs)).ev, (Same.right (Same.right hs)).ev⟩
    have hh : ∃ h', s' = ⟨s.e, h'⟩ ∧ ∀ e2, Same s.e e2 (AI.mput m k v st ks).rd → (AI.mput m k v st ks).step ⟨e2, s.h⟩ = some ⟨e2, h'⟩ := by
      simp only [AI.step] at h
      split at h
      · rename_i r hm
        split at h
        · rename_i es hr
          split at h
          · rename_i kv vv hkv hvv
            split at h
            · rename_i hko
              split at h
              · rename_i hf
                simp only [Option.some.injEq] at h; subst h
                exact ⟨_, rfl, fun e2 hs => by simp only [AI.step, (e0 e2 hs).1, (e0 e2 hs).2.1, (e0 e2 hs).2.2, hm, hr, hkv, hvv, hko, hf, if_true]⟩
              · rename_i j hf
                simp only [Option.some.injEq] at h; subst h
                exact ⟨_, rfl, fun e2 hs => by simp only [AI.step, (e0 e2 hs).1, (e0 e2 hs).2.1, (e0 e2 hs).2.2, hm, hr, hkv, hvv, hko, hf, if_true]⟩
              · cases h
            · cases h
          · cases h
        · cases h
      · cases h
    obtain ⟨h', rfl, hh⟩ := hh
    exact ⟨[], h', rfl, by simp, hh, (fun h => by cases h), (fun h => by cases h), (fun h => by cases h), (fun h => by cases h)⟩
  | mdel d m k st ks =>
    have e0 : ∀ e2, Same s.e e2 (AI.mdel d m k st ks).rd → m.ev e2 = m.ev s.e ∧ k.ev e2 = k.ev s.e := fun e2 hs => ⟨(Same.left hs).ev, (Same.right hs).ev⟩
    have hh : ∃ h', s' = ⟨setO s.e d (.tup []), h'⟩ ∧ ∀ e2, Same s.e e2 (AI.mdel d m k st ks).rd → (AI.mdel d m k st ks).step ⟨e2, s.h⟩ = some ⟨setO e2 d (.tup []), h'⟩ := by
      simp only [AI.step] at h
      split at h
      · rename_i r hm
        split at h
        · rename_i es hr
          split at h
          · rename_i kv hkv
            split at h
            · rename_i hko
              split at h
              · rename_i hf
                simp only [Option.some.injEq] at h; subst h
                exact ⟨_, rfl, fun e2 hs => by simp only [AI.step, (e0 e2 hs).1, (e0 e2 hs).2, hm, hr, hkv, hko, hf, if_true]⟩
              · rename_i j hf
                simp only [Option.some.injEq] at h; subst h
                exact ⟨_, rfl, fun e2 hs => by simp only [AI.step, (e0 e2 hs).1, (e0 e2 hs).2, hm, hr, hkv, hko, hf, if_true]⟩
              · cases h
            · cases h
          · cases h
        · cases h
      · cases h
    obtain ⟨h', rfl, hh⟩ := hh
    cases d with
    | none => exact ⟨[], h', rfl, by simp, hh, (fun h => by cases h), (fun h => by cases h), (fun h => by cases h), (fun h => by cases h)⟩
    | some d => exact ⟨[(d, .tup [])], h', rfl, by simp [AI.wr], hh, (fun h => by cases h), (fun h => by cases h), (fun h => by cases h), (fun h => by cases h)⟩
  | call d f args => cases h
  | callF d f args => cases h
  | callC d f args => cases h
  | callO d f q args => cases h
  | appR d x y e s b => cases h
  | frz d x s => cases h
section
variable (P : Program) (GL : Globals)
def CallS (fd : D) (args : List D) (h : List Row) (rets : List D) (h' : List Row) : Prop :=
  match fd with
  | .yld r => ∃ b, YSp P GL r args h b h' ∧ rets = [.v (.bool b)]
  | .meth fid fs => FSp P GL fid (fs ++ args) h rets h'
  | fd => ∃ fid caps, fnOf fd = some (fid, caps) ∧ FSp P GL fid (args ++ caps) h rets h'
def stepJ (i : AI) (s s' : St) : Prop :=
  i.step s = some s' ∨ (∃ d f args fid caps vs rets, i = .call d f args ∧ (f.ev s.e).toV = some (.func fid caps) ∧ toVs s.e args = some vs ∧ PSp P GL fid (vs ++ caps) rets ∧ s' = ⟨setO s.e d (retD rets), s.h⟩) ∨
  (∃ d f args rets h', (i = .callF d f args ∨ i = .callC d f args ∧ ∃ t, h' = s.h ++ t) ∧ CallS P GL (f.ev s.e) (argsOf s.e args) s.h rets h' ∧ s' = ⟨setO s.e d (retDs rets), h'⟩) ∨
  ∃ d f q args fid rets, i = .callO d f q args ∧ fnOf (f.ev s.e) = some (fid, []) ∧ OSp P GL fid (q.ev s.e :: argsOf s.e args) rets ∧ s' = ⟨setO (q.clear s.e) d (retDs rets), s.h⟩
def gstepJ (x : GI) (s s' : St) : Prop :=
  match x.g with
  | none => stepJ P GL x.i s s'
  | some (t, want) => match find s.e t with
    | .v (.bool b) => if b = want then stepJ P GL x.i s s' else s' = ⟨setO s.e x.i.dst (.tup []), s.h⟩
    | .tup [] => s' = ⟨setO s.e x.i.dst (.tup []), s.h⟩
    | _ => False
def runJ : List GI → St → St → Prop
  | [], s, s' => s' = s
  | x :: rest, s, s' => ∃ s1, gstepJ P GL x s s1 ∧ runJ rest s1 s'
end
section
variable {P : Program} {GL : Globals}
def dO (d : Option Nat) (x : D) : Env := match d with | some d => [(d, x)] | none => []
theorem setO_eq (e : Env) (d : Option Nat) (x : D) : setO e d x = dO d x ++ e := by cases d <;> rfl
theorem dO_wr {d : Option Nat} {x : D} {p : Nat × D} (h : p ∈ dO d x) : p.1 ∈ d.toList := by cases d <;> simp_all [dO]
theorem stepJ_local {i : AI} {s s' : St} (h : stepJ P GL i s s') : ∃ δ h', s' = ⟨δ ++ s.e, h'⟩ ∧ Local (stepJ P GL i) i.rd i.wr i.kd s δ h' := by
  rcases h with h | ⟨d, f, args, fid, caps, vs, rets, rfl, hf, hv, hp, rfl⟩ | ⟨d, f, args, rets, h', hi, hc, rfl⟩ | ⟨d, f, q, args, fid, rets, rfl, hf, hp, rfl⟩
  · obtain ⟨δ, h', hs, l⟩ := step_local h
    exact ⟨δ, h', hs, l.wr, fun e2 x => .inl (l.here e2 x), fun k => ⟨(l.n k).1, fun e2 h2 x => .inl ((l.n k).2 e2 h2 x)⟩, fun k => ⟨(l.r k).1, fun e2 h2 x => .inl ((l.r k).2.1 e2 h2 x), fun e2 h2 hq x => .inl ((l.r k).2.2 e2 h2 hq x)⟩, l.a, l.t⟩
  · refine ⟨dO d (retD rets), s.h, by rw [setO_eq], .ofN (fun p hp => dO_wr hp) fun e2 h2 hs => .inr (.inl ⟨d, f, args, fid, caps, vs, rets, rfl, ?_, ?_, hp, by rw [setO_eq]⟩)⟩
    · rw [Same.ev (x := f) (Same.left hs)]; exact hf
    · rw [Same.toVs (xs := args) (Same.right hs)]; exact hv
  · rcases hi with rfl | ⟨rfl, ht⟩
    · refine ⟨dO d (retDs rets), h', by rw [setO_eq], fun p hp => dO_wr hp, fun e2 hs => .inr (.inr (.inl ⟨d, f, args, rets, h', .inl rfl, ?_, by rw [setO_eq]⟩)), (fun h => by cases h), (fun h => by cases h), (fun h => by cases h), (fun h => by cases h)⟩
      rw [Same.ev (x := f) (Same.left hs), Same.argsOf (xs := args) (Same.right hs)]; exact hc
    · refine ⟨dO d (retDs rets), h', by rw [setO_eq], fun p hp => dO_wr hp, fun e2 hs => .inr (.inr (.inl ⟨d, f, args, rets, h', .inr ⟨rfl, ht⟩, ?_, by rw [setO_eq]⟩)), (fun h => by cases h), (fun h => by cases h), (fun _ => ht), (fun h => by cases h)⟩
      rw [Same.ev (x := f) (Same.left hs), Same.argsOf (xs := args) (Same.right hs)]; exact hc
  · refine ⟨dO d (retDs rets) ++ q.clr, s.h, by rw [setO_eq, clear_eq, List.append_assoc], .ofN (fun p hp => ?_) fun e2 h2 hs => .inr (.inr (.inr ⟨d, f, q, args, fid, rets, rfl, ?_, ?_, by rw [setO_eq, clear_eq, List.append_assoc]⟩))⟩
    · rcases List.mem_append.1 hp with h | h
      · exact List.mem_append_left _ (dO_wr h)
      · exact List.mem_append_right _ (clr_wr h)
    · rw [Same.ev (x := f) (Same.left hs)]; exact hf
    · rw [Same.ev (x := q) (Same.left (Same.right hs)), Same.argsOf (xs := args) (Same.right (Same.right hs))]; exact hp
theorem gstepJ_local {x : GI} {s s' : St} (h : gstepJ P GL x s s') : ∃ δ h', s' = ⟨δ ++ s.e, h'⟩ ∧ Local (gstepJ P GL x) x.rd x.wr x.i.kd s δ h' := by
  obtain ⟨g, i⟩ := x
  cases g with
  | none =>
    obtain ⟨δ, h', hs, l⟩ := stepJ_local (i := i) h
    have hr : ∀ e2, Same s.e e2 (GI.rd ⟨none, i⟩) → Same s.e e2 i.rd := fun e2 hs => by simpa [GI.rd] using hs
    exact ⟨δ, h', hs, fun p hp => List.mem_append_right _ (l.wr p hp), fun e2 x => l.here e2 (hr e2 x), fun k => ⟨(l.n k).1, fun e2 h2 x => (l.n k).2 e2 h2 (hr e2 x)⟩, fun k => ⟨(l.r k).1, fun e2 h2 x => (l.r k).2.1 e2 h2 (hr e2 x), fun e2 h2 hq x => (l.r k).2.2 e2 h2 hq (hr e2 x)⟩, l.a, l.t⟩
  | some tw =>
    obtain ⟨t, want⟩ := tw
    have hr : ∀ {e2}, Same s.e e2 (GI.rd ⟨some (t, want), i⟩) → Same s.e e2 i.rd := fun hs => Same.right hs
    have ht : ∀ {e2}, Same s.e e2 (GI.rd ⟨some (t, want), i⟩) → find e2 t = find s.e t := fun hs => hs t (by simp [GI.rd])
    have skip : ∀ {s' : St}, s' = ⟨setO s.e i.dst (.tup []), s.h⟩ → (∀ e2 h2, find e2 t = find s.e t → gstepJ P GL ⟨some (t, want), i⟩ ⟨e2, h2⟩ ⟨setO e2 i.dst (.tup []), h2⟩) →
        ∃ δ h', s' = ⟨δ ++ s.e, h'⟩ ∧ Local (gstepJ P GL ⟨some (t, want), i⟩) (GI.rd ⟨some (t, want), i⟩) (GI.wr ⟨some (t, want), i⟩) i.kd s δ h' := by
      rintro s' rfl hall
      refine ⟨dO i.dst (.tup []), s.h, by rw [setO_eq], .ofN (fun p hp => List.mem_append_left _ (dO_wr hp)) fun e2 h2 hs => ?_⟩
      have := hall e2 h2 (ht hs)
      rw [setO_eq] at this; exact this
    simp only [gstepJ] at h
    split at h
    · rename_i b hb
      split at h
      · rename_i hbw
        obtain ⟨δ, h', hs, l⟩ := stepJ_local (i := i) h
        have go : ∀ {e2 : Env} {h2 : List Row} {s2 : St}, Same s.e e2 (GI.rd ⟨some (t, want), i⟩) → stepJ P GL i ⟨e2, h2⟩ s2 → gstepJ P GL ⟨some (t, want), i⟩ ⟨e2, h2⟩ s2 := by
          intro e2 h2 s2 hs hj
          simp only [gstepJ, ht hs, hb, hbw, if_true]; exact hj
        exact ⟨δ, h', hs, fun p hp => List.mem_append_right _ (l.wr p hp), fun e2 x => go x (l.here e2 (hr x)), fun k => ⟨(l.n k).1, fun e2 h2 x => go x ((l.n k).2 e2 h2 (hr x))⟩, fun k => ⟨(l.r k).1, fun e2 h2 x => go x ((l.r k).2.1 e2 h2 (hr x)), fun e2 h2 hq x => go x ((l.r k).2.2 e2 h2 hq (hr x))⟩, l.a, l.t⟩
      · rename_i hbw
        refine skip h fun e2 h2 hf => ?_
        simp only [gstepJ, hf, hb, hbw, if_false]
    · rename_i hb
      refine skip h fun e2 h2 hf => ?_
      simp only [gstepJ, hf, hb]
    · exact h.elim
def EqS (s s' : St) : Prop := (∀ n, find s.e n = find s'.e n) ∧ s.h = s'.h
theorem EqS.refl (s : St) : EqS s s := ⟨fun _ => rfl, rfl⟩
theorem EqS.trans {a b c : St} (h : EqS a b) (h' : EqS b c) : EqS a c := ⟨fun n => (h.1 n).trans (h'.1 n), h.2.trans h'.2⟩
theorem find_append_congr {δ : Env} {e e' : Env} (h : ∀ n, find e n = find e' n) (n : Nat) : find (δ ++ e) n = find (δ ++ e') n := by
  induction δ with
  | nil => exact h n
  | cons p δ ih => simp only [List.cons_append, find]; split <;> first | rfl | exact ih
theorem find_append_not {δ : Env} {e : Env} {n : Nat} (h : ∀ p ∈ δ, p.1 ≠ n) : find (δ ++ e) n = find e n := by
  induction δ with
  | nil => rfl
  | cons p δ ih =>
    simp only [List.cons_append, find]
    rw [if_neg (h p (by simp)), ih fun q hq => h q (by simp [hq])]
theorem find_skip {δ' : Env} {e : Env} {p : Nat × D} {n : Nat} (h : p.1 ≠ n) : find (δ' ++ p :: e) n = find (δ' ++ e) n := by
  induction δ' with
  | nil => simp [find, h]
  | cons q δ' ih => simp only [List.cons_append, find]; split <;> first | rfl | exact ih
theorem find_swap {δ δ' : Env} {e : Env} (h : ∀ p ∈ δ, ∀ q ∈ δ', p.1 ≠ q.1) (n : Nat) : find (δ ++ (δ' ++ e)) n = find (δ' ++ (δ ++ e)) n := by
  induction δ with
  | nil => rfl
  | cons p δ ih =>
    have ih := ih fun q hq => h q (by simp [hq])
    simp only [List.cons_append, find]
    by_cases hn : p.1 = n
    · rw [if_pos hn, find_append_not (δ := δ') fun q hq => by rw [← hn]; exact (h p (by simp) q hq).symm]
      simp [find, hn]
    · rw [if_neg hn, ih, find_skip hn]
theorem run_congr : ∀ {l : List GI} {s s2 t : St}, runJ P GL l s t → EqS s s2 → ∃ t2, runJ P GL l s2 t2 ∧ EqS t t2
  | [], s, s2, t, h, he => by cases h; exact ⟨s2, rfl, he⟩
  | x :: l, s, s2, t, ⟨s1, h1, h⟩, he => by
    obtain ⟨δ, h', rfl, loc⟩ := gstepJ_local h1
    have h2 : gstepJ P GL x s2 ⟨δ ++ s2.e, h'⟩ := by
      have := loc.here s2.e (fun n _ => (he.1 n).symm)
      rw [he.2] at this; exact this
    obtain ⟨t2, h3, h4⟩ := run_congr (s2 := ⟨δ ++ s2.e, h'⟩) h ⟨fun n => find_append_congr he.1 n, rfl⟩
    exact ⟨t2, ⟨_, h2, h3⟩, h4⟩
def disj (a b : List Nat) : Bool := a.all fun n => !b.contains n
theorem disj_spec {a b : List Nat} (h : disj a b = true) {n : Nat} (ha : n ∈ a) (hb : n ∈ b) : False := by
  have := List.all_eq_true.1 h n ha
  simp [hb] at this
def okKd : Kd → Kd → Bool
  | .n, _ => true
  | _, .n => true
  | .r, .r => true
  | .r, .a => true
  | .r, .t => true
  | .t, .r => true
  | _, _ => false
def indep (y x : GI) : Bool := disj y.wr x.rd && disj x.wr y.rd && disj y.wr x.wr && okKd y.i.kd x.i.kd
theorem swapJ {y x : GI} (hi : indep y x = true) {s s1 s2 : St} (hy : gstepJ P GL y s s1) (hx : gstepJ P GL x s1 s2) : ∃ s1' s2', gstepJ P GL x s s1' ∧ gstepJ P GL y s1' s2' ∧ EqS s2 s2' := by
  simp only [indep, Bool.and_eq_true] at hi
  obtain ⟨⟨⟨d1, d2⟩, d3⟩, hk⟩ := hi
  obtain ⟨δy, hy', rfl, ly⟩ := gstepJ_local hy
  obtain ⟨δx, hx', rfl, lx⟩ := gstepJ_local hx
  have sx : Same (δy ++ s.e) s.e x.rd := fun n hn => (find_append_not fun p hp hpn => disj_spec d1 (ly.wr p hp) (hpn ▸ hn)).symm
  have sy : Same s.e (δx ++ s.e) y.rd := fun n hn => find_append_not fun p hp hpn => disj_spec d2 (lx.wr p hp) (hpn ▸ hn)
  have hend : ∀ n, find (δx ++ (δy ++ s.e)) n = find (δy ++ (δx ++ s.e)) n := fun n => find_swap (fun p hp q hq h => disj_spec d3 (ly.wr q hq) (h ▸ lx.wr p hp)) n
  cases hky : y.i.kd with
  | n =>
    obtain ⟨rfl, hn⟩ := ly.n hky
    exact ⟨_, _, lx.here s.e sx, hn _ _ sy, hend, rfl⟩
  | r =>
    obtain ⟨rfl, hr⟩ := ly.r hky
    cases hkx : x.i.kd with
    | n =>
      obtain ⟨rfl, hn⟩ := lx.n hkx
      exact ⟨_, _, hn _ _ sx, ly.here _ sy, hend, rfl⟩
    | r =>
      obtain ⟨rfl, hn⟩ := lx.r hkx
      have := hn.1 s.e [] sx
      simp only [List.append_nil] at this
      exact ⟨_, _, this, ly.here _ sy, hend, rfl⟩
    | a =>
      obtain ⟨t, rfl⟩ := lx.a hkx
      exact ⟨_, _, lx.here s.e sx, hr.1 _ t sy, hend, rfl⟩
    | t => exact ⟨_, _, lx.here s.e sx, hr.2 _ _ (lx.t hkx) sy, hend, rfl⟩
    | w => rw [hky, hkx] at hk; cases hk
  | a =>
    cases hkx : x.i.kd with
    | n =>
      obtain ⟨rfl, hn⟩ := lx.n hkx
      exact ⟨_, _, hn _ s.h sx, ly.here _ sy, hend, rfl⟩
    | _ => rw [hky, hkx] at hk; cases hk
  | t =>
    cases hkx : x.i.kd with
    | n =>
      obtain ⟨rfl, hn⟩ := lx.n hkx
      exact ⟨_, _, hn _ s.h sx, ly.here _ sy, hend, rfl⟩
    | r =>
      obtain ⟨rfl, hn⟩ := lx.r hkx
      exact ⟨_, _, hn.2 _ s.h (ly.t hky).symm sx, ly.here _ sy, hend, rfl⟩
    | _ => rw [hky, hkx] at hk; cases hk
  | w =>
    cases hkx : x.i.kd with
    | n =>
      obtain ⟨rfl, hn⟩ := lx.n hkx
      exact ⟨_, _, hn _ s.h sx, ly.here _ sy, hend, rfl⟩
    | _ => rw [hky, hkx] at hk; cases hk
theorem frontJ {x : GI} {post : List GI} : ∀ {pre : List GI} {s t : St}, (∀ y ∈ pre, indep y x = true) → runJ P GL (pre ++ x :: post) s t → ∃ t', runJ P GL (x :: (pre ++ post)) s t' ∧ EqS t t'
  | [], s, t, _, h => ⟨t, h, EqS.refl t⟩
  | y :: pre, s, t, hp, ⟨s1, h1, h⟩ => by
    obtain ⟨t', ⟨s2, h2, h3⟩, he⟩ := frontJ (fun z hz => hp z (by simp [hz])) h
    obtain ⟨s1', s2', h4, h5, he2⟩ := swapJ (hp y (by simp)) h1 h2
    obtain ⟨t'', h6, he3⟩ := run_congr h3 he2
    exact ⟨t'', ⟨s1', h4, s2', h5, h6⟩, he.trans he3⟩
end
end Go.Va

namespace Go.Va
inductive AT where
  | done
  | take (i : Nat) (t : AT)
  | pick (c : AT)
  | alt (i : Nat) (t rest : AT)
  | none
  deriving Inhabited
inductive AC where
  | skip
  | reg (ops : List GI) (keep : List Nat)
  | regD (ops : List GI) (keep : List Nat) (clos : List (List Nat))
  | regA (ops : List GI) (keep : List Nat) (clos : List (List Nat)) (t : AT)
  | seq (a b : AC)
  | cond (x : Opd) (a b : AC)
  | block (id : Nat) (c : AC)
  | loop (c : AC)
  | exit (id : Nat)
  | ret
  | rangeF (g : Opd) (ps : List Nat) (asg body : AC)
  | never
  deriving Inhabited
def AC.flat : AC → Bool
  | .rangeF _ _ _ _ => false
  | .seq a b => a.flat && b.flat
  | .cond _ a b => a.flat && b.flat
  | .block _ c => c.flat
  | .loop c => c.flat
  | _ => true
section
variable (P : Program) (GL : Globals)
def AT.ok (is : List GI) : AT → (St → Prop) → St → Prop
  | .done, K, s => K s
  | .take i t, K, s => ∃ s1, gstepJ P GL (is.getD i default) s s1 ∧ t.ok is K s1
  | .pick c, K, s => c.ok is K s
  | .alt i t r, K, s => (∃ s1, gstepJ P GL (is.getD i default) s s1 ∧ t.ok is K s1) ∧ r.ok is K s
  | .none, _, _ => True
def AnyJ (is : List GI) (clos : List (List Nat)) (K : St → Prop) : Nat → List Nat → St → Prop
  | 0, _, s => K s
  | n + 1, rem, s => ∀ i ∈ rem, (∀ j ∈ (clos[i]?).getD [], j ∉ rem) → ∃ s1, gstepJ P GL (is.getD i default) s s1 ∧ AnyJ is clos K n (rem.erase i) s1
end
def chkD (ops : Array Oper) (is : List GI) (clos : List (List Nat)) : Bool :=
  (List.range ops.size).all fun i => match ops[i]?, clos[i]?, is[i]? with
    | some o, some cl, some x => o.after.all (fun e => !Region.binds .any e || decide (e.on < i)) &&
        cl.all (fun j => o.after.any fun e => Region.binds .any e && (e.on == j || ((clos[e.on]?).getD []).contains j)) &&
        (List.range i).all (fun j => cl.contains j || (match is[j]? with | some y => indep y x | none => false))
    | _, _, _ => false
def chkE (ops : Array Oper) (is : List GI) (clos : List (List Nat)) : Bool :=
  (List.range ops.size).all fun i => match ops[i]?, clos[i]?, is[i]? with
    | some o, some cl, some _ => o.after.all (fun e => !Region.binds .any e || decide (e.on < i)) &&
        cl.all (fun j => o.after.any fun e => Region.binds .any e && (e.on == j || ((clos[e.on]?).getD []).contains j))
    | _, _, _ => false
def rdy (clos : List (List Nat)) (rem : List Nat) (i : Nat) : Bool := rem.contains i && ((clos[i]?).getD []).all fun j => !rem.contains j
def AT.heads : AT → List Nat
  | .alt i _ r => i :: r.heads
  | _ => []
def AT.good : AT → Bool
  | .alt _ _ _ => false
  | .none => false
  | _ => true
def AT.chk (is : List GI) (clos : List (List Nat)) : AT → List Nat → Bool
  | .done, rem => rem.isEmpty
  | .take i t, rem => rdy clos rem i && t.good && rem.all (fun j => j == i || ((clos[j]?).getD []).contains i || indep (is.getD i default) (is.getD j default)) && t.chk is clos (rem.erase i)
  | .pick c, rem => !rem.isEmpty && rem.all (fun j => !rdy clos rem j || c.heads.contains j) && c.chk is clos rem
  | .alt i t r, rem => rdy clos rem i && t.good && t.chk is clos (rem.erase i) && r.chk is clos rem
  | .none, _ => true
def chkC (P : Program) (GL : Globals) (N : Nat) : Code → AC → Bool
  | _, .never => true
  | .skip, .skip => true
  | .region _ ops false, .reg is _ => zipOK (chkG P GL N ops) (List.range ops.size) is
  | .region _ ops true, .regD is _ clos => zipOK (chkG P GL N ops) (List.range ops.size) is && chkD ops is clos && P.follows .mixedOrders
  | .region _ ops true, .regA is _ clos t => zipOK (chkG P GL N ops) (List.range ops.size) is && chkE ops is clos && t.chk is clos (List.range ops.size) && t.good && P.follows .mixedOrders
  | .seq a b, .seq a' b' => chkC P GL N a a' && chkC P GL N b b'
  | .cond x a b, .cond x' a' b' => oe GL x x' && chkC P GL N a a' && chkC P GL N b b'
  | .block id c, .block id' c' => id == id' && chkC P GL N c c'
  | .loop c, .loop c' => chkC P GL N c c'
  | .exit id, .exit id' => id == id'
  | .ret, .ret => true
  | .rangeFunc g ps asg body, .rangeF g' ps' asg' body' => oe GL g g' && ps.toList == ps' && ps'.all (fun p => decide (p < N)) && asg'.flat && body'.flat && chkC P GL N asg asg' && chkC P GL N body body'
  | _, _ => false
def cpE (e : Env) : Env := e.map fun p => (p.1, p.2.copy)
def TagOK : Tag → Loop → Prop
  | .ready, l => l.state = .ready ∧ l.pending = none
  | .busy, l => l.state = .busy
  | .done none, l => l.state ≠ .busy ∧ l.pending = some .ret
  | .done (some i), l => l.state ≠ .busy ∧ l.pending = some (.exit i)
def LoopP (P : Program) (GL : Globals) (tag : Tag) (e : Env) (ps : List Nat) (asg body : AC) (g : Gh) (μ : List Nat) (o : Obj) : Prop :=
  ∃ (l : Loop) (N : Nat), o = .loop l ∧ l.params = ps.toArray ∧ l.tmps.size = N ∧ (∀ n w, RepD g w μ (find e n) (l.tmps.getD n undef) ∧ ∀ k, ownAt (find e n) (l.tmps.getD n undef) k = none) ∧
    chkC P GL N l.assign asg = true ∧ chkC P GL N l.body body = true ∧ asg.flat = true ∧ body.flat = true ∧ (∀ p ∈ ps, p < N) ∧ TagOK tag l
theorem LoopP.mono {P : Program} {GL : Globals} {tag : Tag} {e : Env} {ps : List Nat} {asg body : AC} (g g' : Gh) (μ μ' : List Nat) (o : Obj) (hl : g.le g') (hμ : μ <+: μ')
    (h : LoopP P GL tag e ps asg body g μ o) : LoopP P GL tag e ps asg body g' μ' o := by
  obtain ⟨l, N, h1, h2, h3, h4, h5⟩ := h
  refine ⟨l, N, h1, h2, h3, fun n w => ⟨?_, (h4 n w).2⟩, h5⟩
  exact (h4 n w).1.chg (M := fun _ => True) ⟨hl, Nat.le_refl _, fun _ _ h => absurd trivial h, fun _ _ h => absurd trivial h, rfl, rfl⟩ hμ fun k b hb => by rw [(h4 n w).2 k] at hb; cases hb
def recRow (P : Program) (GL : Globals) (tag : Tag) (e : Env) (ps : List Nat) (asg body : AC) : Row := .obj tag (LoopP P GL tag e ps asg body) LoopP.mono
def rangeEnd (Q : AExit → St → Prop) (s : St) : Tag → Prop
  | .ready => Q .normal s
  | .busy => False
  | .done none => Q .ret s
  | .done (some i) => Q (.exit i) s
section
variable (P : Program) (GL : Globals)
def awp : AC → (AExit → St → Prop) → St → Prop
  | .skip, Q, s => Q .normal s
  | .reg ops keep, Q, s => awpOps P GL ops (fun s' => Q .normal ⟨normE s'.e keep, s'.h⟩) s
  | .regD ops keep _, Q, s => ∃ s', runJ P GL ops s s' ∧ Q .normal ⟨normE s'.e keep, s'.h⟩
  | .regA ops keep _ t, Q, s => t.ok P GL ops (fun s' => ∃ s2, RenS s.h.length s' s2 ∧ Q .normal ⟨normE s2.e keep, s2.h⟩) s
  | .seq a b, Q, s => awp a (fun e s' => match e with | .normal => awp b Q s' | e => Q e s') s
  | .cond x a b, Q, s => match x.ev s.e with
    | .v (.bool t) => if t then awp a Q s else awp b Q s
    | _ => False
  | .block id c, Q, s => awp c (fun e s' => match e with | .exit id' => if id' = id then Q .normal s' else Q (.exit id') s' | e => Q e s') s
  | .loop c, Q, s => ∃ I : Nat → St → Prop, (∃ m, I m s) ∧ ∀ m s, I m s → awp c (fun e s' => match e with | .normal => ∃ m', m' < m ∧ I m' s' | e => Q e s') s
  | .never, _, _ => False
  | .exit id, Q, s => Q (.exit id) s
  | .ret, Q, s => Q .ret s
  | .rangeF q ps asg body, Q, s => ∃ fid caps rets h' tag, fnOf (q.ev s.e) = some (fid, caps) ∧
      FSp P GL fid (.yld s.h.length :: caps) (s.h ++ [recRow P GL .ready (cpE s.e) ps asg body]) rets h' ∧ h'[s.h.length]? = some (recRow P GL tag (cpE s.e) ps asg body) ∧
      rangeEnd Q ⟨s.e, h'.set s.h.length .dead⟩ tag
end
section
variable {P : Program} {GL : Globals} {N : Nat} {r : Option Nat}
theorem normE_congr {e e' : Env} (h : ∀ n, find e n = find e' n) : ∀ ns, normE e ns = normE e' ns
  | [] => rfl
  | n :: ns => by simp only [normE, h n, normE_congr h ns]
theorem stepJ_awpI {i : AI} {s s1 : St} (h : stepJ P GL i s s1) : awpI P GL i (fun x => x = s1) s := by
  rcases h with h | ⟨d, f, args, fid, caps, vs, rets, rfl, hf, hv, hp, rfl⟩ | ⟨d, f, args, rets, h', hi, hc, rfl⟩ | ⟨d, f, q, args, fid, rets, rfl, hf, hp, rfl⟩
  · unfold awpI
    split
    · cases h
    · cases h
    · cases h
    · cases h
    · cases h
    · cases h
    · cases h
    · rw [h]
  · have hny : ∀ r, f.ev s.e ≠ .yld r := fun r hr => by rw [hr] at hf; simp [D.toV, D.v?] at hf
    have hnm : ∀ g fs, f.ev s.e ≠ .meth g fs := fun g fs hr => by rw [hr] at hf; simp [D.toV, D.v?] at hf
    simp only [awpI, awpCall, fnOf_of hf]
    refine ⟨rets.map .v, s.h, ?_, by rw [retDs_map]⟩
    rw [argsOf_of hv, ← List.map_append]
    exact hp.fsp s.h
  · have e0 : awpI P GL i = awpCall P GL d f args := by rcases hi with rfl | ⟨rfl, _⟩ <;> rfl
    rw [e0]
    simp only [awpCall]
    unfold CallS at hc
    split at hc
    · rename_i r hf
      obtain ⟨b, hy, rfl⟩ := hc
      first | (rw [hf]; exact ⟨b, h', hy, rfl⟩) | exact ⟨b, h', hy, rfl⟩
    · rename_i fid fs hf
      first | (rw [hf]; exact ⟨rets, h', hc, rfl⟩) | exact ⟨rets, h', hc, rfl⟩
    · rename_i h1 h2
      obtain ⟨fid, caps, hf, hs⟩ := hc
      first
        | (simp only [hf]; exact ⟨rets, h', hs, rfl⟩)
        | (split
           · rename_i r hr; exact absurd hr (h1 r)
           · rename_i a b hr; exact absurd hr (h2 a b)
           · simp only [hf]; exact ⟨rets, h', hs, rfl⟩)
  · exact ⟨fid, rets, hf, hp, rfl⟩
theorem gstepJ_awpG {x : GI} {s s1 : St} (h : gstepJ P GL x s s1) : awpG P GL x (fun x => x = s1) s := by
  unfold gstepJ at h
  unfold awpG
  split
  · rename_i hx; rw [hx] at h; exact stepJ_awpI h
  · rename_i t want hx
    rw [hx] at h
    simp only at h
    split
    · rename_i b hb
      rw [hb] at h
      simp only at h
      split
      · rename_i hw; rw [if_pos hw] at h; exact stepJ_awpI h
      · rename_i hw; rw [if_neg hw] at h; exact h.symm
    · rename_i hb; rw [hb] at h; exact h.symm
    · rename_i h1 h2
      split at h
      · rename_i b hb; exact h1 b hb
      · rename_i hb; exact h2 hb
      · exact h
theorem any_sound {ops : Array Oper} {is : List GI} {clos : List (List Nat)} (hk : ∀ (i : Nat) x, is[i]? = some x → chkG P GL N ops i x = true) (hlen : is.length = ops.size) (hd : chkD ops is clos = true)
    {K : St → Prop} (hK : ∀ s1 s2, EqS s1 s2 → K s1 → K s2) {Q : Exit → Act → World → Prop} : ∀ (fuel : Nat) (rem : List Nat) (listed : Array Bool) {g : Gh} {w : World} {μ : List Nat} {s : St} {a : Act} {O : Nat → Prop},
    rem.length = fuel → rem.Pairwise (· < ·) → (∀ i, i ∈ rem ↔ i < ops.size ∧ listed.getD i true = false) → listed.size = ops.size →
    (∀ i cl, listed.getD i false = true → clos[i]? = some cl → ∀ j ∈ cl, listed.getD j false = true) →
    Gs GL N g w μ s a O → (∃ t, runJ P GL (rem.map fun i => is.getD i default) s t ∧ K t) → (∀ a' w', After GL N K g w μ a O a' w' → Q .normal a' w') →
    wpAnyIn (WF r) 0 P .any ops Q fuel listed a w := by
  have hspec : ∀ i, i < ops.size → ∃ o cl x, ops[i]? = some o ∧ clos[i]? = some cl ∧ is[i]? = some x ∧ (∀ e ∈ o.after, Region.binds .any e = true → e.on < i) ∧
      (∀ j ∈ cl, ∃ e ∈ o.after, Region.binds .any e = true ∧ (e.on = j ∨ ∃ cl', clos[e.on]? = some cl' ∧ j ∈ cl')) ∧ (∀ j, j < i → j ∈ cl ∨ ∃ y, is[j]? = some y ∧ indep y x = true) := by
    intro i hi
    have h := List.all_eq_true.1 hd i (List.mem_range.2 hi)
    split at h
    · rename_i o cl x ho hcl hx
      simp only [Bool.and_eq_true] at h
      obtain ⟨⟨h1, h2⟩, h3⟩ := h
      refine ⟨o, cl, x, ho, hcl, hx, fun e he hb => ?_, fun j hj => ?_, fun j hj => ?_⟩
      · rw [Array.all_eq_true'] at h1
        have := h1 e he
        simpa [hb] using this
      · have h4 := List.all_eq_true.1 h2 j hj
        rw [Array.any_eq_true'] at h4
        obtain ⟨e, he, h5⟩ := h4
        simp only [Bool.and_eq_true, Bool.or_eq_true, beq_iff_eq] at h5
        refine ⟨e, he, h5.1, ?_⟩
        rcases h5.2 with h6 | h6
        · exact .inl h6
        · cases hc : clos[e.on]? with
          | none => simp [hc] at h6
          | some cl' => exact .inr ⟨cl', rfl, by simpa [hc] using h6⟩
      · have h4 := List.all_eq_true.1 h3 j (List.mem_range.2 hj)
        simp only [Bool.or_eq_true] at h4
        rcases h4 with h5 | h5
        · exact .inl (by simpa using h5)
        · split at h5
          · rename_i y hy; exact .inr ⟨y, hy, h5⟩
          · cases h5
    · cases h
  intro fuel
  induction fuel with
  | zero =>
    intro rem listed g w μ s a O hl _ hmem _ _ hg h hq
    have : rem = [] := List.eq_nil_of_length_eq_zero hl
    subst this
    obtain ⟨t, rfl, hKt⟩ := h
    refine ⟨?_, hq a w ⟨_, g, μ, hKt, hg, Chg.refl _ _ _, List.prefix_refl _, rfl⟩⟩
    rw [List.eq_nil_iff_forall_not_mem]
    intro i hi
    rw [mem_ready] at hi
    obtain ⟨h1, o, ho, _⟩ := hi
    have := (hmem i).2 ⟨(Array.getElem?_eq_some_iff.1 ho).1, h1⟩
    simp at this
  | succ fuel ih =>
    intro rem listed g w μ s a O hl hsort hmem hsz hcl hg h hq
    refine ⟨fun hnil => ?_, fun i hi => ?_⟩
    · exfalso
      cases rem with
      | nil => simp at hl
      | cons i0 rem' =>
        obtain ⟨hi0, hun⟩ := (hmem i0).1 (by simp)
        obtain ⟨o, cl, x, ho, _, _, he, _⟩ := hspec i0 hi0
        have : i0 ∈ Region.ready .any ops listed := by
          rw [mem_ready]
          refine ⟨hun, o, ho, fun e hee hb => ?_⟩
          have hlt := he e hee hb
          have hns : e.on < listed.size := by omega
          cases hv : listed.getD e.on true with
          | true => simp [hns] at hv ⊢; exact hv
          | false =>
            have h1 := (hmem e.on).2 ⟨by omega, hv⟩
            rcases List.mem_cons.1 h1 with h2 | h2
            · omega
            · have := List.rel_of_pairwise_cons hsort h2; omega
        rw [hnil] at this; simp at this
    · have hi' := mem_ready.1 hi
      obtain ⟨hun, o', ho', hedge⟩ := hi'
      have hin : i < ops.size := (Array.getElem?_eq_some_iff.1 ho').1
      have him := (hmem i).2 ⟨hin, hun⟩
      obtain ⟨pre, post, rfl⟩ := List.append_of_mem him
      obtain ⟨o, cl, x, ho, hcli, hx, _, hcl2, hind⟩ := hspec i hin
      rw [ho'] at ho; cases ho
      have hclist : ∀ j ∈ cl, listed.getD j false = true := by
        intro j hj
        obtain ⟨e, he, hb, h6⟩ := hcl2 j hj
        have h7 := hedge e he hb
        rcases h6 with rfl | ⟨cl', hc', hj'⟩
        · exact h7
        · exact hcl e.on cl' h7 hc' j hj'
      have hxd : is.getD i default = x := by simp [List.getD, hx]
      obtain ⟨t, hrun, hKt⟩ := h
      rw [List.map_append, List.map_cons, hxd] at hrun
      have hpre : ∀ y ∈ pre.map (fun i => is.getD i default), indep y x = true := by
        intro y hy
        obtain ⟨j, hj, rfl⟩ := List.mem_map.1 hy
        have hji : j < i := (List.pairwise_append.1 hsort).2.2 j hj i (by simp)
        obtain ⟨hjn, hjun⟩ := (hmem j).1 (by simp [hj])
        rcases hind j hji with h1 | ⟨y', hy', h2⟩
        · have := hclist j h1
          have hns : j < listed.size := by omega
          simp [hns] at this hjun
          rw [hjun] at this; cases this
        · simpa [List.getD, hy'] using h2
      obtain ⟨t', ⟨s1, hs1, hrun'⟩, he⟩ := frontJ hpre hrun
      refine awpG_sound (hk i x hx) hg (gstepJ_awpG hs1) ?_
      rintro s' g' w' μ' a' rfl hgs hch hμ hdf
      refine ih (pre ++ post) _ ?_ ?_ ?_ (by simp [hsz]) ?_ hgs ⟨t', by rw [List.map_append]; exact hrun', hK _ _ he hKt⟩ fun a2 w2 h2 => hq a2 w2 (h2.trans hch hμ hdf)
      · simp at hl ⊢; omega
      · exact hsort.sublist (List.Sublist.append_left (List.sublist_cons_self i post) pre)
      · intro j
        have hnd : i ∉ pre ++ post := by
          intro hm
          rcases List.mem_append.1 hm with hm | hm
          · have := (List.pairwise_append.1 hsort).2.2 i hm i (by simp); omega
          · have := List.rel_of_pairwise_cons (List.pairwise_append.1 hsort).2.1 hm; omega
        by_cases hji : j = i
        · subst hji
          refine ⟨fun hm => absurd hm hnd, fun hm => ?_⟩
          have h2 := hm.2
          have hns : j < listed.size := by omega
          simp [hns] at h2
        · have hsame : (listed.setIfInBounds i true).getD j true = listed.getD j true := by
            simp [Array.getD_eq_getD_getElem?, Array.getElem?_setIfInBounds, Ne.symm hji]
          rw [hsame]
          have := hmem j
          simp only [List.mem_append, List.mem_cons, hji, false_or] at this ⊢
          exact this
      · intro k cl' hk' hc' j hj
        by_cases hki : k = i
        · subst hki
          rw [hcli] at hc'; cases hc'
          have := hclist j hj
          by_cases hjk : j = k
          · subst hjk
            have hns : j < listed.size := by omega
            simp [Array.getD_eq_getD_getElem?, Array.getElem?_setIfInBounds, hns]
          · rw [Array.getD_eq_getD_getElem?, Array.getElem?_setIfInBounds, if_neg (Ne.symm hjk), ← Array.getD_eq_getD_getElem?]; exact this
        · rw [Array.getD_eq_getD_getElem?, Array.getElem?_setIfInBounds, if_neg (Ne.symm hki), ← Array.getD_eq_getD_getElem?] at hk'
          have := hcl k cl' hk' hc' j hj
          by_cases hji : j = i
          · subst hji
            have hns : j < listed.size := by omega
            simp [Array.getD_eq_getD_getElem?, Array.getElem?_setIfInBounds, hns]
          · rw [Array.getD_eq_getD_getElem?, Array.getElem?_setIfInBounds, if_neg (Ne.symm hji), ← Array.getD_eq_getD_getElem?]; exact this
theorem anyJ_sound {ops : Array Oper} {is : List GI} {clos : List (List Nat)} (hk : ∀ (i : Nat) x, is[i]? = some x → chkG P GL N ops i x = true) (hlen : is.length = ops.size) (hd : chkE ops is clos = true)
    {K : St → Prop} {Q : Exit → Act → World → Prop} : ∀ (fuel : Nat) (rem : List Nat) (listed : Array Bool) {g : Gh} {w : World} {μ : List Nat} {s : St} {a : Act} {O : Nat → Prop},
    rem.length = fuel → rem.Pairwise (· < ·) → (∀ i, i ∈ rem ↔ i < ops.size ∧ listed.getD i true = false) → listed.size = ops.size →
    (∀ i cl, listed.getD i false = true → clos[i]? = some cl → ∀ j ∈ cl, listed.getD j false = true) →
    Gs GL N g w μ s a O → AnyJ P GL is clos K fuel rem s → (∀ a' w', After GL N K g w μ a O a' w' → Q .normal a' w') →
    wpAnyIn (WF r) 0 P .any ops Q fuel listed a w := by
  have hspec : ∀ i, i < ops.size → ∃ o cl x, ops[i]? = some o ∧ clos[i]? = some cl ∧ is[i]? = some x ∧ (∀ e ∈ o.after, Region.binds .any e = true → e.on < i) ∧
      (∀ j ∈ cl, ∃ e ∈ o.after, Region.binds .any e = true ∧ (e.on = j ∨ ∃ cl', clos[e.on]? = some cl' ∧ j ∈ cl')) := by
    intro i hi
    have h := List.all_eq_true.1 hd i (List.mem_range.2 hi)
    split at h
    · rename_i o cl x ho hcl hx
      simp only [Bool.and_eq_true] at h
      obtain ⟨h1, h2⟩ := h
      refine ⟨o, cl, x, ho, hcl, hx, fun e he hb => ?_, fun j hj => ?_⟩
      · rw [Array.all_eq_true'] at h1
        have := h1 e he
        simpa [hb] using this
      · have h4 := List.all_eq_true.1 h2 j hj
        rw [Array.any_eq_true'] at h4
        obtain ⟨e, he, h5⟩ := h4
        simp only [Bool.and_eq_true, Bool.or_eq_true, beq_iff_eq] at h5
        refine ⟨e, he, h5.1, ?_⟩
        rcases h5.2 with h6 | h6
        · exact .inl h6
        · cases hc : clos[e.on]? with
          | none => simp [hc] at h6
          | some cl' => exact .inr ⟨cl', rfl, by simpa [hc] using h6⟩
    · cases h
  intro fuel
  induction fuel with
  | zero =>
    intro rem listed g w μ s a O hl _ hmem _ _ hg h hq
    have : rem = [] := List.eq_nil_of_length_eq_zero hl
    subst this
    refine ⟨?_, hq a w ⟨_, g, μ, h, hg, Chg.refl _ _ _, List.prefix_refl _, rfl⟩⟩
    rw [List.eq_nil_iff_forall_not_mem]
    intro i hi
    rw [mem_ready] at hi
    obtain ⟨h1, o, ho, _⟩ := hi
    have := (hmem i).2 ⟨(Array.getElem?_eq_some_iff.1 ho).1, h1⟩
    simp at this
  | succ fuel ih =>
    intro rem listed g w μ s a O hl hsort hmem hsz hcl hg h hq
    refine ⟨fun hnil => ?_, fun i hi => ?_⟩
    · exfalso
      cases rem with
      | nil => simp at hl
      | cons i0 rem' =>
        obtain ⟨hi0, hun⟩ := (hmem i0).1 (by simp)
        obtain ⟨o, cl, x, ho, _, _, he, _⟩ := hspec i0 hi0
        have : i0 ∈ Region.ready .any ops listed := by
          rw [mem_ready]
          refine ⟨hun, o, ho, fun e hee hb => ?_⟩
          have hlt := he e hee hb
          have hns : e.on < listed.size := by omega
          cases hv : listed.getD e.on true with
          | true => simp [hns] at hv ⊢; exact hv
          | false =>
            have h1 := (hmem e.on).2 ⟨by omega, hv⟩
            rcases List.mem_cons.1 h1 with h2 | h2
            · omega
            · have := List.rel_of_pairwise_cons hsort h2; omega
        rw [hnil] at this; simp at this
    · have hi' := mem_ready.1 hi
      obtain ⟨hun, o', ho', hedge⟩ := hi'
      have hin : i < ops.size := (Array.getElem?_eq_some_iff.1 ho').1
      have him := (hmem i).2 ⟨hin, hun⟩
      obtain ⟨pre, post, rfl⟩ := List.append_of_mem him
      obtain ⟨o, cl, x, ho, hcli, hx, _, hcl2⟩ := hspec i hin
      rw [ho'] at ho; cases ho
      have hclist : ∀ j ∈ cl, listed.getD j false = true := by
        intro j hj
        obtain ⟨e, he, hb, h6⟩ := hcl2 j hj
        have h7 := hedge e he hb
        rcases h6 with rfl | ⟨cl', hc', hj'⟩
        · exact h7
        · exact hcl e.on cl' h7 hc' j hj'
      have hxd : is.getD i default = x := by simp [List.getD, hx]
      have hcg : (clos[i]?).getD [] = cl := by rw [hcli]; rfl
      obtain ⟨s1, hs1, hrun'⟩ := h i him (fun j hj hjm => by
        rw [hcg] at hj
        have h1 := hclist j hj
        obtain ⟨hjn, hjun⟩ := (hmem j).1 hjm
        have hns : j < listed.size := by omega
        simp [hns] at h1 hjun
        rw [hjun] at h1; cases h1)
      rw [hxd] at hs1
      have herase : (pre ++ i :: post).erase i = pre ++ post := by
        have hnp : i ∉ pre := fun hm => by have := (List.pairwise_append.1 hsort).2.2 i hm i (by simp); omega
        rw [List.erase_append_right _ hnp]; simp
      rw [herase] at hrun'
      refine awpG_sound (hk i x hx) hg (gstepJ_awpG hs1) ?_
      rintro s' g' w' μ' a' rfl hgs hch hμ hdf
      refine ih (pre ++ post) _ ?_ ?_ ?_ (by simp [hsz]) ?_ hgs hrun' fun a2 w2 h2 => hq a2 w2 (h2.trans hch hμ hdf)
      · simp at hl ⊢; omega
      · exact hsort.sublist (List.Sublist.append_left (List.sublist_cons_self i post) pre)
      · intro j
        have hnd : i ∉ pre ++ post := by
          intro hm
          rcases List.mem_append.1 hm with hm | hm
          · have := (List.pairwise_append.1 hsort).2.2 i hm i (by simp); omega
          · have := List.rel_of_pairwise_cons (List.pairwise_append.1 hsort).2.1 hm; omega
        by_cases hji : j = i
        · subst hji
          refine ⟨fun hm => absurd hm hnd, fun hm => ?_⟩
          have h2 := hm.2
          have hns : j < listed.size := by omega
          simp [hns] at h2
        · have hsame : (listed.setIfInBounds i true).getD j true = listed.getD j true := by
            simp [Array.getD_eq_getD_getElem?, Array.getElem?_setIfInBounds, Ne.symm hji]
          rw [hsame]
          have := hmem j
          simp only [List.mem_append, List.mem_cons, hji, false_or] at this ⊢
          exact this
      · intro k cl' hk' hc' j hj
        by_cases hki : k = i
        · subst hki
          rw [hcli] at hc'; cases hc'
          have := hclist j hj
          by_cases hjk : j = k
          · subst hjk
            have hns : j < listed.size := by omega
            simp [Array.getD_eq_getD_getElem?, Array.getElem?_setIfInBounds, hns]
          · rw [Array.getD_eq_getD_getElem?, Array.getElem?_setIfInBounds, if_neg (Ne.symm hjk), ← Array.getD_eq_getD_getElem?]; exact this
        · rw [Array.getD_eq_getD_getElem?, Array.getElem?_setIfInBounds, if_neg (Ne.symm hki), ← Array.getD_eq_getD_getElem?] at hk'
          have := hcl k cl' hk' hc' j hj
          by_cases hji : j = i
          · subst hji
            have hns : j < listed.size := by omega
            simp [Array.getD_eq_getD_getElem?, Array.getElem?_setIfInBounds, hns]
          · rw [Array.getD_eq_getD_getElem?, Array.getElem?_setIfInBounds, if_neg (Ne.symm hji), ← Array.getD_eq_getD_getElem?]; exact this
theorem AnyJ.congr {is : List GI} {clos : List (List Nat)} {K : St → Prop} (hK : ∀ s1 s2, EqS s1 s2 → K s1 → K s2) : ∀ (n : Nat) (rem : List Nat) {s s2 : St}, EqS s s2 → AnyJ P GL is clos K n rem s → AnyJ P GL is clos K n rem s2
  | 0, _, _, _, he, h => hK _ _ he h
  | n + 1, rem, s, s2, he, h => by
    intro i hi hr
    obtain ⟨s1, h1, h2⟩ := h i hi hr
    obtain ⟨t2, ⟨x, h3, h4⟩, h5⟩ := run_congr (l := [is.getD i default]) (t := s1) ⟨s1, h1, rfl⟩ he
    cases h4
    exact ⟨t2, h3, AnyJ.congr hK n _ h5 h2⟩
theorem AnyJ.take {is : List GI} {clos : List (List Nat)} {K : St → Prop} (hK : ∀ s1 s2, EqS s1 s2 → K s1 → K s2) {i : Nat} : ∀ (n : Nat) (rem : List Nat) {s s1 : St}, rem.length = n + 1 → rem.Nodup → i ∈ rem →
    (∀ j ∈ rem, j = i ∨ i ∈ (clos[j]?).getD [] ∨ indep (is.getD i default) (is.getD j default) = true) → gstepJ P GL (is.getD i default) s s1 → AnyJ P GL is clos K n (rem.erase i) s1 → (∀ j ∈ (clos[i]?).getD [], j ∉ rem) → AnyJ P GL is clos K (n + 1) rem s := by
  intro n
  induction n with
  | zero =>
    intro rem s s1 hl hnd hi _ h1 h2 _ j hj hr
    have : rem = [i] := by
      match rem, hl with
      | [x], _ => simp at hi; rw [hi]
    subst this
    simp at hj; subst hj
    exact ⟨s1, h1, h2⟩
  | succ n ih =>
    intro rem s s1 hl hnd hi hind h1 h2 hri j hj hr
    by_cases hji : j = i
    · subst hji; exact ⟨s1, h1, h2⟩
    · have hje : j ∈ rem.erase i := (List.mem_erase_of_ne hji).2 hj
      obtain ⟨s2, h3, h4⟩ := h2 j hje fun k hk hkm => hr k hk (List.mem_of_mem_erase hkm)
      have hin : indep (is.getD i default) (is.getD j default) = true := by
        rcases hind j hj with h | h | h
        · exact absurd h hji
        · exact absurd hi (hr i h)
        · exact h
      obtain ⟨s1', s2', h5, h6, he⟩ := swapJ hin h1 h3
      refine ⟨s1', h5, ih (rem.erase j) (by rw [List.length_erase_of_mem hj]; omega) (hnd.erase _) ((List.mem_erase_of_ne (Ne.symm hji)).2 hi) (fun k hk => hind k (List.mem_of_mem_erase hk)) h6 ?_ fun k hk hkm => hri k hk (List.mem_of_mem_erase hkm)⟩
      rw [List.erase_comm]
      exact AnyJ.congr hK n _ he h4
theorem rdy_spec {clos : List (List Nat)} {rem : List Nat} {i : Nat} : rdy clos rem i = true ↔ i ∈ rem ∧ ∀ j ∈ (clos[i]?).getD [], j ∉ rem := by
  simp [rdy]
theorem AT.any {is : List GI} {clos : List (List Nat)} {K : St → Prop} (hK : ∀ s1 s2, EqS s1 s2 → K s1 → K s2) : ∀ (t : AT) (rem : List Nat) {s : St}, rem.Nodup → t.chk is clos rem = true → t.ok P GL is K s →
    (t.good = true → AnyJ P GL is clos K rem.length rem s) ∧
    (∀ i ∈ t.heads, i ∈ rem → ∃ s1, gstepJ P GL (is.getD i default) s s1 ∧ AnyJ P GL is clos K (rem.length - 1) (rem.erase i) s1) := by
  intro t
  induction t with
  | done =>
    intro rem s _ hc h
    have : rem = [] := by simpa [AT.chk] using hc
    subst this
    exact ⟨fun _ => h, fun i hi => by simp [AT.heads] at hi⟩
  | take i t ih =>
    intro rem s hnd hc h
    simp only [AT.chk, Bool.and_eq_true] at hc
    obtain ⟨⟨⟨h1, h0⟩, h2⟩, h3⟩ := hc
    obtain ⟨s1, h4, h5⟩ := h
    obtain ⟨hi, hr⟩ := rdy_spec.1 h1
    have hlen : (rem.erase i).length = rem.length - 1 := List.length_erase_of_mem hi
    have hpos : 0 < rem.length := List.length_pos_of_mem hi
    refine ⟨fun _ => ?_, fun j hj => by simp [AT.heads] at hj⟩
    have := (ih (rem.erase i) (hnd.erase _) h3 h5).1 h0
    rw [hlen] at this
    have h6 := AnyJ.take hK (rem.length - 1) rem (by omega) hnd hi (fun j hj => by
        have := List.all_eq_true.1 h2 j hj
        simp only [Bool.or_eq_true, beq_iff_eq] at this
        rcases this with (h | h) | h
        · exact .inl h
        · exact .inr (.inl (by simpa using h))
        · exact .inr (.inr h)) h4 this hr
    rwa [show rem.length - 1 + 1 = rem.length by omega] at h6
  | pick c ih =>
    intro rem s hnd hc h
    simp only [AT.chk, Bool.and_eq_true] at hc
    obtain ⟨⟨h0, h1⟩, h2⟩ := hc
    have hpos : 0 < rem.length := by cases rem <;> simp at h0 ⊢
    refine ⟨fun _ => ?_, fun j hj => by simp [AT.heads] at hj⟩
    have h3 := (ih rem hnd h2 h).2
    obtain ⟨n, hn⟩ : ∃ n, rem.length = n + 1 := ⟨rem.length - 1, by omega⟩
    rw [hn]
    intro i hi hr
    have h4 := List.all_eq_true.1 h1 i hi
    simp only [rdy_spec.2 ⟨hi, hr⟩, Bool.not_true, Bool.false_or] at h4
    have := h3 i (by simpa using h4) hi
    rwa [hn] at this
  | alt i t r iht ihr =>
    intro rem s hnd hc h
    simp only [AT.chk, Bool.and_eq_true] at hc
    obtain ⟨⟨⟨h1, h2⟩, h3⟩, h4⟩ := hc
    refine ⟨fun h => by simp [AT.good] at h, fun j hj hjm => ?_⟩
    simp only [AT.heads, List.mem_cons] at hj
    rcases hj with rfl | hj
    · obtain ⟨⟨s1, h5, h6⟩, _⟩ := h
      have hlen : (rem.erase j).length = rem.length - 1 := List.length_erase_of_mem hjm
      have := (iht (rem.erase j) (hnd.erase _) h3 h6).1 h2
      rw [hlen] at this
      exact ⟨s1, h5, this⟩
    · exact (ihr rem hnd h4 h.2).2 j hj hjm
  | none => intro rem s _ _ _; exact ⟨fun h => by simp [AT.good] at h, fun i hi => by simp [AT.heads] at hi⟩
theorem regD_sound {ops : Array Oper} {is : List GI} {clos : List (List Nat)} (hk : zipOK (chkG P GL N ops) (List.range ops.size) is = true) (hd : chkD ops is clos = true)
    {K : St → Prop} (hK : ∀ s1 s2, EqS s1 s2 → K s1 → K s2) {Q : Exit → Act → World → Prop} {g : Gh} {w : World} {μ : List Nat} {s : St} {a : Act} {O : Nat → Prop}
    (hg : Gs GL N g w μ s a O) (h : ∃ t, runJ P GL is s t ∧ K t) (hq : ∀ a' w', After GL N K g w μ a O a' w' → Q .normal a' w') :
    wpAnyIn (WF r) 0 P .any ops Q ops.size (Array.replicate ops.size false) a w := by
  have hall : All2 (fun y x => chkG P GL N ops x y = true) is (List.range ops.size) := zipOK_all2 (fun x y h => h) hk
  have hlen : is.length = ops.size := by have := hall.1; simp at this; omega
  refine any_sound (fun i x hx => ?_) hlen hd hK ops.size (List.range ops.size) _ (by simp) List.pairwise_lt_range (fun i => ?_) (by simp) (fun i cl hi => ?_) hg ?_ hq
  · have hlt := (List.getElem?_eq_some_iff.1 hx).1
    have hri : (List.range ops.size)[i]? = some i := List.getElem?_range (by omega)
    exact hall.2 i x i hx hri
  · rw [List.mem_range]
    constructor
    · intro h; exact ⟨h, by simp [Array.getD_eq_getD_getElem?, h]⟩
    · exact fun h => h.1
  · exfalso
    by_cases hin : i < ops.size <;> simp [Array.getD_eq_getD_getElem?, hin] at hi
  · have : (List.range ops.size).map (fun i => is.getD i default) = is := by
      apply List.ext_getElem?
      intro i
      by_cases hin : i < ops.size
      · have : i < is.length := by omega
        simp [hin, List.getD, this]
      · have : is[i]? = none := by rw [List.getElem?_eq_none]; omega
        rw [this]; simp; omega
    rw [this]; exact h
theorem regA_sound {ops : Array Oper} {is : List GI} {clos : List (List Nat)} {t : AT} (hk : zipOK (chkG P GL N ops) (List.range ops.size) is = true) (hd : chkE ops is clos = true) (ht : t.chk is clos (List.range ops.size) = true)
    (ht2 : t.good = true)
    {K : St → Prop} (hK : ∀ s1 s2, EqS s1 s2 → K s1 → K s2) {Q : Exit → Act → World → Prop} {g : Gh} {w : World} {μ : List Nat} {s : St} {a : Act} {O : Nat → Prop}
    (hg : Gs GL N g w μ s a O) (h : t.ok P GL is K s) (hq : ∀ a' w', After GL N K g w μ a O a' w' → Q .normal a' w') :
    wpAnyIn (WF r) 0 P .any ops Q ops.size (Array.replicate ops.size false) a w := by
  have hall : All2 (fun y x => chkG P GL N ops x y = true) is (List.range ops.size) := zipOK_all2 (fun x y h => h) hk
  have hlen : is.length = ops.size := by have := hall.1; simp at this; omega
  refine anyJ_sound (fun i x hx => ?_) hlen hd ops.size (List.range ops.size) _ (by simp) List.pairwise_lt_range (fun i => ?_) (by simp) (fun i cl hi => ?_) hg ?_ hq
  · have hlt := (List.getElem?_eq_some_iff.1 hx).1
    have hri : (List.range ops.size)[i]? = some i := List.getElem?_range (by omega)
    exact hall.2 i x i hx hri
  · rw [List.mem_range]
    constructor
    · intro h; exact ⟨h, by simp [Array.getD_eq_getD_getElem?, h]⟩
    · exact fun h => h.1
  · exfalso
    by_cases hin : i < ops.size <;> simp [Array.getD_eq_getD_getElem?, hin] at hi
  · have := (AT.any hK t (List.range ops.size) List.nodup_range ht h).1 ht2
    simpa using this
theorem chg_drawn (g : Gh) (w : World) (n : Nat) (M : Nat → Prop) : Chg M g w g { w with drawn := n } := ⟨Gh.le.refl g, Nat.le_refl _, fun _ _ _ => rfl, fun _ _ _ _ => rfl, rfl, rfl⟩
theorem Gs.drawn {g : Gh} {w : World} {μ : List Nat} {s : St} {a : Act} {O : Nat → Prop} (hg : Gs GL N g w μ s a O) : Gs GL N g { w with drawn := w.drawn + 1 } μ s a O :=
  ⟨hg.inv.chg (chg_drawn g w _ _) hg.inv.agree, hg.glob, hg.sz⟩
theorem wpIn_loop_rel {F : Fence} {n : Nat} {c : Code} {Q : Exit → Act → World → Prop} (I : Nat → Act → World → Prop)
    (round : ∀ m a w, I m a w → c.wpIn F n P (Exit.then (fun a' w' => ∃ m', m' < m ∧ I m' a' w') Q) a w) : ∀ m a w, I m a w → (Code.loop c).wpIn F n P Q a w := by
  intro m a w h₀ b k cs hro hb hr
  have key : ∀ j a w, I j a w →
      ∃ e a' w', Q e a' w' ∧ ArrivesIn (Machine.fenced P F) P (lone (b.atR a (.code c :: .inLoop c :: k)) cs w) b k cs e a' w' := by
    intro j
    induction j using Nat.strongRecOn with
    | _ j ih =>
      intro a w hI
      obtain ⟨e, a₁, w₁, hq, harr⟩ := round j a w hI b (.inLoop c :: k) cs hro hb hr
      cases e with
      | normal =>
        obtain ⟨m', hlt, hI₁⟩ := hq
        obtain ⟨e₂, a₂, w₂, hq₂, harr₂⟩ := ih m' hlt a₁ w₁ hI₁
        exact ⟨e₂, a₂, w₂, hq₂, .of_steps (StepsIn.trans harr (.one (fenced_calm hb hr rfl) stepR_inLoop)) harr₂⟩
      | exit id => exact ⟨_, a₁, w₁, hq, .pass (x := .inLoop c) rfl (fun _ _ => .inl (by simp)) harr⟩
      | goto l => exact ⟨_, a₁, w₁, hq, .pass (x := .inLoop c) rfl (fun _ _ => .inl (by simp)) harr⟩
      | ret => exact ⟨_, a₁, w₁, hq, .pass (x := .inLoop c) rfl (fun _ _ => .inl (by simp)) harr⟩
      | panic ch => exact ⟨_, a₁, w₁, hq, .pass (x := .inLoop c) rfl (fun _ _ => .inl (by simp)) harr⟩
      | outgrown => exact ⟨_, a₁, w₁, hq, .pass (x := .inLoop c) rfl (fun _ _ => .inl (by simp)) harr⟩
  obtain ⟨e, a', w', hq, harr⟩ := key m a w h₀
  exact ⟨e, a', w', hq, .of_steps (.one (fenced_calm hb hr rfl) stepR_loop) harr⟩
end
end Go.Va

namespace Go.Va
section
variable {P : Program} {GL : Globals} {N : Nat} {r : Option Nat}
theorem find_cpE : ∀ (e : Env) (n : Nat), find (cpE e) n = (find e n).copy
  | [], n => rfl
  | (k, d) :: e, n => by
    simp only [cpE, List.map_cons, find]
    by_cases h : k = n
    · simp [h]
    · rw [if_neg h, if_neg h]; exact find_cpE e n
theorem repE_any {g : Gh} {w w' : World} {μ : List Nat} {d : D} {u : Value} (h : RepE g w μ d u) (h0 : ∀ v, own1 d v = none) : RepE g w' μ d u := by
  cases d <;> first
    | exact h
    | (have := h0 (.slice (some ⟨0, 0, none⟩) 0 1); simp [own1] at this; done)
theorem copy_anyW {g : Gh} {w w' : World} {μ : List Nat} {d : D} {u : Value} (h : RepD g w μ d.copy u) : RepD g w' μ d.copy u := by
  cases d <;> simp only [D.copy] at h ⊢ <;> first
    | exact h
    | exact repE_any h fun v => rfl
    | trivial
    | (obtain ⟨vs, rfl, ha, h1, h2⟩ := h
       exact ⟨vs, rfl, ⟨ha.1, fun i x v hx hv => repE_any (ha.2 i x v hx hv) (h2 x (List.mem_of_getElem? hx))⟩, h1, h2⟩)
def mark (b : Nat) : Deferred := { target := .collected b, args := #[] }
def Marks (O' : Nat → Prop) (w w' : World) (ds ds' : List Deferred) : Prop :=
  ∃ ms : List Nat, ds' = ms.map mark ++ ds ∧ ms.Nodup ∧ ∀ b ∈ ms, O' b ∧ w.heap.size ≤ b ∧ w'.heap[b]? = some (.deferred (some []))
def AfterM (GL : Globals) (N : Nat) (Q : St → Prop) (g : Gh) (w : World) (μ : List Nat) (a : Act) (O : Nat → Prop) (a' : Act) (w' : World) : Prop :=
  ∃ s' g' μ' O', Q s' ∧ Gs GL N g' w' μ' s' a' O' ∧ (∀ b, O b → O' b) ∧ Chg (fun b => ¬ O b) g w g' w' ∧ μ <+: μ' ∧ Marks O' w w' a.defers a'.defers
theorem Marks.nil {O' : Nat → Prop} {w w' : World} {ds ds' : List Deferred} (h : ds' = ds) : Marks O' w w' ds ds' := ⟨[], by simp [h], List.nodup_nil, by simp⟩
theorem Marks.trans {O1 O2 : Nat → Prop} {g1 g2 : Gh} {w w1 w2 : World} {d0 d1 d2 : List Deferred} (h1 : Marks O1 w w1 d0 d1) (hs : w.heap.size ≤ w1.heap.size) (hO : ∀ b, O1 b → O2 b) (hc : Chg (fun b => ¬ O1 b) g1 w1 g2 w2)
    (h2 : Marks O2 w1 w2 d1 d2) : Marks O2 w w2 d0 d2 := by
  obtain ⟨m1, rfl, n1, p1⟩ := h1
  obtain ⟨m2, rfl, n2, p2⟩ := h2
  refine ⟨m2 ++ m1, by simp, ?_, fun b hb => ?_⟩
  · rw [List.nodup_append]
    refine ⟨n2, n1, fun a ha b hb hab => ?_⟩
    subst hab
    have := lt_of_heap (p1 a hb).2.2
    have := (p2 a ha).2.1
    omega
  · rcases List.mem_append.1 hb with hb | hb
    · obtain ⟨q1, q2, q3⟩ := p2 b hb
      exact ⟨q1, by omega, q3⟩
    · obtain ⟨q1, q2, q3⟩ := p1 b hb
      exact ⟨hO b q1, q2, (hc.heap b (lt_of_heap q3) (fun h => h q1)).trans q3⟩
theorem AfterM.trans {Q : St → Prop} {g : Gh} {w : World} {μ : List Nat} {a : Act} {O O1 : Nat → Prop} {g1 : Gh} {w1 : World} {μ1 : List Nat} {a1 : Act} {a2 : Act} {w2 : World}
    (hO : ∀ b, O b → O1 b) (hc : Chg (fun b => ¬ O b) g w g1 w1) (hμ : μ <+: μ1) (hd : Marks O1 w w1 a.defers a1.defers) (h : AfterM GL N Q g1 w1 μ1 a1 O1 a2 w2) : AfterM GL N Q g w μ a O a2 w2 := by
  obtain ⟨s', g', μ', O2, hq, hg, hO', hc', hμ', hd'⟩ := h
  exact ⟨s', g', μ', O2, hq, hg, fun b hb => hO' b (hO b hb), hc.trans (hc'.mono fun b h hb => h (hO b hb)), hμ.trans hμ', hd.trans hc.size hO' hc' hd'⟩
def PostM (GL : Globals) (N : Nat) (Q : AExit → St → Prop) (g : Gh) (w : World) (μ : List Nat) (a : Act) (O : Nat → Prop) (e' : Exit) (a' : Act) (w' : World) : Prop :=
  ∃ e, ExOK e e' ∧ AfterM GL N (Q e) g w μ a O a' w'
theorem PostM.trans {Q : AExit → St → Prop} {g : Gh} {w : World} {μ : List Nat} {a : Act} {O O1 : Nat → Prop} {g1 : Gh} {w1 : World} {μ1 : List Nat} {a1 : Act}
    (hO : ∀ b, O b → O1 b) (hc : Chg (fun b => ¬ O b) g w g1 w1) (hμ : μ <+: μ1) (hd : Marks O1 w w1 a.defers a1.defers) {e' : Exit} {a2 : Act} {w2 : World} (h : PostM GL N Q g1 w1 μ1 a1 O1 e' a2 w2) : PostM GL N Q g w μ a O e' a2 w2 := by
  obtain ⟨e, he, h2⟩ := h
  exact ⟨e, he, h2.trans hO hc hμ hd⟩
theorem Inv.addO {g : Gh} {w : World} {μ : List Nat} {t : Nat → D} {u : Nat → Value} {h : List Row} {O : Nat → Prop} (hi : Inv g w μ t u h O) {b0 : Nat} (hb0 : b0 < w.heap.size) (hm : b0 ∉ μ) (hp : ∀ p, blk t u h w μ p ≠ some b0) :
    Inv g w μ t u h (fun b => O b ∨ b = b0) where
  agree := hi.agree
  olt := fun b h => by rcases h with h | rfl; exact hi.olt b h; exact hb0
  rep := hi.rep
  len := hi.len
  rows := hi.rows
  nod := hi.nod
  mo := fun b hb ho => by rcases ho with ho | ho; exact hi.mo b hb ho; exact hm (ho ▸ hb)
  uniq := hi.uniq
  sep := fun p b h => ⟨(hi.sep p b h).1, fun ho => by rcases ho with ho | ho; exact (hi.sep p b h).2 ho; exact hp p (ho ▸ h)⟩
theorem Inv.subO {g : Gh} {w : World} {μ : List Nat} {t : Nat → D} {u : Nat → Value} {h : List Row} {O O' : Nat → Prop} (hi : Inv g w μ t u h O) (hs : ∀ b, O' b → O b) : Inv g w μ t u h O' where
  agree := hi.agree
  olt := fun b h => hi.olt b (hs b h)
  rep := hi.rep
  len := hi.len
  rows := hi.rows
  nod := hi.nod
  mo := fun b hb ho => hi.mo b hb (hs b ho)
  uniq := hi.uniq
  sep := fun p b h => ⟨(hi.sep p b h).1, fun ho => (hi.sep p b h).2 (hs b ho)⟩
theorem putObj_chg {w : World} {b : Nat} {o : Obj} (g : Gh) : Chg (fun x => x = b) g w g (w.putObj b o) :=
  ⟨Gh.le.refl g, by simp, fun b' _ hne => World.putObj_heap_other hne, fun _ _ _ _ => rfl, rfl, rfl⟩
theorem putObj_agree {w : World} {b : Nat} {o : Obj} {g : Gh} (hg : ∀ o, g.m b o = none) (hag : ∀ b o v, g.m b o = some v → w.cell? ⟨b, o, none⟩ = some v) :
    ∀ b' o' v, g.m b' o' = some v → (w.putObj b o).cell? ⟨b', o', none⟩ = some v := by
  intro b' o' v hv
  by_cases hbb : b' = b
  · subst hbb; rw [hg] at hv; cases hv
  · rw [World.cell?_of_block (a := ⟨b', o', none⟩) (World.putObj_heap_other hbb)]; exact hag b' o' v hv
theorem range_sound {g0 : Operand} {ps0 : Array Tmp} {asg0 body0 : Code} {q : Opd} {ps : List Nat} {asg body : AC} (hk : chkC P GL N (.rangeFunc g0 ps0 asg0 body0) (.rangeF q ps asg body) = true)
    {Q : AExit → St → Prop} {g : Gh} {w : World} {μ : List Nat} {s : St} {a : Act} {O : Nat → Prop} (hg : Gs GL N g w μ s a O) (h : awp P GL (.rangeF q ps asg body) Q s) :
    (Code.rangeFunc g0 ps0 asg0 body0).wpIn (WF none) 0 P (PostM GL N Q g w μ a O) a w := by
  simp only [chkC, Bool.and_eq_true, beq_iff_eq] at hk
  obtain ⟨⟨⟨⟨⟨⟨k1, k2⟩, k3⟩, k4⟩, k5⟩, k6⟩, k7⟩ := hk
  obtain ⟨fid, caps, rets, h', tag, hf, ⟨hok, hsp⟩, hrow, hend⟩ := h
  refine wpIn_rangeFunc fun fn _ => ?_
  obtain ⟨cvs, hcv, hcr, hct⟩ := fnOf_rep ((hg.gd P).ev k1) hf
  have hsz1 : (w.alloc (.deferred (some []))).heap.size = w.heap.size + 1 := by simp
  have hsz2 : ∀ lp, ((w.alloc (.deferred (some []))).alloc (.loop lp)).heap.size = w.heap.size + 2 := fun lp => by simp
  have i1 : Inv g (w.alloc (.deferred (some []))) μ (find s.e) (fun n => a.tmps.getD n undef) s.h O := hg.inv.chg (chg_alloc _ g w _) (agree_alloc hg.inv.agree _)
  have hμlt : ∀ b, b ∈ μ → b < w.heap.size := fun b hb => hg.inv.mem_lt hb
  have i2 : Inv g (w.alloc (.deferred (some []))) μ (find s.e) (fun n => a.tmps.getD n undef) s.h (fun b => O b ∨ b = w.heap.size) := by
    refine i1.addO (by omega) (fun hm => by have := hμlt _ hm; omega) fun p hp => ?_
    have hp' : blk (find s.e) (fun n => a.tmps.getD n undef) s.h w μ p = some w.heap.size := by
      cases p with
      | tmp n k => exact hp
      | cell r k =>
        simp only [blk] at hp ⊢
        have e2 : cellU (w.alloc (.deferred (some []))) μ r k = cellU w μ r k := by
          simp only [cellU]
          cases hm : μ[r]? with
          | none => rfl
          | some b' =>
            simp only [Option.bind_some]
            rw [World.cell?_alloc_lt w _ ⟨b', k, none⟩ (hμlt b' (List.mem_of_getElem? hm))]
        rw [e2] at hp; exact hp
    have := hg.inv.blk_lt hp'
    omega
  let lp : Loop := { state := .ready, pending := none, fn, tmps := a.tmps, params := ps0, assign := asg0, body := body0, defers := w.heap.size }
  have hpre : μ <+: μ ++ [(w.alloc (.deferred (some []))).heap.size] := List.prefix_append _ _
  have hloop : LoopP P GL .ready (cpE s.e) ps asg body g (μ ++ [(w.alloc (.deferred (some []))).heap.size]) (.loop lp) := by
    refine ⟨lp, N, rfl, by rw [← k2], hg.sz, fun n w' => ⟨?_, fun k => ?_⟩, k6, k7, k4, k5, fun p hp => by simpa using List.all_eq_true.1 k3 p hp, rfl, rfl⟩
    · rw [find_cpE]
      refine copy_anyW (w := w) ?_
      exact (hg.inv.rep n).copy.chg (M := fun _ => True) (Chg.refl _ _ _) hpre fun k b hb => by rw [copy_tame] at hb; cases hb
    · rw [find_cpE]; exact copy_tame _ _ _
  have i3 := i2.newAny (recRow P GL .ready (cpE s.e) ps asg body) (.loop lp) ⟨.loop lp, heap_alloc_new _ _, hloop, fun o => Gh.lt_of i2.agree (Nat.le_refl _) o⟩ (fun k ds d h => by cases h)
  have i4 := i3.call
  have hμr : (μ ++ [(w.alloc (.deferred (some []))).heap.size])[s.h.length]? = some (w.heap.size + 1) := by rw [← hg.inv.len, hsz1]; simp
  have hcr' : All2 (RepG g ((w.alloc (.deferred (some []))).alloc (.loop lp)) (μ ++ [(w.alloc (.deferred (some []))).heap.size])) caps cvs := by
    refine ⟨hcr.1, fun i x v hx hv => ?_⟩
    have hch : Chg (fun _ => False) g w g ((w.alloc (.deferred (some []))).alloc (.loop lp)) := (chg_alloc _ g w _).trans (chg_alloc _ g _ _)
    exact (hcr.2 i x v hx hv).chg hch hpre fun b hb => by rw [hct i x v hx hv] at hb; cases hb
  have hcall := hsp g _ _ (.func (.yield (w.heap.size + 1)) #[] #[] :: cvs) _ i4 hg.glob (.cons ⟨w.heap.size + 1, hμr, rfl⟩ hcr') (fun i d v hd hv => by
    cases i with
    | zero => simp at hd hv; subst hd; rfl
    | succ i => exact hct i d v (by simpa using hd) (by simpa using hv))
  have hinvoke : (invoke (.fn (.func fid) cvs.toArray) #[.func (.yield (w.heap.size + 1)) #[] #[]]).run P ((w.alloc (.deferred (some []))).alloc (.loop lp)) =
      .ok (.enter fid (Value.func (.yield (w.heap.size + 1)) #[] #[] :: cvs).toArray) ((w.alloc (.deferred (some []))).alloc (.loop lp)) := by
    unfold okF at hok
    split at hok
    · rename_i fn hfn
      simp only [Bool.and_eq_true, Bool.not_eq_true'] at hok
      have h1 : ¬ fn.body = none := by cases hb : fn.body <;> simp_all
      have h3 : ¬ fn.name = "runtime.NumGoroutine" := by simpa using hok.2
      have h2 : (#[Value.func (.yield (w.heap.size + 1)) #[] #[]] ++ cvs.toArray) = (Value.func (.yield (w.heap.size + 1)) #[] #[] :: cvs).toArray := by
        rw [← Array.toList_inj]; simp
      simp [invoke, callFunc, hfn, h3, h1, h2]
    · cases hok
  have hres : (resolve a.eval (rangeCall g0 (w.heap.size + 1)) 0).run P ((w.alloc (.deferred (some []))).alloc (.loop lp)) =
      .ok { target := .fn (.func fid) cvs.toArray, args := #[.func (.yield (w.heap.size + 1)) #[] #[]] } ((w.alloc (.deferred (some []))).alloc (.loop lp)) := by
    have hcv' : a.eval g0 = .func (.func fid) #[] cvs.toArray := hcv
    have he : ∀ v, a.eval (.const v) = v := fun _ => rfl
    simp [resolve, rangeCall, hcv', Deferred.ofValue, he]
  refine ⟨w.heap.size + 1, [mark w.heap.size], (w.alloc (.deferred (some []))).alloc (.loop lp), _, _, fid, _, _, run_enterLoop_outer .., hres, fun _ _ => trivial, hinvoke, (fun h => by simp [WF, Fence.wide] at h), callsIn_wf ?_⟩
  refine hcall.mono ?_
  rintro e w3 ⟨v, g', μ', rfl, hinvR, hch, hμ⟩
  have hinv := hinvR.leave
  have hb3 : μ'[s.h.length]? = some (w.heap.size + 1) := pre_get hμ hμr
  obtain ⟨o, ho, ⟨lp', N', rfl, l1, l2, l3, l4, l5, l6, l7, l8, htag⟩, hgn⟩ := hinv.rows s.h.length _ _ hrow hb3
  have hbusy : tag ≠ .busy := by rintro rfl; exact hend
  have hstate : lp'.state ≠ .busy := by
    cases tag with
    | ready => intro h; rw [htag.1] at h; cases h
    | busy => exact absurd rfl hbusy
    | done e => cases e <;> exact htag.1
  have i5 := i3.ret hinv hch hμ
  have i6 := i5.setAny hrow hb3 .dead (putObj_chg g') (putObj_agree (o := .loop { lp' with state := .exhausted }) hgn i5.agree) (show _ < _ by rw [World.putObj_size]; exact lt_of_heap ho) (fun k ds d h => by cases h)
  have hgs : Gs GL N g' (w3.putObj (w.heap.size + 1) (.loop { lp' with state := .exhausted })) μ' ⟨s.e, h'.set s.h.length .dead⟩ { a with defers := [mark w.heap.size] ++ a.defers } (fun b => O b ∨ b = w.heap.size) :=
    ⟨i6, hg.glob.mono hch.le, hg.sz⟩
  have hOlt : ∀ b, O b → b < w.heap.size := hg.inv.olt
  have hc1 : Chg (fun b => ¬ O b) g w g ((w.alloc (.deferred (some []))).alloc (.loop lp)) := (chg_alloc _ g w _).trans (chg_alloc _ g _ _)
  have hc2 : Chg (fun b => ¬ O b) g ((w.alloc (.deferred (some []))).alloc (.loop lp)) g' w3 := hch.mono fun b h hb => h (.inl (.inl hb))
  have hc3 : Chg (fun b => ¬ O b) g' w3 g' (w3.putObj (w.heap.size + 1) (.loop { lp' with state := .exhausted })) := (putObj_chg g').mono fun b h hb => by subst h; have := hOlt _ hb; omega
  have hmarks : Marks (fun b => O b ∨ b = w.heap.size) w (w3.putObj (w.heap.size + 1) (.loop { lp' with state := .exhausted })) a.defers ([mark w.heap.size] ++ a.defers) := by
    refine ⟨[w.heap.size], rfl, by simp, fun b hb => ?_⟩
    simp only [List.mem_singleton] at hb; subst hb
    refine ⟨.inr rfl, Nat.le_refl _, ?_⟩
    rw [World.putObj_heap_other (by omega), hch.heap w.heap.size (by rw [hsz2]; omega) (fun h => h (.inl (.inr rfl)))]
    have e1 : ((w.alloc (.deferred (some []))).alloc (.loop lp)).heap[w.heap.size]? = (w.alloc (.deferred (some []))).heap[w.heap.size]? :=
      (chg_alloc (fun _ => False) g (w.alloc (.deferred (some []))) (.loop lp)).heap w.heap.size (by omega) (fun h => h)
    rw [e1]; exact heap_alloc_new _ _
  have fin : ∀ e, Q e ⟨s.e, h'.set s.h.length .dead⟩ → AfterM GL N (Q e) g w μ a O { a with defers := [mark w.heap.size] ++ a.defers } (w3.putObj (w.heap.size + 1) (.loop { lp' with state := .exhausted })) := fun e he =>
    ⟨_, g', μ', _, he, hgs, fun b h => .inl h, hc1.trans (hc2.trans hc3), hpre.trans hμ, hmarks⟩
  refine ⟨lp'.pending, _, run_endLoop ho hstate, ?_⟩
  generalize w3.putObj (w.heap.size + 1) (.loop { lp' with state := .exhausted }) = w4 at fin ⊢
  cases tag with
  | ready => rw [htag.2]; exact ⟨.normal, trivial, fin _ hend⟩
  | busy => exact absurd rfl hbusy
  | done e =>
    cases e with
    | none => rw [htag.2]; exact wpIn_ret ⟨.ret, trivial, fin _ hend⟩
    | some i => rw [htag.2]; exact wpIn_exit ⟨.exit i, rfl, fin _ hend⟩
end
end Go.Va

namespace Go.Va
section
variable {P : Program} {GL : Globals} {N : Nat} {r : Option Nat}
theorem awp_sound : ∀ (ac : AC) {c : Code}, chkC P GL N c ac = true → (r = none ∨ ac.flat = true) → ∀ {Q : AExit → St → Prop} {g : Gh} {w : World} {μ : List Nat} {s : St} {a : Act} {O : Nat → Prop},
    Gs GL N g w μ s a O → awp P GL ac Q s → c.wpIn (WF r) 0 P (PostM GL N Q g w μ a O) a w
  | .skip, c, hk, hr, Q, g, w, μ, s, a, O, hg, h => by
    cases c <;> simp [chkC] at hk
    exact wpIn_skip ⟨.normal, trivial, s, g, μ, O, h, hg, fun _ h => h, Chg.refl _ _ _, List.prefix_refl _, .nil rfl⟩
  | .reg is keep, c, hk, hr, Q, g, w, μ, s, a, O, hg, h => by
    cases c <;> (try simp only [chkC, Bool.false_eq_true] at hk)
    rename_i id ops dr
    cases dr with
    | true => simp [chkC] at hk
    | false =>
    simp only [chkC] at hk
    refine wpIn_region (awpOps_sound _ _ hk hg h fun a' w' h2 => ?_)
    obtain ⟨s', g', μ', hq, hgs, hch, hμ, hd⟩ := h2
    exact ⟨.normal, trivial, _, g', μ', O, hq, hgs.norm keep, fun _ h => h, hch, hμ, .nil hd⟩
  | .regD is keep clos, c, hk, hr, Q, g, w, μ, s, a, O, hg, h => by
    cases c <;> (try simp only [chkC, Bool.false_eq_true] at hk)
    rename_i id ops dr
    cases dr with
    | false => simp [chkC] at hk
    | true =>
    simp only [chkC, Bool.and_eq_true] at hk
    refine wpIn_region_any hk.2 (regD_sound hk.1.1 hk.1.2 (K := fun s' => Q .normal ⟨normE s'.e keep, s'.h⟩) ?_ hg.drawn h fun a' w' h2 => ?_)
    · intro s1 s2 he h
      rw [← normE_congr he.1, ← he.2]; exact h
    · obtain ⟨s', g', μ', hq, hgs, hch, hμ, hd⟩ := h2
      exact ⟨.normal, trivial, _, g', μ', O, hq, hgs.norm keep, fun _ h => h, (chg_drawn g w _ _).trans hch, hμ, .nil hd⟩
  | .regA is keep clos t, c, hk, hr, Q, g, w, μ, s, a, O, hg, h => by
    cases c <;> (try simp only [chkC, Bool.false_eq_true] at hk)
    rename_i id ops dr
    cases dr with
    | false => simp [chkC] at hk
    | true =>
    simp only [chkC, Bool.and_eq_true] at hk
    refine wpIn_region_any hk.2 (regA_sound hk.1.1.1.1 hk.1.1.1.2 hk.1.1.2 hk.1.2 (K := fun s' => ∃ s2, RenS s.h.length s' s2 ∧ Q .normal ⟨normE s2.e keep, s2.h⟩) ?_ hg.drawn h fun a' w' h2 => ?_)
    · rintro s1 s2 he ⟨s3, hr, hq⟩
      rcases hr with rfl | ⟨π, hp, ho, hf, hh⟩
      · exact ⟨s2, .inl rfl, by rw [← normE_congr he.1, ← he.2]; exact hq⟩
      · exact ⟨s3, .inr ⟨π, by rw [← he.2]; exact hp, by rw [← he.2]; exact ho, fun n => by rw [← he.1]; exact hf n, by rw [← he.2]; exact hh⟩, hq⟩
    · obtain ⟨s', g', μ', ⟨s2, hr, hq⟩, hgs, hch, hμ, hd⟩ := h2
      obtain ⟨μ2, hgs2, hpre⟩ := hgs.ren hr
      exact ⟨.normal, trivial, _, g', μ2, O, hq, hgs2.norm keep, fun _ h => h, (chg_drawn g w _ _).trans hch, hpre μ (by rw [hg.inv.len]; exact Nat.le_refl _) hμ, .nil hd⟩
  | .seq x y, c, hk, hr, Q, g, w, μ, s, a, O, hg, h => by
    cases c <;> simp only [chkC, Bool.false_eq_true, Bool.and_eq_true] at hk
    have hr1 : r = none ∨ x.flat = true := hr.imp_right fun h => by simp only [AC.flat, Bool.and_eq_true] at h; exact h.1
    have hr2 : r = none ∨ y.flat = true := hr.imp_right fun h => by simp only [AC.flat, Bool.and_eq_true] at h; exact h.2
    refine wpIn_seq (wpIn_mono (awp_sound x hk.1 hr1 hg h) ?_)
    rintro e a' w' ⟨e1, he, s', g', μ', O', hq, hgs, hO, hch, hμ, hd⟩
    cases e1 with
    | normal =>
      cases e <;> simp only [ExOK] at he
      exact wpIn_mono (awp_sound y hk.2 hr2 hgs hq) fun e2 a2 w2 h2 => h2.trans hO hch hμ hd
    | exit i =>
      cases e <;> simp only [ExOK] at he
      subst he
      exact ⟨.exit i, rfl, s', g', μ', O', hq, hgs, hO, hch, hμ, hd⟩
    | ret =>
      cases e <;> simp only [ExOK] at he
      exact ⟨.ret, trivial, s', g', μ', O', hq, hgs, hO, hch, hμ, hd⟩
  | .cond x y z, c, hk, hr, Q, g, w, μ, s, a, O, hg, h => by
    cases c <;> simp only [chkC, Bool.false_eq_true, Bool.and_eq_true] at hk
    simp only [awp] at h
    have hr1 : r = none ∨ y.flat = true := hr.imp_right fun h => by simp only [AC.flat, Bool.and_eq_true] at h; exact h.1
    have hr2 : r = none ∨ z.flat = true := hr.imp_right fun h => by simp only [AC.flat, Bool.and_eq_true] at h; exact h.2
    have hrx := (hg.gd P).ev hk.1.1
    split at h
    · rename_i t ht
      rw [ht] at hrx
      refine wpIn_cond (rep_bool hrx) ?_
      cases t with
      | true => exact awp_sound y hk.1.2 hr1 hg h
      | false => exact awp_sound z hk.2 hr2 hg h
    · exact h.elim
  | .block id x, c, hk, hr, Q, g, w, μ, s, a, O, hg, h => by
    cases c <;> simp only [chkC, Bool.false_eq_true, Bool.and_eq_true, beq_iff_eq] at hk
    obtain ⟨rfl, hk⟩ := hk
    refine wpIn_block (wpIn_mono (awp_sound x hk hr hg h) ?_)
    rintro e a' w' ⟨e1, he, s', g', μ', O', hq, hgs, hO, hch, hμ, hd⟩
    cases e1 with
    | normal =>
      cases e <;> simp only [ExOK] at he
      exact ⟨.normal, trivial, s', g', μ', O', hq, hgs, hO, hch, hμ, hd⟩
    | exit i =>
      cases e <;> simp only [ExOK] at he
      subst he
      simp only [Exit.inBlock]
      split
      · rename_i hi
        simp only [hi, if_true] at hq
        exact ⟨.normal, trivial, s', g', μ', O', hq, hgs, hO, hch, hμ, hd⟩
      · rename_i hi
        simp only [hi, if_false] at hq
        exact ⟨.exit i, rfl, s', g', μ', O', hq, hgs, hO, hch, hμ, hd⟩
    | ret =>
      cases e <;> simp only [ExOK] at he
      exact ⟨.ret, trivial, s', g', μ', O', hq, hgs, hO, hch, hμ, hd⟩
  | .loop x, c, hk, hr, Q, g, w, μ, s, a, O, hg, h => by
    cases c <;> simp only [chkC, Bool.false_eq_true] at hk
    obtain ⟨I, ⟨m, hm⟩, hround⟩ := h
    refine wpIn_loop_rel (fun m a' w' => ∃ s' g' μ' O', I m s' ∧ Gs GL N g' w' μ' s' a' O' ∧ (∀ b, O b → O' b) ∧ Chg (fun b => ¬ O b) g w g' w' ∧ μ <+: μ' ∧ Marks O' w w' a.defers a'.defers) ?_ m a w ⟨s, g, μ, O, hm, hg, fun _ h => h, Chg.refl _ _ _, List.prefix_refl _, .nil rfl⟩
    rintro m a1 w1 ⟨s1, g1, μ1, O1, hI, hgs1, hO1, hch1, hμ1, hd1⟩
    refine wpIn_mono (awp_sound x hk hr hgs1 (hround m s1 hI)) ?_
    rintro e a' w' ⟨e1, he, s', g', μ', O', hq, hgs, hO, hch, hμ, hd⟩
    cases e1 with
    | normal =>
      cases e <;> simp only [ExOK] at he
      obtain ⟨m', hlt, hI'⟩ := hq
      exact ⟨m', hlt, s', g', μ', O', hI', hgs, fun b hb => hO b (hO1 b hb), hch1.trans (hch.mono fun b h hb => h (hO1 b hb)), hμ1.trans hμ, hd1.trans hch1.size hO hch hd⟩
    | exit i =>
      cases e <;> simp only [ExOK] at he
      subst he
      exact ⟨.exit i, rfl, s', g', μ', O', hq, hgs, fun b hb => hO b (hO1 b hb), hch1.trans (hch.mono fun b h hb => h (hO1 b hb)), hμ1.trans hμ, hd1.trans hch1.size hO hch hd⟩
    | ret =>
      cases e <;> simp only [ExOK] at he
      exact ⟨.ret, trivial, s', g', μ', O', hq, hgs, fun b hb => hO b (hO1 b hb), hch1.trans (hch.mono fun b h hb => h (hO1 b hb)), hμ1.trans hμ, hd1.trans hch1.size hO hch hd⟩
  | .exit id, c, hk, hr, Q, g, w, μ, s, a, O, hg, h => by
    cases c <;> simp [chkC] at hk
    subst hk
    exact wpIn_exit ⟨.exit _, rfl, s, g, μ, O, h, hg, fun _ h => h, Chg.refl _ _ _, List.prefix_refl _, .nil rfl⟩
  | .ret, c, hk, hr, Q, g, w, μ, s, a, O, hg, h => by
    cases c <;> simp [chkC] at hk
    exact wpIn_ret ⟨.ret, trivial, s, g, μ, O, h, hg, fun _ h => h, Chg.refl _ _ _, List.prefix_refl _, .nil rfl⟩
  | .never, c, hk, hr, Q, g, w, μ, s, a, O, hg, h => h.elim
  | .rangeF q ps asg body, c, hk, hr, Q, g, w, μ, s, a, O, hg, h => by
    have hrn : r = none := by
      rcases hr with h | h
      · exact h
      · simp [AC.flat] at h
    subst hrn
    cases c <;> (try (simp only [chkC, Bool.false_eq_true] at hk; done))
    exact range_sound hk hg h
def setPs (e : Env) (ps : List Nat) (args : List D) : Env := (ps.zip args).foldl (fun e p => p :: e) e
def roundEnd (P : Program) (GL : Globals) (e0 : Env) (ps : List Nat) (asg body : AC) (rr : Nat) : AExit → List Row → Bool → List Row → Prop
  | .normal, h, b, h' => b = true ∧ h' = h.set rr (recRow P GL .ready e0 ps asg body)
  | .ret, h, b, h' => b = false ∧ h' = h.set rr (recRow P GL (.done none) e0 ps asg body)
  | .exit i, h, b, h' => b = false ∧ h' = h.set rr (recRow P GL (.done (some i)) e0 ps asg body)
abbrev GoodE (g : Gh) (w : World) (μ : List Nat) (e : Env) (ts : Array Value) : Prop := ∀ n, RepD g w μ (find e n) (ts.getD n undef) ∧ ∀ k, ownAt (find e n) (ts.getD n undef) k = none
theorem setPs_good {g : Gh} {w : World} {μ : List Nat} {N : Nat} : ∀ {ps : List Nat} {args : List D} {us : List Value} {e : Env} {ts : Array Value}, args.length = ps.length → (∀ p ∈ ps, p < N) → All2 (RepG g w μ) args us → Tame args us → ts.size = N →
    GoodE g w μ e ts → GoodE g w μ (setPs e ps args) ((ps.zip us).foldl (fun t p => t.setIfInBounds p.1 p.2) ts) ∧ ((ps.zip us).foldl (fun t p => t.setIfInBounds p.1 p.2) ts).size = N
  | [], args, us, e, ts, _, _, _, _, hs, hg => by simpa [setPs] using ⟨hg, hs⟩
  | p :: ps, [], us, e, ts, hl, _, _, _, _, _ => by simp at hl
  | p :: ps, a :: args, [], e, ts, _, _, ha, _, _, _ => by have := ha.1; simp at this
  | p :: ps, a :: args, u :: us, e, ts, hl, hp, ha, ht, hs, hg => by
    rw [All2.cons_iff] at ha
    have := setPs_good (ps := ps) (args := args) (us := us) (e := (p, a) :: e) (ts := ts.setIfInBounds p u) (by simpa using hl) (fun q hq => hp q (by simp [hq])) ha.2
      (fun i d v hd hv => ht (i + 1) d v (by simpa using hd) (by simpa using hv)) (by simpa using hs) (fun n => by
        simp only [find]
        by_cases h : p = n
        · subst h
          have hlt : p < ts.size := hs ▸ hp p (by simp)
          have e1 : (ts.setIfInBounds p u).getD p undef = u := by simp [Array.getD_eq_getD_getElem?, hlt]
          rw [if_pos rfl, e1]
          exact ⟨ha.1.toD, ownAt_of1 ha.1 (ht 0 a u rfl rfl)⟩
        · have e1 : (ts.setIfInBounds p u).getD n undef = ts.getD n undef := by simp [Array.getD_eq_getD_getElem?, Array.getElem?_setIfInBounds, h]
          rw [if_neg h, e1]; exact hg n)
    exact this
theorem ysp_of_awp {rr : Nat} {e0 : Env} {ps : List Nat} {asg body : AC} {args : List D} {h h' : List Row} {b : Bool} (hrow : h[rr]? = some (recRow P GL .ready e0 ps asg body)) (hl : args.length = ps.length)
    (hw : awp P GL asg (fun e s => e = .normal ∧ s.h[rr]? = some (recRow P GL .ready e0 ps asg body) ∧
      awp P GL body (fun e s' => s'.h[rr]? = some (recRow P GL .busy e0 ps asg body) ∧ roundEnd P GL e0 ps asg body rr e s'.h b h') ⟨s.e, s.h.set rr (recRow P GL .busy e0 ps asg body)⟩) ⟨setPs e0 ps args, h⟩) :
    YSp P GL rr args h b h' := by
  intro g w μ us O hinv hgl hall htame bl hbl
  obtain ⟨o, ho, ⟨lp, N, rfl, l1, l2, l3, l4, l5, l6, l7, l8, htag⟩, hgn⟩ := hinv.rows rr _ bl hrow hbl
  have hlen : us.length = args.length := hall.1
  have hsz : us.toArray.size = lp.params.size := by rw [l1]; simp [hlen, hl]
  refine ⟨_, _, _, _, run_yield ho hsz, ?_⟩
  obtain ⟨hgood, hsz2⟩ := setPs_good hl l8 hall htame l2 fun n => l3 n w
  have e1 : (lp.params.zip us.toArray).foldl (fun tmps x => match x with | (t, a) => tmps.setIfInBounds t a) lp.tmps = (ps.zip us).foldl (fun t p => t.setIfInBounds p.1 p.2) lp.tmps := by
    rw [l1, ← Array.foldl_toList]; simp
  refine roundIn_of_wpIn trivial ?_
  rw [e1]
  generalize (ps.zip us).foldl (fun t p => t.setIfInBounds p.1 p.2) lp.tmps = ts at hgood hsz2
  have hgs : Gs GL N g w μ ⟨setPs e0 ps args, h⟩ { tmps := ts, defers := [] } O := ⟨hinv.enter (fun n => (hgood n).1) (fun n => (hgood n).2), hgl, hsz2⟩
  refine wpIn_mono (awp_sound (r := some bl) asg l4 (.inr l6) hgs hw) ?_
  rintro e a1 w1 ⟨ee, he, s1, g1, μ1, O1, ⟨rfl, hrow1, hw1⟩, hgs1, hO1, hch1, hμ1, _⟩
  cases e <;> simp only [ExOK] at he
  have hbl1 : μ1[rr]? = some bl := pre_get hμ1 hbl
  obtain ⟨o1, ho1, ⟨lp1, N1, rfl, j1, j2, j3, j4, j5, j6, j7, j8, htag1⟩, hgn1⟩ := hgs1.inv.rows rr _ bl hrow1 hbl1
  refine ⟨_, run_beginRound ho1 htag1.1, ?_⟩
  have i2 := hgs1.inv.setAny hrow1 hbl1 (recRow P GL .busy e0 ps asg body) (putObj_chg g1) (putObj_agree (o := .loop { lp1 with state := .busy }) hgn1 hgs1.inv.agree)
    ⟨_, World.putObj_heap_same (lt_of_heap ho1), ⟨_, N1, rfl, j1, j2, j3, j4, j5, j6, j7, j8, rfl⟩, hgn1⟩ (fun k ds d h => by cases h)
  have hgs2 : Gs GL N g1 (w1.putObj bl (.loop { lp1 with state := .busy })) μ1 ⟨s1.e, s1.h.set rr (recRow P GL .busy e0 ps asg body)⟩ a1 O1 := ⟨i2, hgs1.glob, hgs1.sz⟩
  refine wpIn_mono (awp_sound (r := some bl) body l5 (.inr l7) hgs2 hw1) ?_
  rintro e a3 w3 ⟨ee, he, s3, g3, μ3, O3, ⟨hrow3, hend⟩, hgs3, hO3, hch3, hμ3, _⟩
  have hbl3 : μ3[rr]? = some bl := pre_get hμ3 hbl1
  obtain ⟨o3, ho3, ⟨lp3, N3, rfl, m1, m2, m3, m4, m5, m6, m7, m8, htag3⟩, hgn3⟩ := hgs3.inv.rows rr _ bl hrow3 hbl3
  have hnO : ¬ O bl := hinv.mo bl (List.mem_of_getElem? hbl)
  have fin : ∀ (jump : Option Code) (tag : Tag), TagOK tag { lp3 with state := if jump.isNone then .ready else .done, pending := jump } → b = jump.isNone → h' = s3.h.set rr (recRow P GL tag e0 ps asg body) →
      ∃ v w', (Instr.endRound bl jump).run P w3 = .ok v w' ∧ ∃ g' μ', Ending.returned v = .returned (.bool b) ∧ Inv g' w' μ' anyT anyU h' O ∧ Chg (fun b => ¬ O b) g w g' w' ∧ μ <+: μ' := by
    intro jump tag htg hb hh
    have i4 := hgs3.inv.setAny hrow3 hbl3 (recRow P GL tag e0 ps asg body) (putObj_chg g3) (putObj_agree (o := .loop { lp3 with state := if jump.isNone then .ready else .done, pending := jump }) hgn3 hgs3.inv.agree)
      ⟨_, World.putObj_heap_same (lt_of_heap ho3), ⟨_, N3, rfl, m1, m2, m3, m4, m5, m6, m7, m8, htg⟩, hgn3⟩ (fun k ds d h => by cases h)
    refine ⟨_, _, run_endRound jump ho3, g3, μ3, by rw [hb], ?_, ?_, hμ1.trans (hμ3)⟩
    · rw [hh]
      exact (i4.leave).subO fun b hb => hO3 b (hO1 b hb)
    · have hm : ∀ x, x = bl → ¬ O x := fun x h hb => hnO (h ▸ hb)
      exact hch1.trans (Chg.trans ((putObj_chg g1).mono hm) (Chg.trans (hch3.mono fun b h hb => h (hO1 b hb)) ((putObj_chg g3).mono hm)))
  cases ee with
  | normal =>
    cases e <;> simp only [ExOK] at he
    exact fin none .ready ⟨rfl, rfl⟩ hend.1 hend.2
  | exit i =>
    cases e <;> simp only [ExOK] at he
    subst he
    exact fin (some (.exit i)) (.done (some i)) ⟨by simp, rfl⟩ hend.1 hend.2
  | ret =>
    cases e <;> simp only [ExOK] at he
    exact fin (some .ret) (.done none) ⟨by simp, rfl⟩ hend.1 hend.2
end
end Go.Va

namespace Go.Va
inductive AR where
  | t (n : Nat)
  | c (n sz : Nat) (ag : Bool)
def AR.val (s : St) : AR → Option V
  | .t n => (find s.e n).toV
  | .c n sz ag => ((PI.load (.t n false) sz ag).val s.e s.h).bind D.toV
def resVs (s : St) : List AR → Option (List V)
  | [] => some []
  | r :: rs => match r.val s, resVs s rs with
    | some x, some xs => some (x :: xs)
    | _, _ => none
def entry (args : List V) : Env := args.zipIdx.map fun p => (p.2, .v p.1)
def D.one? : D → Option D
  | .tup _ => none
  | d => some d
def D.keep : D → D
  | .own e s xs => .own e s xs
  | d => d.arg
def AR.d (s : St) : AR → Option D
  | .t n => some (find s.e n).keep
  | .c n sz ag => ((PI.load (.t n false) sz ag).val s.e s.h).bind fun d => d.arg.one?
def resDs (s : St) : List AR → Option (List D)
  | [] => some []
  | r :: rs => match r.d s, resDs s rs with
    | some x, some xs => some (x :: xs)
    | _, _ => none
def entryD (args : List D) : Env := args.zipIdx.map fun p => (p.2, p.1)
def chkR (P : Program) : ResultVar → AR → Bool
  | .tmp t, .t n => t == n
  | .cell a T, .c n sz ag => a == n && sizeIs P T sz && aggIs P T ag && (ag || sz == 1)
  | _, _ => false
def arTmps : List AR → List Nat
  | [] => []
  | .t n :: rs => n :: arTmps rs
  | .c _ _ _ :: rs => arTmps rs
def chkF (P : Program) (GL : Globals) (f n : Nat) (ac : AC) (rs : List AR) : Bool :=
  match P.funcs[f]? with
  | some fn => !(fn.name == "runtime.NumGoroutine") && (match fn.body with | some c => chkC P GL fn.ntmps c ac | none => false) && zipOK (chkR P) fn.results.toList rs && decide (n ≤ fn.ntmps) && decide (arTmps rs).Nodup
  | none => false
def arRun (tmps : Array Value) : ResultVar → Sem Value
  | .tmp t => pure (tmps.getD t undef)
  | .cell a t => do loadVar t (← asAddr (tmps.getD a undef))
theorem results_eq (fn : Func) (tmps : Array Value) : results fn tmps = (do
    let vs ← fn.results.mapM (arRun tmps)
    pure (if h : vs.size = 1 then vs[0] else .tuple vs)) := by
  unfold results
  congr 1
section
variable {P : Program} {GL : Globals}
theorem find_entry_from : ∀ (args : List V) (k n : Nat), find ((args.zipIdx k).map fun p => (p.2, D.v p.1)) n = if k ≤ n then ((args[n - k]?).map D.v).getD .any else .any
  | [], k, n => by simp [find]
  | x :: xs, k, n => by
    simp only [List.zipIdx_cons, List.map_cons, find]
    by_cases h : k = n
    · subst h; simp
    · rw [if_neg h, find_entry_from xs (k + 1) n]
      by_cases h2 : k + 1 ≤ n
      · rw [if_pos h2, if_pos (by omega), show n - k = (n - (k + 1)) + 1 by omega, List.getElem?_cons_succ]
      · rw [if_neg h2, if_neg (by omega)]
theorem find_entry (args : List V) (n : Nat) : find (entry args) n = ((args[n]?).map D.v).getD .any := by
  have := find_entry_from args 0 n
  simpa [entry] using this
theorem ar_run {g : Gh} {w : World} {μ : List Nat} {s : St} {a : Act} {O : Nat → Prop} {N : Nat} (hg : Gs GL N g w μ s a O) {rv : ResultVar} {r : AR} (hk : chkR P rv r = true) {x : V} (hx : r.val s = some x) :
    ∃ v, (arRun a.tmps rv).run P w = .ok v w ∧ RepV g x v := by
  cases rv with
  | tmp t =>
    cases r with
    | t n =>
      have : t = n := by simpa [chkR] using hk
      subst this
      exact ⟨_, rfl, toV_rep (hg.inv.rep t) hx⟩
    | c n sz ag => simp [chkR] at hk
  | cell b t =>
    cases r with
    | t n => simp [chkR] at hk
    | c n sz ag =>
      simp only [chkR, Bool.and_eq_true, beq_iff_eq] at hk
      obtain ⟨⟨⟨rfl, hs⟩, hag⟩, h1⟩ := hk
      simp only [AR.val, Option.bind_eq_some_iff] at hx
      obtain ⟨d, hd, hdx⟩ := hx
      have := load_ok (P := P) (GL := GL) (a := .tmp b) (a' := .t b false) (t := t) (by simp [oe]) hs hag h1 (hg.gd P) hd
        { (default : Oper) with op := .load t (.tmp b) } rfl
      obtain ⟨v, hrun, hrep, _⟩ := this
      refine ⟨v, ?_, toV_rep hrep hdx⟩
      have hev : a.eval (.tmp b) = a.tmps.getD b undef := rfl
      simp only [execOp, Instr.loadAt, hev, Sem.run_bind, Sem.run_map] at hrun
      simp only [arRun, Sem.run_bind]
      cases hp : a.tmps.getD b undef with
      | pointer p =>
        cases p with
        | none => simp [hp, Instr.sureAddr] at hrun
        | some p =>
          simp only [hp, Instr.sureAddr, Sem.run_pure, Result.andThen_ok, asAddr] at hrun ⊢
          cases hl : (loadVar t p).run P w with
          | ok v' w' => simp [hl] at hrun; obtain ⟨rfl, rfl⟩ := hrun; rfl
          | halt h w' => simp [hl] at hrun
      | _ => simp [hp, Instr.sureAddr] at hrun
theorem results_run {g : Gh} {w : World} {μ : List Nat} {s : St} {a : Act} {O : Nat → Prop} {N : Nat} (hg : Gs GL N g w μ s a O) : ∀ {rvs : List ResultVar} {rs : List AR} {xs : List V}, zipOK (chkR P) rvs rs = true → resVs s rs = some xs →
    ∃ vs : List Value, (rvs.mapM (arRun a.tmps)).run P w = .ok vs w ∧ All2 (RepV g) xs vs
  | [], [], xs, _, h => by
    simp only [resVs, Option.some.injEq] at h; subst h
    exact ⟨[], rfl, .nil⟩
  | rv :: rvs, r :: rs, xs, hk, h => by
    simp only [zipOK, Bool.and_eq_true] at hk
    simp only [resVs] at h
    split at h
    · rename_i y ys hy hys
      simp only [Option.some.injEq] at h; subst h
      obtain ⟨v, h1, h2⟩ := ar_run hg hk.1 hy
      obtain ⟨vs, h3, h4⟩ := results_run hg hk.2 hys
      refine ⟨v :: vs, ?_, .cons h2 h4⟩
      rw [List.mapM_cons, Sem.run_bind, h1, Result.andThen_ok, Sem.run_bind, h3]; rfl
    · cases h
  | [], _ :: _, _, hk, _ => by simp [zipOK] at hk
  | _ :: _, [], _, hk, _ => by simp [zipOK] at hk
theorem retD_of {g : Gh} {w : World} {xs : List V} {vs : List Value} (h : All2 (RepV g) xs vs) : RepD g w [] (retD xs) (if h : vs.toArray.size = 1 then vs.toArray[0] else .tuple vs.toArray) := by
  unfold retD
  split
  · rename_i x
    have hl := h.1
    match vs, hl with
    | [v], _ =>
      simp only [List.size_toArray, List.length_cons, List.length_nil, dite_true]
      exact (All2.cons_iff.1 h).1
  · rename_i hne
    have hl : ¬ vs.toArray.size = 1 := by
      intro h1
      have : xs.length = 1 := by rw [← h.1]; simpa using h1
      match xs, this with
      | [x], _ => exact hne x rfl
    rw [dif_neg hl]
    exact ⟨vs, rfl, by simp [h.1], fun i x v hx hv => by
      simp only [List.getElem?_map, Option.map_eq_some_iff] at hx
      obtain ⟨y, hy, rfl⟩ := hx
      exact h.2 i y v hy hv⟩
theorem Inv.chgO {g : Gh} {w : World} {μ : List Nat} {t : Nat → D} {u : Nat → Value} {h : List Row} {O : Nat → Prop} (hi : Inv g w μ t u h O) {M : Nat → Prop} {g' : Gh} {w' : World} (hc : Chg M g w g' w') (hM : ∀ b, M b → O b)
    (hag : ∀ b o v, g'.m b o = some v → w'.cell? ⟨b, o, none⟩ = some v) : Inv g' w' μ t u h O := by
  have hcellU : ∀ r k, cellU w' μ r k = cellU w μ r k := by
    intro r k
    simp only [cellU]
    cases hm : μ[r]? with
    | none => rfl
    | some b =>
      have hbm := List.mem_of_getElem? hm
      simp only [Option.bind_some]
      rw [World.cell?_of_block (a := ⟨b, k, none⟩) (hc.heap b (hi.mem_lt hbm) (fun h => hi.mo b hbm (hM b h)))]
  refine hi.upd hc hag (fun n => chg_tmp hi hc (List.prefix_refl μ) n fun k b' hb' h => (hi.sep _ b' hb').2 (hM b' h)) hi.len
    (fun r row b hr hb => hi.rowChg hc (List.prefix_refl μ) hr hb (fun h => hi.mo b (List.mem_of_getElem? hb) (hM b h)) (fun p b' hp h => absurd (hM b' h) (hi.sep p b' hp).2)) hi.nod (fun b hb => .inl hb)
    (fun p => some p) (fun p q r hp hq => by simp at hp hq; rw [hp, hq]) (.tmp 0 0) ?_
  intro p b hp
  cases p with
  | tmp m j => exact .inl ⟨.tmp m j, rfl, hp⟩
  | cell r k => simp only [blk, hcellU] at hp; exact .inl ⟨.cell r k, rfl, hp⟩
theorem leaves_marks {F : Fence} {n : Nat} {fn : Func} {tmps : Array Value} {R : Ending → World → Prop} : ∀ (ms : List Nat) {w : World}, ms.Nodup → (∀ b ∈ ms, w.heap[b]? = some (.deferred (some []))) →
    (∀ w' : World, w'.heap.size = w.heap.size → w'.os = w.os → w'.output = w.output → (∀ b, b ∉ ms → w'.heap[b]? = w.heap[b]?) → ∃ v, (results fn tmps).run P w' = .ok v w' ∧ R (.returned v) w') → LeavesInM F n P fn tmps R (ms.map mark) .returning w
  | [], w, _, _, h => h w rfl rfl rfl fun _ _ => rfl
  | b :: ms, w, hn, hd, h => by
    rw [List.nodup_cons] at hn
    refine ⟨by simp, .inl ⟨b, _, rfl, run_takeDeferred (hd b (by simp)), ?_⟩⟩
    refine leaves_marks ms hn.2 (fun b' hb' => ?_) fun w' hs ho hu hw => h w' (hs.trans World.putObj_size) ho hu fun b' hb' => ?_
    · rw [World.putObj_heap_other (fun (h : b' = b) => hn.1 (h ▸ hb'))]; exact hd b' (by simp [hb'])
    · simp only [List.mem_cons, not_or] at hb'
      rw [hw b' hb'.2, World.putObj_heap_other hb'.1]
theorem body_end {F : Fence} {n : Nat} {fn : Func} {N : Nat} {g : Gh} {w : World} {μ : List Nat} {a : Act} {O : Nat → Prop} {Q : St → Prop} {R : Ending → World → Prop} {a' : Act} {w1 : World} (hd : a.defers = []) (hOlt : ∀ b, O b → b < w.heap.size)
    (h : AfterM GL N Q g w μ a O a' w1) (hR : ∀ s' g' μ' w', Q s' → Gs GL N g' w' μ' s' a' O → Chg (fun b => ¬ O b) g w g' w' → μ <+: μ' → ∃ v, (results fn a'.tmps).run P w' = .ok v w' ∧ R (.returned v) w') :
    LeavesInM F n P fn a'.tmps R a'.defers .returning w1 := by
  obtain ⟨s', g', μ', O', hq, hg, hO, hc, hμ, ms, hms, hnd, hp⟩ := h
  rw [hms, hd, List.append_nil]
  have hnone : ∀ b ∈ ms, ∀ o, g'.m b o = none := by
    intro b hb o
    cases hx : g'.m b o with
    | none => rfl
    | some v =>
      have := hg.inv.agree b o v hx
      simp [World.cell?, (hp b hb).2.2] at this
  have hnO : ∀ b ∈ ms, ¬ O b ∨ False := fun b hb => .inl fun ho => by
    have h1 := (hp b hb).2.1
    have h3 := hOlt b ho
    omega
  refine leaves_marks ms hnd (fun b hb => (hp b hb).2.2) fun w' hs ho hu hw => ?_
  have hc2 : Chg (fun b => b ∈ ms) g' w1 g' w' := ⟨Gh.le.refl _, by omega, fun b _ hb => hw b hb, fun _ _ _ _ => rfl, ho, hu⟩
  have hag : ∀ b o v, g'.m b o = some v → w'.cell? ⟨b, o, none⟩ = some v := by
    intro b o v hv
    by_cases hb : b ∈ ms
    · rw [hnone b hb] at hv; cases hv
    · rw [World.cell?_of_block (a := ⟨b, o, none⟩) (hw b hb)]; exact hg.inv.agree b o v hv
  have hinv := (hg.inv.chgO hc2 (fun b hb => (hp b hb).1) hag).subO hO
  exact hR s' g' μ' w' hq ⟨hinv, hg.glob, hg.sz⟩ (hc.trans (hc2.mono fun b hb ho => (hnO b hb).elim (fun h => h ho) id)) hμ
theorem psp_of_awp {f n : Nat} {ac : AC} {rs : List AR} {args rets : List V} (hk : chkF P GL f n ac rs = true) (hn : args.length = n)
    (h : awp P GL ac (fun e s => (match e with | .exit _ => False | _ => True) ∧ resVs s rs = some rets) ⟨entry args, []⟩) : PSp P GL f args rets := by
  unfold chkF at hk
  split at hk
  · rename_i fn hfn
    simp only [Bool.and_eq_true] at hk
    obtain ⟨⟨⟨⟨hnm, hbody⟩, hres⟩, hnn⟩, _⟩ := hk
    have hnt : args.length ≤ fn.ntmps := by rw [hn]; simpa using hnn
    split at hbody
    · rename_i c hc
      refine ⟨by simp [okF, hfn, hc, hnm], fun g w us hag hgl hall => (callsIn_wide (n := 0)).1 ?_⟩
      have hlen : us.length = args.length := hall.1
      refine callsIn_of_wp_marks hfn hc trivial ?_ rfl
      have hinv : Gs GL fn.ntmps g w [] ⟨entry args, []⟩ { tmps := us.toArray ++ Array.replicate (fn.ntmps - us.toArray.size) undef, defers := [] } (fun b => b < w.heap.size) := by
        refine ⟨⟨hag, fun b hb => hb, fun n => ?_, rfl, fun r row b hr => by simp at hr, fun r r' b hr => by simp at hr, fun b hb => by simp at hb, fun p q b hp => ?_, fun p b hp => ?_⟩, hgl, by simp; omega⟩
        · simp only [find_entry]
          cases hx : args[n]? with
          | none => simp [RepD, RepG, RepE]
          | some x =>
            obtain ⟨v, hv, hr⟩ := hall.get hx
            have hlt := (List.getElem?_eq_some_iff.1 hv).1
            have : (us.toArray ++ Array.replicate (fn.ntmps - us.toArray.size) undef).getD n undef = v := by
              simp [Array.getElem?_append, hlt]
              exact (List.getElem?_eq_some_iff.1 hv).2
            simp only [Option.map_some, Option.getD_some, this]
            exact hr
        · exfalso
          cases p with
          | tmp n k =>
            simp only [blk, find_entry] at hp
            cases hx : args[n]? <;> simp only [hx, Option.map_none, Option.map_some, Option.getD_none, Option.getD_some] at hp <;> cases k <;> simp [ownAt, own1] at hp
          | cell r k => simp [blk, cellD, own1] at hp
        · exfalso
          cases p with
          | tmp n k =>
            simp only [blk, find_entry] at hp
            cases hx : args[n]? <;> simp only [hx, Option.map_none, Option.map_some, Option.getD_none, Option.getD_some] at hp <;> cases k <;> simp [ownAt, own1] at hp
          | cell r k => simp [blk, cellD, own1] at hp
      refine wpIn_mono (awp_sound (r := none) ac hbody (.inl rfl) hinv h) ?_
      rintro e a' w1 ⟨e1, he, haft⟩
      have fin : (match e1 with | .exit _ => False | _ => True) → LeavesInM (WF none) 0 P fn a'.tmps (fun e w' => ∃ v g', e = .returned v ∧ RepD g' w' [] (retD rets) v ∧ Chg (fun _ => False) g w g' w' ∧ Agree g' w') a'.defers .returning w1 := by
        intro _
        refine body_end rfl (fun b hb => hb) haft ?_
        rintro s' g' μ' w' ⟨_, hrv⟩ hgs hch _
        obtain ⟨vs, hrun, hrep⟩ := results_run hgs hres hrv
        have hresult : (results fn a'.tmps).run P w' = .ok (if h : vs.toArray.size = 1 then vs.toArray[0] else .tuple vs.toArray) w' := by
          rw [results_eq, Array.mapM_eq_mapM_toList]
          simp only [Sem.run_bind, Sem.run_map]
          rw [hrun]
          rfl
        have hch' : Chg (fun _ => False) g w g' w' := ⟨hch.le, hch.size, fun b hb _ => hch.heap b hb (fun h => h hb), fun b hb _ => hch.gh b hb (fun h => h hb), hch.os, hch.out⟩
        exact ⟨_, hresult, _, g', rfl, retD_of hrep, hch', hgs.inv.agree⟩
      cases e1 with
      | normal => cases e <;> simp only [ExOK] at he; exact fin trivial
      | exit i => obtain ⟨_, _, _, _, ⟨hnx, _⟩, _⟩ := haft; exact hnx.elim
      | ret => cases e <;> simp only [ExOK] at he; exact fin trivial
    · cases hbody
  · cases hk
theorem find_entryD_from : ∀ (args : List D) (k n : Nat), find ((args.zipIdx k).map fun p => (p.2, p.1)) n = if k ≤ n then (args[n - k]?).getD .any else .any
  | [], k, n => by simp [find]
  | x :: xs, k, n => by
    simp only [List.zipIdx_cons, List.map_cons, find]
    by_cases h : k = n
    · subst h; simp
    · rw [if_neg h, find_entryD_from xs (k + 1) n]
      by_cases h2 : k + 1 ≤ n
      · rw [if_pos h2, if_pos (by omega), show n - k = (n - (k + 1)) + 1 by omega, List.getElem?_cons_succ]
      · rw [if_neg h2, if_neg (by omega)]
theorem find_entryD (args : List D) (n : Nat) : find (entryD args) n = (args[n]?).getD .any := by
  have := find_entryD_from args 0 n
  simpa [entryD] using this
theorem keep_rep {g : Gh} {w : World} {μ : List Nat} {d : D} {u : Value} (h : RepD g w μ d u) : RepG g w μ d.keep u := by
  have := h.arg
  cases d <;> first
    | exact h
    | exact this
theorem keep_own (d : D) (u : Value) (b : Nat) (h : own1 d.keep u = some b) : ownAt d u 0 = some b := by
  cases d <;> first
    | (simp only [D.keep] at h; rw [own1_arg] at h; cases h; done)
    | exact h
theorem arD_run {g : Gh} {w : World} {μ : List Nat} {s : St} {a : Act} {O : Nat → Prop} {N : Nat} (hg : Gs GL N g w μ s a O) {rv : ResultVar} {r : AR} (hk : chkR P rv r = true) {x : D} (hx : r.d s = some x) :
    ∃ v, (arRun a.tmps rv).run P w = .ok v w ∧ RepG g w μ x v ∧ ∀ b, own1 x v = some b → ∃ n, r = .t n ∧ ownAt (find s.e n) (a.tmps.getD n undef) 0 = some b := by
  cases rv with
  | tmp t =>
    cases r with
    | t n =>
      have : t = n := by simpa [chkR] using hk
      subst this
      simp only [AR.d, Option.some.injEq] at hx; subst hx
      exact ⟨_, rfl, keep_rep (hg.inv.rep t), fun b hb => ⟨t, rfl, keep_own _ _ _ hb⟩⟩
    | c n sz ag => simp [chkR] at hk
  | cell b t =>
    cases r with
    | t n => simp [chkR] at hk
    | c n sz ag =>
      simp only [chkR, Bool.and_eq_true, beq_iff_eq] at hk
      obtain ⟨⟨⟨rfl, hs⟩, hag⟩, h1⟩ := hk
      simp only [AR.d, Option.bind_eq_some_iff] at hx
      obtain ⟨d, hd, hdx⟩ := hx
      have hxe : d.arg = x := by
        cases hq : d.arg <;> rw [hq] at hdx <;> simp [D.one?] at hdx <;> exact hdx
      subst hxe
      have := load_ok (P := P) (GL := GL) (a := .tmp b) (a' := .t b false) (t := t) (by simp [oe]) hs hag h1 (hg.gd P) hd
        { (default : Oper) with op := .load t (.tmp b) } rfl
      obtain ⟨v, hrun, hrep, _⟩ := this
      refine ⟨v, ?_, hrep.arg, fun b' hb' => by rw [own1_arg] at hb'; cases hb'⟩
      have hev : a.eval (.tmp b) = a.tmps.getD b undef := rfl
      simp only [execOp, Instr.loadAt, hev, Sem.run_bind, Sem.run_map] at hrun
      simp only [arRun, Sem.run_bind]
      cases hp : a.tmps.getD b undef with
      | pointer p =>
        cases p with
        | none => simp [hp, Instr.sureAddr] at hrun
        | some p =>
          simp only [hp, Instr.sureAddr, Sem.run_pure, Result.andThen_ok, asAddr] at hrun ⊢
          cases hl : (loadVar t p).run P w with
          | ok v' w' => simp [hl] at hrun; obtain ⟨rfl, rfl⟩ := hrun; rfl
          | halt h w' => simp [hl] at hrun
      | _ => simp [hp, Instr.sureAddr] at hrun
theorem resultsD_run {g : Gh} {w : World} {μ : List Nat} {s : St} {a : Act} {O : Nat → Prop} {N : Nat} (hg : Gs GL N g w μ s a O) : ∀ {rvs : List ResultVar} {rs : List AR} {xs : List D}, zipOK (chkR P) rvs rs = true → resDs s rs = some xs →
    ∃ vs : List Value, (rvs.mapM (arRun a.tmps)).run P w = .ok vs w ∧ All2 (RepG g w μ) xs vs ∧ ∀ (k : Nat) d v b, xs[k]? = some d → vs[k]? = some v → own1 d v = some b → ∃ n, rs[k]? = some (.t n) ∧ ownAt (find s.e n) (a.tmps.getD n undef) 0 = some b
  | [], [], xs, _, h => by
    simp only [resDs, Option.some.injEq] at h; subst h
    exact ⟨[], rfl, .nil, fun i d v b h => by simp at h⟩
  | rv :: rvs, r :: rs, xs, hk, h => by
    simp only [zipOK, Bool.and_eq_true] at hk
    simp only [resDs] at h
    split at h
    · rename_i y ys hy hys
      simp only [Option.some.injEq] at h; subst h
      obtain ⟨v, h1, h2, h2'⟩ := arD_run hg hk.1 hy
      obtain ⟨vs, h3, h4, h4'⟩ := resultsD_run hg hk.2 hys
      refine ⟨v :: vs, ?_, .cons h2 h4, fun i d u b hd hu hb => ?_⟩
      · rw [List.mapM_cons, Sem.run_bind, h1, Result.andThen_ok, Sem.run_bind, h3]; rfl
      · cases i with
        | zero =>
          simp at hd hu; subst hd; subst hu
          obtain ⟨n, rfl, h⟩ := h2' b hb
          exact ⟨n, rfl, h⟩
        | succ i => exact h4' i d u b (by simpa using hd) (by simpa using hu) hb
    · cases h
  | [], _ :: _, _, hk, _ => by simp [zipOK] at hk
  | _ :: _, [], _, hk, _ => by simp [zipOK] at hk
theorem retDs_of {g : Gh} {w : World} {μ : List Nat} {xs : List D} {vs : List Value} (h : All2 (RepG g w μ) xs vs) :
    RepD g w μ (retDs xs) (if h : vs.toArray.size = 1 then vs.toArray[0] else .tuple vs.toArray) ∧
      ∀ k b, ownAt (retDs xs) (if h : vs.toArray.size = 1 then vs.toArray[0] else .tuple vs.toArray) k = some b → ∃ d v, xs[k]? = some d ∧ vs[k]? = some v ∧ own1 d v = some b := by
  unfold retDs
  split
  · rename_i x
    have hl := h.1
    match vs, hl with
    | [v], _ =>
      simp only [List.size_toArray, List.length_cons, List.length_nil, dite_true]
      have hx := (All2.cons_iff.1 h).1
      refine ⟨hx.toD, fun k b hb => ?_⟩
      have hnt : ∀ ds, x ≠ .tup ds := fun ds he => by subst he; exact hx.elim
      cases k with
      | zero =>
        refine ⟨x, v, rfl, rfl, ?_⟩
        cases x <;> first
          | exact hb
          | exact absurd rfl (hnt _)
      | succ k =>
        exfalso
        cases x <;> first
          | (simp [ownAt] at hb; done)
          | exact absurd rfl (hnt _)
  · rename_i hne
    have hl : ¬ vs.toArray.size = 1 := by
      intro h1
      have : xs.length = 1 := by rw [← h.1]; simpa using h1
      match xs, this with
      | [x], _ => exact hne x rfl
    rw [dif_neg hl]
    refine ⟨⟨vs, rfl, h⟩, fun k b hb => ?_⟩
    simp only [ownAt, List.toList_toArray] at hb
    cases hx : xs[k]? with
    | none => simp [hx, own1] at hb
    | some x =>
      obtain ⟨v, hv, _⟩ := h.get hx
      simp only [hx, hv, Option.getD_some] at hb
      exact ⟨x, v, rfl, hv, hb⟩
theorem arTmps_mem : ∀ {rs : List AR} {k n : Nat}, rs[k]? = some (.t n) → n ∈ arTmps rs
  | [], k, n, h => by simp at h
  | .t m :: rs, 0, n, h => by simp at h; simp [arTmps, h]
  | .t m :: rs, k + 1, n, h => by simp only [arTmps, List.mem_cons]; exact .inr (arTmps_mem (rs := rs) (k := k) (by simpa using h))
  | .c _ _ _ :: rs, 0, n, h => by simp at h
  | .c _ _ _ :: rs, k + 1, n, h => by simp only [arTmps]; exact arTmps_mem (rs := rs) (k := k) (by simpa using h)
theorem arTmps_inj : ∀ {rs : List AR}, (arTmps rs).Nodup → ∀ {k k' n : Nat}, rs[k]? = some (.t n) → rs[k']? = some (.t n) → k = k'
  | [], _, k, k', n, h, _ => by simp at h
  | .t m :: rs, hd, k, k', n, h, h' => by
    simp only [arTmps, List.nodup_cons] at hd
    cases k with
    | zero => cases k' with
      | zero => rfl
      | succ k' =>
        simp at h; subst h
        exact absurd (arTmps_mem (rs := rs) (k := k') (by simpa using h')) hd.1
    | succ k => cases k' with
      | zero =>
        simp at h'; subst h'
        exact absurd (arTmps_mem (rs := rs) (k := k) (by simpa using h)) hd.1
      | succ k' => rw [arTmps_inj hd.2 (k := k) (k' := k') (by simpa using h) (by simpa using h')]
  | .c _ _ _ :: rs, hd, k, k', n, h, h' => by
    simp only [arTmps] at hd
    cases k with
    | zero => simp at h
    | succ k => cases k' with
      | zero => simp at h'
      | succ k' => rw [arTmps_inj hd (k := k) (k' := k') (by simpa using h) (by simpa using h')]
theorem ret_inv {g : Gh} {w : World} {μ : List Nat} {t : Nat → D} {u : Nat → Value} {h : List Row} {O : Nat → Prop} (hi : Inv g w μ t u h O) {rs : List AR} (hnd : (arTmps rs).Nodup) {x : D} {v : Value} (hx : RepD g w μ x v)
    (ho : ∀ k b, ownAt x v k = some b → ∃ n, rs[k]? = some (.t n) ∧ ownAt (t n) (u n) 0 = some b) : Inv g w μ (at0 .any x) (at0 (.bool false) v) h O := by
  refine hi.upd (Chg.refl (fun _ => False) g w) hi.agree (fun n => ?_) hi.len hi.rows hi.nod (fun b hb => .inl hb)
    (fun p => match p with | .tmp 0 k => (match rs[k]? with | some (.t n) => some (.tmp n 0) | _ => none) | .tmp (_ + 1) _ => none | .cell r k => some (.cell r k)) ?_ (.tmp 0 0) ?_
  · simp only [at0]
    split
    · exact hx
    · trivial
  · intro p q z hp hq
    cases p with
    | tmp n k =>
      cases n with
      | succ n => cases hp
      | zero =>
        simp only at hp
        split at hp
        · rename_i n hn
          simp only [Option.some.injEq] at hp; subst hp
          cases q with
          | tmp n' k' =>
            cases n' with
            | succ n' => cases hq
            | zero =>
              simp only at hq
              split at hq
              · rename_i n' hn'
                simp only [Option.some.injEq, Pl.tmp.injEq, and_true] at hq; subst hq
                rw [arTmps_inj hnd hn hn']
              · cases hq
          | cell r k' => simp at hq
        · cases hp
    | cell r k =>
      simp only [Option.some.injEq] at hp; subst hp
      cases q with
      | tmp n' k' =>
        cases n' with
        | succ n' => cases hq
        | zero =>
          simp only at hq
          split at hq
          · simp at hq
          · cases hq
      | cell r' k' => simpa [eq_comm] using hq
  · intro p b hb
    refine .inl ?_
    cases p with
    | tmp n k =>
      cases n with
      | succ n => simp only [blk, at0] at hb; cases k <;> simp [ownAt, own1] at hb
      | zero =>
        have hb' : ownAt x v k = some b := by simpa [blk, at0] using hb
        obtain ⟨n, hn, hbn⟩ := ho k b hb'
        exact ⟨.tmp n 0, by simp only [hn], hbn⟩
    | cell r k => exact ⟨.cell r k, rfl, hb⟩
theorem calls_core {f n : Nat} {ac : AC} {rs : List AR} {args rets : List D} {h h' : List Row} (hk : chkF P GL f n ac rs = true) (hn : args.length = n)
    (hw : awp P GL ac (fun e s => (match e with | .exit _ => False | _ => True) ∧ ∃ y, resDs s rs = some y ∧ ∀ g w μ v O, Inv g w μ (at0 .any (retDs y)) (at0 (.bool false) v) s.h O →
      ∃ μ2, (∀ μ0 : List Nat, μ0.length = h.length → μ0 <+: μ → μ0 <+: μ2) ∧ Inv g w μ2 (at0 .any (retDs rets)) (at0 (.bool false) v) h' O) ⟨entryD args, h⟩) :
    okF P f = true ∧ ∀ (g : Gh) (w : World) (μ : List Nat) (us : List Value) (O : Nat → Prop), us.length = args.length → Inv g w μ (atL .any args) (atL undef us) h O → GlobOK GL g →
    Calls P f us.toArray w fun e w' => ∃ v g' μ', e = .returned v ∧ Inv g' w' μ' (at0 .any (retDs rets)) (at0 (.bool false) v) h' O ∧ Chg (fun b => ¬ O b) g w g' w' ∧ μ <+: μ' := by
  unfold chkF at hk
  split at hk
  · rename_i fn hfn
    simp only [Bool.and_eq_true] at hk
    obtain ⟨⟨⟨⟨hnm, hbody⟩, hres⟩, hnn⟩, hndp⟩ := hk
    have hndp : (arTmps rs).Nodup := by simpa using hndp
    have hnt : args.length ≤ fn.ntmps := by rw [hn]; simpa using hnn
    split at hbody
    · rename_i c hc
      refine ⟨by simp [okF, hfn, hc, hnm], fun g w μ us O hlen hinv0 hgl => (callsIn_wide (n := 0)).1 ?_⟩
      refine callsIn_of_wp_marks hfn hc trivial ?_ rfl
      have hu : (fun n => (us.toArray ++ Array.replicate (fn.ntmps - us.toArray.size) undef).getD n undef) = atL undef us := by
        funext n
        by_cases hlt : n < us.length
        · simp [atL, Array.getElem?_append, hlt]
        · have e2 : (us.toArray ++ Array.replicate (fn.ntmps - us.toArray.size) undef)[n]?.getD undef = undef := by
            rw [Array.getElem?_append_right (by simpa using hlt), Array.getElem?_replicate]
            split <;> rfl
          have e3 : atL undef us n = undef := by simp [atL, List.getElem?_eq_none (Nat.le_of_not_lt hlt)]
          rw [e3, Array.getD_eq_getD_getElem?]; exact e2
      have hinv : Gs GL fn.ntmps g w μ ⟨entryD args, h⟩ { tmps := us.toArray ++ Array.replicate (fn.ntmps - us.toArray.size) undef, defers := [] } O := by
        refine ⟨?_, hgl, by simp; omega⟩
        show Inv g w μ (find (entryD args)) (fun n => (us.toArray ++ Array.replicate (fn.ntmps - us.toArray.size) undef).getD n undef) h O
        rw [hu, show find (entryD args) = atL .any args from funext (find_entryD args)]
        exact hinv0
      refine wpIn_mono (awp_sound (r := none) ac hbody (.inl rfl) hinv hw) ?_
      rintro e a' w1 ⟨e1, he, haft⟩
      have fin : (match e1 with | .exit _ => False | _ => True) → LeavesInM (WF none) 0 P fn a'.tmps (fun e w' => ∃ v g' μ', e = .returned v ∧ Inv g' w' μ' (at0 .any (retDs rets)) (at0 (.bool false) v) h' O ∧ Chg (fun b => ¬ O b) g w g' w' ∧ μ <+: μ') a'.defers .returning w1 := by
        intro _
        refine body_end rfl hinv.inv.olt haft ?_
        rintro s' g' μ' w' ⟨_, y, hrv, hweak⟩ hgs hch hμ
        obtain ⟨vs, hrun, hrep, hown⟩ := resultsD_run hgs hres hrv
        have hresult : (results fn a'.tmps).run P w' = .ok (if h : vs.toArray.size = 1 then vs.toArray[0] else .tuple vs.toArray) w' := by
          rw [results_eq, Array.mapM_eq_mapM_toList]
          simp only [Sem.run_bind, Sem.run_map]
          rw [hrun]
          rfl
        obtain ⟨r1, r2⟩ := retDs_of hrep
        have hret := ret_inv hgs.inv hndp r1 (fun k b hb => by
          obtain ⟨d, v, hd, hv, ho⟩ := r2 k b hb
          exact hown k d v b hd hv ho)
        obtain ⟨μ2, hμ2, hinv2⟩ := hweak _ _ _ _ _ hret
        exact ⟨_, hresult, _, g', μ2, rfl, hinv2, hch, hμ2 μ hinv0.len hμ⟩
      cases e1 with
      | normal => cases e <;> simp only [ExOK] at he; exact fin trivial
      | exit i => obtain ⟨_, _, _, _, ⟨hnx, _⟩, _⟩ := haft; exact hnx.elim
      | ret => cases e <;> simp only [ExOK] at he; exact fin trivial
    · cases hbody
  · cases hk
end
end Go.Va

namespace Go.Va
attribute [simp] awpI awpCall AI.step AI.dst setO Opd.ev Opd.clear find D.copy PI.val V.bin D.isNil D.isNilP bndI D.cells? fillD capsOf D.isCap D.toRow toVs ownOf normE D.toV D.v? D.vs? resVs AR.val V.part D.part V.getI retD
section
variable {P : Program} {GL : Globals}
@[simp] theorem awpOps_nil (K : St → Prop) (s : St) : awpOps P GL [] K s = K s := rfl
@[simp] theorem awpOps_plain (i : AI) (rest : List GI) (K : St → Prop) (s : St) : awpOps P GL (⟨none, i⟩ :: rest) K s = awpI P GL i (awpOps P GL rest K) s := rfl
@[simp] theorem awpOps_guard (t : Nat) (want : Bool) (i : AI) (rest : List GI) (K : St → Prop) (s : St) : awpOps P GL (⟨some (t, want), i⟩ :: rest) K s =
    match find s.e t with
    | .v (.bool b) => if b = want then awpI P GL i (awpOps P GL rest K) s else awpOps P GL rest K ⟨setO s.e i.dst (.tup []), s.h⟩
    | .tup [] => awpOps P GL rest K ⟨setO s.e i.dst (.tup []), s.h⟩
    | _ => False := rfl
def awpJI (P : Program) (GL : Globals) (i : AI) (K : St → Prop) (s : St) : Prop :=
  match i with
  | .call d f args => ∃ fid caps vs rets, (f.ev s.e).toV = some (.func fid caps) ∧ toVs s.e args = some vs ∧ PSp P GL fid (vs ++ caps) rets ∧ K ⟨setO s.e d (retD rets), s.h⟩
  | .callF d f args => awpCall P GL d f args K s
  | .callC d f args => awpCall P GL d f args (fun s' => (∃ t, s'.h = s.h ++ t) ∧ K s') s
  | .callO d f q args => ∃ fid rets, fnOf (f.ev s.e) = some (fid, []) ∧ OSp P GL fid (q.ev s.e :: argsOf s.e args) rets ∧ K ⟨setO (q.clear s.e) d (retDs rets), s.h⟩
  | i => match i.step s with
    | some s' => K s'
    | none => False
def awpJ (P : Program) (GL : Globals) (ops : List GI) (K : St → Prop) (s : St) : Prop := ∃ s', runJ P GL ops s s' ∧ K s'
theorem callS_of {d : Option Nat} {f : Opd} {args : List Opd} {K : St → Prop} {s : St} (h : awpCall P GL d f args K s) : ∃ rets h', CallS P GL (f.ev s.e) (argsOf s.e args) s.h rets h' ∧ K ⟨setO s.e d (retDs rets), h'⟩ := by
  unfold awpCall at h
  split at h
  · rename_i r hf
    obtain ⟨b, h', hy, hK⟩ := h
    exact ⟨[.v (.bool b)], h', by simp only [CallS, hf]; exact ⟨b, hy, rfl⟩, hK⟩
  · rename_i fid fs hf
    obtain ⟨rets, h', hs, hK⟩ := h
    exact ⟨rets, h', by simp only [CallS, hf]; exact hs, hK⟩
  · rename_i h1 h2
    split at h
    · rename_i fid caps hf
      obtain ⟨rets, h', hs, hK⟩ := h
      refine ⟨rets, h', ?_, hK⟩
      unfold CallS
      split
      · rename_i r hr; exact absurd hr (h1 r)
      · rename_i a b hr; exact absurd hr (h2 a b)
      · exact ⟨fid, caps, hf, hs⟩
    · exact h.elim
theorem stepJ_iff {i : AI} {K : St → Prop} {s : St} : (∃ s1, stepJ P GL i s s1 ∧ K s1) ↔ awpJI P GL i K s := by
  constructor
  · rintro ⟨s1, h | ⟨d, f, args, fid, caps, vs, rets, rfl, hf, hv, hp, rfl⟩ | ⟨d, f, args, rets, h', hi, hc, rfl⟩ | ⟨d, f, q, args, fid, rets, rfl, hf, hp, rfl⟩, hK⟩
    · unfold awpJI
      split
      · cases h
      · cases h
      · cases h
      · cases h
      · rw [h]; exact hK
    · exact ⟨fid, caps, vs, rets, hf, hv, hp, hK⟩
    · have key : ∀ K : St → Prop, K ⟨setO s.e d (retDs rets), h'⟩ → awpCall P GL d f args K s := by
        intro K hK
        simp only [awpCall]
        unfold CallS at hc
        split at hc
        · rename_i r hf
          obtain ⟨b, hy, rfl⟩ := hc
          first | (rw [hf]; exact ⟨b, h', hy, hK⟩) | exact ⟨b, h', hy, hK⟩
        · rename_i fid fs hf
          first | (rw [hf]; exact ⟨rets, h', hc, hK⟩) | exact ⟨rets, h', hc, hK⟩
        · rename_i h1 h2
          obtain ⟨fid, caps, hf, hs⟩ := hc
          first
            | (simp only [hf]; exact ⟨rets, h', hs, hK⟩)
            | (split
               · rename_i r hr; exact absurd hr (h1 r)
               · rename_i a b hr; exact absurd hr (h2 a b)
               · simp only [hf]; exact ⟨rets, h', hs, hK⟩)
      rcases hi with rfl | ⟨rfl, ht⟩
      · exact key K hK
      · exact key (fun s' => (∃ t, s'.h = s.h ++ t) ∧ K s') ⟨ht, hK⟩
    · exact ⟨fid, rets, hf, hp, hK⟩
  · intro h
    unfold awpJI at h
    split at h
    · rename_i d f args
      obtain ⟨fid, caps, vs, rets, hf, hv, hp, hK⟩ := h
      exact ⟨_, .inr (.inl ⟨d, f, args, fid, caps, vs, rets, rfl, hf, hv, hp, rfl⟩), hK⟩
    · rename_i d f args
      obtain ⟨rets, h', hc, hK⟩ := callS_of h
      exact ⟨_, .inr (.inr (.inl ⟨d, f, args, rets, h', .inl rfl, hc, rfl⟩)), hK⟩
    · rename_i d f args
      obtain ⟨rets, h', hc, hq⟩ := callS_of (K := fun s' => (∃ t, s'.h = s.h ++ t) ∧ K s') h
      obtain ⟨ht, hK⟩ := hq
      exact ⟨_, .inr (.inr (.inl ⟨d, f, args, rets, h', .inr ⟨rfl, ht⟩, hc, rfl⟩)), hK⟩
    · rename_i d f q args
      obtain ⟨fid, rets, hf, hp, hK⟩ := h
      exact ⟨_, .inr (.inr (.inr ⟨d, f, q, args, fid, rets, rfl, hf, hp, rfl⟩)), hK⟩
    · split at h
      · rename_i s' hs; exact ⟨s', .inl hs, h⟩
      · exact h.elim
@[simp] theorem awpJ_nil (K : St → Prop) (s : St) : awpJ P GL [] K s ↔ K s := ⟨fun ⟨_, h, hK⟩ => by cases h; exact hK, fun h => ⟨s, rfl, h⟩⟩
@[simp] theorem awpJ_plain (i : AI) (rest : List GI) (K : St → Prop) (s : St) : awpJ P GL (⟨none, i⟩ :: rest) K s ↔ awpJI P GL i (awpJ P GL rest K) s := by
  rw [← stepJ_iff]
  constructor
  · rintro ⟨t, ⟨s1, h1, h2⟩, hK⟩; exact ⟨s1, h1, t, h2, hK⟩
  · rintro ⟨s1, h1, t, h2, hK⟩; exact ⟨t, ⟨s1, h1, h2⟩, hK⟩
@[simp] theorem awpJ_guard (t : Nat) (want : Bool) (i : AI) (rest : List GI) (K : St → Prop) (s : St) : awpJ P GL (⟨some (t, want), i⟩ :: rest) K s ↔
    match find s.e t with
    | .v (.bool b) => if b = want then awpJI P GL i (awpJ P GL rest K) s else awpJ P GL rest K ⟨setO s.e i.dst (.tup []), s.h⟩
    | .tup [] => awpJ P GL rest K ⟨setO s.e i.dst (.tup []), s.h⟩
    | _ => False := by
  have h0 : awpJ P GL (⟨some (t, want), i⟩ :: rest) K s ↔ ∃ s1, gstepJ P GL ⟨some (t, want), i⟩ s s1 ∧ awpJ P GL rest K s1 := by
    constructor
    · rintro ⟨t, ⟨s1, h1, h2⟩, hK⟩; exact ⟨s1, h1, t, h2, hK⟩
    · rintro ⟨s1, h1, t, h2, hK⟩; exact ⟨t, ⟨s1, h1, h2⟩, hK⟩
  rw [h0]
  simp only [gstepJ]
  cases hf : find s.e t with
  | v x =>
    cases x with
    | bool b =>
      simp only []
      by_cases hw : b = want
      · simp only [hw, if_true]; exact stepJ_iff
      · simp only [hw, if_false]; exact ⟨fun ⟨_, h1, h2⟩ => h1 ▸ h2, fun h => ⟨_, rfl, h⟩⟩
    | _ => simp only []; exact ⟨fun ⟨_, h1, _⟩ => h1, fun h => h.elim⟩
  | tup ds =>
    cases ds with
    | nil => simp only []; exact ⟨fun ⟨_, h1, h2⟩ => h1 ▸ h2, fun h => ⟨_, rfl, h⟩⟩
    | cons d ds => simp only []; exact ⟨fun ⟨_, h1, _⟩ => h1, fun h => h.elim⟩
  | _ => simp only []; exact ⟨fun ⟨_, h1, _⟩ => h1, fun h => h.elim⟩
attribute [simp] awpJI
theorem awp_regD (ops : List GI) (keep : List Nat) (cl : List (List Nat)) (Q : AExit → St → Prop) (s : St) : awp P GL (.regD ops keep cl) Q s = awpJ P GL ops (fun s' => Q .normal ⟨normE s'.e keep, s'.h⟩) s := rfl
theorem awp_regA (ops : List GI) (keep : List Nat) (cl : List (List Nat)) (t : AT) (Q : AExit → St → Prop) (s : St) : awp P GL (.regA ops keep cl t) Q s = t.ok P GL ops (fun s' => ∃ s2, RenS s.h.length s' s2 ∧ Q .normal ⟨normE s2.e keep, s2.h⟩) s := rfl
@[simp] theorem atok_done (is : List GI) (K : St → Prop) (s : St) : AT.done.ok P GL is K s = K s := rfl
@[simp] theorem atok_take (is : List GI) (i : Nat) (t : AT) (K : St → Prop) (s : St) : (AT.take i t).ok P GL is K s ↔ awpJ P GL [is.getD i default] (t.ok P GL is K) s :=
  ⟨fun ⟨s1, h1, h2⟩ => ⟨s1, ⟨s1, h1, rfl⟩, h2⟩, fun ⟨s1, ⟨s2, h1, h2⟩, h3⟩ => by cases h2; exact ⟨_, h1, h3⟩⟩
@[simp] theorem atok_pick (is : List GI) (c : AT) (K : St → Prop) (s : St) : (AT.pick c).ok P GL is K s = c.ok P GL is K s := rfl
@[simp] theorem atok_alt (is : List GI) (i : Nat) (t r : AT) (K : St → Prop) (s : St) : (AT.alt i t r).ok P GL is K s ↔ awpJ P GL [is.getD i default] (t.ok P GL is K) s ∧ r.ok P GL is K s :=
  ⟨fun ⟨⟨s1, h1, h2⟩, h⟩ => ⟨⟨s1, ⟨s1, h1, rfl⟩, h2⟩, h⟩, fun ⟨⟨s1, ⟨s2, h1, h2⟩, h3⟩, h⟩ => by cases h2; exact ⟨⟨_, h1, h3⟩, h⟩⟩
@[simp] theorem atok_none (is : List GI) (K : St → Prop) (s : St) : AT.none.ok P GL is K s = True := rfl
theorem atok_mono {is : List GI} (t : AT) : ∀ {K K' : St → Prop} {s : St}, (∀ s, K s → K' s) → t.ok P GL is K s → t.ok P GL is K' s := by
  induction t with
  | done => intro K K' s hk h; exact hk _ h
  | take i t ih => rintro K K' s hk ⟨s1, h1, h2⟩; exact ⟨s1, h1, ih hk h2⟩
  | pick c ih => intro K K' s hk h; exact ih (s := s) hk h
  | alt i t r iht ihr => rintro K K' s hk ⟨⟨s1, h1, h2⟩, h⟩; exact ⟨⟨s1, h1, iht hk h2⟩, ihr hk h⟩
  | none => intro K K' s hk h; trivial
theorem awp_reg (ops : List GI) (keep : List Nat) (Q : AExit → St → Prop) (s : St) : awp P GL (.reg ops keep) Q s = awpOps P GL ops (fun s' => Q .normal ⟨normE s'.e keep, s'.h⟩) s := rfl
theorem awp_seq (a b : AC) (Q : AExit → St → Prop) (s : St) : awp P GL (.seq a b) Q s = awp P GL a (fun e s' => match e with | .normal => awp P GL b Q s' | e => Q e s') s := rfl
theorem awp_cond (x : Opd) (a b : AC) (Q : AExit → St → Prop) (s : St) : awp P GL (.cond x a b) Q s = match x.ev s.e with | .v (.bool t) => if t then awp P GL a Q s else awp P GL b Q s | _ => False := rfl
theorem awp_block (id : Nat) (c : AC) (Q : AExit → St → Prop) (s : St) : awp P GL (.block id c) Q s = awp P GL c (fun e s' => match e with | .exit id' => if id' = id then Q .normal s' else Q (.exit id') s' | e => Q e s') s := rfl
theorem awp_skip (Q : AExit → St → Prop) (s : St) : awp P GL .skip Q s = Q .normal s := rfl
theorem awp_exit (id : Nat) (Q : AExit → St → Prop) (s : St) : awp P GL (.exit id) Q s = Q (.exit id) s := rfl
theorem awp_ret (Q : AExit → St → Prop) (s : St) : awp P GL .ret Q s = Q .ret s := rfl
theorem awp_rangeF (q : Opd) (ps : List Nat) (asg body : AC) (Q : AExit → St → Prop) (s : St) : awp P GL (.rangeF q ps asg body) Q s =
    ∃ fid caps rets h' tag, fnOf (q.ev s.e) = some (fid, caps) ∧ FSp P GL fid (.yld s.h.length :: caps) (s.h ++ [recRow P GL .ready (cpE s.e) ps asg body]) rets h' ∧
      h'[s.h.length]? = some (recRow P GL tag (cpE s.e) ps asg body) ∧ rangeEnd Q ⟨s.e, h'.set s.h.length .dead⟩ tag := rfl
theorem awpI_mono {i : AI} {K K' : St → Prop} {s : St} (hk : ∀ s, K s → K' s) (h : awpI P GL i K s) : awpI P GL i K' s := by
  have hcall : ∀ {d f args}, awpCall P GL d f args K s → awpCall P GL d f args K' s := by
    intro d f args h
    unfold awpCall at h ⊢
    split at h
    · obtain ⟨a, b, h1, h3⟩ := h; exact ⟨a, b, h1, hk _ h3⟩
    · obtain ⟨a, b, h1, h3⟩ := h; exact ⟨a, b, h1, hk _ h3⟩
    · split at h
      · obtain ⟨a, b, h1, h3⟩ := h; exact ⟨a, b, h1, hk _ h3⟩
      · exact h
  unfold awpI at h ⊢
  split at h
  · exact hcall h
  · exact hcall h
  · exact hcall h
  · obtain ⟨a, b, h1, h2, h3⟩ := h; exact ⟨a, b, h1, h2, hk _ h3⟩
  · split at h
    · refine ⟨h.1, h.2.1, ?_⟩
      have h := h.2.2
      split at h
      · rename_i hy; rw [if_pos hy]; exact hk _ h
      · rename_i hy; rw [if_neg hy]; exact fun k => hk _ (h k)
    · exact h
  · split at h
    · exact hk _ h
    · split at h
      · obtain ⟨h0, xs, h1, h2, h3, h4⟩ := h; exact ⟨h0, xs, h1, h2, h3, hk _ h4⟩
      · exact h
    · exact h
  · split at h
    · exact ⟨hk _ h.1, hk _ h.2⟩
    · exact ⟨hk _ h.1, hk _ h.2⟩
    · exact hk _ h
    · exact h
  · split at h
    · exact hk _ h
    · exact h
theorem awpG_mono {x : GI} {K K' : St → Prop} {s : St} (hk : ∀ s, K s → K' s) (h : awpG P GL x K s) : awpG P GL x K' s := by
  unfold awpG at h ⊢
  split at h
  · exact awpI_mono hk h
  · split at h
    · split at h
      · rename_i hw; rw [if_pos hw]; exact awpI_mono hk h
      · rename_i hw; rw [if_neg hw]; exact hk _ h
    · exact hk _ h
    · exact h
theorem awpOps_mono : ∀ {ops : List GI} {K K' : St → Prop} {s : St}, (∀ s, K s → K' s) → awpOps P GL ops K s → awpOps P GL ops K' s
  | [], _, _, _, hk, h => hk _ h
  | x :: rest, _, _, _, hk, h => awpG_mono (fun s h => awpOps_mono hk h) h
theorem awp_mono : ∀ (c : AC) {Q Q' : AExit → St → Prop} {s : St}, (∀ e s, Q e s → Q' e s) → awp P GL c Q s → awp P GL c Q' s := by
  intro c
  induction c with
  | skip => intro Q Q' s hq h; exact hq _ _ h
  | reg ops keep => intro Q Q' s hq h; exact awpOps_mono (fun s h => hq _ _ h) h
  | regA ops keep cl t => intro Q Q' s hq h; exact atok_mono t (fun s ⟨s2, h1, h2⟩ => ⟨s2, h1, hq _ _ h2⟩) h
  | regD ops keep cl => rintro Q Q' s hq ⟨t, h1, h2⟩; exact ⟨t, h1, hq _ _ h2⟩
  | seq a b iha ihb =>
    intro Q Q' s hq h
    refine iha ?_ h
    intro e s h
    cases e with
    | normal => exact ihb hq h
    | exit i => exact hq _ _ h
    | ret => exact hq _ _ h
  | cond x a b iha ihb =>
    intro Q Q' s hq h
    simp only [awp] at h ⊢
    split at h
    · rename_i t ht
      cases t with
      | true => exact iha hq h
      | false => exact ihb hq h
    · exact h
  | block id c ih =>
    intro Q Q' s hq h
    refine ih ?_ h
    intro e s h
    cases e with
    | exit i => simp only at h ⊢; split at h <;> rename_i hi <;> simp only [hi, if_true, if_false] <;> exact hq _ _ h
    | normal => exact hq _ _ h
    | ret => exact hq _ _ h
  | loop c ih =>
    intro Q Q' s hq h
    obtain ⟨I, h0, h⟩ := h
    refine ⟨I, h0, fun m s hi => ih ?_ (h m s hi)⟩
    intro e s h
    cases e with
    | normal => exact h
    | exit i => exact hq _ _ h
    | ret => exact hq _ _ h
  | exit id => intro Q Q' s hq h; exact hq _ _ h
  | ret => intro Q Q' s hq h; exact hq _ _ h
  | never => intro Q Q' s hq h; exact h
  | rangeF q ps asg body _ _ =>
    rintro Q Q' s hq ⟨fid, caps, rets, h', tag, h1, h2, h3, h4⟩
    refine ⟨fid, caps, rets, h', tag, h1, h2, h3, ?_⟩
    cases tag with
    | ready => exact hq _ _ h4
    | busy => exact h4
    | done e => cases e <;> exact hq _ _ h4
theorem fsp_tidy {f n : Nat} {ac : AC} {rs : List AR} {args rets : List D} {h h' : List Row} (hk : chkF P GL f n ac rs = true) (hn : args.length = n)
    (hw : awp P GL ac (fun e s => (match e with | .exit _ => False | _ => True) ∧ ∃ y, resDs s rs = some y ∧ ∀ g w μ t u O, Inv g w μ t u s.h O → y = rets ∧ Inv g w μ t u h' O) ⟨entryD args, h⟩) : FSp P GL f args h rets h' := by
  obtain ⟨h1, h2⟩ := calls_core (rets := rets) (h' := h') hk hn (awp_mono ac (fun e s => by
    rintro ⟨h1, y, h2, h3⟩
    exact ⟨h1, y, h2, fun g w μ v O hi => ⟨μ, fun _ _ h => h, by obtain ⟨rfl, h4⟩ := h3 _ _ _ _ _ _ hi; exact h4⟩⟩) hw)
  refine ⟨h1, fun g w μ us O hinv hgl hall htame => h2 g w μ us O hall.1 (hinv.enter (fun n => ?_) (fun n k => ?_)) hgl⟩
  · simp only [atL]
    cases hx : args[n]? with
    | none => simp [RepD, RepG, RepE]
    | some x =>
      obtain ⟨v, hv, hr⟩ := hall.get hx
      rw [hv]
      exact hr.toD
  · simp only [atL]
    cases hx : args[n]? with
    | none => cases k <;> simp [ownAt, own1]
    | some x =>
      obtain ⟨v, hv, hr⟩ := hall.get hx
      rw [hv]
      exact ownAt_of1 hr (htame n x v hx hv) k
theorem fsp_of_awp {f n : Nat} {ac : AC} {rs : List AR} {args rets : List D} {h h' : List Row} (hk : chkF P GL f n ac rs = true) (hn : args.length = n)
    (hw : awp P GL ac (fun e s => (match e with | .exit _ => False | _ => True) ∧ resDs s rs = some rets ∧ s.h = h') ⟨entryD args, h⟩) : FSp P GL f args h rets h' := by
  refine fsp_tidy hk hn ?_
  have hm : ∀ e s, ((match e with | AExit.exit _ => False | _ => True) ∧ resDs s rs = some rets ∧ s.h = h') → ((match e with | AExit.exit _ => False | _ => True) ∧ ∃ y, resDs s rs = some y ∧ ∀ g w μ t u O, Inv g w μ t u s.h O → y = rets ∧ Inv g w μ t u h' O) := by
    rintro e s ⟨h1, h2, rfl⟩
    exact ⟨h1, rets, h2, fun _ _ _ _ _ _ hi => ⟨rfl, hi⟩⟩
  exact awp_mono ac hm hw
theorem osp_of_awp {f n : Nat} {ac : AC} {rs : List AR} {args rets : List D} (hk : chkF P GL f n ac rs = true) (hn : args.length = n)
    (hw : ∀ h, awp P GL ac (fun e s => (match e with | .exit _ => False | _ => True) ∧ resDs s rs = some rets ∧ s.h = h) ⟨entryD args, h⟩) : OSp P GL f args rets := by
  have key : ∀ h, _ := fun h => calls_core (h' := h) hk hn (awp_mono ac (fun e s => by
    rintro ⟨h1, h2, rfl⟩
    exact ⟨h1, rets, h2, fun _ _ μ _ _ hi => ⟨μ, fun _ _ h => h, hi⟩⟩) (hw h))
  exact ⟨(key []).1, fun g w μ us O h hl hi hg => (key h).2 g w μ us O hl hi hg⟩
theorem awp_to {c : AC} {Q : AExit → St → Prop} {s s0 : St} {e0 : AExit} (h : awp P GL c (fun e s => e = e0 ∧ s = s0) s) (hq : Q e0 s0) : awp P GL c Q s :=
  awp_mono c (fun e s h => by obtain ⟨rfl, rfl⟩ := h; exact hq) h
theorem awp_loop_nat {c : AC} {Q : AExit → St → Prop} (n : Nat) (S : Nat → St)
    (h : ∀ k, k ≤ n → awp P GL c (fun e s' => match e with | .normal => k < n ∧ s' = S (k + 1) | e => Q e s') (S k)) (k : Nat) (hk : k ≤ n) : awp P GL (.loop c) Q (S k) := by
  refine ⟨fun m s => ∃ k, k ≤ n ∧ m = n - k ∧ s = S k, ⟨n - k, k, hk, rfl, rfl⟩, ?_⟩
  rintro m s ⟨k, hk, rfl, rfl⟩
  refine awp_mono c ?_ (h k hk)
  intro e s' h
  cases e with
  | normal => obtain ⟨hlt, rfl⟩ := h; exact ⟨n - (k + 1), by omega, k + 1, hlt, rfl, rfl⟩
  | exit i => exact h
  | ret => exact h
end
end Go.Va

namespace Go.Va
abbrev GLx : Globals := [(0, [.int .i64 12, .int .i64 0])]
abbrev xt (n : Nat) : Opd := .t n false
abbrev xu (n : Nat) : Opd := .t n true
abbrev xi (n : Int) : Opd := .c (.v (.int .i64 n))
abbrev xj (n : Int) : Opd := .c (.v (.int .u64 n))
abbrev xf (f : Nat) : Opd := .c (.v (.func f []))
abbrev xm (d n : Nat) : GI := ⟨none, .mv d (.t n false)⟩
abbrev xn (d n : Nat) : GI := ⟨none, .mv d (.t n true)⟩
abbrev xp (d : Nat) (i : PI) : GI := ⟨none, .p d i⟩
abbrev xo (a : AI) : GI := ⟨none, a⟩
abbrev xg (n : Nat) (b : Bool) (a : AI) : GI := ⟨some (n, b), a⟩
abbrev xc (d f : Nat) (l : List Opd) : GI := ⟨none, .call (some d) (.c (.v (.func f []))) l⟩
abbrev xb (d : Nat) (o : BinOp) (a b : Opd) : GI := ⟨none, .p d (.bin o a b)⟩
abbrev xl (d n k : Nat) : GI := ⟨none, .p d (.load (.t n false) k false)⟩
abbrev xe (d n i : Nat) : GI := ⟨none, .p d (.ext (.t n false) i)⟩
abbrev xa (d n k m : Nat) : GI := ⟨none, .p d (.faddr (.t n false) k m)⟩
attribute [simp] xt xu xi xj xf xm xn xp xo xg xc xb xl xe xa
end Go.Va

namespace Go.Va
def nums (k : IntKind) (xs : List Int) : V := .list (xs.map (.int k))
def le8 (bs : List Int) : Int := bs.foldr (fun b w => 256 * w + b) 0
def wordsI (bs : List Int) : List Int := (List.range ((bs.length + 7) / 8)).map fun k => le8 ((bs.drop (8 * k)).take 8)
theorem wrap_i64 {a : Int} (h1 : -9223372036854775808 ≤ a) (h2 : a < 9223372036854775808) : IntKind.i64.wrap a = a := by
  unfold IntKind.wrap
  simp only [IntKind.bits, IntKind.signed]
  have e1 : ((2 : Int) ^ 64) = 18446744073709551616 := by decide
  have e2 : ((2 : Int) ^ (64 - 1)) = 9223372036854775808 := by decide
  simp only [e1, e2, Bool.true_and, decide_eq_true_eq, ge_iff_le]
  split <;> omega
theorem wrap_u64 {a : Int} (h1 : 0 ≤ a) (h2 : a < 18446744073709551616) : IntKind.u64.wrap a = a := by
  unfold IntKind.wrap
  simp only [IntKind.bits, IntKind.signed]
  have e1 : ((2 : Int) ^ 64) = 18446744073709551616 := by decide
  simp only [e1, Bool.false_and, Bool.false_eq_true, if_false]
  omega
theorem ipow_le {a b : Nat} (h : a ≤ b) : (256 : Int) ^ a ≤ 256 ^ b := by
  have := Nat.pow_le_pow_right (n := 256) (by decide) h
  have h2 : ((256 ^ a : Nat) : Int) ≤ ((256 ^ b : Nat) : Int) := Int.ofNat_le.2 this
  rw [Int.natCast_pow, Int.natCast_pow] at h2
  exact h2
theorem le8_bound : ∀ (l : List Int), (∀ b ∈ l, 0 ≤ b ∧ b < 256) → 0 ≤ le8 l ∧ le8 l < 256 ^ l.length
  | [], _ => by simp [le8]
  | b :: l, h => by
    obtain ⟨h1, h2⟩ := le8_bound l fun x hx => h x (by simp [hx])
    obtain ⟨h3, h4⟩ := h b (by simp)
    have e : le8 (b :: l) = 256 * le8 l + b := rfl
    rw [e, List.length_cons, Int.pow_succ]
    omega
theorem le8_take (bs : List Int) (hb : ∀ b ∈ bs, 0 ≤ b ∧ b < 256) (a j : Nat) (hj : j ≤ 8) : 0 ≤ le8 ((bs.drop a).take j) ∧ le8 ((bs.drop a).take j) < 256 ^ j := by
  obtain ⟨h1, h2⟩ := le8_bound ((bs.drop a).take j) fun b h => hb b (List.mem_of_mem_drop (List.mem_of_mem_take h))
  refine ⟨h1, Int.lt_of_lt_of_le h2 ?_⟩
  exact ipow_le (by simp; omega)
theorem wrap_u64_range (a : Int) : 0 ≤ IntKind.u64.wrap a ∧ IntKind.u64.wrap a < 18446744073709551616 := by
  unfold IntKind.wrap
  simp only [IntKind.bits, IntKind.signed]
  have e1 : ((2 : Int) ^ 64) = 18446744073709551616 := by decide
  simp only [e1, Bool.false_and, Bool.false_eq_true, if_false]
  omega
def xorI (a b : Int) : Int := IntKind.u64.wrap ((a % 2 ^ IntKind.u64.bits).toNat ^^^ (b % 2 ^ IntKind.u64.bits).toNat : Nat)
def mixI (a b : Int) : Int := xorI (IntKind.u64.wrap (xorI a b * 11400714819323198485)) (IntKind.u64.wrap (xorI a b * 11400714819323198485) / 4294967296)
end Go.Va

namespace Go.Va
def i64 (n : Int) : Prop := -9223372036854775808 ≤ n ∧ n < 9223372036854775808
def u64 (n : Int) : Prop := 0 ≤ n ∧ n < 18446744073709551616
def uvarF : Nat → Int → List Int
  | 0, n => [n]
  | k + 1, n => if n < 128 then [n] else (128 + n % 128) :: uvarF k (n / 128)
def uvar (n : Int) : List Int := uvarF 9 n
def zigI (n : Int) : Int := if n < 0 then 2 * (-(n + 1)) + 1 else 2 * n
def encI (n : Int) : List Int := uvar (zigI n)
def encRaw (b : List Int) : List Int := uvar b.length ++ b
def encInts (l : List Int) : List Int := uvar l.length ++ l.flatMap encI
theorem zigI_u64 {n : Int} (h : i64 n) : u64 (zigI n) := by
  unfold zigI u64; unfold i64 at h; split <;> omega
theorem uvarF_len : ∀ (k : Nat) (n : Int), (uvarF k n).length ≤ k + 1
  | 0, n => by simp [uvarF]
  | k + 1, n => by
    simp only [uvarF]
    split
    · simp
    · have := uvarF_len k (n / 128); simp; omega
theorem uvar_len (n : Int) : (uvar n).length ≤ 10 := uvarF_len 9 n
theorem encI_len (n : Int) : (encI n).length ≤ 10 := uvar_len _
theorem flat_encI_len : ∀ l : List Int, (l.flatMap encI).length ≤ 10 * l.length
  | [] => by simp
  | x :: l => by
    have := encI_len x
    have := flat_encI_len l
    simp only [List.flatMap_cons, List.length_append, List.length_cons]; omega
def wr (xs : List Int) : Row := .cells [.own 5 1 (xs.map (.int .u8))]
theorem wrap_u8 {a : Int} (h1 : 0 ≤ a) (h2 : a < 256) : IntKind.u8.wrap a = a := by
  unfold IntKind.wrap
  simp only [IntKind.bits, IntKind.signed]
  have e1 : ((2 : Int) ^ 8) = 256 := by decide
  simp only [e1, Bool.false_and, Bool.false_eq_true, if_false]
  omega
theorem wrap_u8_mod (a : Int) : IntKind.u8.wrap a = a % 256 := by
  unfold IntKind.wrap
  simp only [IntKind.bits, IntKind.signed]
  have e1 : ((2 : Int) ^ 8) = 256 := by decide
  simp only [e1, Bool.false_and, Bool.false_eq_true, if_false]
theorem wrap_u64_mod (a : Int) : IntKind.u64.wrap a = a % 18446744073709551616 := by
  unfold IntKind.wrap
  simp only [IntKind.bits, IntKind.signed]
  have e1 : ((2 : Int) ^ 64) = 18446744073709551616 := by decide
  simp only [e1, Bool.false_and, Bool.false_eq_true, if_false]
theorem or128 (m : Nat) (h : m < 256) : m ||| 128 = 128 + m % 128 := by
  have key : ∀ m : Fin 256, m.val ||| 128 = 128 + m.val % 128 := by decide +kernel
  exact key ⟨m, h⟩
theorem xor_ones (m : Nat) (h : m < 2 ^ 64) : m ^^^ (2 ^ 64 - 1) = 2 ^ 64 - 1 - m := by
  rw [Nat.xor_comm]
  apply Nat.eq_of_testBit_eq
  intro i
  rw [Nat.testBit_xor, Nat.testBit_two_pow_sub_one]
  have : (2 ^ 64 - 1 - m) = 2 ^ 64 - (m + 1) := by omega
  rw [this, Nat.testBit_two_pow_sub_succ h]
  cases hb : m.testBit i <;> by_cases hi : i < 64 <;> simp [hi]
  rw [Nat.testBit_lt_two_pow (Nat.lt_of_lt_of_le h (Nat.pow_le_pow_right (by decide) (by omega)))] at hb
  cases hb
end Go.Va

