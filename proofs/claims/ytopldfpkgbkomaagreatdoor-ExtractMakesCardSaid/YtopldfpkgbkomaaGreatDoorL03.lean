/- Part 3 of the proof that ExtractMakes returns true for every input and leaves its arguments alone. Condition: the variable that the row lists holds what the text of the program lays. Texts joined here: VwGa. -/
import Derived.Shelf.SlIterI.Collect
import Derived.Test.YtopldfpkgbkomaaGreatDoorL02
set_option linter.all false
namespace Go.Va
open Go.Proofs Go.Shelf Go.Maps
def rnK : Ren := ⟨fun | 8 => 298 | 10 => 300 | 11 => 326 | n => n, fun | 0 => 0 | 4 => 4 | 23 => 138 | 24 => 22 | 26 => 3 | 28 => 352 | 33 => 248 | 3 => 62 | n => n, fun n => n⟩
theorem lay8 : SlLaysZI.n8 Tryz.prog rnK where
  mixed := by kernel_rfl
  f8 := ⟨Tryz.f298.name, by kernel_rfl, Tryz.func298.trans (congrArg some (by kernel_rfl))⟩
  f11 := ⟨Tryz.f326.name, by kernel_rfl, Tryz.func326.trans (congrArg some (by kernel_rfl))⟩
  t0 := Tryz.underlying0
  a0 := Tryz.isAgg0
  z0 := Tryz.sizeOf0
  v0 := Tryz.zeroValue0
  t24 := Tryz.underlying22
  a24 := Tryz.isAgg22
  z24 := Tryz.sizeOf22
  v24 := Tryz.zeroValue22
  t26 := Tryz.underlying3
  a26 := Tryz.isAgg3
  z26 := Tryz.sizeOf3
  v26 := Tryz.zeroValue3
  t28 := Tryz.underlying352
  a28 := Tryz.isAgg352
  z28 := Tryz.sizeOf352
  v28 := Tryz.zeroValue352
  i26 := by kernel_rfl
theorem lay10 : SlLaysZI.n10 Tryz.prog rnK where
  mixed := by kernel_rfl
  f10 := ⟨Tryz.f300.name, by kernel_rfl, Tryz.func300.trans (congrArg some (by kernel_rfl))⟩
  t0 := Tryz.underlying0
  a0 := Tryz.isAgg0
  z0 := Tryz.sizeOf0
  v0 := Tryz.zeroValue0
  t4 := Tryz.underlying4
  a4 := Tryz.isAgg4
  z4 := Tryz.sizeOf4
  v4 := Tryz.zeroValue4
  t23 := Tryz.underlying138
  a23 := Tryz.isAgg138
  z23 := Tryz.sizeOf138
  v23 := Tryz.zeroValue138
  t26 := Tryz.underlying3
  a26 := Tryz.isAgg3
  z26 := Tryz.sizeOf3
  v26 := Tryz.zeroValue3
  t33 := Tryz.underlying248
  a33 := Tryz.isAgg248
  z33 := Tryz.sizeOf248
  v33 := Tryz.zeroValue248
def RK : Value → Option (DataW Unit × List MemPlace) := fun _ => some (.nil, [])
theorem p298 {h : List Row} {r m : Nat} {es : List (V × V)} {st : List Nat} {ck : Nat} {ks : List Int}
    (hr : h[r]? = some (.cells [.mref m])) (hm : h[m]? = some (.map es st ck)) (he : es.map (·.1) = ks.map (.int .i64)) (h1 : ks.length ≤ 1) (hw : ∀ k ∈ ks, i64 k) :
    FSp Tryz.prog GLx 298 [.func 300 [.ref r 0]] h [.own 3 1 (ks.map (.int .i64))] h := by
  refine ⟨by kernel_rfl, fun g w μ us O hinv hgl hall htame => ?_⟩
  obtain ⟨hlen, hget⟩ := hall
  obtain ⟨u, rfl⟩ : ∃ u, us = [u] := by
    match us, hlen with
    | [u], _ => exact ⟨u, rfl⟩
  have hu : RepE g w μ (.func 300 [.ref r 0]) u := hget 0 _ u rfl rfl
  obtain ⟨vs, rfl, hvs⟩ := hu
  obtain ⟨c, rfl⟩ : ∃ c, vs = [c] := by
    match vs, hvs.1 with
    | [c], _ => exact ⟨c, rfl⟩
  have hc : RepC g μ (.ref r 0) c := hvs.2 0 _ c rfl rfl
  obtain ⟨br, hbr, rfl⟩ := hc
  obtain ⟨rs, T, hb, ha, h1c, hno⟩ := hinv.rows r _ br hr hbr
  obtain ⟨x, rfl⟩ : ∃ x, rs = [x] := by
    match rs, ha.1 with
    | [x], _ => exact ⟨x, rfl⟩
  have hx : RepE g w μ (.mref m) x := ha.2 0 _ x rfl rfl
  obtain ⟨bm, hbm, rfl⟩ := hx
  obtain ⟨ents, hmb, hst, hborn, hal, hno2⟩ := hinv.rows m _ bm hm hbm
  have hel : ents.toList.length = ks.length := by
    have e1 := congrArg List.length he
    simp only [List.length_map] at e1
    rw [hal.1, e1]
  have hkey : ∀ (i : Nat) (y : MapEntry), ents.toList[i]? = some y → ∃ k, ks[i]? = some k ∧ y.key = .int .i64 k := by
    intro i y hy
    have hi : i < ents.toList.length := (List.getElem?_eq_some_iff.1 hy).1
    obtain ⟨kv, hkv⟩ : ∃ kv, es[i]? = some kv := ⟨_, List.getElem?_eq_getElem (by rw [← hal.1]; exact hi)⟩
    have h2 := (hal.2 i kv y hkv hy).1
    have h3 : (es.map (·.1))[i]? = some kv.1 := by simp [hkv]
    rw [he] at h3
    simp only [List.getElem?_map, Option.map_eq_some_iff] at h3
    obtain ⟨k, hk, hk2⟩ := h3
    refine ⟨k, hk, ?_⟩
    rw [← hk2] at h2
    generalize y.key = yk at h2 ⊢
    cases h2; rfl
  have hkl : ∀ k ∈ ks, keyOf Tryz.prog 3 (.int .i64 k) = some (.int .i64 k) := by
    intro k hk
    have h2 := hw k hk
    simp only [i64] at h2
    have h3 : (Lit.int .i64 k).wf = true := by
      simp only [Lit.wf, Bool.and_eq_true, decide_eq_true_eq, IntKind.min, IntKind.max, IntKind.signed, IntKind.bits]
      simp; omega
    simp [keyOf, mapKey, Tryz.underlying3, h3]
  have hrd : ∀ (i : Nat) (y : MapEntry), ents.toList[i]? = some y → ∃ k, ks[i]? = some k ∧ Go.WideElems.rd Tryz.prog 3 RK y = some (.int .i64 k, .nil) := by
    intro i y hy
    obtain ⟨k, hk, hy2⟩ := hkey i y hy
    refine ⟨k, hk, ?_⟩
    simp [Go.WideElems.rd, hy2, hkl k (List.mem_of_getElem? hk), RK]
  have hown : w.ownsMap Tryz.prog 3 RK bm 1 (.map ((ents.toList.map (Go.WideElems.rg Tryz.prog 3 RK)).foldr DataW.insert [])) := by
    refine ⟨ents, ck, hmb, ⟨?_, hst, ?_⟩, ?_, rfl⟩
    · have : ents.size ≤ 1 := by rw [← Array.length_toList, hel]; exact h1
      exact Nat.le_trans this (by decide)
    · intro y hy
      obtain ⟨i, hi⟩ := List.mem_iff_getElem?.1 hy
      obtain ⟨k, _, hk⟩ := hrd i y hi
      exact ⟨_, hk⟩
    · rw [← Array.length_toList, hel]; exact h1
  have hik : intKeys (.map ((ents.toList.map (Go.WideElems.rg Tryz.prog 3 RK)).foldr DataW.insert []) : DataW Unit) = ks ∧ Maps.size (.map ((ents.toList.map (Go.WideElems.rg Tryz.prog 3 RK)).foldr DataW.insert []) : DataW Unit) = ks.length := by
    generalize ents.toList = el at hel hrd
    match ks, el, h1, hel with
    | [], [], _, _ => exact ⟨rfl, rfl⟩
    | [k], [y], _, _ =>
      obtain ⟨k', hk', hk⟩ := hrd 0 y rfl
      simp at hk'; subst hk'
      simp [Go.WideElems.rg, hk, intKeys, Maps.size, DataW.insert, intOf]
  have hlt : br < w.heap.size := lt_of_heap hb
  have hseq := AnyZI.keys_gives lay10 Fence.wide 2 trivial rfl (by omega) br bm 1 _ w hlt (by simp [World.cell?, hb]) hown
  have cS := AnyZI.collect_in lay8 Fence.wide 4 trivial trivial rfl (by omega) 300 #[.pointer (some ⟨br, 0, none⟩)] trivial (enters_of Tryz.func300 (by kernel_rfl) rfl) _ _ (by rw [hik.2]; exact Nat.le_trans h1 (by decide)) (by rw [hik.2]; omega) w hseq
  refine (callsIn_wide.1 cS).mono ?_
  rintro e w' ⟨v, ss, rfl, hS, hrow, hnil, hbel⟩
  rw [hik.1] at hS
  have hss : ss = ks := by
    match ks, h1 with
    | [], _ => exact List.perm_nil.1 hS
    | [k], _ => exact List.perm_singleton.1 hS
  subst hss
  rcases hrow with ⟨hl2, ⟨rfl, hz⟩ | ⟨gb, cap, cur, rfl, hbase, hgb, r1, r2, r3, r4⟩⟩
  · obtain rfl : ss = [] := List.eq_nil_of_length_eq_zero hz
    have hc : Chg (fun _ => False) g w g w' := ⟨Gh.le.refl g, hbel.size, fun b hb _ => hbel.block b hb, fun b hb _ o => rfl, hbel.os, hbel.output⟩
    have hag : ∀ b o v, g.m b o = some v → w'.cell? ⟨b, o, none⟩ = some v := by
      intro b o v hv
      have h2 := hinv.agree b o v hv
      have h3 : b < w.heap.size := by
        rcases Nat.lt_or_ge b w.heap.size with h' | h'
        · exact h'
        · simp [World.cell?, Array.getElem?_eq_none h'] at h2
      rw [World.cell?_of_block (a := ⟨b, o, none⟩) (hbel.block b h3)]; exact h2
    exact ⟨_, g, μ, rfl, hinv.newOwn (d := 0) hc hag (.inl ⟨none, rfl, rfl, by simp⟩) (by simp [own1]), hc.mono fun _ h => h.elim, List.prefix_refl _⟩
  · obtain ⟨k, rfl⟩ : ∃ k, ss = [k] := by
      match ss, h1 with
      | [k], _ => exact ⟨k, rfl⟩
      | [], _ => simp at hnil
    have hnone : ∀ b, w.heap.size ≤ b → ∀ o, g.m b o = none := by
      intro b hb2 o
      cases h4 : g.m b o with
      | none => rfl
      | some v =>
        have h2 := hinv.agree b o v h4
        simp [World.cell?, Array.getElem?_eq_none hb2] at h2
    let g' : Gh := ⟨fun b o => if b = gb then (if o = 0 then some (.int .i64 k) else none) else g.m b o⟩
    have hc : Chg (fun _ => False) g w g' w' := by
      refine ⟨fun b o v hv => ?_, hbel.size, fun b hb _ => hbel.block b hb, fun b hb _ o => ?_, hbel.os, hbel.output⟩
      · by_cases hbg : b = gb
        · subst hbg; rw [hnone b hbase] at hv; cases hv
        · simpa [g', hbg] using hv
      · have hbg : b ≠ gb := by omega
        simp [g', hbg]
    have hcur : cur[0]? = some (.int .i64 k) := by
      have h2 : (cur.toList.take 1)[0]? = some (.int .i64 k) := by
        simp only [List.length_singleton, Nat.mul_one] at r4
        rw [r4]; rfl
      rw [List.getElem?_take_of_lt (by omega)] at h2
      rw [← Array.getElem?_toList]; exact h2
    have hag : ∀ b o v, g'.m b o = some v → w'.cell? ⟨b, o, none⟩ = some v := by
      intro b o v hv
      by_cases hbg : b = gb
      · subst hbg
        simp only [g', if_true] at hv
        split at hv
        · rename_i ho; subst ho
          simp only [Option.some.injEq] at hv; subst hv
          simp [World.cell?, hgb, hcur]
        · cases hv
      · simp only [g', hbg, if_false] at hv
        have h2 := hinv.agree b o v hv
        have h3 : b < w.heap.size := by
          rcases Nat.lt_or_ge b w.heap.size with h' | h'
          · exact h'
          · simp [World.cell?, Array.getElem?_eq_none h'] at h2
        rw [World.cell?_of_block (a := ⟨b, o, none⟩) (hbel.block b h3)]; exact h2
    have hcap : 0 < cap := by
      have : 1 ≤ cap := by simpa using r1
      omega
    refine ⟨_, g', μ, rfl, hinv.newOwn (d := 0) hc hag (.inr ⟨gb, cap, cur, fun _ => .int .i64 k, rfl, hcap, hgb, by simpa using r1, by simpa using r3, ?_, ?_, ?_⟩) ?_, hc.mono fun _ h => h.elim, List.prefix_refl _⟩
    · intro i x hx
      match i with
      | 0 => simp at hx; subst hx; exact .int _ _
      | i + 1 => simp at hx
    · intro i hi
      obtain rfl : i = 0 := by simpa using hi
      refine ⟨rfl, fun j v hv => ?_⟩
      match j with
      | 0 => simp [Value.cells] at hv; subst hv; simp [g']
      | j + 1 => simp [Value.cells] at hv
    · intro o ho
      have : o ≠ 0 := by simp at ho; omega
      simp [g', this]
    · intro b hb2
      simp only [own1] at hb2
      split at hb2
      · cases hb2
      · simp only [Option.some.injEq] at hb2; rw [← hb2]; exact hbase
end Go.Va

