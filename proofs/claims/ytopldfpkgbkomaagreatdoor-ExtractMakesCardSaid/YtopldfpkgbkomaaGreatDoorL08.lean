/- Part 8 of the proof that ExtractMakes returns true for every input and leaves its arguments alone. Condition: the variable that the row lists holds what the text of the program lays. Texts joined here: VwGc Vj. -/
import Derived.Test.YtopldfpkgbkomaaGreatDoorCards
import Derived.Test.YtopldfpkgbkomaaGreatDoorTie
import Derived.OpenShut
import Derived.ProofKit
import Derived.ChangeSlices
import Derived.Deep.DeepHandedRow
import Derived.Lib.LaidTab
import Derived.Test.YtopldfpkgbkomaaGreatDoorL00
import Derived.Test.YtopldfpkgbkomaaGreatDoorL03
import Derived.Test.YtopldfpkgbkomaaGreatDoorL05
import Derived.Test.YtopldfpkgbkomaaGreatDoorL07
set_option linter.all false
namespace Go.Va
open Go.Proofs
theorem is64_i64 {k : Int} (h : is64 k = true) : i64 k := by simpa [is64, i64] using h
theorem Pr2_ok : ∀ f args h x, Pr2 f args h = some x → ∀ t, OKT t h → FSp Tryz.prog GLx f args (t.ins Tryz.prog GLx h) x.1 (t.ins Tryz.prog GLx h ++ x.2) := by
  intro f args h x hx t hk
  unfold Pr2 at hx
  split at hx
  · rename_i hf; subst hf
    split at hx
    · simp only [Option.some.injEq] at hx; subst hx
      have ht : t = [] := by
        cases t with
        | nil => rfl
        | cons y t => have := hk.dead y.1 (by simp [Lp.has]); simp at this
      subst ht
      exact p9
    · cases hx
  · split at hx
    · rename_i hf; subst hf
      split at hx
      · rename_i r
        split at hx
        · rename_i m hr
          have hr' := hk.get (P := Tryz.prog) (GL := GLx) hr (by simp)
          split at hx
          · rename_i st ck hm
            have hm' := hk.get (P := Tryz.prog) (GL := GLx) hm (by simp)
            simp only [Option.some.injEq] at hx; subst hx
            simpa using p298 (ks := []) hr' hm' rfl (by simp) (by simp)
          · rename_i k v st ck hm
            have hm' := hk.get (P := Tryz.prog) (GL := GLx) hm (by simp)
            split at hx
            · rename_i hk2
              simp only [Option.some.injEq] at hx; subst hx
              simpa using p298 (ks := [k]) hr' hm' rfl (by simp) (by simpa using is64_i64 hk2)
            · cases hx
          · cases hx
        · cases hx
      · cases hx
    · cases hx
theorem p20 : PSp Tryz.prog GLx 20 [] [.bool true] := psp_of_ev Tb_ok Pr2_ok e20
end Go.Va

namespace Go.Proofs.YtopldfpkgbkomaaGreatDoor.extractMakes
open Go.ChangeShapes Go.WideShapes Go.ChangeAt Go.RowKit Go.Va
theorem own : ownKnob Tryz.prog.godebug = none := by kernel_rfl
theorem gWhole : Tryz.prog.globalNamed "priorart/authmap.whole" = some 0 := by kernel_rfl
theorem gWholeType : (Tryz.prog.globals[0]?).map (·.type) = some 255 := by kernel_rfl
theorem cells3 : Tryz.prog.cellsOf 3 = 1 := by kernel_rfl
def gOf (W : World) : Gh := ⟨fun b o => W.cell? ⟨b, o, none⟩⟩
theorem agreeOf (W : World) : Agree (gOf W) W := fun _ _ _ h => h
theorem whole {W : World} (h : laidMetH Tryz.prog Rows.extractMakesRow.laid W) : W.cell? ⟨0, 0, none⟩ = some (.int .i64 12) ∧ W.cell? ⟨0, 1, none⟩ = some (.int .i64 0) := by
  obtain ⟨ps, ⟨g', t', cs, fuel, p, q, hg', ht', hvar, hd, _, _⟩, _⟩ := (h : laidMet Tryz.prog Rows.extractMakesRow.laid W)
  obtain rfl := Option.some.inj (gWhole.symm.trans hg')
  obtain rfl := Option.some.inj (gWholeType.symm.trans ht')
  obtain ⟨y0, y1, n, hx, hl, h0, h1⟩ := trod_struct2 Tryz.underlying255 hd
  obtain ⟨a0, c0, rfl, _⟩ := DataW.trod_int Tryz.underlying3 h0
  obtain ⟨a1, c1, rfl, _⟩ := DataW.trod_int Tryz.underlying3 h1
  simp only [Rows.laid_priorart_authmap_whole, Prod.mk.injEq, DataW.agg.injEq, List.cons.injEq, DataW.lit.injEq, Lit.int.injEq, true_and, and_true] at hx
  obtain ⟨⟨rfl, rfl⟩, _⟩ := hx
  rw [cells3] at c0 c1
  simp only [List.drop_zero] at c0
  have d0 : cs[0]? = some (.int .i64 12) := by
    have := congrArg (·[0]?) c0
    simpa [List.getElem?_take] using this
  have d1 : cs[1]? = some (.int .i64 0) := by
    have := congrArg (·[0]?) c1
    simpa [List.getElem?_take, List.getElem?_drop] using this
  exact ⟨by rw [World.var?_cell gWhole hvar 0]; exact d0, by rw [World.var?_cell gWhole hvar 1]; exact d1⟩
theorem globOf {W : World} (h : laidMetH Tryz.prog Rows.extractMakesRow.laid W) : GlobOK GLx (gOf W) := by
  intro p hp
  simp only [List.mem_singleton] at hp; subst hp
  obtain ⟨h0, h1⟩ := whole h
  intro i v hv
  match i with
  | 0 => simp at hv; subst hv; exact h0
  | 1 => simp at hv; subst hv; exact h1
  | i + 2 => simp at hv
theorem walk {W : World} (hg : GlobOK GLx (gOf W)) {v0 : Value} {l : List Int} (h0 : RepV (gOf W) (nums .i64 l) v0) (how by_ at_ : Int) (hb : i64 by_) (ha : i64 at_) :
    Calls Tryz.prog 3 #[v0, .int .i64 how, .int .i64 by_, .int .i64 at_] W fun e W' => e = .returned (.bool true) ∧ W.keptBut W' (fun _ => False) ∧ ∀ a : Addr, a.block < W.heap.size → W'.cell? a = W.cell? a := by
  refine ((p3 p9 p20 l how by_ at_ hb ha).2 (gOf W) W [v0, .int .i64 how, .int .i64 by_, .int .i64 at_] (agreeOf W) hg (.cons h0 (.cons (.int _ _) (.cons (.int _ _) (.cons (.int _ _) .nil))))).mono ?_
  rintro e W' ⟨v, g', rfl, hr, hc, _⟩
  have hv : v = .bool true := by
    have hr' : RepV g' (.bool true) v := hr
    cases hr'; rfl
  subst hv
  refine ⟨rfl, ⟨hc.os, hc.out, fun i hi => ?_⟩, fun a ha => World.cell?_of_block (hc.heap _ ha (fun h => h))⟩
  have := hc.heap i hi (fun h => h)
  rw [this]
  cases hx : W.heap[i]? with
  | none => rfl
  | some o => cases o <;> simp
theorem rep_ints {W : World} {a : Addr} {len cap : Nat} {zs : List Int} (hs : a.spot = none) (hl : len ≤ cap) (hz : zs.length = cap) (hc : ∀ i, i < zs.length → W.cell? (a.add i) = some (.int .i64 (zs.getD i 0))) :
    RepV (gOf W) (nums .i64 (zs.take len)) (.slice (some a) len cap) := by
  have e : (zs.take len).length = len := by simp; omega
  have h := RepV.list (g := gOf W) ((zs.take len).map (V.int .i64)) a cap 1 (fun i => .int .i64 (zs.getD i 0)) hs (by rw [List.length_map, e]; exact hl) ?_ ?_
  · have e2 : (List.map (V.int .i64) (zs.take len)).length = len := by rw [List.length_map, e]
    rw [e2] at h
    exact h
  · intro i x hx
    simp only [List.getElem?_map, Option.map_eq_some_iff] at hx
    obtain ⟨n, hn, rfl⟩ := hx
    rw [List.getElem?_take] at hn
    split at hn
    · have : zs.getD i 0 = n := by simp [List.getD, hn]
      rw [this]; exact .int _ _
    · cases hn
  · intro i hi
    refine ⟨rfl, fun j v hv => ?_⟩
    match j with
    | 0 =>
      simp [Value.cells] at hv; subst hv
      have hi' : i < zs.length := by rw [List.length_map, e] at hi; omega
      have := hc i hi'
      obtain ⟨b, o, sp⟩ := a
      simp only at hs; subst hs
      rw [add_plain] at this
      simpa [gOf] using this
    | j + 1 => simp [Value.cells] at hv
set_option maxRecDepth 100000 in
theorem open_nums {H : Type} {enc : TypeId × Value → H} {W : World} {b0 : Nat} {v : Value} {d : DataW H} {ps : List MemPlace} (hval : Value.okWide Tryz.prog W .any b0 22 v) (h : DataW.Trod enc Tryz.prog W 0 (fun _ => true) true 22 v d ps) :
    ∃ l : List Int, RepV (gOf W) (nums .i64 l) v ∧ ∀ W' : World, (∀ a : Addr, a.block < W.heap.size → W'.cell? a = W.cell? a) → ∀ sp : Nat → Bool, (∀ p ∈ ps, sp p.block = true) → DataW.Trod enc Tryz.prog W' 0 sp true 22 v d ps := by
  obtain ⟨fuel, hf⟩ := h
  simp only [Value.okWide, Cell.okWide, Tryz.underlying22] at hval
  rcases open_ints Tryz.underlying22 Tryz.underlying3 cells3 hf with ⟨hcs, hx⟩ | ⟨a, len, cap, zs, hcs, _, hl, hm, hz, hx, hcell, hwz⟩
  · cases v <;> simp [Value.cells] at hcs
    · obtain ⟨rfl, rfl, rfl⟩ := hcs
      simp only [Prod.mk.injEq] at hx
      obtain ⟨rfl, rfl⟩ := hx
      refine ⟨[], .lnil, fun W' _ sp _ => ⟨1, ?_⟩⟩
      simp [DataW.trod, Value.cells, Tryz.underlying22]
    · simp [Cell.ok, Tryz.underlying22] at hval
  · cases v <;> simp [Value.cells] at hcs
    · obtain ⟨rfl, rfl, rfl⟩ := hcs
      simp only [Prod.mk.injEq] at hx
      obtain ⟨rfl, rfl⟩ := hx
      simp only [if_true] at hz
      simp only [Cell.ok, Tryz.underlying22, World.has] at hval
      have hs := hval.2.2.2.1
      refine ⟨zs.take _, rep_ints hs hl hz hcell, fun W' hW sp hsp => ⟨2, ?_⟩⟩
      simp only [Value.cells]
      refine shut_ints 0 Tryz.underlying22 Tryz.underlying3 cells3 (Nat.zero_le _) hl hm ?_ (fun i hi => ?_) hwz
      · by_cases h0 : zs.length = 0
        · split <;> omega
        · have h1 : sp a.block = true := hsp (.cell a.block a.off) (MemPlace.mem_row.2 ⟨0, by omega, by simp⟩)
          rw [if_pos h1]; exact hz
      · have h1 := hcell i hi
        rw [hW _ (World.block_lt_of_cell? W _ h1)]; exact h1
    · simp [Cell.ok, Tryz.underlying22] at hval
set_option maxRecDepth 100000 in
theorem contract (H : Type) (enc : TypeId × Value → H) (W : World) (base : Nat) (args : Array Value) (ds gs : List (DataW H)) (before : List MemPlace)
    (hval : ∀ (j : Nat) t v, Tryz.f3.params[j]? = some t → args[j]? = some v → Value.okWide Tryz.prog W .any base t v)
    (hW : DataW.Whole enc Tryz.prog Tryz.f3.params.toList Rows.extractMakesSpec.vars false W args.toList ds gs before) (hL : laidMetH Tryz.prog Rows.extractMakesRow.laid W) :
    Calls Tryz.prog 3 args W fun e W' => ∃ v, e = .returned v ∧ Rows.extractMakesSpec.post enc Tryz.prog Tryz.f3 false true false false W args v W' := by
  have hW' := hW
  obtain ⟨p, q, hA0, hV, rfl, hfz, hnd⟩ := hW
  have hA : DataW.TrodAll enc Tryz.prog W 0 (fun _ => true) true Tryz.f3.params.toList args.toList ds p := hA0
  rw [Tryz.params3] at hA hval
  obtain ⟨v0, vs0, d0, ds0, p0, q0, hargs, rfl, rfl, h0, r0⟩ := trodAll_cons hA
  obtain ⟨v1, vs1, d1, ds1, p1, q1, rfl, rfl, rfl, h1, r1⟩ := trodAll_cons r0
  obtain ⟨v2, vs2, d2, ds2, p2, q2, rfl, rfl, rfl, h2, r2⟩ := trodAll_cons r1
  obtain ⟨v3, vs3, d3, ds3, p3, q3, rfl, rfl, rfl, h3, r3⟩ := trodAll_cons r2
  obtain ⟨rfl, rfl, rfl⟩ := trodAll_nil r3
  obtain rfl : args = #[v0, v1, v2, v3] := by cases args; simp_all
  obtain ⟨rfl, rfl⟩ := trodVars_none hV
  obtain ⟨how, rfl, rfl, rfl, w1⟩ := open_int Tryz.underlying3 (hval 1 3 v1 rfl rfl) h1
  obtain ⟨by_, rfl, rfl, rfl, w2⟩ := open_int Tryz.underlying3 (hval 2 3 v2 rfl rfl) h2
  obtain ⟨at_, rfl, rfl, rfl, w3⟩ := open_int Tryz.underlying3 (hval 3 3 v3 rfl rfl) h3
  clear hA0
  have b2 := bounds_i64 w2
  have b3 := bounds_i64 w3
  have hg := globOf hL
  have hb2 : i64 by_ := ⟨b2.1, by omega⟩
  have hb3 : i64 at_ := ⟨b3.1, by omega⟩
  obtain ⟨l, hr, hk⟩ := open_nums (hval 0 22 v0 rfl rfl) h0
  simp only [List.append_nil] at hW'
  refine (walk hg hr how by_ at_ hb2 hb3).mono ?_
  rintro e W' ⟨rfl, hkept, hcell⟩
  refine ⟨_, rfl, _, _, _, [], p0, [], hW', ?_, ?_, ?_, World.keptBut_mono (fun _ f => f.elim) hkept, fun h => by cases h⟩
  · exact trodAll_cons_mk (shut_bool Tryz.underlying4 _) trodAll_mk0
  · have h := trodAll_cons_mk (hk W' hcell (fun b => decide (b < W.heap.size)) (fun p hp => by simpa using hW'.lt p (by simpa using hp))) (trodAll_cons_mk (shut_int Tryz.underlying3 w1) (trodAll_cons_mk (shut_int Tryz.underlying3 w2) (trodAll_cons_mk (shut_int Tryz.underlying3 w3) trodAll_mk0)))
    simp only [List.append_nil] at h
    rw [Tryz.params3]
    exact h
  · rfl
noncomputable def laidWorld (os : Os) : World :=
  { World.holding Tryz.prog os ⟨#[], #[], []⟩ with heap := (World.holding Tryz.prog os ⟨#[], #[], []⟩).heap.modify 0 fun
      | .cells _ t frozen => .cells #[.int .i64 12, .int .i64 0] t frozen
      | o => o }
def wArgs : Array Value := #[.slice none 0 0, .int .i64 0, .int .i64 0, .int .i64 0]
theorem laid_met (os : Os) : laidMet Tryz.prog Rows.extractMakesRow.laid ((laidWorld os).forCall (fun _ _ => 0) ⟨#[], wArgs, []⟩).memory :=
  laidMet_of_run' 8 (by kernel_rfl) (by kernel_rfl)
theorem reads (os : Os) {H : Type} (enc : TypeId × Value → H) : ∃ places, DataW.whole enc Tryz.prog ((laidWorld os).forCall (fun _ _ => 0) ⟨#[], wArgs, []⟩).memory Tryz.f3.params.toList Rows.extractMakesSpec.vars false wArgs.toList 8 = some ([.nil, .lit (.int .i64 0), .lit (.int .i64 0), .lit (.int .i64 0)], [], places) :=
  ⟨[], by kernel_rfl⟩
set_option maxRecDepth 100000 in
theorem lifted (os : Os) (started : os.Started) (H : Type) (enc : TypeId × Value → H) (F : Stop.Interp) :
    ReturnsInHanded {} Tryz.checked os 3 .any ((OpenSpec.ofChange Rows.extractMakesSpec).preRow enc Tryz.prog Tryz.f3 Rows.extractMakesRow.domain false Rows.extractMakesRow.laid) (((OpenSpec.ofChange Rows.extractMakesSpec).at F).post enc Tryz.prog Tryz.f3 false true false false) := by
  obtain ⟨places, hx⟩ := reads os enc
  refine returnsInHanded_of_row (C := Tryz.checked) (s := OpenSpec.ofChange Rows.extractMakesSpec) own started (by kernel_rfl) Tryz.func3
    (witness_row_at (enc := enc) (C := Tryz.checked) false (laidWorld os) wArgs rfl (by kernel_rfl) (by kernel_rfl) (by kernel_rfl)
      (OpenSpec.preRow_of_cond 8 hx (by kernel_rfl) (fun k hk => by cases hk) (by kernel_rfl) (laid_met os))) ?_
  intro W base args ds gs before hval hW _ _ _ hL _ _
  exact contract H enc W base args ds gs before hval hW hL
theorem said : Rows.ExtractMakesSaid :=
  OpenClaim.holds_of_cond 3 Tryz.f3 rfl rfl rfl rfl rfl rfl rfl ⟨rfl, rfl, rfl, rfl, rfl⟩ rfl rfl rfl rfl rfl (by kernel_rfl) Tryz.func3 closed
    (of_decide_eq_true (by kernel_rfl)) (by unfold Func.isWrapper; first | (rw [if_pos (by decide +kernel)]; kernel_rfl) | (rw [if_neg (by decide +kernel)]; exact ⟨rfl, rfl⟩))
    (fun os started H enc _ F => by rw [OpenClaim.pre_eq_preRow]; exact lifted os started H enc F)
theorem plain (f : FuncId) (fn : Func) (hf : Tryz.pinned.checked.prog.funcNamed "priorart/priorartlaw35.ExtractMakes" = some f) (hfn : Tryz.pinned.checked.prog.funcs[f]? = some fn) :
    false = Tryz.pinned.checked.prog.looks [] ∧ ∀ (j : Nat) t, fn.params[j]? = some t → Tryz.pinned.checked.prog.wantsStandIn t = false := by
  obtain rfl : f = 3 := Option.some.inj ((show Tryz.prog.funcNamed "priorart/priorartlaw35.ExtractMakes" = some 3 by kernel_rfl).symm.trans hf) |>.symm
  obtain rfl : fn = Tryz.f3 := (Option.some.inj (Tryz.func3.symm.trans hfn)).symm
  refine ⟨by kernel_rfl, fun j t ht => ?_⟩
  rw [Tryz.params3] at ht
  have hm : t ∈ #[22, 3, 3, 3] := Array.mem_of_getElem? ht
  simp at hm
  rcases hm with rfl | rfl
  · exact (show Tryz.prog.wantsStandIn 22 = false by kernel_rfl)
  · exact (show Tryz.prog.wantsStandIn 3 = false by kernel_rfl)
theorem card : Rows.ExtractMakesCardSaid :=
  Claim7.holds_tied_plain_at .later [] _ _ _ _ said (fun _ h => by cases h) (by kernel_rfl) (fun _ h => by cases h) extractMakes_row_tie rfl ⟨rfl, rfl⟩ (by kernel_rfl) rfl plain (by kernel_rfl)
end Go.Proofs.YtopldfpkgbkomaaGreatDoor.extractMakes

