/- Part 7 of the proof that ExtractMakes returns true for every input and leaves its arguments alone. Condition: the variable that the row lists holds what the text of the program lays. Texts joined here: VwCd VsC VwBa VwBf VwBb VwBc VwBd VwBe VwBh VwBg VwEb VwEc VwEd VwCl VwCm VwEe VwEf VwEg VwEh VwEi VwFa VwFb VwFc VwFd VwFe VwFf. -/
import Derived.Test.YtopldfpkgbkomaaGreatDoorL02
import Derived.Test.YtopldfpkgbkomaaGreatDoorL04
import Derived.Test.YtopldfpkgbkomaaGreatDoorL05
import Derived.Test.YtopldfpkgbkomaaGreatDoorL06
set_option linter.all false
namespace Go.Va
open Go.Proofs
theorem encDat_flat (d : Dat) : [d.cl, d.ix, d.day, d.file].flatMap encI = encDat d := by simp [encDat]
theorem encOwn_flat (d : Own) : [d.party, d.num, d.den].flatMap encI = encOwn d := by simp [encOwn]
theorem encLic_flat (d : Lic) : [d.fr, d.to, d.fst, d.lst].flatMap encI = encLic d := by simp [encLic]
theorem flat40 {α : Type} {f : α → List Int} (hf : ∀ x, (f x).length ≤ 40) : ∀ l : List α, (l.flatMap f).length ≤ 40 * l.length
  | [] => by simp
  | x :: l => by
    have := hf x
    have := flat40 hf l
    simp only [List.flatMap_cons, List.length_append, List.length_cons]; omega
theorem encDat_len (d : Dat) : (encDat d).length ≤ 40 := by
  have := encI_len d.cl; have := encI_len d.ix; have := encI_len d.day; have := encI_len d.file
  simp only [encDat, List.length_append]; omega
theorem encOwn_len (d : Own) : (encOwn d).length ≤ 40 := by
  have := encI_len d.party; have := encI_len d.num; have := encI_len d.den
  simp only [encOwn, List.length_append]; omega
theorem encLic_len (d : Lic) : (encLic d).length ≤ 40 := by
  have := encI_len d.fr; have := encI_len d.to; have := encI_len d.fst; have := encI_len d.lst
  simp only [encLic, List.length_append]; omega
theorem l51_0 (C : Row) (ds : List Dat) (hds : ∀ d ∈ ds, d.ok) (hn : ds.length ≤ 2 ^ 30) (X : List Int) (hX : X.length ≤ 2 ^ 43) (J : List Row) :
    awp Tryz.prog GLx (.loop c51l0) (fun e s => e = .exit 0 ∧ find s.e 1 = .ref 0 0 ∧ find s.e 4 = .ref 1 0 ∧ find s.e 5 = .func 129 [.ref 1 0] ∧ ∃ J2, s.h = C :: wr (X ++ ds.flatMap encDat) :: J2)
      ⟨[(1, .ref 0 0), (4, .ref 1 0), (5, .func 129 [.ref 1 0]), (42, .v (.list (ds.map Dat.V))), (43, .v (.int .i64 ds.length)), (44, .v (.int .i64 0))], C :: wr X :: J⟩ := by
  refine awp_loop_I ds.length (fun k s => s.e = [(1, .ref 0 0), (4, .ref 1 0), (5, .func 129 [.ref 1 0]), (42, .v (.list (ds.map Dat.V))), (43, .v (.int .i64 ds.length)), (44, .v (.int .i64 k))] ∧ ∃ J2, s.h = C :: wr (X ++ (ds.take k).flatMap encDat) :: J2) ⟨rfl, J, by simp⟩ ?_
  rintro k ⟨se, sh⟩ hk ⟨he, J2, hh⟩
  simp only at he hh
  subst he hh
  simp only [c51l0, awp_seq, awp_reg, awp_block, awp_cond, c51r10]
  simp
  by_cases hlt : k < ds.length
  · obtain ⟨x, hx⟩ : ∃ x, ds[k]? = some x := ⟨_, List.getElem?_eq_getElem hlt⟩
    have hxe : ds[k] = x := (List.getElem?_eq_some_iff.1 hx).2
    have hw : IntKind.i64.wrap ((k : Int) + 1) = k + 1 := wrap_i64 (by omega) (by omega)
    have hle := flat40 encDat_len (ds.take k)
    have ht : (ds.take k).length = k := by simp; omega
    have e : (ds.take (k + 1)).flatMap encDat = (ds.take k).flatMap encDat ++ encDat x := by rw [flat_take hlt, hxe]
    have hp := fun h hr => p129 [x.cl, x.ix, x.day, x.file] (by
        intro n hn
        simp at hn
        rcases hn with rfl | rfl | rfl | rfl
        · exact (hds x (List.mem_of_getElem? hx)).1
        · exact (hds x (List.mem_of_getElem? hx)).2.1
        · exact (hds x (List.mem_of_getElem? hx)).2.2.1
        · exact (hds x (List.mem_of_getElem? hx)).2.2.2) (by simp) h 1 (X ++ (ds.take k).flatMap encDat) hr (by rw [List.length_append]; omega)
    rw [encDat_flat] at hp
    simp [nums] at hp
    rw [if_pos (by omega), awp_skip]
    simp only [awp_reg, c51r11, c51r12]
    simp [hx, Dat.V, putL, D.vs?, D.v?]
    refine ⟨_, _, (hp _ rfl), ?_⟩
    simp [c51r13, hw, hlt, e]
  · have : k = ds.length := by omega
    subst this
    rw [if_neg (by omega), awp_exit]
    simp
theorem l51_1 (C : Row) (ds : List Own) (hds : ∀ d ∈ ds, d.ok) (hn : ds.length ≤ 2 ^ 30) (X : List Int) (hX : X.length ≤ 2 ^ 43) (J : List Row) :
    awp Tryz.prog GLx (.loop c51l1) (fun e s => e = .exit 2 ∧ find s.e 1 = .ref 0 0 ∧ find s.e 4 = .ref 1 0 ∧ find s.e 5 = .func 129 [.ref 1 0] ∧ ∃ J2, s.h = C :: wr (X ++ ds.flatMap encOwn) :: J2)
      ⟨[(1, .ref 0 0), (4, .ref 1 0), (5, .func 129 [.ref 1 0]), (72, .v (.list (ds.map Own.V))), (73, .v (.int .i64 ds.length)), (74, .v (.int .i64 0))], C :: wr X :: J⟩ := by
  refine awp_loop_I ds.length (fun k s => s.e = [(1, .ref 0 0), (4, .ref 1 0), (5, .func 129 [.ref 1 0]), (72, .v (.list (ds.map Own.V))), (73, .v (.int .i64 ds.length)), (74, .v (.int .i64 k))] ∧ ∃ J2, s.h = C :: wr (X ++ (ds.take k).flatMap encOwn) :: J2) ⟨rfl, J, by simp⟩ ?_
  rintro k ⟨se, sh⟩ hk ⟨he, J2, hh⟩
  simp only at he hh
  subst he hh
  simp only [c51l1, awp_seq, awp_reg, awp_block, awp_cond, c51r17]
  simp
  by_cases hlt : k < ds.length
  · obtain ⟨x, hx⟩ : ∃ x, ds[k]? = some x := ⟨_, List.getElem?_eq_getElem hlt⟩
    have hxe : ds[k] = x := (List.getElem?_eq_some_iff.1 hx).2
    have hw : IntKind.i64.wrap ((k : Int) + 1) = k + 1 := wrap_i64 (by omega) (by omega)
    have hle := flat40 encOwn_len (ds.take k)
    have ht : (ds.take k).length = k := by simp; omega
    have e : (ds.take (k + 1)).flatMap encOwn = (ds.take k).flatMap encOwn ++ encOwn x := by rw [flat_take hlt, hxe]
    have hp := fun h hr => p129 [x.party, x.num, x.den] (by
        intro n hn
        simp at hn
        rcases hn with rfl | rfl | rfl
        · exact (hds x (List.mem_of_getElem? hx)).1
        · exact (hds x (List.mem_of_getElem? hx)).2.1
        · exact (hds x (List.mem_of_getElem? hx)).2.2) (by simp) h 1 (X ++ (ds.take k).flatMap encOwn) hr (by rw [List.length_append]; omega)
    rw [encOwn_flat] at hp
    simp [nums] at hp
    rw [if_pos (by omega), awp_skip]
    simp only [awp_reg, c51r18, c51r19]
    simp [hx, Own.V, putL, D.vs?, D.v?]
    refine ⟨_, _, (hp _ rfl), ?_⟩
    simp [c51r20, hw, hlt, e]
  · have : k = ds.length := by omega
    subst this
    rw [if_neg (by omega), awp_exit]
    simp
theorem l51_2 (C : Row) (ds : List Lic) (hds : ∀ d ∈ ds, d.ok) (hn : ds.length ≤ 2 ^ 30) (X : List Int) (hX : X.length ≤ 2 ^ 43) (J : List Row) :
    awp Tryz.prog GLx (.loop c51l2) (fun e s => e = .exit 4 ∧ find s.e 4 = .ref 1 0 ∧ find s.e 5 = .func 129 [.ref 1 0] ∧ ∃ J2, s.h = C :: wr (X ++ ds.flatMap encLic) :: J2)
      ⟨[(4, .ref 1 0), (5, .func 129 [.ref 1 0]), (97, .v (.list (ds.map Lic.V))), (98, .v (.int .i64 ds.length)), (99, .v (.int .i64 0))], C :: wr X :: J⟩ := by
  refine awp_loop_I ds.length (fun k s => s.e = [(4, .ref 1 0), (5, .func 129 [.ref 1 0]), (97, .v (.list (ds.map Lic.V))), (98, .v (.int .i64 ds.length)), (99, .v (.int .i64 k))] ∧ ∃ J2, s.h = C :: wr (X ++ (ds.take k).flatMap encLic) :: J2) ⟨rfl, J, by simp⟩ ?_
  rintro k ⟨se, sh⟩ hk ⟨he, J2, hh⟩
  simp only at he hh
  subst he hh
  simp only [c51l2, awp_seq, awp_reg, awp_block, awp_cond, c51r23]
  simp
  by_cases hlt : k < ds.length
  · obtain ⟨x, hx⟩ : ∃ x, ds[k]? = some x := ⟨_, List.getElem?_eq_getElem hlt⟩
    have hxe : ds[k] = x := (List.getElem?_eq_some_iff.1 hx).2
    have hw : IntKind.i64.wrap ((k : Int) + 1) = k + 1 := wrap_i64 (by omega) (by omega)
    have hle := flat40 encLic_len (ds.take k)
    have ht : (ds.take k).length = k := by simp; omega
    have e : (ds.take (k + 1)).flatMap encLic = (ds.take k).flatMap encLic ++ encLic x := by rw [flat_take hlt, hxe]
    have hp := fun h hr => p129 [x.fr, x.to, x.fst, x.lst] (by
        intro n hn
        simp at hn
        rcases hn with rfl | rfl | rfl | rfl
        · exact (hds x (List.mem_of_getElem? hx)).1
        · exact (hds x (List.mem_of_getElem? hx)).2.1
        · exact (hds x (List.mem_of_getElem? hx)).2.2.1
        · exact (hds x (List.mem_of_getElem? hx)).2.2.2) (by simp) h 1 (X ++ (ds.take k).flatMap encLic) hr (by rw [List.length_append]; omega)
    rw [encLic_flat] at hp
    simp [nums] at hp
    rw [if_pos (by omega), awp_skip]
    simp only [awp_reg, c51r24, c51r25]
    simp [hx, Lic.V, putL, D.vs?, D.v?]
    refine ⟨_, _, (hp _ rfl), ?_⟩
    simp [c51r26, hw, hlt, e]
  · have : k = ds.length := by omega
    subst this
    rw [if_neg (by omega), awp_exit]
    simp
set_option maxHeartbeats 1000000 in
theorem p51 (r : Rgt) (hr : r.ok) : PSp Tryz.prog GLx 51 [r.V] [nums .u8 (if formedR r then encR r else []), .int .i64 (if formedR r then 0 else 1)] := by
  refine psp_of_awp k51 rfl ?_
  have p1 := (p128 r hr).fsp
  have hlb := hr.lb
  have hld := hr.ld
  have hlo := hr.lo
  have hll := hr.ll
  have henc := hr.enc
  have hcl : formedR r = true → clmsE r.claims = 0 := by
    intro h
    unfold formedR at h
    simp at h
    exact h.1.1.1.1.1.1.2
  have p2 := (p130 r.claims hr.claims (by have := hr.lc; omega) henc).fsp
  cases hf : formedR r with
  | false =>
    rw [hf] at p1
    simp only [c51, awp_seq, awp_reg, awp_cond, c51r0, c51r1, entry]
    simp [Rgt.V, Rgt.cs] at p1 ⊢
    refine ⟨_, _, p1 _, ?_⟩
    simp [awp_seq, awp_reg, awp_ret, c51r2, c51R, nums]
  | true =>
    rw [hf] at p1
    rw [hcl hf] at p2
    simp at p2
    have hres : encR r = encR r := rfl
    obtain ⟨R, hR⟩ : ∃ R, encR r = R := ⟨_, rfl⟩
    rw [hR]
    have hB := isB.encClms hr.claims (by have := hr.lc; omega) (by omega)
    have hraw : (encRaw (encClms r.claims)).length ≤ 2 ^ 40 := by have := uvar_len (encClms r.claims).length; simp only [encRaw, List.length_append]; omega
    have q1 := fun h hq => p129 [r.file, r.state, r.force] (by intro n hn; simp at hn; rcases hn with rfl | rfl | rfl; exact hr.file; exact hr.state; exact hr.force) (by simp) h 1 [] hq (by simp)
    simp only [List.nil_append] at q1
    have i1 := encI_len r.file
    have i2 := encI_len r.state
    have i3 := encI_len r.force
    obtain ⟨X1, hX1⟩ : ∃ X1, [r.file, r.state, r.force].flatMap encI = X1 := ⟨_, rfl⟩
    have l1 : X1.length ≤ 30 := by rw [← hX1]; simp; omega
    rw [hX1] at q1
    have q2 := fun h hq => p99 (encClms r.claims) hB (by omega) h 1 X1 hq (by omega)
    obtain ⟨X2, hX2⟩ : ∃ X2, X1 ++ encRaw (encClms r.claims) = X2 := ⟨_, rfl⟩
    have l2 : X2.length ≤ 2 ^ 41 := by rw [← hX2, List.length_append]; omega
    rw [hX2] at q2
    have q3 := fun h hq => p129 [(r.dates.length : Int)] (by intro n hn; simp at hn; subst hn; unfold i64; omega) (by simp) h 1 X2 hq (by omega)
    obtain ⟨X3, hX3⟩ : ∃ X3, X2 ++ [(r.dates.length : Int)].flatMap encI = X3 := ⟨_, rfl⟩
    have i4 := encI_len r.dates.length
    have l3 : X3.length ≤ 2 ^ 41 + 10 := by rw [← hX3]; simp; omega
    rw [hX3] at q3
    have q4 := fun C J => l51_0 C r.dates hr.dates hld X3 (by omega) J
    have i5 := flat40 encDat_len r.dates
    obtain ⟨X4, hX4⟩ : ∃ X4, X3 ++ r.dates.flatMap encDat = X4 := ⟨_, rfl⟩
    have l4 : X4.length ≤ 2 ^ 41 + 2 ^ 37 := by rw [← hX4, List.length_append]; omega
    rw [hX4] at q4
    have q5 := fun h hq => p100 r.bad hr.bad (by omega) h 1 X4 hq (by omega)
    have i6 := flat_encI_len r.bad
    have i7 := uvar_len r.bad.length
    obtain ⟨X5, hX5⟩ : ∃ X5, X4 ++ encInts r.bad = X5 := ⟨_, rfl⟩
    have l5 : X5.length ≤ 2 ^ 41 + 2 ^ 38 := by rw [← hX5, List.length_append, encInts, List.length_append]; omega
    rw [hX5] at q5
    have q6 := fun h hq => p129 [(r.owners.length : Int)] (by intro n hn; simp at hn; subst hn; unfold i64; omega) (by simp) h 1 X5 hq (by omega)
    obtain ⟨X6, hX6⟩ : ∃ X6, X5 ++ [(r.owners.length : Int)].flatMap encI = X6 := ⟨_, rfl⟩
    have i8 := encI_len r.owners.length
    have l6 : X6.length ≤ 2 ^ 41 + 2 ^ 38 + 10 := by rw [← hX6]; simp; omega
    rw [hX6] at q6
    have q7 := fun C J => l51_1 C r.owners hr.owners hlo X6 (by omega) J
    have i9 := flat40 encOwn_len r.owners
    obtain ⟨X7, hX7⟩ : ∃ X7, X6 ++ r.owners.flatMap encOwn = X7 := ⟨_, rfl⟩
    have l7 : X7.length ≤ 2 ^ 41 + 2 ^ 39 := by rw [← hX7, List.length_append]; omega
    rw [hX7] at q7
    have q8 := fun h hq => p129 [(r.lics.length : Int)] (by intro n hn; simp at hn; subst hn; unfold i64; omega) (by simp) h 1 X7 hq (by omega)
    obtain ⟨X8, hX8⟩ : ∃ X8, X7 ++ [(r.lics.length : Int)].flatMap encI = X8 := ⟨_, rfl⟩
    have i10 := encI_len r.lics.length
    have l8 : X8.length ≤ 2 ^ 41 + 2 ^ 39 + 10 := by rw [← hX8]; simp; omega
    rw [hX8] at q8
    have q9 := fun C J => l51_2 C r.lics hr.lics hll X8 (by omega) J
    have i11 := flat40 encLic_len r.lics
    obtain ⟨X9, hX9⟩ : ∃ X9, X8 ++ r.lics.flatMap encLic = X9 := ⟨_, rfl⟩
    have l9 : X9.length ≤ 2 ^ 42 := by rw [← hX9, List.length_append]; omega
    rw [hX9] at q9
    have hRX : X9 = R := by
      rw [← hR, ← hX9, ← hX8, ← hX7, ← hX6, ← hX5, ← hX4, ← hX3, ← hX2, ← hX1]
      simp [encR]
    rw [hRX] at q9 l9
    simp [nums] at p2 q1 q2 q3 q5 q6 q8
    simp only [c51, awp_seq, awp_reg, awp_block, awp_cond, c51r0, c51r1, entry]
    simp [Rgt.V, Rgt.cs, nums] at p1 ⊢
    refine ⟨_, _, p1 _, ?_⟩
    simp [awp_skip, awp_reg, c51r3, c51r4, D.vs?, D.v?]
    simp [c51r5, D.vs?, D.v?]
    refine ⟨_, _, (q1 _ rfl), ?_⟩
    simp [c51r6]
    refine ⟨_, _, p2 _, ?_⟩
    simp [c51r7]
    refine ⟨_, _, (q2 _ rfl), ?_⟩
    simp [c51r8, D.vs?, D.v?]
    refine ⟨_, _, (q3 _ rfl), ?_⟩
    simp [c51r9]
    refine awp_mono _ ?_ (q4 _ _)
    rintro e ⟨se, sh⟩ ⟨rfl, f1, f4, f5, J2, hh⟩
    simp only at f1 f4 f5 hh
    subst hh
    simp [c51r14, f1, f4, f5]
    refine ⟨_, _, (q5 _ rfl), ?_⟩
    simp [c51r15, f5, D.vs?, D.v?, f1, f4]
    refine ⟨_, _, (q6 _ rfl), ?_⟩
    simp [c51r16]
    refine awp_mono _ ?_ (q7 _ _)
    rintro e ⟨se, sh⟩ ⟨rfl, f1, f4, f5, J2, hh⟩
    simp only at f1 f4 f5 hh
    subst hh
    simp [c51r21, f1, f4, f5, D.vs?, D.v?]
    refine ⟨_, _, (q8 _ rfl), ?_⟩
    simp [c51r22]
    refine awp_mono _ ?_ (q9 _ _)
    rintro e ⟨se, sh⟩ ⟨rfl, f4, f5, J2, hh⟩
    simp only at f4 f5 hh
    subst hh
    simp [c51r27, f4, f5]
    refine ⟨_, _, (p102 _ 1 R rfl (by omega)), ?_⟩
    simp [awp_ret, c51R]
end Go.Va

namespace Go.Va
structure HM where
  E : List ((Int × Int) × Int)
  st : List Nat
  ck : Nat
def hget : List ((Int × Int) × Int) → Int × Int → Option Int
  | [], _ => none
  | x :: E, k => if x.1 = k then some x.2 else hget E k
def hups : List ((Int × Int) × Int) → Int × Int → Int → List ((Int × Int) × Int)
  | [], k, v => [(k, v)]
  | x :: E, k, v => if x.1 = k then (k, v) :: E else x :: hups E k v
def HM.get (m : HM) (k : Int × Int) : Option Int := hget m.E k
def HM.set (m : HM) (k : Int × Int) (v : Int) : HM :=
  if (m.get k).isSome then ⟨hups m.E k v, m.st, m.ck⟩ else ⟨hups m.E k v, m.st ++ [m.ck], m.ck + 1⟩
def entH (x : (Int × Int) × Int) : V × V := (.agg [.int .i64 x.1.1, .int .i64 x.1.2], .int .u64 x.2)
def HM.row (m : HM) : Row := .map (m.E.map entH) m.st m.ck
theorem hget_ups : ∀ (E : List ((Int × Int) × Int)) (k : Int × Int) (v : Int) (k' : Int × Int), hget (hups E k v) k' = if k' = k then some v else hget E k'
  | [], k, v, k' => by simp only [hups, hget]; by_cases h : k = k' <;> simp [h, eq_comm]
  | x :: E, k, v, k' => by
    simp only [hups]
    by_cases h : x.1 = k
    · subst h
      simp only [if_true, hget]
      by_cases h2 : x.1 = k' <;> simp [h2, eq_comm]
      intro h3; exact absurd h3.symm h2
    · rw [if_neg h]
      simp only [hget, hget_ups E k v k']
      by_cases h2 : x.1 = k'
      · subst h2; simp [h]
      · simp [h2]
theorem HM.get_set (m : HM) (k : Int × Int) (v : Int) (k' : Int × Int) : (m.set k v).get k' = if k' = k then some v else m.get k' := by
  unfold HM.set
  split <;> exact hget_ups _ _ _ _
theorem mfind_H (a b : Int) : ∀ E : List ((Int × Int) × Int), mfind true [0, 0] (.agg [.int .i64 a, .int .i64 b]) (E.map entH) = some (E.findIdx? fun x => x.1 == (a, b))
  | [] => rfl
  | x :: E => by
    obtain ⟨⟨c, d⟩, v⟩ := x
    have hk : keyOK true [0, 0] (.agg [.int .i64 c, .int .i64 d]) = true := by simp [keyOK, V.eqL, V.eq1, V.cells]
    simp only [List.map_cons, entH, mfind, hk, if_true, V.cells, V.eqL, V.eq1, Bool.and_true, mfind_H a b E, List.findIdx?_cons]
    have e : ((c, d) == (a, b)) = ((a == c) && (b == d)) := by
      rw [Bool.eq_iff_iff]; simp
      constructor <;> (rintro ⟨h1, h2⟩; exact ⟨h1.symm, h2.symm⟩)
    rw [e]
    cases (a == c) && (b == d) <;> simp
theorem hget_idx (k : Int × Int) : ∀ E : List ((Int × Int) × Int), hget E k = (E.findIdx? fun x => x.1 == k).bind fun i => (E[i]?).map (·.2)
  | [] => rfl
  | x :: E => by
    simp only [hget, List.findIdx?_cons]
    by_cases h : x.1 = k
    · simp [h]
    · simp [h, hget_idx k E]
      cases E.findIdx? fun x => x.1 == k <;> simp
theorem hups_idx (k : Int × Int) (v : Int) : ∀ E : List ((Int × Int) × Int), hups E k v = match E.findIdx? fun x => x.1 == k with | none => E ++ [(k, v)] | some i => E.set i (k, v)
  | [] => rfl
  | x :: E => by
    simp only [hups, List.findIdx?_cons]
    by_cases h : x.1 = k
    · simp [h]
    · simp only [h, if_false, hups_idx k v E]
      have : (x.1 == k) = false := by simp [h]
      rw [this]
      cases E.findIdx? fun x => x.1 == k <;> simp
def joinO (a b : Option Int) : Option Int :=
  match a, b with
  | none, none => none
  | a, b => some (sumI [98, 108, 111, 99, 107] [IntKind.i64.wrap (a.getD 0), IntKind.i64.wrap (b.getD 0)])
def bH (lf : Int → Option Int) : Nat → Int → Option Int
  | 0, n => lf n
  | l + 1, n => joinO (bH lf l (2 * n)) (bH lf l (2 * n + 1))
def MapInv (lf : Int → Option Int) (m : HM) : Prop := ∀ l : Nat, l ≤ 12 → ∀ n : Int, m.get ((l : Int), n) = bH lf l n
def upd (lf : Int → Option Int) (k v : Int) : Int → Option Int := fun x => if x = k then some v else lf x
theorem bH_other (lf : Int → Option Int) (k v : Int) : ∀ (l : Nat) (n : Int), n ≠ k / 2 ^ l → bH (upd lf k v) l n = bH lf l n
  | 0, n, h => by simp [bH, upd] at h ⊢; intro h2; exact absurd h2 h
  | l + 1, n, h => by
    have e : k / 2 ^ (l + 1) = k / 2 ^ l / 2 := by rw [Int.pow_succ, Int.ediv_ediv_of_nonneg (Int.pow_nonneg (by decide))]
    rw [e] at h
    simp only [bH]
    rw [bH_other lf k v l (2 * n) (by omega), bH_other lf k v l (2 * n + 1) (by omega)]
theorem joinO_some {a b : Option Int} (h : a.isSome = true ∨ b.isSome = true) : joinO a b = some ((joinO a b).getD 0) := by
  cases a <;> cases b <;> simp_all [joinO]
def putF : Nat → Int → Int → Int → HM → HM
  | 0, j, n, h, m => m.set (j, n) h
  | f + 1, j, n, h, m => putF f (j + 1) (n / 2) ((joinO ((m.set (j, n) h).get (j, 2 * (n / 2))) ((m.set (j, n) h).get (j, 2 * (n / 2) + 1))).getD 0) (m.set (j, n) h)
theorem putF_inv (lf : Int → Option Int) (k v : Int) : ∀ (f j : Nat) (n h : Int) (m : HM), f + j = 12 → n = k / 2 ^ j → bH (upd lf k v) j n = some h →
    (∀ l : Nat, l < j → ∀ x : Int, m.get ((l : Int), x) = bH (upd lf k v) l x) → (∀ l : Nat, j ≤ l → l ≤ 12 → ∀ x : Int, m.get ((l : Int), x) = bH lf l x) → MapInv (upd lf k v) (putF f j n h m) := by
  intro f
  induction f with
  | zero =>
    intro j n h m hj hn hh hlo hhi l hl x
    have hj : j = 12 := by omega
    subst hj
    simp only [putF, HM.get_set]
    by_cases hx : l = 12 ∧ x = n
    · obtain ⟨rfl, rfl⟩ := hx; simp [hh]
    · rw [if_neg (by simp; intro h1 h2; exact hx ⟨by omega, h2⟩)]
      by_cases hl2 : l = 12
      · subst hl2
        rw [hhi 12 (Nat.le_refl _) (Nat.le_refl _), bH_other lf k v 12 x (fun h => hx ⟨rfl, h.trans hn.symm⟩)]
      · exact hlo l (by omega) x
  | succ f ih =>
    intro j n h m hj hn hh hlo hhi
    have hm1 : ∀ (l : Nat), l < j + 1 → ∀ x : Int, (m.set ((j : Int), n) h).get ((l : Int), x) = bH (upd lf k v) l x := by
      intro l hl x
      rw [HM.get_set]
      by_cases hx : l = j ∧ x = n
      · obtain ⟨rfl, rfl⟩ := hx; simp [hh]
      · rw [if_neg (by simp; intro h1 h2; exact hx ⟨by omega, h2⟩)]
        by_cases hl2 : l = j
        · subst hl2
          rw [hhi l (Nat.le_refl _) (by omega), bH_other lf k v l x (fun h => hx ⟨rfl, h.trans hn.symm⟩)]
        · exact hlo l (by omega) x
    have e : n / 2 = k / 2 ^ (j + 1) := by rw [Int.pow_succ, ← Int.ediv_ediv_of_nonneg (Int.pow_nonneg (by decide)), hn]
    have hcast : ((j : Int) + 1) = ((j + 1 : Nat) : Int) := rfl
    simp only [putF]
    rw [hm1 j (by omega), hm1 j (by omega), hcast]
    refine ih (j + 1) (n / 2) _ _ (by omega) e ?_ (by exact hm1) ?_
    · simp only [bH]
      refine joinO_some ?_
      have h0 : n % 2 = 0 ∨ n % 2 = 1 := by omega
      rcases h0 with h0 | h0
      · exact .inl (by rw [show 2 * (n / 2) = n by omega, hh]; rfl)
      · exact .inr (by rw [show 2 * (n / 2) + 1 = n by omega, hh]; rfl)
    · intro l hl hl2 x
      rw [HM.get_set, if_neg (by simp; intro h1; omega)]
      exact hhi l (by omega) hl2 x
theorem put_inv {lf : Int → Option Int} {m : HM} (hm : MapInv lf m) (k v : Int) : MapInv (upd lf k v) (putF 12 0 k v m) :=
  putF_inv lf k v 12 0 k v m rfl (by simp) (by simp [bH, upd]) (fun l hl => absurd hl (Nat.not_lt_zero l)) (fun l _ hl x => hm l hl x)
theorem bH_some (lf : Int → Option Int) : ∀ (l : Nat) (n : Int), (bH lf l n).isSome = true ↔ ∃ k, n * 2 ^ l ≤ k ∧ k < (n + 1) * 2 ^ l ∧ (lf k).isSome = true
  | 0, n => by
    simp only [bH, Int.pow_zero, Int.mul_one]
    constructor
    · exact fun h => ⟨n, by omega, by omega, h⟩
    · rintro ⟨k, h1, h2, h3⟩
      have : k = n := by omega
      subst this; exact h3
  | l + 1, n => by
    have hj : ∀ a b : Option Int, (joinO a b).isSome = true ↔ a.isSome = true ∨ b.isSome = true := by intro a b; cases a <;> cases b <;> simp [joinO]
    simp only [bH, hj, bH_some lf l]
    have e1 : n * 2 ^ (l + 1) = 2 * n * 2 ^ l := by rw [Int.pow_succ, Int.mul_comm (2 ^ l) 2, ← Int.mul_assoc, Int.mul_comm n 2]
    have e2 : (n + 1) * 2 ^ (l + 1) = (2 * n + 1 + 1) * 2 ^ l := by rw [Int.pow_succ, Int.mul_comm (2 ^ l) 2, ← Int.mul_assoc]; congr 1; omega
    rw [e1, e2]
    have hpos : (0 : Int) < 2 ^ l := Int.pow_pos (by decide)
    have e3 : (2 * n + 1) * 2 ^ l = 2 * n * 2 ^ l + 2 ^ l := by rw [Int.add_mul, Int.one_mul]
    have e4 : (2 * n + 1 + 1) * 2 ^ l = 2 * n * 2 ^ l + 2 ^ l + 2 ^ l := by rw [Int.add_mul, e3, Int.one_mul]
    rw [e3, e4]
    generalize (2 : Int) * n * 2 ^ l = A at *
    generalize (2 : Int) ^ l = p at *
    constructor
    · rintro (⟨k, h1, h2, h3⟩ | ⟨k, h1, h2, h3⟩) <;> exact ⟨k, by omega, by omega, h3⟩
    · rintro ⟨k, h1, h2, h3⟩
      by_cases h4 : k < A + p
      · exact .inl ⟨k, h1, h4, h3⟩
      · exact .inr ⟨k, by omega, h2, h3⟩
end Go.Va

namespace Go.Va
open Go.Proofs
theorem p131 (n : Int) : PSp Tryz.prog GLx 131 [.int .i64 n] [.bool (decide (0 ≤ n ∧ n ≤ 4095))] := by
  refine psp_of_awp k131 rfl ?_
  by_cases h1 : 0 ≤ n <;> by_cases h2 : n ≤ 4095 <;> simp [c131, awp, c131r0, c131r1, c131R, entry, h1, h2]
def leafI (k : Int) (v : List Int) : Int := sumI [112, 97, 105, 114] [k, v.length, IntKind.i64.wrap (hashI [118, 97, 108, 117, 101] v)]
theorem p133 (k : Int) (v : List Int) (hv : ∀ x ∈ v, 0 ≤ x ∧ x < 256) (hl : v.length ≤ 2 ^ 39) : PSp Tryz.prog GLx 133 [.int .i64 k, nums .u8 v] [.int .u64 (leafI k v)] := by
  refine psp_of_awp k133 rfl ?_
  have p1 := (p234 ⟨#[118, 97, 108, 117, 101]⟩ v hv (by decide) hl).fsp
  have p2 := (p96 ⟨#[112, 97, 105, 114]⟩ [k, v.length, IntKind.i64.wrap (hashI [118, 97, 108, 117, 101] v)] (by decide) (by simp)).fsp
  have e1 : bytesI ⟨#[118, 97, 108, 117, 101]⟩ = [118, 97, 108, 117, 101] := by simp [bytesI]
  have e2 : bytesI ⟨#[112, 97, 105, 114]⟩ = [112, 97, 105, 114] := by simp [bytesI]
  rw [e1] at p1
  rw [e2] at p2
  have e3 : sumI [112, 97, 105, 114] [k, v.length, IntKind.i64.wrap (hashI [118, 97, 108, 117, 101] v)] = leafI k v := rfl
  rw [e3] at p2
  simp [nums] at p1 p2
  simp only [c133, awp_seq, awp_reg, c133r0, c133r1, entry]
  simp [nums]
  refine ⟨_, _, p1 _, ?_⟩
  simp
  refine ⟨_, _, p2 _, ?_⟩
  simp [awp_ret, c133R]
theorem p136 (k : Int) (v : List Int) (hv : ∀ x ∈ v, 0 ≤ x ∧ x < 256) (hl : v.length ≤ 2 ^ 39) : PSp Tryz.prog GLx 136 [.agg [.int .i64 k, nums .u8 v]] [.int .u64 (leafI k v)] := by
  refine psp_of_awp k136 rfl ?_
  have p1 := p236 ⟨#[118, 97, 108, 117, 101]⟩ v hv (by decide) hl
  have p2 := p84 ⟨#[112, 97, 105, 114]⟩ [k, v.length, IntKind.i64.wrap (hashI [118, 97, 108, 117, 101] v)] (by decide) (by simp)
  have e1 : bytesI ⟨#[118, 97, 108, 117, 101]⟩ = [118, 97, 108, 117, 101] := by simp [bytesI]
  have e2 : bytesI ⟨#[112, 97, 105, 114]⟩ = [112, 97, 105, 114] := by simp [bytesI]
  rw [e1] at p1
  rw [e2] at p2
  have e3 : sumI [112, 97, 105, 114] [k, v.length, IntKind.i64.wrap (hashI [118, 97, 108, 117, 101] v)] = leafI k v := rfl
  rw [e3] at p2
  simp [nums] at p1 p2
  simp only [c136, awp_seq, awp_reg, awp_regD, c136r0, c136r1, entry]
  simp [nums]
  refine ⟨_, _, ⟨rfl, rfl⟩, _, p1, ?_⟩
  simp
  refine ⟨_, _, ⟨rfl, rfl⟩, _, p2, ?_⟩
  simp [awp_ret, c136R]
def sumV (a : Option Int) : V := .agg [.int .u64 (a.getD 0), .bool a.isSome]
theorem p182 (a b : Option Int) : PSp Tryz.prog GLx 182 [sumV a, sumV b] [sumV (joinO a b)] := by
  refine psp_of_awp k182 rfl ?_
  have e2 : bytesI ⟨#[98, 108, 111, 99, 107]⟩ = [98, 108, 111, 99, 107] := by simp [bytesI]
  have p2 := (p96 ⟨#[98, 108, 111, 99, 107]⟩ [IntKind.i64.wrap (a.getD 0), IntKind.i64.wrap (b.getD 0)] (by decide) (by simp)).fsp
  rw [e2] at p2
  simp [nums] at p2
  simp only [c182, awp_seq, awp_reg, awp_cond, c182r0, c182r1, c182r2, c182r3, entry]
  cases a with
  | none =>
    cases b with
    | none => simp [sumV, awp_seq, awp_reg, awp_ret, c182r2, c182R, putL, joinO]
    | some b =>
      simp [sumV, awp_skip, awp_reg, putL, joinO] at p2 ⊢
      refine ⟨_, _, p2 _, ?_⟩
      simp [awp_ret, c182R, putL]
  | some a =>
    simp [sumV, awp_skip, awp_reg, putL, joinO] at p2 ⊢
    refine ⟨_, _, p2 _, ?_⟩
    simp [awp_ret, c182R, putL]
end Go.Va

namespace Go.Va
open Go.Proofs
def prV (p : Int × List Int) : V := .agg [.int .i64 p.1, nums .u8 p.2]
def psR (ps : List (Int × List Int)) : Row := .cells [.own 200 2 (ps.map prV)]
def prOK (p : Int × List Int) : Prop := (∀ x ∈ p.2, 0 ≤ x ∧ x < 256) ∧ p.2.length ≤ 2 ^ 39
def lfP (ps : List (Int × List Int)) (k : Int) : Option Int := (ps.find? fun p => p.1 == k).map fun p => leafI p.1 p.2
theorem p55 (h : List Row) (r : Nat) (ps : List (Int × List Int)) (hr : h[r]? = some (psR ps)) (hl : ps.length ≤ 2 ^ 40) (k : Int) :
    FSp Tryz.prog GLx 55 [.ref r 0, .v (.int .i64 k)] h [.v (.int .i64 (idxI (ps.findIdx? fun p => p.1 == k)))] h := by
  refine fsp_of_awp k55 rfl ?_
  simp only [c55, awp_seq, awp_reg, awp_block, c55r0, c55r1, entryD]
  simp
  refine awp_loop_inv ps.length (fun i => ⟨[(0, .ref r 0), (1, .v (.int .i64 k)), (5, .v (.int .i64 i))], h⟩) (fun i => ∀ j < i, ∀ p, ps[j]? = some p → (p.1 == k) = false) (by simp) (by simp) ?_
  intro i hi hI
  simp only [c55l0, awp_seq, awp_reg, awp_block, awp_cond, c55r2]
  simp [hr, psR]
  by_cases hlt : i < ps.length
  · obtain ⟨p, hp⟩ : ∃ p, ps[i]? = some p := ⟨_, List.getElem?_eq_getElem hlt⟩
    have hpe : ps[i] = p := (List.getElem?_eq_some_iff.1 hp).2
    have hw : IntKind.i64.wrap ((i : Int) + 1) = i + 1 := wrap_i64 (by omega) (by omega)
    rw [if_pos (by omega), awp_skip]
    simp only [awp_reg, c55r4]
    simp [hr, psR, hp, prV]
    by_cases hk : p.1 = k
    · have hf : ps.findIdx? (fun p => p.1 == k) = some i := by
        rw [List.findIdx?_eq_some_iff_getElem]
        refine ⟨hlt, by rw [hpe]; simpa using hk, fun j hj => ?_⟩
        have := hI j hj ps[j] (List.getElem?_eq_getElem (by omega))
        simpa using this
      simp [hk, hf, idxI, awp_seq, awp_reg, awp_ret, c55r5, c55R]
    · simp [hk, awp_skip, awp_reg, c55r3, hw, hlt]
      intro j hj a b hab
      rcases Nat.lt_or_ge j i with h | h
      · have := hI j h _ hab; simpa using this
      · have : j = i := by omega
        subst this
        rw [hp] at hab; cases hab; exact hk
  · have : i = ps.length := by omega
    subst this
    have hf : ps.findIdx? (fun p => p.1 == k) = none := by
      rw [List.findIdx?_eq_none_iff]
      intro p hp
      obtain ⟨j, hj⟩ := List.getElem?_of_mem hp
      exact hI j (List.getElem?_eq_some_iff.1 hj).1 p hj
    rw [if_neg (by omega), awp_exit]
    simp [awp_reg, awp_ret, c55r6, c55R, hf, idxI]
theorem l58 (h : List Row) (r : Nat) (ps : List (Int × List Int)) (hr : h[r]? = some (psR ps)) (hl : ps.length ≤ 2 ^ 40) (a s : Int) (ha : 0 ≤ a ∧ a ≤ 4096) (hs : 1 < s ∧ s ≤ 4096) :
    awp Tryz.prog GLx (.loop c58l0) (fun e st => e = .exit 0 ∧ find st.e 0 = .ref r 0 ∧ find st.e 1 = .v (.int .i64 a) ∧ find st.e 2 = .v (.int .i64 s) ∧ find st.e 8 = .v (.bool (ps.any fun p => decide (a ≤ p.1 ∧ p.1 < a + s))) ∧ st.h = h)
      ⟨[(0, .ref r 0), (1, .v (.int .i64 a)), (2, .v (.int .i64 s)), (8, .v (.bool false)), (9, .v (.int .i64 0))], h⟩ := by
  refine awp_loop_nat0 ps.length (fun i => ⟨[(0, .ref r 0), (1, .v (.int .i64 a)), (2, .v (.int .i64 s)), (8, .v (.bool ((ps.take i).any fun p => decide (a ≤ p.1 ∧ p.1 < a + s)))), (9, .v (.int .i64 i))], h⟩) (by simp) ?_
  intro i hi
  have wa : IntKind.i64.wrap (a + s) = a + s := wrap_i64 (by omega) (by omega)
  simp only [c58l0, awp_seq, awp_reg, awp_block, awp_cond, c58r3]
  simp [hr, psR]
  by_cases hlt : i < ps.length
  · obtain ⟨p, hp⟩ : ∃ p, ps[i]? = some p := ⟨_, List.getElem?_eq_getElem hlt⟩
    have hpe : ps[i] = p := (List.getElem?_eq_some_iff.1 hp).2
    have hw : IntKind.i64.wrap ((i : Int) + 1) = i + 1 := wrap_i64 (by omega) (by omega)
    have htk : ps.take (i + 1) = ps.take i ++ [p] := by rw [List.take_succ_eq_append_getElem hlt, hpe]
    have hs1 : ¬ s = 1 := by omega
    rw [if_pos (by omega), awp_skip]
    simp only [awp_reg, c58r5]
    simp [hr, psR, hp, prV]
    simp only [c58r6]
    by_cases h1 : a ≤ p.1
    · by_cases h2 : p.1 < a + s
      · simp [h1, h2, wa, awp_seq, awp_reg, awp_cond, c58r7, hs1, awp_skip, c58r9, c58r4, hw, hlt, htk]
      · simp [h1, h2, wa, awp_skip, awp_reg, c58r4, hw, hlt, htk]
    · simp [h1, awp_skip, awp_reg, c58r4, hw, hlt, htk]
  · have : i = ps.length := by omega
    subst this
    rw [if_neg (by omega), awp_exit]
    simp
theorem p58z (h : List Row) (r : Nat) (ps : List (Int × List Int)) (hr : h[r]? = some (psR ps)) (hl : ps.length ≤ 2 ^ 40) (hok : ∀ p ∈ ps, prOK p) (a : Int) (ha : 0 ≤ a ∧ a ≤ 4096) :
    FSp Tryz.prog GLx 58 [.ref r 0, .v (.int .i64 a), .v (.int .i64 1)] h [.v (.int .u64 ((lfP ps a).getD 0)), .v (.bool (lfP ps a).isSome)] h := by
  refine fsp_of_awp k58 rfl ?_
  have wa : IntKind.i64.wrap (a + 1) = a + 1 := wrap_i64 (by omega) (by omega)
  simp only [c58, awp_seq, awp_reg, awp_block, c58r0, c58r1, c58r2, entryD]
  simp
  refine awp_loop_inv ps.length (fun i => ⟨[(0, .ref r 0), (1, .v (.int .i64 a)), (2, .v (.int .i64 1)), (8, .v (.bool false)), (9, .v (.int .i64 i))], h⟩) (fun i => ∀ j < i, ∀ p, ps[j]? = some p → (p.1 == a) = false) (by simp) (by simp) ?_
  intro i hi hI
  simp only [c58l0, awp_seq, awp_reg, awp_block, awp_cond, c58r3]
  simp [hr, psR]
  by_cases hlt : i < ps.length
  · obtain ⟨p, hp⟩ : ∃ p, ps[i]? = some p := ⟨_, List.getElem?_eq_getElem hlt⟩
    have hpe : ps[i] = p := (List.getElem?_eq_some_iff.1 hp).2
    have hw : IntKind.i64.wrap ((i : Int) + 1) = i + 1 := wrap_i64 (by omega) (by omega)
    rw [if_pos (by omega), awp_skip]
    simp only [awp_reg, c58r5]
    simp [hr, psR, hp, prV]
    simp only [c58r6]
    by_cases hk : p.1 = a
    · have hf : ps.find? (fun p => p.1 == a) = some p := by
        rw [List.find?_eq_some_iff_getElem]
        refine ⟨by simpa using hk, i, hlt, hpe, fun j hj => ?_⟩
        have := hI j hj ps[j] (List.getElem?_eq_getElem (by omega))
        simpa using this
      have h2 : a < a + 1 := by omega
      obtain ⟨o1, o2⟩ := hok p (List.mem_of_getElem? hp)
      have p1 := (p136 p.1 p.2 o1 o2).fsp
      rw [hk] at p1
      simp [nums] at p1
      simp [hk, h2, wa, awp_seq, awp_reg, awp_cond, c58r7]
      simp [c58r8, hr, psR, hp, prV, nums, hk]
      refine ⟨_, _, p1 _, ?_⟩
      simp [awp_ret, c58R, lfP, hf, hk]
    · have h3 : ¬ (a ≤ p.1 ∧ p.1 < a + 1) := by omega
      by_cases h1 : a ≤ p.1
      · have h2 : ¬ p.1 < a + 1 := by omega
        simp [h1, h2, wa, awp_skip, awp_reg, c58r4, hw, hlt]
        intro j hj x y hab
        rcases Nat.lt_or_ge j i with h | h
        · have := hI j h _ hab; simpa using this
        · have : j = i := by omega
          subst this
          rw [hp] at hab; cases hab; exact hk
      · simp [h1, awp_skip, awp_reg, c58r4, hw, hlt]
        intro j hj x y hab
        rcases Nat.lt_or_ge j i with h | h
        · have := hI j h _ hab; simpa using this
        · have : j = i := by omega
          subst this
          rw [hp] at hab; cases hab; exact hk
  · have : i = ps.length := by omega
    subst this
    have hf : ps.find? (fun p => p.1 == a) = none := by
      rw [List.find?_eq_none]
      intro p hp
      obtain ⟨j, hj⟩ := List.getElem?_of_mem hp
      have := hI j (List.getElem?_eq_some_iff.1 hj).1 p hj
      simpa using this
    rw [if_neg (by omega), awp_exit]
    simp [awp_seq, awp_reg, awp_cond, awp_ret, c58r10, c58r11, c58R, lfP, hf]
end Go.Va

namespace Go.Va
open Go.Proofs
def blkV (l n : Int) : V := .agg [.int .i64 l, .int .i64 n]
theorem p233 (h : List Row) (r q : Nat) (hm : HM) (l n : Int) (d : D) (hr : h[r]? = some (.cells [d, .mref q])) (hq : h[q]? = some hm.row) (hl : ∀ row ∈ h, Row.low h.length row = true) :
    FSp Tryz.prog GLx 233 [.ref r 0, .v (blkV l n)] h [.v (sumV (hm.get (l, n)))] h := by
  refine fsp_low k233 rfl (Nat.le_refl _) hl (by simp [D.lt]) ?_
  have hmf := mfind_H l n hm.E
  have hgi := hget_idx (l, n) hm.E
  have hr' := get_old [.cells [.v (.int .i64 l), .v (.int .i64 n)], .cells [.v (.int .u64 0), .v (.bool false)]] hr
  have hq' := get_old [.cells [.v (.int .i64 l), .v (.int .i64 n)], .cells [.v (.int .u64 0), .v (.bool false)]] hq
  simp only [c233, awp_seq, awp_reg, awp_regD, c233r0, c233r1, entryD]
  simp [blkV, putL]
  try simp at hr'
  try simp at hq'
  simp [hr', hq', HM.row, hmf, keyOK, V.eqL, V.eq1]
  cases hi : hm.E.findIdx? (fun x => x.fst == (l, n)) with
  | none =>
    rw [hi] at hgi
    simp [HM.get, hgi, lookD, awp_reg, awp_ret, c233r2, c233R, putL, sumV, D.one?, D.vs?, D.v?]
  | some i =>
    rw [hi] at hgi
    have hlt := (List.findIdx?_eq_some_iff_getElem.1 hi).1
    rw [Option.bind_some, List.getElem?_eq_getElem hlt] at hgi
    simp [HM.get, hgi, hlt, lookD, awp_reg, awp_ret, c233r2, c233R, entH, putL, sumV, D.one?, D.vs?, D.v?]
theorem p57 (h : List Row) (r q : Nat) (hm : HM) (d : D) (hr : h[r]? = some (.cells [d, .mref q])) (hq : h[q]? = some hm.row) :
    FSp Tryz.prog GLx 57 [.ref r 0] h [.v (.int .u64 ((hm.get (12, 0)).getD 0))] h := by
  refine fsp_of_awp k57 rfl ?_
  have hmf := mfind_H 12 0 hm.E
  have hgi := hget_idx (12, 0) hm.E
  simp only [c57, awp_seq, awp_reg, awp_regD, c57r0, c57r1, entryD]
  simp [hr, hq, HM.row, hmf, keyOK, V.eqL, V.eq1]
  cases hi : hm.E.findIdx? (fun x => x.fst == (12, 0)) with
  | none =>
    rw [hi] at hgi
    simp [HM.get, hgi, lookD, awp_ret, c57R]
  | some i =>
    rw [hi] at hgi
    have hlt := (List.findIdx?_eq_some_iff_getElem.1 hi).1
    rw [Option.bind_some, List.getElem?_eq_getElem hlt] at hgi
    simp [HM.get, hgi, hlt, lookD, awp_ret, c57R, entH]
end Go.Va

namespace Go.Va
open Go.Proofs
theorem p181 (l n : Int) (hl : 0 < l ∧ l ≤ 12) (hn : 0 ≤ n ∧ n ≤ 4096) : PSp Tryz.prog GLx 181 [blkV l n] [blkV (l - 1) (2 * n), blkV (l - 1) (2 * n + 1)] := by
  refine psp_of_awp k181 rfl ?_
  have w1 : IntKind.i64.wrap (l - 1) = l - 1 := wrap_i64 (by omega) (by omega)
  have w2 : IntKind.i64.wrap (2 * n) = 2 * n := wrap_i64 (by omega) (by omega)
  have w3 : IntKind.i64.wrap (2 * n + 1) = 2 * n + 1 := wrap_i64 (by omega) (by omega)
  simp only [c181, awp_seq, awp_reg, c181r0, entry]
  simp [blkV]
  rw [awp_regA]
  refine atok_mono _ (fun s hs => ⟨s, .inl rfl, hs⟩) ?_
  simp only [c181r1]
  simp [putL, w1, w2, w3, awp_ret, c181R, D.one?, D.vs?, D.v?]
end Go.Va

namespace Go.Va
open Go.Proofs
theorem Row.low_mono {n m : Nat} (h : n ≤ m) {row : Row} (hr : Row.low n row = true) : Row.low m row = true := by
  cases row with
  | cells ds =>
    simp only [Row.low] at hr ⊢
    exact lts_all fun d hd => by
      obtain ⟨i, hi⟩ := List.getElem?_of_mem hd
      exact dlt_mono h d (lts_get hr hi)
  | _ => exact hr
theorem HM.row_new {m : HM} {k : Int × Int} (v : Int) (h : (m.E.findIdx? fun x => x.1 == k) = none) : (m.set k v).row = .map (m.E.map entH ++ [entH (k, v)]) (m.st ++ [m.ck]) (m.ck + 1) := by
  have h1 : m.get k = none := by rw [HM.get, hget_idx, h]; rfl
  have h2 := hups_idx k v m.E
  rw [h] at h2
  simp [HM.set, h1, HM.row, h2]
theorem HM.row_old {m : HM} {k : Int × Int} {i : Nat} (v : Int) (h : (m.E.findIdx? fun x => x.1 == k) = some i) : (m.set k v).row = .map ((m.E.map entH).set i (entH (k, v))) m.st m.ck := by
  have hlt := (List.findIdx?_eq_some_iff_getElem.1 h).1
  have h1 : m.get k = some (m.E[i]).2 := by rw [HM.get, hget_idx, h]; simp [hlt]
  have h2 := hups_idx k v m.E
  rw [h] at h2
  simp [HM.set, h1, HM.row, h2, List.map_set]
structure PF (h : List Row) (q : Nat) (m : HM) (c x : Nat) (w j n : Int) (H : List Row) : Prop where
  pre : H.take h.length = h.set q m.row
  hc : H[c]? = some (.cells [.v (.int .u64 w), .v (.bool true)])
  hx : H[x]? = some (.cells [.v (.int .i64 j), .v (.int .i64 n)])
  lc : h.length ≤ c
  lx : h.length ≤ x
  ne : c ≠ x
  low : ∀ row ∈ H.drop h.length, Row.low 0 row = true
section
variable {h : List Row} {q : Nat} {m : HM} {c x : Nat} {w j n : Int} {H : List Row}
theorem PF.len (hF : PF h q m c x w j n H) : h.length ≤ H.length := Nat.le_of_lt (Nat.lt_of_le_of_lt hF.lc (lt_of_get hF.hc))
theorem PF.get (hF : PF h q m c x w j n H) {i : Nat} (hi : i < h.length) : H[i]? = (h.set q m.row)[i]? := by
  rw [← hF.pre, List.getElem?_take, if_pos hi]
theorem PF.gq (hF : PF h q m c x w j n H) {y : Row} (hq : h[q]? = some y) : H[q]? = some m.row := by
  rw [hF.get (lt_of_get hq), get_set hq]
theorem PF.gr (hF : PF h q m c x w j n H) {r : Nat} {y : Row} (hr : h[r]? = some y) (hn : r ≠ q) : H[r]? = some y := by
  rw [hF.get (lt_of_get hr), List.getElem?_set_ne (Ne.symm hn)]; exact hr
theorem PF.app (hF : PF h q m c x w j n H) {row : Row} (hl : Row.low 0 row = true) : PF h q m c x w j n (H ++ [row]) where
  pre := by rw [List.take_append_of_le_length hF.len]; exact hF.pre
  hc := get_old _ hF.hc
  hx := get_old _ hF.hx
  lc := hF.lc
  lx := hF.lx
  ne := hF.ne
  low := by
    rw [List.drop_append_of_le_length hF.len]
    intro row hr
    rcases List.mem_append.1 hr with hr | hr
    · exact hF.low row hr
    · simp at hr; subst hr; exact hl
theorem drop_set_ge {L c : Nat} {y : Row} (h : L ≤ c) : (H.set c y).drop L = (H.drop L).set (c - L) y := by
  rw [List.drop_set, if_neg (by omega)]
theorem PF.setc (hF : PF h q m c x w j n H) (w' : Int) : PF h q m c x w' j n (H.set c (.cells [.v (.int .u64 w'), .v (.bool true)])) where
  pre := by rw [List.take_set, List.set_eq_of_length_le (by simp; have := hF.lc; omega)]; exact hF.pre
  hc := get_set hF.hc
  hx := by rw [List.getElem?_set_ne hF.ne]; exact hF.hx
  lc := hF.lc
  lx := hF.lx
  ne := hF.ne
  low := by
    rw [drop_set_ge hF.lc]
    intro row hr
    rcases List.mem_or_eq_of_mem_set hr with hr | rfl
    · exact hF.low row hr
    · rfl
theorem PF.setx (hF : PF h q m c x w j n H) (j' n' : Int) : PF h q m c x w j' n' (H.set x (.cells [.v (.int .i64 j'), .v (.int .i64 n')])) where
  pre := by rw [List.take_set, List.set_eq_of_length_le (by simp; have := hF.lx; omega)]; exact hF.pre
  hc := by rw [List.getElem?_set_ne (Ne.symm hF.ne)]; exact hF.hc
  hx := get_set hF.hx
  lc := hF.lc
  lx := hF.lx
  ne := hF.ne
  low := by
    rw [drop_set_ge hF.lx]
    intro row hr
    rcases List.mem_or_eq_of_mem_set hr with hr | rfl
    · exact hF.low row hr
    · rfl
theorem PF.newx (hF : PF h q m c x w j n H) (j' n' : Int) : PF h q m c H.length w j' n' (H ++ [.cells [.v (.int .i64 j'), .v (.int .i64 n')]]) :=
  have hA := hF.app (row := .cells [.v (.int .i64 j'), .v (.int .i64 n')]) rfl
  { pre := hA.pre, hc := hA.hc, hx := get_app _ _, lc := hF.lc, lx := hF.len, ne := Nat.ne_of_lt (lt_of_get hF.hc), low := hA.low }
theorem PF.setq (hF : PF h q m c x w j n H) (hq : q < h.length) (m' : HM) : PF h q m' c x w j n (H.set q m'.row) where
  pre := by rw [List.take_set, hF.pre, List.set_set]
  hc := by rw [List.getElem?_set_ne (by have := hF.lc; omega)]; exact hF.hc
  hx := by rw [List.getElem?_set_ne (by have := hF.lx; omega)]; exact hF.hx
  lc := hF.lc
  lx := hF.lx
  ne := hF.ne
  low := by rw [List.drop_set_of_lt hq]; exact hF.low
theorem PF.all (hF : PF h q m c x w j n H) (hl : ∀ row ∈ h, Row.low h.length row = true) : ∀ row ∈ H, Row.low H.length row = true := by
  intro row hr
  rw [← List.take_append_drop h.length H] at hr
  rcases List.mem_append.1 hr with hr | hr
  · rw [hF.pre] at hr
    rcases List.mem_or_eq_of_mem_set hr with hr | rfl
    · exact Row.low_mono hF.len (hl row hr)
    · rfl
  · exact Row.low_mono (Nat.zero_le _) (hF.low row hr)
end
theorem l132a (h : List Row) (r q : Nat) (d : D) (y : Row) (hr : h[r]? = some (.cells [d, .mref q])) (hq : h[q]? = some y) (hn : r ≠ q) (hl : ∀ row ∈ h, Row.low h.length row = true)
    {m : HM} {c x : Nat} {w n v : Int} {j : Nat} {H : List Row} (hF : PF h q m c x w j n H) (hj : j ≤ 12) (hn0 : 0 ≤ n) (hn1 : n ≤ 4096)
    (hv : (j = 0 ∧ w = v) ∨ (0 < j ∧ joinO (m.get ((j : Int) - 1, 2 * n)) (m.get ((j : Int) - 1, 2 * n + 1)) = some v)) (Q : AExit → St → Prop)
    (hQ : ∀ e' H', find e' 0 = .ref r 0 → find e' 5 = .ref c 0 → find e' 6 = .ref x 0 → PF h q m c x v j n H' → Q .normal ⟨e', H'⟩) :
    awp Tryz.prog GLx (.seq (.reg c132r3 [0, 5, 6, 20]) (.cond (.t 20 false) (.seq (.reg c132r4 [0, 5, 6, 7, 8]) (.regA c132r5 [0, 5, 6] [[], [], [0, 1], [], [], [0, 1, 2, 3, 4], [0, 1, 2, 3, 4, 5], [0, 1, 2, 3, 4, 5, 6]] (.take 0 (.take 1 (.take 3 (.take 4 (.take 2 (.take 5 (.take 6 (.take 7 .done)))))))))) .skip)) Q
      ⟨[(0, .ref r 0), (5, .ref c 0), (6, .ref x 0)], H⟩ := by
  simp only [awp_seq, awp_reg, awp_cond, c132r3]
  simp [hF.hx]
  rcases hv with ⟨rfl, rfl⟩ | ⟨h0, hv⟩
  · simp [awp_skip]
    exact hQ _ H rfl rfl rfl hF
  · rw [if_pos h0]
    have p1 := (p181 j n ⟨by omega, by omega⟩ ⟨hn0, hn1⟩).fsp
    simp [blkV] at p1
    simp only [c132r4]
    simp [hF.hx]
    refine ⟨_, _, p1 _, ?_⟩
    simp [putL]
    have hF2 := (hF.app (row := .cells [.v (.int .i64 (j - 1)), .v (.int .i64 (2 * n))]) rfl).app (row := .cells [.v (.int .i64 (j - 1)), .v (.int .i64 (2 * n + 1))]) rfl
    simp only [List.append_assoc, List.cons_append, List.nil_append] at hF2
    have g1 := p233 _ r q m (j - 1) (2 * n) d (hF2.gr hr hn) (hF2.gq hq) (hF2.all hl)
    have g2 := p233 _ r q m (j - 1) (2 * n + 1) d (hF2.gr hr hn) (hF2.gq hq) (hF2.all hl)
    have g3 := p182 (m.get (j - 1, 2 * n)) (m.get (j - 1, 2 * n + 1))
    rw [hv] at g3
    have e3 : sumV (some v) = .agg [.int .u64 v, .bool true] := rfl
    rw [e3] at g3
    have hF3 := hF2.setc v
    have hcc := hF2.hc
    generalize sumV (m.get (j - 1, 2 * n)) = s1 at *
    generalize sumV (m.get (j - 1, 2 * n + 1)) = s2 at *
    simp only [blkV] at g1 g2
    rw [awp_regA]
    refine atok_mono _ (fun s hs => ⟨s, .inl rfl, hs⟩) ?_
    simp only [c132r5]
    simp
    refine ⟨_, _, g1, ⟨[], by simp⟩, ?_⟩
    simp
    refine ⟨_, _, g2, ⟨[], by simp⟩, ?_⟩
    simp
    refine ⟨_, _, ⟨rfl, rfl⟩, _, g3, ?_⟩
    simp [hcc, putL]
    exact hQ _ _ rfl rfl rfl hF3
theorem l132b (h : List Row) (r q : Nat) (d : D) (y : Row) (hr : h[r]? = some (.cells [d, .mref q])) (hq : h[q]? = some y) (hn : r ≠ q)
    {m : HM} {c x : Nat} {n v : Int} {j : Nat} {H : List Row} {e : Env} (f0 : find e 0 = .ref r 0) (f5 : find e 5 = .ref c 0) (f6 : find e 6 = .ref x 0) (hF : PF h q m c x v j n H) (Q : AExit → St → Prop)
    (hret : j = 12 → n = 0 → ∀ e2 H2, PF h q (m.set ((j : Int), n) v) c x v j n H2 → Q .ret ⟨e2, H2⟩)
    (hgo : ¬ ((j : Int) = 12 ∧ n = 0) → ∀ e2 H2, find e2 5 = .ref c 0 → find e2 6 = .ref x 0 → find e2 0 = .ref r 0 → PF h q (m.set ((j : Int), n) v) c x v j n H2 → Q .normal ⟨e2, H2⟩) :
    awp Tryz.prog GLx (.seq (.seq (.reg c132r6 [0, 5, 6, 34]) (.cond (.t 34 false) (.regD c132r7 [0, 5, 6] [[], [0], [0, 1], [0, 1, 2], [], [], [5], [0, 1, 2, 3, 4, 5, 6]]) (.regD c132r8 [0, 5, 6] [[], [0], [0, 1], [0, 1, 2], [], [0, 1, 2, 3, 4]])))
      (.seq (.reg c132r9 [0, 5, 6, 49]) (.cond (.t 49 false) .ret .skip))) Q ⟨e, H⟩ := by
  have hmf := mfind_H j n m.E
  have hqq : H[q]? = some (.map (m.E.map entH) m.st m.ck) := hF.gq hq
  have hrr := hF.gr hr hn
  have hc := hF.hc
  have hx := hF.hx
  have hF2 := hF.setq (lt_of_get hq) (m.set ((j : Int), n) v)
  have hx2 := hF2.hx
  have eq2 := eqL2 j n 12 0
  simp only [awp_seq, awp_reg, awp_cond, c132r6]
  simp [f0, f5, f6, hc]
  simp only [awp_regD, c132r7]
  simp [hrr, hc, hx, hqq, hmf, keyOK, V.eqL, V.eq1]
  have fin : ∀ row, row = (m.set ((j : Int), n) v).row → awpOps Tryz.prog GLx c132r9 (fun s' => match (find s'.e 49).copy with
      | .v (.bool t) => if t then awp Tryz.prog GLx .ret Q ⟨[(0, find s'.e 0), (5, find s'.e 5), (6, find s'.e 6), (49, find s'.e 49)], s'.h⟩ else awp Tryz.prog GLx .skip Q ⟨[(0, find s'.e 0), (5, find s'.e 5), (6, find s'.e 6), (49, find s'.e 49)], s'.h⟩
      | _ => False) ⟨[(0, .ref r 0), (5, .ref c 0), (6, .ref x 0)], H.set q row⟩ := by
    rintro row rfl
    simp only [c132r9]
    simp [hx2, eq2]
    by_cases hd : (j : Int) = 12 ∧ n = 0
    · rw [if_pos hd]
      exact hret (by omega) hd.2 _ _ hF2
    · rw [if_neg hd]
      exact hgo hd _ _ rfl rfl rfl hF2
  cases hi : m.E.findIdx? (fun x => x.fst == ((j : Int), n)) with
  | none =>
    simp
    exact fin _ (HM.row_new v hi).symm
  | some i =>
    simp
    exact fin _ (HM.row_old v hi).symm
theorem l132d (h : List Row) (q : Nat) {m : HM} {c x r : Nat} {n v : Int} {j : Nat} {H : List Row} {e : Env} (f0 : find e 0 = .ref r 0) (f5 : find e 5 = .ref c 0) (f6 : find e 6 = .ref x 0) (hF : PF h q m c x v j n H)
    (hn0 : 0 ≤ n) (hn1 : n ≤ 4096) (hj : j ≤ 12) (Q : AExit → St → Prop)
    (hgo : ∀ H2, PF h q m c H.length v ((j + 1 : Nat) : Int) (n / 2) H2 → Q .normal ⟨[(0, .ref r 0), (5, .ref c 0), (6, .ref H.length 0)], H2⟩) :
    awp Tryz.prog GLx (.seq (.seq (.reg c132r10 [0, 5, 50]) (.reg c132r11 [0, 5, 6])) (.reg c132r2 [0, 5, 6])) Q ⟨e, H⟩ := by
  have w1 : IntKind.i64.wrap ((j : Int) + 1) = ((j + 1 : Nat) : Int) := wrap_i64 (by omega) (by omega)
  have w2 : IntKind.i64.wrap (n / 2) = n / 2 := wrap_i64 (by omega) (by omega)
  have hx := hF.hx
  have hF2 := (hF.newx j n).setx ((j + 1 : Nat) : Int) (n / 2)
  have e1 : (H ++ [Row.cells [.v (.int .i64 j), .v (.int .i64 n)]]).set H.length (.cells [.v (.int .i64 ((j + 1 : Nat) : Int)), .v (.int .i64 (n / 2))]) = H ++ [.cells [.v (.int .i64 ((j + 1 : Nat) : Int)), .v (.int .i64 (n / 2))]] := set_new _ _ _
  rw [e1] at hF2
  simp only [awp_seq, awp_reg, c132r10]
  simp [f0, f5, f6, hx]
  simp only [c132r11]
  simp [putL]
  simp only [c132r2]
  simp [putL, w1, Int.tdiv_eq_ediv_of_nonneg hn0, w2]
  exact hgo _ hF2
theorem l132 (h : List Row) (r q : Nat) (d : D) (y : Row) (hr : h[r]? = some (.cells [d, .mref q])) (hq : h[q]? = some y) (hn : r ≠ q) (hl : ∀ row ∈ h, Row.low h.length row = true)
    (n0 v0 : Int) (m0 : HM) (c0 x0 : Nat) (H0 : List Row) (hn0 : 0 ≤ n0) (hn1 : n0 < 4096) (hF0 : PF h q m0 c0 x0 v0 0 n0 H0) :
      awp Tryz.prog GLx (.loop c132l0) (fun e s => e = .ret ∧ s.h.take h.length = h.set q (putF 12 0 n0 v0 m0).row) ⟨[(0, .ref r 0), (5, .ref c0 0), (6, .ref x0 0)], H0⟩ := by
  refine awp_loop_I 12 (fun j s => ∃ (n v w : Int) (m : HM) (c x : Nat), s.e = [(0, .ref r 0), (5, .ref c 0), (6, .ref x 0)] ∧ 0 ≤ n ∧ n < ((2 ^ (12 - j) : Nat) : Int) ∧ PF h q m c x w j n s.h ∧
      ((j = 0 ∧ w = v) ∨ (0 < j ∧ joinO (m.get ((j : Int) - 1, 2 * n)) (m.get ((j : Int) - 1, 2 * n + 1)) = some v)) ∧ putF (12 - j) j n v m = putF 12 0 n0 v0 m0) ⟨n0, v0, v0, m0, c0, x0, rfl, hn0, by simpa using hn1, hF0, .inl ⟨rfl, rfl⟩, rfl⟩ ?_
  rintro j ⟨se, sh⟩ hj ⟨n, v, w, m, c, x, he, b0, b1, hF, hv, hR⟩
  simp only at he hF
  subst he
  have hn2 : n ≤ 4096 := by
    have : 2 ^ (12 - j) ≤ 2 ^ 12 := Nat.pow_le_pow_right (by decide) (by omega)
    have e : 2 ^ 12 = 4096 := by decide
    omega
  rw [← hR]
  simp only [c132l0]
  rw [awp_seq, awp_block, awp_seq]
  refine l132a h r q d y hr hq hn hl hF hj b0 hn2 hv _ ?_
  intro e' H' f0 f5 f6 hF'
  simp only []
  refine l132b h r q d y hr hq hn f0 f5 f6 hF' _ ?_ ?_
  · rintro rfl rfl e2 H2 hF2
    exact ⟨rfl, hF2.pre⟩
  · intro hd e2 H2 g5 g6 g0 hF2
    simp only []
    have hjl : j < 12 := by
      rcases Nat.lt_or_ge j 12 with h | h
      · exact h
      · exfalso
        have : j = 12 := by omega
        subst this
        simp at b1
        exact hd ⟨rfl, by omega⟩
    refine l132d h q g0 g5 g6 hF2 b0 hn2 hj _ ?_
    intro H3 hF3
    obtain ⟨f, hf⟩ : ∃ f, 12 - j = f + 1 := ⟨11 - j, by omega⟩
    have hf2 : 12 - (j + 1) = f := by omega
    rw [hf] at b1 ⊢
    rw [hf2]
    refine ⟨hjl, n / 2, (joinO ((m.set ((j : Int), n) v).get ((j : Int), 2 * (n / 2))) ((m.set ((j : Int), n) v).get ((j : Int), 2 * (n / 2) + 1))).getD 0, v, m.set ((j : Int), n) v, c, H2.length, rfl, by omega, ?_, hF3, .inr ⟨by omega, ?_⟩, ?_⟩
    · rw [Nat.pow_succ] at b1; omega
    · have ej : ((j + 1 : Nat) : Int) - 1 = j := by omega
      rw [ej]
      refine joinO_some ?_
      have h0 : n % 2 = 0 ∨ n % 2 = 1 := by omega
      rcases h0 with h0 | h0
      · exact .inl (by rw [HM.get_set, show 2 * (n / 2) = n by omega]; simp)
      · exact .inr (by rw [HM.get_set, show 2 * (n / 2) + 1 = n by omega]; simp)
    · rfl
theorem p132 (h : List Row) (r q : Nat) (d : D) (y : Row) (hr : h[r]? = some (.cells [d, .mref q])) (m : HM) (hq : h[q]? = some m.row) (hn : r ≠ q) (hl : ∀ row ∈ h, Row.low h.length row = true)
    (k v : Int) (h0 : 0 ≤ k) (h1 : k < 4096) : FSp Tryz.prog GLx 132 [.ref r 0, .v (.int .i64 k), .v (sumV (some v))] h [] (h.set q (putF 12 0 k v m).row) := by
  refine fsp_low k132 rfl (by simp) ?_ (by simp) ?_
  · intro row hrow
    rw [List.length_set]
    rcases List.mem_or_eq_of_mem_set hrow with hr | rfl
    · exact hl row hr
    · rfl
  have hF : PF h q m h.length (h.length + 1) v 0 k (h ++ [.cells [.v (.int .u64 v), .v (.bool true)], .cells [.v (.int .i64 0), .v (.int .i64 k)]]) := by
    refine ⟨?_, by simp, by simp, by omega, by omega, by omega, ?_⟩
    · rw [List.take_append_of_le_length (Nat.le_refl _), List.take_of_length_le (Nat.le_refl _)]
      obtain ⟨g1, g2⟩ := List.getElem?_eq_some_iff.1 hq
      rw [← g2, List.set_getElem_self]
    · simp [Row.low, D.lts, D.lt]
  have hL := l132 h r q d _ hr hq hn hl k v m _ _ _ h0 h1 hF
  simp only [c132, awp_seq, awp_reg, awp_block, c132r0, entryD]
  simp [sumV]
  simp only [c132r1]
  simp [putL]
  refine awp_mono _ ?_ hL
  rintro e s ⟨rfl, hs⟩
  simp [c132R]
  exact ⟨s.h.drop h.length, by rw [← hs, List.take_append_drop]⟩
end Go.Va

namespace Go.Va
open Go.Proofs
structure KM where
  E : List (Int × List Int)
  st : List Nat
  ck : Nat
def entK (x : Int × List Int) : V × V := (.int .i64 x.1, nums .u8 x.2)
def KM.row (m : KM) : Row := .map (m.E.map entK) m.st m.ck
def KM.set (m : KM) (k : Int) (v : List Int) : KM :=
  match m.E.findIdx? fun x => x.1 == k with
  | none => ⟨m.E ++ [(k, v)], m.st ++ [m.ck], m.ck + 1⟩
  | some i => ⟨m.E.set i (k, v), m.st, m.ck⟩
theorem mfind_K (a : Int) : ∀ E : List (Int × List Int), mfind false [0] (.int .i64 a) (E.map entK) = some (E.findIdx? fun x => x.1 == a)
  | [] => rfl
  | x :: E => by
    obtain ⟨c, v⟩ := x
    have hk : keyOK false [0] (.int .i64 c) = true := by simp [keyOK, V.eqL, V.eq1, V.cells]
    simp only [List.map_cons, entK, mfind, hk, if_true, V.cells, V.eqL, V.eq1, Bool.and_true, mfind_K a E, List.findIdx?_cons]
    have e : (c == a) = (a == c) := Bool.eq_iff_iff.2 (by simp only [beq_iff_eq]; exact eq_comm)
    rw [e]
    cases a == c <;> simp
theorem KM.row_new {m : KM} {k : Int} (v : List Int) (h : (m.E.findIdx? fun x => x.1 == k) = none) : (m.set k v).row = .map (m.E.map entK ++ [entK (k, v)]) (m.st ++ [m.ck]) (m.ck + 1) := by
  simp [KM.set, h, KM.row]
theorem KM.row_old {m : KM} {k : Int} {i : Nat} (v : List Int) (h : (m.E.findIdx? fun x => x.1 == k) = some i) : (m.set k v).row = .map ((m.E.map entK).set i (entK (k, v))) m.st m.ck := by
  simp [KM.set, h, KM.row, List.map_set]
theorem p117v (xs : List Int) (hb : xs.length ≤ 2 ^ 45) : PSp Tryz.prog GLx 117 [nums .u8 xs] [nums .u8 xs] := by
  refine psp_of_awp k117 rfl ?_
  have hroom : roomy xs.length 1 = true := by simp [roomy]; omega
  cases xs with
  | nil => simp [c117, awp, c117r0, c117r1, c117r2, c117r3, c117R, entry, nums, roomy]
  | cons x xs => simp [c117, awp, c117r0, c117r1, c117r2, c117r3, c117R, entry, nums] at hroom ⊢; simp [hroom]
theorem p50 (h : List Row) : FSp Tryz.prog GLx 50 [] h [.ref (h.length + 2) 0] (h ++ [KM.row ⟨[], [], 0⟩, HM.row ⟨[], [], 0⟩, .cells [.mref h.length, .mref (h.length + 1)]]) := by
  refine fsp_of_awp k50 rfl ?_
  simp [c50, awp, c50r0, c50r1, c50R, entryD, putL, KM.row, HM.row]
def setE (k : Int) (bs : List Int) : Int := if 0 ≤ k ∧ k ≤ 4095 then (if bs.length > 65536 then 4 else 0) else 5
theorem p52 (h : List Row) (t a q : Nat) (K : KM) (m : HM) (ht : h[t]? = some (.cells [.mref a, .mref q])) (ha : h[a]? = some K.row) (hq : h[q]? = some m.row) (n1 : t ≠ a) (n2 : t ≠ q) (n3 : a ≠ q)
    (hl : ∀ row ∈ h, Row.low h.length row = true) (k : Int) (bs : List Int) (hb : ∀ x ∈ bs, 0 ≤ x ∧ x < 256) (hbl : bs.length ≤ 2 ^ 39) :
    FSp Tryz.prog GLx 52 [.ref t 0, .v (.int .i64 k), .v (nums .u8 bs)] h [.v (.int .i64 (setE k bs))] (if setE k bs = 0 then (h.set a (K.set k bs).row).set q (putF 12 0 k (leafI k bs) m).row else h) := by
  refine fsp_of_awp k52 rfl ?_
  have p1 := (p131 k).fsp
  simp at p1
  by_cases hk : 0 ≤ k ∧ k ≤ 4095
  · have e1 : (decide (0 ≤ k) && decide (k ≤ 4095)) = true := by simpa using hk
    rw [e1] at p1
    by_cases hbb : 65536 < bs.length
    · have hE : setE k bs = 4 := by simp [setE, hk, hbb]
      have hbb' : 65536 < (bs.length : Int) := by omega
      rw [hE, if_neg (by decide)]
      simp only [c52, awp_seq, awp_reg, awp_block, awp_cond, c52r0, c52r1, entryD]
      simp [nums]
      refine ⟨_, _, p1 _, ?_⟩
      simp [awp_seq, awp_reg, awp_cond, c52r3, hbb', awp_ret, c52r4, c52R]
    · have hE : setE k bs = 0 := by simp [setE, hk]; omega
      have hbb' : ¬ 65536 < (bs.length : Int) := by omega
      have p2 := p117v bs (by omega)
      have p3 := (p133 k bs hb hbl).fsp
      simp [nums] at p2 p3
      have hmf := mfind_K k K.E
      have ha' : h[a]? = some (.map (K.E.map entK) K.st K.ck) := ha
      rw [hE, if_pos rfl]
      obtain ⟨HH, hHH⟩ : ∃ HH, (h.set a (K.set k bs).row).set q (putF 12 0 k (leafI k bs) m).row = HH := ⟨_, rfl⟩
      rw [hHH]
      simp only [c52, awp_seq, awp_reg, awp_block, awp_cond, c52r0, c52r1, entryD]
      simp [nums]
      refine ⟨_, _, p1 _, ?_⟩
      simp [awp_seq, awp_reg, awp_cond, c52r3, hbb', awp_skip]
      simp only [awp_regD, c52r5]
      simp [ht]
      refine ⟨_, _, ⟨rfl, rfl⟩, _, p2, ?_⟩
      simp [ha', hmf, keyOK, V.eqL, V.eq1]
      have fin : ∀ row, row = (K.set k bs).row → awpOps Tryz.prog GLx c52r6 (fun s' => awpOps Tryz.prog GLx c52r7 (fun s' => awp Tryz.prog GLx .ret (fun e s => (match e with | .exit _ => False | _ => True) ∧ resDs s c52R = some [.v (.int .i64 0)] ∧ s.h = HH) ⟨[(6, find s'.e 6)], s'.h⟩) ⟨[], s'.h⟩)
          ⟨[(0, .ref t 0), (1, .v (.int .i64 k)), (2, .v (.list (bs.map (V.int .u8))))], h.set a row⟩ := by
        rintro row rfl
        have hl2 : ∀ row ∈ h.set a (K.set k bs).row, Row.low (h.set a (K.set k bs).row).length row = true := by
          intro row hrow
          rw [List.length_set]
          rcases List.mem_or_eq_of_mem_set hrow with hr | rfl
          · exact hl row hr
          · rfl
        have p4 := p132 (h.set a (K.set k bs).row) t q (.mref a) .dead (by rw [List.getElem?_set_ne (Ne.symm n1)]; exact ht) m (by rw [List.getElem?_set_ne n3]; exact hq) n2 hl2 k (leafI k bs) hk.1 (by omega)
        simp only [c52r6]
        simp
        refine ⟨_, _, p3 _, ?_⟩
        simp [putL]
        simp [sumV] at p4
        refine ⟨_, _, p4, ?_⟩
        simp [c52r7, awp_ret, c52R, hHH]
      cases hi : K.E.findIdx? (fun x => x.fst == k) with
      | none =>
        simp
        exact fin _ (KM.row_new bs hi).symm
      | some i =>
        simp
        exact fin _ (KM.row_old bs hi).symm
  · have hE : setE k bs = 5 := by simp [setE, hk]
    have e1 : (decide (0 ≤ k) && decide (k ≤ 4095)) = false := by simpa using hk
    rw [e1] at p1
    rw [hE, if_neg (by decide)]
    simp only [c52, awp_seq, awp_reg, awp_block, awp_cond, c52r0, c52r1, entryD]
    simp [nums]
    refine ⟨_, _, p1 _, ?_⟩
    simp [awp_seq, awp_reg, awp_ret, c52r2, c52R]
end Go.Va

namespace Go.Va
open Go.Proofs
def posP (ps : List (Int × List Int)) (k : Int) : Nat := ps.findIdx fun p => !decide (p.1 < k)
def insP (ps : List (Int × List Int)) (k : Int) (v : List Int) : List (Int × List Int) := ps.take (posP ps k) ++ (k, v) :: ps.drop (posP ps k)
theorem p56 (h : List Row) (r : Nat) (ps : List (Int × List Int)) (hr : h[r]? = some (psR ps)) (hl : ps.length ≤ 2 ^ 30) (k : Int) (v : List Int) (hv : v.length ≤ 2 ^ 39) (hab : ∀ p ∈ ps, p.1 ≠ k) :
    FSp Tryz.prog GLx 56 [.ref r 0, .v (.int .i64 k), .v (nums .u8 v)] h [.v (.int .i64 (setE k v))] (if setE k v = 0 then h.set r (psR (insP ps k v)) else h) := by
  refine fsp_of_awp k56 rfl ?_
  by_cases k0 : k < 0
  · have hE : setE k v = 5 := by simp [setE]; omega
    rw [hE, if_neg (by decide)]
    simp [c56, awp_seq, awp_reg, awp_cond, c56r0, c56r1, c56r2, entryD, k0, nums, awp_ret, c56R]
  by_cases k1 : 4095 < k
  · have hE : setE k v = 5 := by simp [setE]; omega
    rw [hE, if_neg (by decide)]
    simp [c56, awp_seq, awp_reg, awp_cond, c56r0, c56r1, c56r2, entryD, k0, k1, nums, awp_ret, c56R]
  by_cases k2 : 65536 < v.length
  · have hE : setE k v = 4 := by simp [setE, k2]; omega
    have k2' : 65536 < (v.length : Int) := by omega
    rw [hE, if_neg (by decide)]
    simp [c56, awp_seq, awp_reg, awp_cond, c56r0, c56r1, c56r3, c56r4, entryD, k0, k1, k2', nums, awp_skip, awp_ret, c56R]
  have hE : setE k v = 0 := by simp [setE]; omega
  have k2' : ¬ 65536 < (v.length : Int) := by omega
  rw [hE, if_pos rfl]
  have hT : posP ps k ≤ ps.length := List.findIdx_le_length
  have hins : insP ps k v = ps.take (posP ps k) ++ (k, v) :: ps.drop (posP ps k) := rfl
  have room : ∀ (m s : Nat), m ≤ 2 ^ 41 → s ≤ 32 → roomy m s = true := by
    intro m s hm hs
    have : m * s ≤ 2 ^ 41 * 32 := Nat.mul_le_mul hm hs
    simp [roomy]; omega
  have hw : ∀ i : Nat, i ≤ ps.length → IntKind.i64.wrap ((i : Int) + 1) = i + 1 := fun i hi => wrap_i64 (by omega) (by omega)
  obtain ⟨HH, hHH⟩ : ∃ HH, h.set r (psR (insP ps k v)) = HH := ⟨_, rfl⟩
  rw [hHH]
  simp only [c56, awp_seq, awp_reg, awp_block, awp_cond, c56r0, c56r1, c56r3, c56r5, c56r6, entryD]
  simp [k0, k1, k2', nums, awp_skip]
  refine awp_loop_nat0 (posP ps k) (fun i => ⟨[(0, .ref r 0), (1, .v (.int .i64 k)), (2, .v (nums .u8 v)), (7, .own 200 2 ((ps.take i).map prV)), (8, .v (.int .i64 i))], h⟩) (by simp [nums]) ?_
  intro i hi
  simp only [c56l0, awp_seq, awp_reg, awp_block, awp_cond, c56r7]
  simp [hr, psR]
  by_cases hlt : i < posP ps k
  · have hil : i < ps.length := by omega
    obtain ⟨p, hp⟩ : ∃ p, ps[i]? = some p := ⟨_, List.getElem?_eq_getElem hil⟩
    have hpe : ps[i] = p := (List.getElem?_eq_some_iff.1 hp).2
    have hnot := List.not_of_lt_findIdx hlt
    have hpk : p.1 < k := by rw [← hpe]; simpa using hnot
    have htk : ps.take (i + 1) = ps.take i ++ [p] := by rw [List.take_succ_eq_append_getElem hil, hpe]
    have hil' : (i : Int) < ps.length := by omega
    have hpk' : ps[i].1 < k := by rw [hpe]; exact hpk
    simp [hil, hp, prV, hpk', awp_skip, awp_reg, c56r8, hr, psR]
    rw [room _ _ (by simp; omega) (by omega)]
    simp [c56r9, hw i (by omega), hlt]
    rw [List.take_succ_eq_append_getElem (by simpa using hil)]
    simp [prV]
  · have hi2 : i = posP ps k := by omega
    have hstop : ∀ p, ps[i]? = some p → ¬ p.1 < k := by
      intro p hp
      have hil := (List.getElem?_eq_some_iff.1 hp).1
      have e : ps.findIdx (fun p => !decide (p.1 < k)) = i := hi2.symm
      have := List.findIdx_getElem (p := fun p : Int × List Int => !decide (p.1 < k)) (xs := ps) (w := by rw [e]; exact hil)
      simp only [e] at this
      rw [(List.getElem?_eq_some_iff.1 hp).2] at this
      simpa using this
    have hmapd : ps.map prV = (ps.take i).map prV ++ (ps.drop i).map prV := by rw [← List.map_append, List.take_append_drop]
    have hres : (insP ps k v).map prV = (ps.take i).map prV ++ (V.agg [.int .i64 k, nums .u8 v] :: (ps.drop i).map prV) := by rw [hins, ← hi2]; simp [prV]
    have hho : headOK 2 ((ps.map prV).drop i) = true := by
      cases hd : (ps.map prV).drop i with
      | nil => rfl
      | cons x xs =>
        have : x ∈ ps.map prV := List.mem_of_mem_drop (by rw [hd]; simp)
        obtain ⟨p, _, rfl⟩ := List.mem_map.1 this
        rfl
    have hho0 : headOK 2 (ps.map prV) = true := by cases ps <;> rfl
    have tkl : (ps.map prV).take ps.length = ps.map prV := List.take_of_length_le (by simp)
    have rm1 : roomy v.length 1 = true := by simp [roomy]; omega
    have rm2 : roomy (min i ps.length + 1) 32 = true := room _ _ (by omega) (by omega)
    have rm3 : roomy (min i ps.length + 1 + (ps.length - i)) 32 = true := room _ _ (by omega) (by omega)
    have hile : i ≤ ps.length := by omega
    have rm4 : roomy (i + 1 + (ps.length - i)) 32 = true := room _ _ (by omega) (by omega)
    have hend : h.set r (.cells [.own 200 2 ((ps.map prV).take i ++ V.agg [.int .i64 k, .list (v.map (V.int .u8))] :: (ps.map prV).drop i)]) = HH := by
      rw [← hHH, psR, hres, List.map_take, List.map_drop]; rfl
    by_cases hil : i < ps.length
    · obtain ⟨p, hp⟩ : ∃ p, ps[i]? = some p := ⟨_, List.getElem?_eq_getElem hil⟩
      have hpe : ps[i] = p := (List.getElem?_eq_some_iff.1 hp).2
      have s1 : ¬ ps[i].1 < k := by rw [hpe]; exact hstop p hp
      have s2 : ¬ ps[i].1 = k := by rw [hpe]; exact hab p (List.mem_of_getElem? hp)
      simp [hil, prV, s1, awp_exit, awp_reg, c56r10, c56r11, nums, rm1, putL, rm2]
      simp [c56r12, hr, psR, hil, prV, s2, awp_skip]
      simp [c56r14, hr, psR, hho, hho0, hile, tkl, rm3, rm4, c56r15, awp_ret, c56R, hend]
    · simp [hil, awp_exit, awp_reg, c56r10, c56r11, nums, rm1, putL, rm2]
      simp [c56r12, hr, psR, hil, awp_skip]
      simp [c56r14, hr, psR, hho, hho0, hile, tkl, rm3, rm4, c56r15, awp_ret, c56R, hend]
      omega
end Go.Va

namespace Go.Va
open Go.Proofs
theorem lfP_some (ps : List (Int × List Int)) (k : Int) : (lfP ps k).isSome = true ↔ ∃ p ∈ ps, p.1 = k := by
  simp only [lfP, Option.isSome_map, List.find?_isSome]
  constructor
  · rintro ⟨p, h1, h2⟩; exact ⟨p, h1, by simpa using h2⟩
  · rintro ⟨p, h1, h2⟩; exact ⟨p, h1, by simpa using h2⟩
theorem any_lfP (ps : List (Int × List Int)) (a s : Int) : (ps.any fun p => decide (a ≤ p.1 ∧ p.1 < a + s)) = true ↔ ∃ k, a ≤ k ∧ k < a + s ∧ (lfP ps k).isSome = true := by
  rw [List.any_eq_true]
  constructor
  · rintro ⟨p, h1, h2⟩
    simp at h2
    exact ⟨p.1, h2.1, h2.2, (lfP_some ps _).2 ⟨p, h1, rfl⟩⟩
  · rintro ⟨k, h1, h2, h3⟩
    obtain ⟨p, hp, rfl⟩ := (lfP_some ps _).1 h3
    exact ⟨p, hp, by simpa using ⟨h1, h2⟩⟩
theorem joinO_val {a b : Option Int} {v : Int} (h : joinO a b = some v) : v = sumI [98, 108, 111, 99, 107] [IntKind.i64.wrap (a.getD 0), IntKind.i64.wrap (b.getD 0)] := by
  cases a <;> cases b <;> simp_all [joinO]
theorem p58 (h : List Row) (r : Nat) (ps : List (Int × List Int)) (hr : h[r]? = some (psR ps)) (hl : ps.length ≤ 2 ^ 40) (hok : ∀ p ∈ ps, prOK p) : ∀ (l : Nat) (n : Int), l ≤ 12 → 0 ≤ n → (n + 1) * 2 ^ l ≤ 4096 →
    FSp Tryz.prog GLx 58 [.ref r 0, .v (.int .i64 (n * 2 ^ l)), .v (.int .i64 (2 ^ l))] h [.v (.int .u64 ((bH (lfP ps) l n).getD 0)), .v (.bool (bH (lfP ps) l n).isSome)] h
  | 0, n, _, h0, h1 => by
    have := p58z h r ps hr hl hok n ⟨h0, by simp at h1; omega⟩
    simpa [bH] using this
  | l + 1, n, hl12, h0, h1 => by
    refine fsp_of_awp k58 rfl ?_
    have hp : (1 : Int) ≤ 2 ^ l := Int.pow_pos (by decide)
    have e0 : (2 : Int) ^ (l + 1) = 2 * 2 ^ l := by rw [Int.pow_succ, Int.mul_comm]
    have e1 : n * 2 ^ (l + 1) = 2 * n * 2 ^ l := by rw [e0, ← Int.mul_assoc, Int.mul_comm n 2]
    have e2 : (n + 1) * 2 ^ (l + 1) = (2 * n + 1 + 1) * 2 ^ l := by rw [e0, ← Int.mul_assoc]; congr 1; omega
    rw [e2] at h1
    have e3 : (2 * n + 1) * (2 : Int) ^ l = 2 * n * 2 ^ l + 2 ^ l := by rw [Int.add_mul, Int.one_mul]
    have e4 : (2 * n + 1 + 1) * (2 : Int) ^ l = 2 * n * 2 ^ l + 2 ^ l + 2 ^ l := by rw [Int.add_mul, e3, Int.one_mul]
    have hn0 : 0 ≤ 2 * n * (2 : Int) ^ l := Int.mul_nonneg (by omega) (by omega)
    have q1 := p58 h r ps hr hl hok l (2 * n) (by omega) (by omega) (by omega)
    have q2 := p58 h r ps hr hl hok l (2 * n + 1) (by omega) (by omega) (by omega)
    have hB := bH_some (lfP ps) (l + 1) n
    have hA := any_lfP ps (n * 2 ^ (l + 1)) (2 ^ (l + 1))
    have e5 : n * 2 ^ (l + 1) + 2 ^ (l + 1) = (n + 1) * 2 ^ (l + 1) := by rw [Int.add_mul, Int.one_mul]
    rw [e5, ← hB] at hA
    have hL := l58 h r ps hr hl (n * 2 ^ (l + 1)) (2 ^ (l + 1)) ⟨by omega, by omega⟩ ⟨by omega, by omega⟩
    have hj : bH (lfP ps) (l + 1) n = joinO (bH (lfP ps) l (2 * n)) (bH (lfP ps) l (2 * n + 1)) := rfl
    have hany : (ps.any fun p => decide (n * 2 ^ (l + 1) ≤ p.1 ∧ p.1 < n * 2 ^ (l + 1) + 2 ^ (l + 1))) = (bH (lfP ps) (l + 1) n).isSome := by
      rw [Bool.eq_iff_iff, e5]; exact hA
    rw [hany] at hL
    have hv := fun v => joinO_val (a := bH (lfP ps) l (2 * n)) (b := bH (lfP ps) l (2 * n + 1)) (v := v)
    rw [← hj] at hv
    rw [e1] at hL ⊢
    rw [e3] at q2
    rw [e0] at hL ⊢
    generalize bH (lfP ps) (l + 1) n = R at *
    generalize bH (lfP ps) l (2 * n) = A at *
    generalize bH (lfP ps) l (2 * n + 1) = B at *
    generalize 2 * n * (2 : Int) ^ l = a at *
    generalize (2 : Int) ^ l = p at *
    simp only [c58, awp_seq, awp_reg, awp_block, c58r0, c58r1, c58r2, entryD]
    simp
    refine awp_mono _ ?_ hL
    rintro e ⟨se, sh⟩ ⟨rfl, f0, f1, f2, f8, rfl⟩
    simp only [awp_cond, c58r10]
    simp [f0, f1, f2, f8]
    cases R with
    | none => simp [awp_seq, awp_reg, awp_ret, c58r11, c58R]
    | some v =>
      have w1 : IntKind.i64.wrap p = p := wrap_i64 (by omega) (by omega)
      have w2 : IntKind.i64.wrap (a + p) = a + p := wrap_i64 (by omega) (by omega)
      have d1 : (2 * p).tdiv 2 = p := by rw [Int.tdiv_eq_ediv_of_nonneg (by omega)]; omega
      have g3 := (p84 ⟨#[98, 108, 111, 99, 107]⟩ [IntKind.i64.wrap (A.getD 0), IntKind.i64.wrap (B.getD 0)] (by decide) (by simp)).fsp
      have eb : bytesI ⟨#[98, 108, 111, 99, 107]⟩ = [98, 108, 111, 99, 107] := by simp [bytesI]
      rw [eb, ← hv v rfl] at g3
      simp [nums] at g3
      simp [awp_skip, awp_reg, c58r12, f0, f1, f2, d1, w1]
      refine ⟨_, _, q1, ?_⟩
      simp [c58r13, d1, w1, w2]
      refine ⟨_, _, q2, ?_⟩
      simp [c58r14]
      refine ⟨_, _, g3 _, ?_⟩
      simp [awp_ret, c58R]
theorem p18 (h : List Row) (r : Nat) (ps : List (Int × List Int)) (hr : h[r]? = some (psR ps)) (hl : ps.length ≤ 2 ^ 40) (hok : ∀ p ∈ ps, prOK p) :
    FSp Tryz.prog GLx 18 [.ref r 0] h [.v (.int .u64 ((bH (lfP ps) 12 0).getD 0))] h := by
  refine fsp_of_awp k18 rfl ?_
  have q := p58 h r ps hr hl hok 12 0 (by omega) (by omega) (by decide)
  have e : (2 : Int) ^ 12 = 4096 := by decide
  rw [e] at q
  simp at q
  simp only [c18, awp_seq, awp_reg, c18r0, c18r1, entryD]
  simp
  refine ⟨_, _, q, ?_⟩
  simp [c18r2, awp_ret, c18R]
end Go.Va

namespace Go.Va
open Go.Proofs
def prOf (r : Rgt) : Int × List Int := (r.file, encR r)
def kmL (l : List Rgt) : KM := l.foldl (fun K r => K.set r.file (encR r)) ⟨[], [], 0⟩
def hmL (l : List Rgt) : HM := l.foldl (fun m r => putF 12 0 r.file (leafI r.file (encR r)) m) ⟨[], [], 0⟩
def newE (l : List Rgt) (k : Nat) : Int :=
  match l[k]? with
  | none => 0
  | some r => if formedR r then (if (l.take k).any (fun q => q.file == r.file) then 8 else setE r.file (encR r)) else 1
theorem newE_at {l : List Rgt} {k : Nat} {r : Rgt} (h : l[k]? = some r) : newE l k = if formedR r then (if (l.take k).any (fun q => q.file == r.file) then 8 else setE r.file (encR r)) else 1 := by simp [newE, h]
theorem newE_ok {l : List Rgt} {k : Nat} {r : Rgt} (h : l[k]? = some r) (h0 : newE l k = 0) : formedR r = true ∧ (l.take k).any (fun q => q.file == r.file) = false ∧ setE r.file (encR r) = 0 := by
  rw [newE_at h] at h0
  cases hf : formedR r with
  | false => rw [hf] at h0; simp at h0
  | true =>
    cases ha : (l.take k).any (fun q => q.file == r.file) with
    | true => rw [hf, ha] at h0; simp at h0
    | false => rw [hf, ha] at h0; simp at h0; exact ⟨rfl, rfl, h0⟩
theorem take_snoc {α : Type} {l : List α} {k : Nat} {x : α} (h : l[k]? = some x) : l.take (k + 1) = l.take k ++ [x] := by rw [List.take_add_one, h]; rfl
theorem kmL_snoc (l : List Rgt) (r : Rgt) : kmL (l ++ [r]) = (kmL l).set r.file (encR r) := by simp [kmL]
theorem hmL_snoc (l : List Rgt) (r : Rgt) : hmL (l ++ [r]) = putF 12 0 r.file (leafI r.file (encR r)) (hmL l) := by simp [hmL]
theorem any_find (l : List Rgt) (k : Int) : (l.map prOf).findIdx? (fun x => x.1 == k) = none ↔ l.any (fun q => q.file == k) = false := by
  rw [List.findIdx?_eq_none_iff, List.any_eq_false]
  simp [prOf]
theorem kmL_E {l : List Rgt} : ∀ k ≤ l.length, (∀ j < k, newE l j = 0) → (kmL (l.take k)).E = (l.take k).map prOf
  | 0, _, _ => by simp [kmL]
  | k + 1, hk, h => by
    obtain ⟨r, hr⟩ : ∃ r, l[k]? = some r := ⟨_, List.getElem?_eq_getElem (by omega)⟩
    have ih := kmL_E k (by omega) fun j hj => h j (by omega)
    obtain ⟨h1, h2, h3⟩ := newE_ok hr (h k (by omega))
    rw [take_snoc hr, kmL_snoc, KM.set, ih, (any_find _ _).2 h2]
    simp [prOf]
theorem lfP_snoc (ps : List (Int × List Int)) (k : Int) (v : List Int) (h : ps.findIdx? (fun x => x.1 == k) = none) : lfP (ps ++ [(k, v)]) = upd (lfP ps) k (leafI k v) := by
  funext x
  rw [List.findIdx?_eq_none_iff] at h
  simp only [lfP, upd, List.find?_append]
  by_cases hx : x = k
  · subst hx
    have : ps.find? (fun p => p.1 == x) = none := List.find?_eq_none.2 fun p hp => by have := h p hp; simpa using this
    simp [this]
  · have : ([(k, v)] : List (Int × List Int)).find? (fun p => p.1 == x) = none := by simp; exact fun e => hx e.symm
    rw [this, if_neg hx, Option.or_none]
theorem hmL_inv {l : List Rgt} : ∀ k ≤ l.length, (∀ j < k, newE l j = 0) → MapInv (lfP ((l.take k).map prOf)) (hmL (l.take k))
  | 0, _, _ => by
    intro a ha n
    have e : lfP ((l.take 0).map prOf) = fun _ => none := by funext x; simp [lfP]
    rw [e]
    have hb : ∀ a : Nat, ∀ n : Int, bH (fun _ => none) a n = none := by
      intro a n
      cases hb : bH (fun _ => none) a n with
      | none => rfl
      | some v =>
        obtain ⟨k, _, _, h3⟩ := (bH_some (fun _ => none) a n).1 (by rw [hb]; rfl)
        simp at h3
    rw [hb]
    simp [hmL, HM.get, hget]
  | k + 1, hk, h => by
    obtain ⟨r, hr⟩ : ∃ r, l[k]? = some r := ⟨_, List.getElem?_eq_getElem (by omega)⟩
    have ih := hmL_inv k (by omega) fun j hj => h j (by omega)
    obtain ⟨h1, h2, h3⟩ := newE_ok hr (h k (by omega))
    rw [take_snoc hr, hmL_snoc, List.map_append, List.map_singleton]
    have : prOf r = (r.file, encR r) := rfl
    rw [this, lfP_snoc _ _ _ ((any_find _ _).2 h2)]
    exact put_inv ih r.file (leafI r.file (encR r))
theorem p17 (h : List Row) (x t q : Nat) (d d2 d3 : D) (m : HM) (hx : h[x]? = some (.cells [d, d2, .ref t 0])) (ht : h[t]? = some (.cells [d3, .mref q])) (hq : h[q]? = some m.row) :
    FSp Tryz.prog GLx 17 [.ref x 0] h [.v (.int .u64 ((m.get (12, 0)).getD 0))] h := by
  refine fsp_of_awp k17 rfl ?_
  have p1 := p57 h t q m d3 ht hq
  simp only [c17, awp_seq, awp_reg, c17r0, c17r1, entryD]
  simp [hx]
  refine ⟨_, _, p1, ?_⟩
  simp [awp_ret, c17R]
theorem p19 (h : List Row) (x q : Nat) (d d3 : D) (K : KM) (hx : h[x]? = some (.cells [d, .mref q, d3])) (hq : h[q]? = some K.row) :
    FSp Tryz.prog GLx 19 [.ref x 0] h [.v (.int .i64 K.E.length)] h := by
  refine fsp_of_awp k19 rfl ?_
  simp only [c19, awp_seq, awp_reg, c19r0, c19r1, entryD]
  have hq' : h[q]? = some (.map (K.E.map entK) K.st K.ck) := hq
  simp [hx, hq', awp_ret, c19R]
theorem p13n (h : List Row) (v : V) : FSp Tryz.prog GLx 13 [.v .nilp, .v v] h [.v .nilp, .v (.int .i64 1)] h := by
  refine fsp_of_awp k13 rfl ?_
  simp only [c13, awp_seq, awp_reg, awp_cond, c13r0, c13r1, entryD]
  simp [awp_seq, awp_reg, awp_ret, c13r2, c13R]
end Go.Va

namespace Go.Va
open Go.Proofs
def rowsN (d : D) (n : Nat) (l : List Rgt) : List Row := [(kmL l).row, (kmL l).row, (hmL l).row, .cells [.mref (n + 1), .mref (n + 2)], .cells [d, .mref n, .ref (n + 3) 0]]
def PN (h : List Row) (d : D) (l : List Rgt) (H : List Row) : Prop := ∃ J, H = h ++ (rowsN d h.length l ++ J) ∧ ∀ row ∈ J, ∀ n, row.low n = true
theorem rgt_low (r : Rgt) (n : Nat) : r.row.low n = true := by simp [Rgt.row, Rgt.cs, Row.low, D.lts, D.lt]
theorem PN.low {h H : List Row} {d : D} {l : List Rgt} (hp : PN h d l H) (hd : D.lt h.length d = true) (hl : ∀ row ∈ h, row.low h.length = true) : ∀ row ∈ H, row.low H.length = true := by
  obtain ⟨J, rfl, hJ⟩ := hp
  have hlen : h.length + 5 ≤ (h ++ (rowsN d h.length l ++ J)).length := by simp [rowsN]
  intro row hrow
  rcases List.mem_append.1 hrow with hrow | hrow
  · exact Row.low_mono (by omega) (hl row hrow)
  rcases List.mem_append.1 hrow with hrow | hrow
  · refine Row.low_mono hlen ?_
    simp only [rowsN, List.mem_cons, List.not_mem_nil, or_false] at hrow
    rcases hrow with rfl | rfl | rfl | rfl | rfl
    · rfl
    · rfl
    · rfl
    · simp [Row.low, D.lts, D.lt]
    · simp [Row.low, D.lts, D.lt]
      exact dlt_mono (by omega) d hd
  · exact hJ row hrow _
theorem PN.get {h H : List Row} {d : D} {l : List Rgt} (hp : PN h d l H) : H[h.length]? = some (kmL l).row ∧ H[h.length + 1]? = some (kmL l).row ∧ H[h.length + 2]? = some (hmL l).row ∧
    H[h.length + 3]? = some (.cells [.mref (h.length + 1), .mref (h.length + 2)]) ∧ H[h.length + 4]? = some (.cells [d, .mref h.length, .ref (h.length + 3) 0]) := by
  obtain ⟨J, rfl, hJ⟩ := hp
  simp [rowsN]
theorem PN.app {h H : List Row} {d : D} {l : List Rgt} (hp : PN h d l H) (r : Rgt) : PN h d l (H ++ [r.row]) := by
  obtain ⟨J, rfl, hJ⟩ := hp
  refine ⟨J ++ [r.row], by simp, fun row hrow n => ?_⟩
  rcases List.mem_append.1 hrow with hrow | hrow
  · exact hJ row hrow n
  · simp only [List.mem_singleton] at hrow
    subst hrow
    exact rgt_low r n
theorem PN.set {h H : List Row} {d : D} {l : List Rgt} (hp : PN h d l H) (r : Rgt) :
    PN h d (l ++ [r]) (((H.set (h.length + 1) ((kmL l).set r.file (encR r)).row).set (h.length + 2) (putF 12 0 r.file (leafI r.file (encR r)) (hmL l)).row).set h.length ((kmL l).set r.file (encR r)).row) := by
  obtain ⟨J, rfl, hJ⟩ := hp
  refine ⟨J, ?_, hJ⟩
  have e : ∀ (i : Nat) (x : Row) (t : List Row), (h ++ t).set (h.length + i) x = h ++ t.set i x := by
    intro i x t
    rw [List.set_append_right _ _ (by omega), Nat.add_sub_cancel_left]
  have e0 := fun x t => e 0 x t
  simp only [Nat.add_zero] at e0
  rw [e, e, e0]
  simp [rowsN, kmL_snoc, hmL_snoc]
def c13A : AC := (.seq (.reg c13r8 [6, 8, 9, 10, 21, 22, 23, 33]) (.cond (.t 33 false) (.seq (.reg c13r9 [4, 5]) .ret) .skip))
def c13B : AC := (.seq (.regD c13r10 [6, 8, 9, 12, 21, 22, 23] [[], [0], [0, 1], [0, 1, 2], [], [4], [0, 1, 2, 3, 4, 5], [0, 1, 2, 3, 4, 5, 6], [0, 1, 2, 3, 4, 5, 6, 7], [0, 1, 2, 3, 4, 5, 6, 7], [0, 1, 2, 3, 4, 5, 6, 7, 8], [0, 1, 2, 3, 4, 5, 6, 7, 8, 9, 10]]) (.seq (.reg c13r11 [6, 8, 9, 21, 22, 23, 45]) (.cond (.t 45 false) (.seq (.reg c13r12 [4, 5]) .ret) .skip)))
def c13C : AC := (.seq (.regD c13r13 [6, 8, 9, 13, 21, 22, 23] [[], [0], [0, 1], [0, 1, 2], [], [4], [], [0, 1, 2, 3, 4, 5, 6], [0, 1, 2, 3, 4, 5, 6, 7]]) (.seq (.reg c13r14 [6, 8, 9, 13, 21, 22, 23, 55]) (.cond (.t 55 false) (.seq (.reg c13r15 [4, 5]) .ret) .skip)))
def c13D : AC := (.regD c13r16 [6, 21, 22, 23] [[], [0], [0, 1], [0, 1, 2], [], [4], [], [0, 1, 2, 3, 4, 5, 6]])
def c13b : AC := (.seq (.reg c13r6 [6, 8, 21, 22, 23]) (.seq (.reg c13r7 [6, 8, 9, 10, 21, 22, 23]) (.seq c13A (.seq c13B (.seq c13C c13D)))))
theorem c13l0_eq : c13l0 = (.seq (.reg c13r5 [6, 21, 22, 23, 24]) (.seq (.cond (.t 24 false) .skip (.exit 0)) (.seq (.block 1 c13b) (.reg c13r17 [6, 21, 22, 23])))) := rfl
set_option maxRecDepth 100000 in
theorem b13 (h : List Row) (d : D) (hd : D.lt h.length d = true) (hl : ∀ row ∈ h, row.low h.length = true) (l : List Rgt) (k : Nat) (r : Rgt) (hr : r.ok) (hlen : (encR r).length ≤ 2 ^ 39) (hB : ∀ x ∈ encR r, 0 ≤ x ∧ x < 256) (hxk : l[k]? = some r) (hk : k ≤ l.length)
    (hE : ∀ j < k, newE l j = 0) (H : List Row) (hp : PN h d (l.take k) H) (d22 : D) (K : AExit → St → Prop)
    (hret : newE l k ≠ 0 → ∀ e H', find e 4 = .v .nilp → find e 5 = .v (.int .i64 (newE l k)) → (∃ J, H' = h ++ J) → K .ret ⟨e, H'⟩)
    (hok : newE l k = 0 → ∀ e H', find e 6 = .ref (h.length + 4) 0 → find e 21 = .v (.list (l.map Rgt.V)) → find e 22 = d22 → find e 23 = .v (.int .i64 k) → PN h d (l.take (k + 1)) H' → K .normal ⟨e, H'⟩) :
    ∀ e, find e 6 = .ref (h.length + 4) 0 → find e 21 = .v (.list (l.map Rgt.V)) → find e 22 = d22 → find e 23 = .v (.int .i64 k) → awp Tryz.prog GLx c13b K ⟨e, H⟩ := by
  intro e f6 f21 f22 f23
  have p1 := (p51 r hr).fsp
  have hne := newE_at hxk
  have hpr := hp.app r
  have hrow : H ++ [.cells (r.cs.map D.v)] = H ++ [r.row] := rfl
  simp [Rgt.V, Rgt.cs, nums] at p1 hrow
  unfold c13b
  simp only [awp_seq, awp_reg, c13r6]
  simp [f6, f21, f22, f23, hxk, Rgt.V, Rgt.cs, putL, nums]
  rw [hrow]
  have g8 : (H ++ [r.row])[H.length]? = some r.row := by simp
  have hT : h.length + 5 ≤ H.length := by obtain ⟨J, rfl, -⟩ := hp; simp [rowsN]
  generalize H.length = T at *
  generalize H ++ [r.row] = H1 at *
  have hJ : ∃ J, H1 = h ++ J := by obtain ⟨J, hJ, -⟩ := hpr; exact ⟨_, hJ⟩
  obtain ⟨g0, g1, g2, g3, g4⟩ := hpr.get
  simp [c13r7, g8, Rgt.row, Rgt.cs, nums]
  refine ⟨_, _, p1 _, ?_⟩
  cases hf : formedR r with
  | false =>
    rw [hf] at hne
    simp at hne
    simp [c13A, awp_seq, awp_reg, awp_cond, c13r8, c13r9, awp_ret]
    exact hret (by rw [hne]; decide) _ _ (by simp) (by simp [hne]) hJ
  | true =>
    rw [hf] at hne
    simp at hne
    have hmf := mfind_K r.file (kmL (l.take k)).E
    have hKE := kmL_E k hk hE
    have g0' : H1[h.length]? = some (.map ((kmL (l.take k)).E.map entK) (kmL (l.take k)).st (kmL (l.take k)).ck) := g0
    simp [c13A, awp_seq, awp_reg, awp_cond, c13r8, awp_skip]
    simp only [c13B, awp_seq, awp_regD, awp_reg, awp_cond, c13r10]
    simp [f6, f21, f22, f23, g4, g8, Rgt.row, Rgt.cs, g0', hmf, keyOK, V.eqL, V.eq1]
    cases hi : (kmL (l.take k)).E.findIdx? (fun x => x.1 == r.file) with
    | some i =>
      have hil : i < (kmL (l.take k)).E.length := (List.findIdx?_eq_some_iff_getElem.1 hi).1
      have hany : (l.take k).any (fun q => q.file == r.file) = true := by
        cases ha : (l.take k).any (fun q => q.file == r.file) with
        | true => rfl
        | false =>
          rw [← any_find, ← hKE, hi] at ha
          cases ha
      simp only [List.any_eq_true, beq_iff_eq] at hany
      rw [if_pos hany] at hne
      simp [List.getElem?_eq_getElem hil, lookD, awp_reg, c13r11, awp_seq, awp_cond, c13r12, awp_ret]
      exact hret (by rw [hne]; decide) _ _ (by simp) (by simp [hne]) hJ
    | none =>
      have hnone := hi
      rw [hKE, any_find] at hnone
      have hnany : ¬ ∃ x, x ∈ l.take k ∧ x.file = r.file := by
        rintro ⟨x, hx, hxf⟩
        rw [List.any_eq_false] at hnone
        exact hnone x hx (by simpa using hxf)
      rw [if_neg hnany] at hne
      simp [lookD, awp_reg, c13r11, awp_skip]
      simp only [c13C, awp_seq, awp_regD, awp_reg, awp_cond, c13r13]
      simp [f6, f21, f22, f23, g4, g8, Rgt.row, Rgt.cs]
      have p2 := p52 H1 (h.length + 3) (h.length + 1) (h.length + 2) _ _ g3 g1 g2 (by omega) (by omega) (by omega) (hpr.low hd hl) r.file (encR r) hB hlen
      simp [nums] at p2
      by_cases hz : setE r.file (encR r) = 0
      · rw [hz] at hne p2
        rw [if_pos rfl] at p2
        have hset := hpr.set r
        obtain ⟨H2, hH2⟩ : ∃ H2, (H1.set (h.length + 1) ((kmL (l.take k)).set r.file (encR r)).row).set (h.length + 2) (putF 12 0 r.file (leafI r.file (encR r)) (hmL (l.take k))).row = H2 := ⟨_, rfl⟩
        rw [hH2] at p2 hset
        have e4 : H2[h.length + 4]? = some (.cells [d, .mref h.length, .ref (h.length + 3) 0]) := by rw [← hH2, List.getElem?_set_ne (by omega), List.getElem?_set_ne (by omega)]; exact g4
        have e0 : H2[h.length]? = some (.map ((kmL (l.take k)).E.map entK) (kmL (l.take k)).st (kmL (l.take k)).ck) := by rw [← hH2, List.getElem?_set_ne (by omega), List.getElem?_set_ne (by omega)]; exact g0'
        have e8 : H2[T]? = some r.row := by rw [← hH2, List.getElem?_set_ne (by omega), List.getElem?_set_ne (by omega)]; exact g8
        refine ⟨_, _, p2, ?_⟩
        simp [c13r14, awp_skip, c13D, awp_regD, c13r16]
        simp [e4, e8, e0, Rgt.row, Rgt.cs, hmf, hi, keyOK, V.eqL, V.eq1]
        refine hok (by rw [hne]) _ _ (by simp) (by simp) (by simp) (by simp) ?_
        rw [take_snoc hxk]
        have hrn := KM.row_new (encR r) hi
        simp [nums, entK] at hrn
        simpa [hrn] using hset
      · rw [if_neg hz] at p2
        refine ⟨_, _, p2, ?_⟩
        simp [hz, c13r14, awp_seq, awp_reg, awp_cond, c13r15, awp_ret]
        exact hret (by rw [hne]; exact hz) _ _ (by simp) (by simp [hne]) hJ
end Go.Va

namespace Go.Va
open Go.Proofs
theorem encR_le {m : Nat} {r : Rgt} (h : r.tiny m) (hm : m ≤ 2 ^ 20) : (encR r).length ≤ 2 ^ 39 := by
  have h1 := h.lc; have h2 := h.ld; have h3 := h.lb; have h4 := h.lo; have h5 := h.ll
  have e0 := encClms_le h.claims
  have e1 := encI_len r.file; have e2 := encI_len r.state; have e3 := encI_len r.force
  have e4 := uvar_len (encClms r.claims).length
  have e5 := encI_len r.dates.length
  have e6 := flat40 encDat_len r.dates
  have e7 := encInts_le r.bad
  have e8 := encI_len r.owners.length
  have e9 := flat40 encOwn_len r.owners
  have e10 := encI_len r.lics.length
  have e11 := flat40 encLic_len r.lics
  simp only [encR, encRaw, List.length_append]
  omega
theorem encR_B {m : Nat} {r : Rgt} (h : r.tiny m) (hm : m ≤ 2 ^ 20) : isB (encR r) := by
  have h1 := h.lc; have h2 := h.ld; have h3 := h.lb; have h4 := h.lo; have h5 := h.ll
  have e0 := encClms_le h.claims
  unfold encR
  refine isB.app (isB.app (isB.app (isB.app (isB.app (isB.app (isB.app (isB.app (isB.app (isB.app ?_ ?_) ?_) ?_) ?_) ?_) ?_) ?_) ?_) ?_) ?_
  · exact isB.encI h.file
  · exact isB.encI h.state
  · exact isB.encI h.force
  · exact isB.encRaw (isB.encClms (fun c hc => (h.claims c hc).ok) (by omega) (by omega)) (by omega)
  · exact isB.encI (by unfold i64; omega)
  · exact isB.flat fun x hx => ((isB.encI (h.dates x hx).1).app (isB.encI (h.dates x hx).2.1)).app (isB.encI (h.dates x hx).2.2.1) |>.app (isB.encI (h.dates x hx).2.2.2)
  · exact isB.encInts h.bad (by omega)
  · exact isB.encI (by unfold i64; omega)
  · exact isB.flat fun x hx => ((isB.encI (h.owners x hx).1).app (isB.encI (h.owners x hx).2.1)).app (isB.encI (h.owners x hx).2.2)
  · exact isB.encI (by unfold i64; omega)
  · exact isB.flat fun x hx => ((isB.encI (h.lics x hx).1).app (isB.encI (h.lics x hx).2.1)).app (isB.encI (h.lics x hx).2.2.1) |>.app (isB.encI (h.lics x hx).2.2.2)
def regE (l : List Rgt) : Int := firstE (newE l) 0 l.length
theorem regE_at {l : List Rgt} {k : Nat} (hk : k < l.length) (h : ∀ j < k, newE l j = 0) (hz : newE l k ≠ 0) : regE l = newE l k := firstE_at _ _ k (Nat.zero_le k) (by omega) (fun j _ hj => h j hj) hz
theorem regE_zero {l : List Rgt} (h : ∀ j < l.length, newE l j = 0) : regE l = 0 := firstE_zero _ _ fun j _ hj => h j (by omega)
theorem l13 (h : List Row) (d : D) (hd : D.lt h.length d = true) (hl : ∀ row ∈ h, row.low h.length = true) {m : Nat} (hm : m ≤ 2 ^ 20) (l : List Rgt) (hok : ∀ r ∈ l, r.tiny m) (hn : l.length ≤ 2 ^ 30) (K : AExit → St → Prop)
    (hret : ∀ k < l.length, (∀ j < k, newE l j = 0) → newE l k ≠ 0 → ∀ e H', find e 4 = .v .nilp → find e 5 = .v (.int .i64 (newE l k)) → (∃ J, H' = h ++ J) → K .ret ⟨e, H'⟩)
    (hend : (∀ j < l.length, newE l j = 0) → ∀ e H', find e 6 = .ref (h.length + 4) 0 → PN h d l H' → K (.exit 0) ⟨e, H'⟩) :
    awp Tryz.prog GLx (.loop c13l0) K ⟨[(6, .ref (h.length + 4) 0), (21, .v (.list (l.map Rgt.V))), (22, .v (.int .i64 l.length)), (23, .v (.int .i64 0))], h ++ rowsN d h.length []⟩ := by
  refine awp_loop_I l.length (fun k s => s.e = [(6, .ref (h.length + 4) 0), (21, .v (.list (l.map Rgt.V))), (22, .v (.int .i64 l.length)), (23, .v (.int .i64 k))] ∧ (∀ j < k, newE l j = 0) ∧ PN h d (l.take k) s.h) ⟨by simp, fun j hj => by omega, [], by simp, by simp⟩ ?_
  rintro k ⟨se, H⟩ hk ⟨he, hE, hp⟩
  simp only at he hp
  subst he
  rw [c13l0_eq]
  simp only [awp_seq, awp_reg, awp_block, awp_cond, c13r5]
  simp
  by_cases hlt : k < l.length
  · obtain ⟨r, hxk⟩ : ∃ r, l[k]? = some r := ⟨_, List.getElem?_eq_getElem hlt⟩
    have hr := hok r (List.mem_of_getElem? hxk)
    have hw : IntKind.i64.wrap ((k : Int) + 1) = k + 1 := wrap_i64 (by omega) (by omega)
    rw [if_pos (by omega), awp_skip]
    refine b13 h d hd hl l k r (hr.ok hm) (encR_le hr hm) (encR_B hr hm) hxk hk hE H hp (.v (.int .i64 l.length)) _ ?_ ?_ _ (by simp) (by simp) (by simp) (by simp)
    · intro hz e H' h4 h5 hJ
      exact hret k hlt hE hz e H' h4 h5 hJ
    · intro hz e H' f6 f21 f22 f23 hp'
      simp [c13r17, f6, f21, f22, f23, hw, hlt]
      refine ⟨fun j hj => ?_, hp'⟩
      rcases Nat.lt_or_ge j k with h | h
      · exact hE j h
      · have : j = k := by omega
        subst this; exact hz
  · have : k = l.length := by omega
    subst this
    rw [if_neg (by omega), awp_exit]
    simp
    rw [List.take_length] at hp
    exact hend hE _ _ (by simp) hp
theorem p13 (h : List Row) (c : Nat) (hc : c < h.length) (hl : ∀ row ∈ h, row.low h.length = true) {m : Nat} (hm : m ≤ 2 ^ 20) (l : List Rgt) (hok : ∀ r ∈ l, r.tiny m) (hn : l.length ≤ 2 ^ 30) :
    FSp Tryz.prog GLx 13 [.ref c 0, .v (.list (l.map Rgt.V))] h (if regE l = 0 then [.ref (h.length + 4) 0, .v (.int .i64 0)] else [.v .nilp, .v (.int .i64 (regE l))]) (if regE l = 0 then h ++ rowsN (.ref c 0) h.length l else h) := by
  have hd : D.lt h.length (.ref c 0) = true := by simp [D.lt, hc]
  have q0 : PN h (.ref c 0) l (h ++ (rowsN (.ref c 0) h.length l ++ [])) := ⟨[], rfl, by simp⟩
  rw [List.append_nil] at q0
  have p50' := p50 (h ++ [KM.row ⟨[], [], 0⟩])
  refine fsp_low k13 rfl ?_ ?_ ?_ ?_
  · split <;> simp
  · split
    · exact q0.low hd hl
    · exact hl
  · split
    · simp [D.lt, rowsN]
    · simp [D.lt]
  simp only [c13, awp_seq, awp_reg, awp_block, awp_cond, c13r0, c13r1, entryD]
  simp [awp_skip, c13r3]
  simp [KM.row, HM.row] at p50'
  refine ⟨_, _, p50', ?_⟩
  simp [c13r4, putL]
  have e0 : h ++ [Row.map [] [] 0, Row.map [] [] 0, Row.map [] [] 0, Row.cells [D.mref (h.length + 1), D.mref (h.length + 1 + 1)], Row.cells [D.ref c 0, D.mref h.length, D.ref (h.length + 1 + 2) 0]] = h ++ rowsN (.ref c 0) h.length [] := by
    simp [rowsN, kmL, hmL, KM.row, HM.row]
  rw [e0]
  refine l13 h (.ref c 0) hd hl hm l hok hn _ ?_ ?_
  · intro k hk hE hz e H' h4 h5 hJ
    rw [regE_at hk hE hz, if_neg hz]
    simp [c13R, h4, h5, hz, hJ]
  · intro hE e H' h6 hp
    obtain ⟨J, hJ, -⟩ := hp
    simp [regE_zero hE, c13r18, h6, awp_ret, c13R, hJ]
end Go.Va

namespace Go.Va
open Go.Proofs
set_option maxRecDepth 100000 in
theorem l54_0 (r : Rgt) (hds : ∀ d ∈ r.dates, d.ok) (hn : r.dates.length ≤ 2 ^ 30) (Y : List Int) (hY : Y.length ≤ 2 ^ 43) (J : List Row) :
    awp Tryz.prog GLx (.loop c54l0) (fun e s => e = .exit 0 ∧ find s.e 1 = .ref 0 0 ∧ find s.e 7 = .own 5 1 ((Y ++ r.dates.flatMap encDat).map (.int .u8)) ∧ ∃ J2, s.h = r.row :: J2)
      ⟨[(1, .ref 0 0), (7, .own 5 1 (Y.map (.int .u8))), (8, .v (.int .i64 0))], r.row :: J⟩ := by
  refine awp_loop_I r.dates.length (fun k s => s.e = [(1, .ref 0 0), (7, .own 5 1 ((Y ++ (r.dates.take k).flatMap encDat).map (.int .u8))), (8, .v (.int .i64 k))] ∧ ∃ J2, s.h = r.row :: J2) ⟨by simp, J, by simp⟩ ?_
  rintro k ⟨se, sh⟩ hk ⟨he, J2, hh⟩
  simp only at he hh
  subst he hh
  simp only [c54l0, awp_seq, awp_reg, awp_block, awp_cond, c54r9]
  simp [Rgt.row]
  by_cases hlt : k < r.dates.length
  · obtain ⟨x, hxk⟩ : ∃ x, r.dates[k]? = some x := ⟨_, List.getElem?_eq_getElem hlt⟩
    have hxe : r.dates[k] = x := (List.getElem?_eq_some_iff.1 hxk).2
    have hx := hds x (List.mem_of_getElem? hxk)
    have hw : IntKind.i64.wrap ((k : Int) + 1) = k + 1 := wrap_i64 (by omega) (by omega)
    have hle := flat40 encDat_len (r.dates.take k)
    have ht : (r.dates.take k).length = k := by simp; omega
    have e : (r.dates.take (k + 1)).flatMap encDat = (r.dates.take k).flatMap encDat ++ encDat x := by rw [flat_take hlt, hxe]
    have := encI_len x.cl
    have := encI_len x.ix
    have := encI_len x.day
    have := encI_len x.file
    obtain ⟨X, hX⟩ : ∃ X, Y ++ (r.dates.take k).flatMap encDat = X := ⟨_, rfl⟩
    have hXl : X.length ≤ 2 ^ 44 := by rw [← hX, List.length_append]; omega
    have q0 := p135 (X) x.cl hx.1 (by first | omega | (simp only [List.length_append]; omega))
    try simp at q0
    have q1 := p135 (X ++ encI x.cl) x.ix hx.2.1 (by first | omega | (simp only [List.length_append]; omega))
    try simp at q1
    have q2 := p135 (X ++ encI x.cl ++ encI x.ix) x.day hx.2.2.1 (by first | omega | (simp only [List.length_append]; omega))
    try simp at q2
    have q3 := p135 (X ++ encI x.cl ++ encI x.ix ++ encI x.day) x.file hx.2.2.2 (by first | omega | (simp only [List.length_append]; omega))
    try simp at q3
    have hend : (Y ++ (r.dates.take (k + 1)).flatMap encDat).map (V.int .u8) = (X ++ encI x.cl ++ encI x.ix ++ encI x.day ++ encI x.file).map (V.int .u8) := by rw [e, ← List.append_assoc, hX]; simp [encDat]
    have hX2 : Y.map (V.int .u8) ++ ((r.dates.take k).flatMap encDat).map (V.int .u8) = X.map (V.int .u8) := by rw [← hX, List.map_append]
    rw [if_pos (by omega), awp_skip]
    simp only [awp_reg, c54r11]
    simp [hxk, Dat.V, putL, awp_regD]
    simp only [c54r12]
    simp
    try simp only [List.map_append] at hX2
    try rw [hX2]
    refine ⟨_, q0, ?_⟩
    simp
    refine ⟨_, q1, ?_⟩
    simp
    refine ⟨_, q2, ?_⟩
    simp
    refine ⟨_, q3, ?_⟩
    simp
    simp [c54r10, hw, hlt]
    try simp at hend
    exact hend.symm
  · have : k = r.dates.length := by omega
    subst this
    rw [if_neg (by omega), awp_exit]
    simp
set_option maxRecDepth 100000 in
theorem l54_1 (r : Rgt) (hds : ∀ d ∈ r.owners, d.ok) (hn : r.owners.length ≤ 2 ^ 30) (Y : List Int) (hY : Y.length ≤ 2 ^ 43) (J : List Row) :
    awp Tryz.prog GLx (.loop c54l1) (fun e s => e = .exit 2 ∧ find s.e 1 = .ref 0 0 ∧ find s.e 7 = .own 5 1 ((Y ++ r.owners.flatMap encOwn).map (.int .u8)) ∧ ∃ J2, s.h = r.row :: J2)
      ⟨[(1, .ref 0 0), (7, .own 5 1 (Y.map (.int .u8))), (10, .v (.int .i64 0))], r.row :: J⟩ := by
  refine awp_loop_I r.owners.length (fun k s => s.e = [(1, .ref 0 0), (7, .own 5 1 ((Y ++ (r.owners.take k).flatMap encOwn).map (.int .u8))), (10, .v (.int .i64 k))] ∧ ∃ J2, s.h = r.row :: J2) ⟨by simp, J, by simp⟩ ?_
  rintro k ⟨se, sh⟩ hk ⟨he, J2, hh⟩
  simp only at he hh
  subst he hh
  simp only [c54l1, awp_seq, awp_reg, awp_block, awp_cond, c54r16]
  simp [Rgt.row]
  by_cases hlt : k < r.owners.length
  · obtain ⟨x, hxk⟩ : ∃ x, r.owners[k]? = some x := ⟨_, List.getElem?_eq_getElem hlt⟩
    have hxe : r.owners[k] = x := (List.getElem?_eq_some_iff.1 hxk).2
    have hx := hds x (List.mem_of_getElem? hxk)
    have hw : IntKind.i64.wrap ((k : Int) + 1) = k + 1 := wrap_i64 (by omega) (by omega)
    have hle := flat40 encOwn_len (r.owners.take k)
    have ht : (r.owners.take k).length = k := by simp; omega
    have e : (r.owners.take (k + 1)).flatMap encOwn = (r.owners.take k).flatMap encOwn ++ encOwn x := by rw [flat_take hlt, hxe]
    have := encI_len x.party
    have := encI_len x.num
    have := encI_len x.den
    obtain ⟨X, hX⟩ : ∃ X, Y ++ (r.owners.take k).flatMap encOwn = X := ⟨_, rfl⟩
    have hXl : X.length ≤ 2 ^ 44 := by rw [← hX, List.length_append]; omega
    have q0 := p135 (X) x.party hx.1 (by first | omega | (simp only [List.length_append]; omega))
    try simp at q0
    have q1 := p135 (X ++ encI x.party) x.num hx.2.1 (by first | omega | (simp only [List.length_append]; omega))
    try simp at q1
    have q2 := p135 (X ++ encI x.party ++ encI x.num) x.den hx.2.2 (by first | omega | (simp only [List.length_append]; omega))
    try simp at q2
    have hend : (Y ++ (r.owners.take (k + 1)).flatMap encOwn).map (V.int .u8) = (X ++ encI x.party ++ encI x.num ++ encI x.den).map (V.int .u8) := by rw [e, ← List.append_assoc, hX]; simp [encOwn]
    have hX2 : Y.map (V.int .u8) ++ ((r.owners.take k).flatMap encOwn).map (V.int .u8) = X.map (V.int .u8) := by rw [← hX, List.map_append]
    rw [if_pos (by omega), awp_skip]
    simp only [awp_reg, c54r18]
    simp [hxk, Own.V, putL, awp_regD]
    simp only [c54r19]
    simp
    try simp only [List.map_append] at hX2
    try rw [hX2]
    refine ⟨_, q0, ?_⟩
    simp
    refine ⟨_, q1, ?_⟩
    simp
    refine ⟨_, q2, ?_⟩
    simp
    simp [c54r17, hw, hlt]
    try simp at hend
    exact hend.symm
  · have : k = r.owners.length := by omega
    subst this
    rw [if_neg (by omega), awp_exit]
    simp
set_option maxRecDepth 100000 in
theorem l54_2 (r : Rgt) (hds : ∀ d ∈ r.lics, d.ok) (hn : r.lics.length ≤ 2 ^ 30) (Y : List Int) (hY : Y.length ≤ 2 ^ 43) (J : List Row) :
    awp Tryz.prog GLx (.loop c54l2) (fun e s => e = .exit 4 ∧ find s.e 1 = .ref 0 0 ∧ find s.e 7 = .own 5 1 ((Y ++ r.lics.flatMap encLic).map (.int .u8)) ∧ ∃ J2, s.h = r.row :: J2)
      ⟨[(1, .ref 0 0), (7, .own 5 1 (Y.map (.int .u8))), (12, .v (.int .i64 0))], r.row :: J⟩ := by
  refine awp_loop_I r.lics.length (fun k s => s.e = [(1, .ref 0 0), (7, .own 5 1 ((Y ++ (r.lics.take k).flatMap encLic).map (.int .u8))), (12, .v (.int .i64 k))] ∧ ∃ J2, s.h = r.row :: J2) ⟨by simp, J, by simp⟩ ?_
  rintro k ⟨se, sh⟩ hk ⟨he, J2, hh⟩
  simp only at he hh
  subst he hh
  simp only [c54l2, awp_seq, awp_reg, awp_block, awp_cond, c54r22]
  simp [Rgt.row]
  by_cases hlt : k < r.lics.length
  · obtain ⟨x, hxk⟩ : ∃ x, r.lics[k]? = some x := ⟨_, List.getElem?_eq_getElem hlt⟩
    have hxe : r.lics[k] = x := (List.getElem?_eq_some_iff.1 hxk).2
    have hx := hds x (List.mem_of_getElem? hxk)
    have hw : IntKind.i64.wrap ((k : Int) + 1) = k + 1 := wrap_i64 (by omega) (by omega)
    have hle := flat40 encLic_len (r.lics.take k)
    have ht : (r.lics.take k).length = k := by simp; omega
    have e : (r.lics.take (k + 1)).flatMap encLic = (r.lics.take k).flatMap encLic ++ encLic x := by rw [flat_take hlt, hxe]
    have := encI_len x.fr
    have := encI_len x.to
    have := encI_len x.fst
    have := encI_len x.lst
    obtain ⟨X, hX⟩ : ∃ X, Y ++ (r.lics.take k).flatMap encLic = X := ⟨_, rfl⟩
    have hXl : X.length ≤ 2 ^ 44 := by rw [← hX, List.length_append]; omega
    have q0 := p135 (X) x.fr hx.1 (by first | omega | (simp only [List.length_append]; omega))
    try simp at q0
    have q1 := p135 (X ++ encI x.fr) x.to hx.2.1 (by first | omega | (simp only [List.length_append]; omega))
    try simp at q1
    have q2 := p135 (X ++ encI x.fr ++ encI x.to) x.fst hx.2.2.1 (by first | omega | (simp only [List.length_append]; omega))
    try simp at q2
    have q3 := p135 (X ++ encI x.fr ++ encI x.to ++ encI x.fst) x.lst hx.2.2.2 (by first | omega | (simp only [List.length_append]; omega))
    try simp at q3
    have hend : (Y ++ (r.lics.take (k + 1)).flatMap encLic).map (V.int .u8) = (X ++ encI x.fr ++ encI x.to ++ encI x.fst ++ encI x.lst).map (V.int .u8) := by rw [e, ← List.append_assoc, hX]; simp [encLic]
    have hX2 : Y.map (V.int .u8) ++ ((r.lics.take k).flatMap encLic).map (V.int .u8) = X.map (V.int .u8) := by rw [← hX, List.map_append]
    rw [if_pos (by omega), awp_skip]
    simp only [awp_reg, c54r24]
    simp [hxk, Lic.V, putL, awp_regD]
    simp only [c54r25]
    simp
    try simp only [List.map_append] at hX2
    try rw [hX2]
    refine ⟨_, q0, ?_⟩
    simp
    refine ⟨_, q1, ?_⟩
    simp
    refine ⟨_, q2, ?_⟩
    simp
    refine ⟨_, q3, ?_⟩
    simp
    simp [c54r23, hw, hlt]
    try simp at hend
    exact hend.symm
  · have : k = r.lics.length := by omega
    subst this
    rw [if_neg (by omega), awp_exit]
    simp
end Go.Va

namespace Go.Va
open Go.Proofs
set_option maxRecDepth 100000 in
set_option maxHeartbeats 2000000 in
theorem p54 (r : Rgt) (hr : r.ok) : PSp Tryz.prog GLx 54 [r.V] [nums .u8 (if formedR r then encR r else []), .int .i64 (if formedR r then 0 else 1)] := by
  refine psp_of_awp k54 rfl ?_
  have p1 := (p49 r hr).fsp
  have hlb := hr.lb
  have hld := hr.ld
  have hlo := hr.lo
  have hll := hr.ll
  have henc := hr.enc
  have hcl : formedR r = true → clmsE r.claims = 0 := by
    intro h
    unfold formedR at h
    simp at h
    exact h.1.1.1.1.1.1.2
  have p2 := (p134 r.claims hr.claims (by have := hr.lc; omega) (by omega)).fsp
  cases hf : formedR r with
  | false =>
    rw [hf] at p1
    simp only [c54, awp_seq, awp_reg, awp_cond, c54r0, c54r1, entry]
    simp [Rgt.V, Rgt.cs] at p1 ⊢
    refine ⟨_, _, p1 _, ?_⟩
    simp [awp_seq, awp_reg, awp_ret, c54r2, c54r3, c54R, nums]
  | true =>
    rw [hf] at p1
    rw [hcl hf] at p2
    simp at p2
    obtain ⟨R, hR⟩ : ∃ R, encR r = R := ⟨_, rfl⟩
    rw [hR]
    have i1 := encI_len r.file
    have i2 := encI_len r.state
    have i3 := encI_len r.force
    have q0 := p135n r.file hr.file
    have q1 := p135 (encI r.file) r.state hr.state (by omega)
    obtain ⟨Y1, hY1⟩ : ∃ Y, encI r.file ++ encI r.state = Y := ⟨_, rfl⟩
    rw [hY1] at q1
    have m1 : Y1.length ≤ 20 := by rw [← hY1, List.length_append]; omega
    have q2 := p135 Y1 r.force hr.force (by omega)
    obtain ⟨X1, hX1⟩ : ∃ X1, Y1 ++ encI r.force = X1 := ⟨_, rfl⟩
    have l1 : X1.length ≤ 30 := by rw [← hX1, List.length_append]; omega
    rw [hX1] at q2
    have q3 := p105 (encClms r.claims) (by omega)
    have hraw : (encRaw (encClms r.claims)).length ≤ 2 ^ 40 := by have := uvar_len (encClms r.claims).length; simp only [encRaw, List.length_append]; omega
    obtain ⟨W, hW⟩ : ∃ W, encRaw (encClms r.claims) = W := ⟨_, rfl⟩
    rw [hW] at q3 hraw
    obtain ⟨X2, hX2⟩ : ∃ X2, X1 ++ W = X2 := ⟨_, rfl⟩
    have l2 : X2.length ≤ 2 ^ 41 := by rw [← hX2, List.length_append]; omega
    have q4 := p135 X2 r.dates.length (by unfold i64; omega) (by omega)
    obtain ⟨X3, hX3⟩ : ∃ X3, X2 ++ encI r.dates.length = X3 := ⟨_, rfl⟩
    have i4 := encI_len r.dates.length
    have l3 : X3.length ≤ 2 ^ 41 + 10 := by rw [← hX3, List.length_append]; omega
    rw [hX3] at q4
    have q5 := fun J => l54_0 r hr.dates hld X3 (by omega) J
    have i5 := flat40 encDat_len r.dates
    obtain ⟨X4, hX4⟩ : ∃ X4, X3 ++ r.dates.flatMap encDat = X4 := ⟨_, rfl⟩
    have l4 : X4.length ≤ 2 ^ 41 + 2 ^ 37 := by rw [← hX4, List.length_append]; omega
    rw [hX4] at q5
    have q6 := fun h => p107 r.bad hr.bad (by omega) h
    have i6 := flat_encI_len r.bad
    have i7 := uvar_len r.bad.length
    obtain ⟨W2, hW2⟩ : ∃ W, encInts r.bad = W := ⟨_, rfl⟩
    have w2 : W2.length ≤ 2 ^ 37 := by rw [← hW2, encInts, List.length_append]; omega
    rw [hW2] at q6
    obtain ⟨X5, hX5⟩ : ∃ X5, X4 ++ W2 = X5 := ⟨_, rfl⟩
    have l5 : X5.length ≤ 2 ^ 41 + 2 ^ 38 := by rw [← hX5, List.length_append]; omega
    have q7 := p135 X5 r.owners.length (by unfold i64; omega) (by omega)
    obtain ⟨X6, hX6⟩ : ∃ X6, X5 ++ encI r.owners.length = X6 := ⟨_, rfl⟩
    have i8 := encI_len r.owners.length
    have l6 : X6.length ≤ 2 ^ 41 + 2 ^ 38 + 10 := by rw [← hX6, List.length_append]; omega
    rw [hX6] at q7
    have q8 := fun J => l54_1 r hr.owners hlo X6 (by omega) J
    have i9 := flat40 encOwn_len r.owners
    obtain ⟨X7, hX7⟩ : ∃ X7, X6 ++ r.owners.flatMap encOwn = X7 := ⟨_, rfl⟩
    have l7 : X7.length ≤ 2 ^ 41 + 2 ^ 39 := by rw [← hX7, List.length_append]; omega
    rw [hX7] at q8
    have q9 := p135 X7 r.lics.length (by unfold i64; omega) (by omega)
    obtain ⟨X8, hX8⟩ : ∃ X8, X7 ++ encI r.lics.length = X8 := ⟨_, rfl⟩
    have i10 := encI_len r.lics.length
    have l8 : X8.length ≤ 2 ^ 41 + 2 ^ 39 + 10 := by rw [← hX8, List.length_append]; omega
    rw [hX8] at q9
    have q10 := fun J => l54_2 r hr.lics hll X8 (by omega) J
    have i11 := flat40 encLic_len r.lics
    obtain ⟨X9, hX9⟩ : ∃ X9, X8 ++ r.lics.flatMap encLic = X9 := ⟨_, rfl⟩
    have l9 : X9.length ≤ 2 ^ 42 := by rw [← hX9, List.length_append]; omega
    rw [hX9] at q10
    have hRX : X9 = R := by
      rw [← hR, ← hX9, ← hX8, ← hX7, ← hX6, ← hX5, ← hX4, ← hX3, ← hX2, ← hX1, ← hW, ← hW2, ← hY1]
      simp [encR]
    rw [hRX] at q10 l9
    generalize encI r.file = F0 at *
    simp [nums] at p2
    have a1 : X1.map (V.int .u8) ++ W.map (V.int .u8) = X2.map (V.int .u8) := by rw [← hX2, List.map_append]
    have a2 : X4.map (V.int .u8) ++ W2.map (V.int .u8) = X5.map (V.int .u8) := by rw [← hX5, List.map_append]
    have b1 : roomy (X1.length + W.length) 1 = true := by simp [roomy]; omega
    have b2 : roomy (X4.length + W2.length) 1 = true := by simp [roomy]; omega
    simp only [c54, awp_seq, awp_reg, awp_block, awp_cond, c54r0, c54r1, entry]
    simp [Rgt.V, Rgt.cs, nums] at p1 ⊢
    refine ⟨_, _, p1 _, ?_⟩
    simp [awp_skip, awp_reg, c54r2, c54r4]
    refine ⟨_, _, p2 _, ?_⟩
    simp [awp_regD, c54r5]
    refine ⟨_, q0, ?_⟩
    simp
    refine ⟨_, q1, ?_⟩
    simp
    refine ⟨_, q2, ?_⟩
    simp [c54r6]
    simp [nums] at q3
    refine ⟨_, _, (q3 _), ?_⟩
    simp [b1, a1, c54r7]
    refine ⟨_, q4, ?_⟩
    simp [c54r8]
    refine awp_mono _ ?_ (q5 _)
    rintro e ⟨se, sh⟩ ⟨rfl, f1, f7, J2, hh⟩
    simp only at f1 f7 hh
    subst hh
    simp [c54r13, f1, f7, Rgt.row]
    simp [nums] at q6
    refine ⟨_, _, (q6 _), ?_⟩
    simp [b2, a2, c54r14, f1]
    refine ⟨_, q7, ?_⟩
    simp [c54r15, f1]
    refine awp_mono _ ?_ (q8 _)
    rintro e ⟨se, sh⟩ ⟨rfl, f1, f7, J3, hh⟩
    simp only at f1 f7 hh
    subst hh
    simp [c54r20, f1, f7, Rgt.row]
    refine ⟨_, q9, ?_⟩
    simp [c54r21, f1]
    refine awp_mono _ ?_ (q10 _)
    rintro e ⟨se, sh⟩ ⟨rfl, f1, f7, J4, hh⟩
    simp only at f1 f7 hh
    subst hh
    simp [c54r26, f7, awp_ret, c54R]
end Go.Va

namespace Go.Va
open Go.Proofs
def posR (R : List Rgt) (f : Int) : Nat := R.findIdx fun q => !decide (q.file < f)
def insR (R : List Rgt) (r : Rgt) : List Rgt := R.take (posR R r.file) ++ r :: R.drop (posR R r.file)
def srL (l : List Rgt) : List Rgt := l.foldl insR []
def psL (l : List Rgt) : List (Int × List Int) := l.foldl (fun ps r => insP ps r.file (encR r)) []
def RR (dP : D) (n : Nat) (R : List Rgt) : Row := .cells [dP, .own 32 8 (R.map Rgt.V), .ref n 0]
theorem srL_snoc (l : List Rgt) (r : Rgt) : srL (l ++ [r]) = insR (srL l) r := by simp [srL]
theorem psL_snoc (l : List Rgt) (r : Rgt) : psL (l ++ [r]) = insP (psL l) r.file (encR r) := by simp [psL]
theorem insR_len (R : List Rgt) (r : Rgt) : (insR R r).length = R.length + 1 := by
  have : posR R r.file ≤ R.length := List.findIdx_le_length
  simp [insR]; omega
theorem insP_len (ps : List (Int × List Int)) (k : Int) (v : List Int) : (insP ps k v).length = ps.length + 1 := by
  have : posP ps k ≤ ps.length := List.findIdx_le_length
  simp [insP]; omega
theorem insP_mem {ps : List (Int × List Int)} {k : Int} {v : List Int} {p : Int × List Int} : p ∈ insP ps k v ↔ p = (k, v) ∨ p ∈ ps := by
  unfold insP
  generalize posP ps k = i
  have : p ∈ ps ↔ p ∈ ps.take i ∨ p ∈ ps.drop i := by rw [← List.mem_append, List.take_append_drop]
  rw [this]
  simp only [List.mem_append, List.mem_cons]
  constructor
  · rintro (h | h | h)
    · exact .inr (.inl h)
    · exact .inl h
    · exact .inr (.inr h)
  · rintro (h | h | h)
    · exact .inr (.inl h)
    · exact .inl h
    · exact .inr (.inr h)
theorem srL_len : ∀ (l : List Rgt) (k : Nat), k ≤ l.length → (srL (l.take k)).length = k
  | l, 0, _ => by simp [srL]
  | l, k + 1, hk => by
    obtain ⟨r, hr⟩ : ∃ r, l[k]? = some r := ⟨_, List.getElem?_eq_getElem (by omega)⟩
    rw [take_snoc hr, srL_snoc, insR_len, srL_len l k (by omega)]
theorem psL_len : ∀ (l : List Rgt) (k : Nat), k ≤ l.length → (psL (l.take k)).length = k
  | l, 0, _ => by simp [psL]
  | l, k + 1, hk => by
    obtain ⟨r, hr⟩ : ∃ r, l[k]? = some r := ⟨_, List.getElem?_eq_getElem (by omega)⟩
    rw [take_snoc hr, psL_snoc, insP_len, psL_len l k (by omega)]
theorem psL_mem : ∀ (l : List Rgt) (k : Nat), k ≤ l.length → ∀ p, p ∈ psL (l.take k) ↔ p ∈ (l.take k).map prOf
  | l, 0, _, p => by simp [psL]
  | l, k + 1, hk, p => by
    obtain ⟨r, hr⟩ : ∃ r, l[k]? = some r := ⟨_, List.getElem?_eq_getElem (by omega)⟩
    rw [take_snoc hr, psL_snoc, insP_mem, psL_mem l k (by omega), List.map_append, List.mem_append]
    simp [prOf, or_comm]
theorem psL_find {l : List Rgt} {k : Nat} (hk : k ≤ l.length) (f : Int) : (psL (l.take k)).findIdx? (fun p => p.1 == f) = none ↔ (l.take k).any (fun q => q.file == f) = false := by
  rw [← any_find, List.findIdx?_eq_none_iff, List.findIdx?_eq_none_iff]
  constructor
  · intro h p hp; exact h p ((psL_mem l k hk p).2 hp)
  · intro h p hp; exact h p ((psL_mem l k hk p).1 hp)
theorem lfP_ins (ps : List (Int × List Int)) (k : Int) (v : List Int) (h : ∀ p ∈ ps, p.1 ≠ k) : lfP (insP ps k v) = upd (lfP ps) k (leafI k v) := by
  funext x
  simp only [lfP, upd, insP]
  generalize posP ps k = i
  have hsplit : ps.find? (fun p => p.1 == x) = ((ps.take i).find? (fun p => p.1 == x)).or ((ps.drop i).find? fun p => p.1 == x) := by rw [← List.find?_append, List.take_append_drop]
  rw [List.find?_append, List.find?_cons]
  by_cases hx : x = k
  · subst hx
    have : (ps.take i).find? (fun p => p.1 == x) = none := List.find?_eq_none.2 fun p hp => by have := h p (List.mem_of_mem_take hp); simpa using this
    simp [this]
  · have : (k == x) = false := by simpa using fun e : k = x => hx e.symm
    rw [this, if_neg hx, hsplit]
theorem psL_lf {l : List Rgt} : ∀ k ≤ l.length, (∀ j < k, newE l j = 0) → lfP (psL (l.take k)) = lfP ((l.take k).map prOf)
  | 0, _, _ => by simp [psL]
  | k + 1, hk, h => by
    obtain ⟨r, hr⟩ : ∃ r, l[k]? = some r := ⟨_, List.getElem?_eq_getElem (by omega)⟩
    have ih := psL_lf k (by omega) fun j hj => h j (by omega)
    obtain ⟨h1, h2, h3⟩ := newE_ok hr (h k (by omega))
    have hab : ∀ p ∈ psL (l.take k), p.1 ≠ r.file := by
      have := (psL_find (l := l) (by omega) r.file).2 h2
      rw [List.findIdx?_eq_none_iff] at this
      intro p hp; simpa using this p hp
    have e : prOf r = (r.file, encR r) := rfl
    rw [take_snoc hr, psL_snoc, List.map_append, List.map_singleton, e, lfP_snoc _ _ _ ((any_find _ _).2 h2), lfP_ins _ _ _ hab, ih]
theorem ho_rgt (l : List Rgt) : headOK 8 (l.map Rgt.V) = true := by cases l <;> rfl
set_option maxRecDepth 100000 in
theorem l15 (H : List Row) (x n : Nat) (dP : D) (R : List Rgt) (hx : H[x]? = some (RR dP n R)) (hR : R.length ≤ 2 ^ 30) (l : List Rgt) (i : Nat) (r : Rgt) (hxk : l[i]? = some r) :
    awp Tryz.prog GLx (.loop c15l1) (fun e s => e = .exit 2 ∧ find s.e 1 = .v (.list (l.map Rgt.V)) ∧ find s.e 6 = .ref x 0 ∧ find s.e 7 = .v (.int .i64 i) ∧ find s.e 11 = .v (.int .i64 (posR R r.file)) ∧ s.h = H)
      ⟨[(1, .v (.list (l.map Rgt.V))), (6, .ref x 0), (7, .v (.int .i64 i)), (11, .v (.int .i64 0))], H⟩ := by
  have hT : posR R r.file ≤ R.length := List.findIdx_le_length
  refine awp_loop_nat0 (posR R r.file) (fun k => ⟨[(1, .v (.list (l.map Rgt.V))), (6, .ref x 0), (7, .v (.int .i64 i)), (11, .v (.int .i64 k))], H⟩) (by simp) ?_
  intro k hk
  simp only [c15l1, awp_seq, awp_reg, awp_regD, awp_block, awp_cond, c15r14]
  simp [hx, RR]
  by_cases hlt : k < posR R r.file
  · have hil : k < R.length := by omega
    obtain ⟨p, hp⟩ : ∃ p, R[k]? = some p := ⟨_, List.getElem?_eq_getElem hil⟩
    have hpe : R[k] = p := (List.getElem?_eq_some_iff.1 hp).2
    have hnot := List.not_of_lt_findIdx hlt
    have hpk : p.file < r.file := by rw [← hpe]; simpa using hnot
    have hw : IntKind.i64.wrap ((k : Int) + 1) = k + 1 := wrap_i64 (by omega) (by omega)
    have hil' : (k : Int) < R.length := by omega
    simp [hil, hp, hxk, Rgt.V, Rgt.cs, hpk, awp_skip, awp_reg, c15r15, hw, hlt, hx, RR, hpe]
  · have hi2 : k = posR R r.file := by omega
    by_cases hil : k < R.length
    · obtain ⟨p, hp⟩ : ∃ p, R[k]? = some p := ⟨_, List.getElem?_eq_getElem hil⟩
      have hpe : R[k] = p := (List.getElem?_eq_some_iff.1 hp).2
      have hstop : ¬ p.file < r.file := by
        have e : R.findIdx (fun q => !decide (q.file < r.file)) = k := hi2.symm
        have := List.findIdx_getElem (p := fun q : Rgt => !decide (q.file < r.file)) (xs := R) (w := by rw [e]; exact hil)
        simp only [e] at this
        rw [hpe] at this
        simpa using this
      simp [hil, hp, hxk, Rgt.V, Rgt.cs, hstop, awp_exit, hx, RR, hpe]
      omega
    · simp [hil, awp_exit]
      omega
end Go.Va

namespace Go.Va
open Go.Proofs
def HR (h : List Row) (dP : D) (l : List Rgt) : List Row := h ++ [psR (psL l), RR dP h.length (srL l)]
def c15T : AC := (.seq (.reg c15r13 [1, 6, 7, 11]) (.seq (.block 2 (.loop c15l1)) (.seq (.reg c15r16 [1, 6, 7, 11, 12]) (.seq (.regD c15r17 [1, 6, 7, 11, 12] [[], [], [1], [1, 2], [1, 2, 3], [], [1, 2, 3, 4, 5], [0, 1, 2, 3, 4, 5, 6], [], [], [8, 9], [8, 9, 10], [8, 9, 10, 11], [0, 1, 2, 3, 4, 5, 6, 7, 8, 9, 10, 11, 12], [0, 1, 2, 3, 4, 5, 6, 7, 8, 9, 10, 11, 12, 13]]) (.reg c15r18 [1, 6, 7])))))
def c15C : AC := (.seq (.reg c15r11 [1, 6, 7, 10, 58]) (.cond (.t 58 false) (.seq (.reg c15r12 [4, 5]) .ret) .skip))
def c15B : AC := (.seq (.regD c15r8 [1, 6, 7, 8, 45] [[], [0], [0, 1], [0, 1, 2], [], [], [4, 5], [4, 5, 6], [4, 5, 6, 7], [0, 1, 2, 3, 4, 5, 6, 7, 8], [0, 1, 2, 3, 4, 5, 6, 7, 8, 9]]) (.cond (.t 45 false) (.seq (.reg c15r9 [4, 5]) .ret) .skip))
def c15A : AC := (.seq (.reg c15r6 [1, 6, 7, 8, 9, 33]) (.cond (.t 33 false) (.seq (.reg c15r7 [4, 5]) .ret) .skip))
def c15b : AC := (.seq (.reg c15r5 [1, 6, 7, 8, 9]) (.seq c15A (.seq c15B (.seq (.regD c15r10 [1, 6, 7, 10] [[], [0], [0, 1], [0, 1, 2], [], [], [4, 5], [4, 5, 6], [4, 5, 6, 7], [], [0, 1, 2, 3, 4, 5, 6, 7, 8, 9], [0, 1, 2, 3, 4, 5, 6, 7, 8, 9, 10]]) (.seq c15C c15T)))))
theorem c15l0_eq : c15l0 = (.seq (.seq (.reg c15r3 [1, 6, 7, 21]) (.cond (.t 21 false) .skip (.exit 0))) (.seq (.block 1 c15b) (.reg c15r4 [1, 6, 7]))) := rfl
set_option maxRecDepth 100000 in
theorem t15 (H : List Row) (x n : Nat) (dP : D) (R : List Rgt) (hx : H[x]? = some (RR dP n R)) (hR : R.length ≤ 2 ^ 30) (l : List Rgt) (i : Nat) (r : Rgt) (hxk : l[i]? = some r) (K : AExit → St → Prop)
    (hK : ∀ e, find e 1 = .v (.list (l.map Rgt.V)) → find e 6 = .ref x 0 → find e 7 = .v (.int .i64 i) → K .normal ⟨e, H.set x (RR dP n (insR R r))⟩) :
    ∀ e, find e 1 = .v (.list (l.map Rgt.V)) → find e 6 = .ref x 0 → find e 7 = .v (.int .i64 i) → awp Tryz.prog GLx c15T K ⟨e, H⟩ := by
  intro e f1 f6 f7
  have q := l15 H x n dP R hx hR l i r hxk
  have hT : posR R r.file ≤ R.length := List.findIdx_le_length
  have hho := ho_rgt R
  have room : ∀ (m : Nat), m ≤ 2 ^ 31 → roomy m 144 = true := by intro m hm; simp [roomy]; omega
  have hres : RR dP n (insR R r) = .cells [dP, .own 32 8 ((R.map Rgt.V).take (posR R r.file) ++ r.V :: (R.map Rgt.V).drop (posR R r.file)), .ref n 0] := by simp [RR, insR, List.map_take, List.map_drop]
  rw [hres] at hK
  generalize posR R r.file = p at *
  have hx' : H[x]? = some (.cells [dP, .own 32 8 (R.map Rgt.V), .ref n 0]) := hx
  have tkl : (R.map Rgt.V).take R.length = R.map Rgt.V := List.take_of_length_le (by simp)
  have hhd : headOK 8 ((R.map Rgt.V).drop p) = true := by rw [← List.map_drop]; exact ho_rgt _
  have hht : headOK 8 ((R.map Rgt.V).take p) = true := by rw [← List.map_take]; exact ho_rgt _
  have hmin : min p R.length = p := by omega
  have rm0 := room p (by omega)
  have rm1 := room (p + 1) (by omega)
  have rm2 := room (p + 1 + (R.length - p)) (by omega)
  have hrl : r.V.cells.length = 8 := rfl
  unfold c15T
  simp only [awp_seq, awp_reg, awp_block, c15r13]
  simp [f1, f6, f7]
  refine awp_mono _ ?_ q
  rintro e2 ⟨se, sh⟩ ⟨rfl, g1, g6, g7, g11, hh⟩
  simp only at g1 g6 g7 g11 hh
  subst hh
  simp [c15r16, g1, g6, g7, g11]
  simp [awp_regD, c15r17, hx', hho, hT, hht, hmin, rm0, rm1, hxk, Rgt.V, Rgt.cs]
  simp [c15r18, hx', hho, hhd, hT, tkl, hmin, rm1, rm2, putL]
  refine hK _ ?_ ?_ ?_
  all_goals simp
theorem HR_set1 (h : List Row) (dP : D) (l : List Rgt) (r : Rgt) : ((HR h dP l).set h.length (psR (insP (psL l) r.file (encR r)))).set (h.length + 1) (RR dP h.length (insR (srL l) r)) = HR h dP (l ++ [r]) := by
  simp [HR, psL_snoc, srL_snoc]
set_option maxRecDepth 100000 in
theorem b15 (h : List Row) (dP : D) (l : List Rgt) (k : Nat) (r : Rgt) (hr : r.ok) (hlen : (encR r).length ≤ 2 ^ 39) (hxk : l[k]? = some r) (hk : k ≤ l.length) (hn : l.length ≤ 2 ^ 30)
    (hE : ∀ j < k, newE l j = 0) (K : AExit → St → Prop)
    (hret : newE l k ≠ 0 → ∀ e H', find e 4 = .v .nilp → find e 5 = .v (.int .i64 (newE l k)) → (∃ J, H' = h ++ J) → K .ret ⟨e, H'⟩)
    (hok : newE l k = 0 → ∀ e, find e 1 = .v (.list (l.map Rgt.V)) → find e 6 = .ref (h.length + 1) 0 → find e 7 = .v (.int .i64 k) → K .normal ⟨e, HR h dP (l.take (k + 1))⟩) :
    ∀ e, find e 1 = .v (.list (l.map Rgt.V)) → find e 6 = .ref (h.length + 1) 0 → find e 7 = .v (.int .i64 k) → awp Tryz.prog GLx c15b K ⟨e, HR h dP (l.take k)⟩ := by
  intro e f1 f6 f7
  have p1 := (p54 r hr).fsp
  have hne := newE_at hxk
  have hkl := psL_len l k hk
  have hJ : ∃ J, HR h dP (l.take k) = h ++ J := ⟨_, rfl⟩
  have g0 : (HR h dP (l.take k))[h.length]? = some (psR (psL (l.take k))) := by simp [HR]
  have g1 : (HR h dP (l.take k))[h.length + 1]? = some (RR dP h.length (srL (l.take k))) := by simp [HR]
  have hset := HR_set1 h dP (l.take k) r
  rw [← take_snoc hxk] at hset
  have p2 := p55 (HR h dP (l.take k)) h.length (psL (l.take k)) g0 (by omega) r.file
  have hfi := psL_find hk r.file
  have hRl := srL_len l k hk
  obtain ⟨H, hH⟩ : ∃ H, HR h dP (l.take k) = H := ⟨_, rfl⟩
  rw [hH] at hJ g0 g1 hset p2 ⊢
  simp [Rgt.V, Rgt.cs, nums] at p1
  unfold c15b
  simp only [awp_seq, awp_reg, c15r5]
  simp [f1, f6, f7, hxk, Rgt.V, Rgt.cs, nums]
  refine ⟨_, _, p1 _, ?_⟩
  cases hf : formedR r with
  | false =>
    rw [hf] at hne
    simp at hne
    simp [c15A, awp_seq, awp_reg, awp_cond, c15r6, c15r7, awp_ret]
    exact hret (by rw [hne]; decide) _ _ (by simp) (by simp [hne]) hJ
  | true =>
    rw [hf] at hne
    simp only [if_true] at hne
    simp [c15A, awp_seq, awp_reg, awp_cond, c15r6, awp_skip]
    simp only [c15B, awp_seq, awp_regD, awp_reg, awp_cond, c15r8]
    simp [f1, f6, f7, g1, RR, hxk, Rgt.V, Rgt.cs]
    refine ⟨_, _, p2, ?_⟩
    cases hi : (psL (l.take k)).findIdx? (fun p => p.1 == r.file) with
    | some i =>
      have hany : (l.take k).any (fun q => q.file == r.file) = true := by
        cases ha : (l.take k).any (fun q => q.file == r.file) with
        | true => rfl
        | false => rw [← hfi, hi] at ha; cases ha
      rw [if_pos hany] at hne
      simp [idxI, awp_seq, awp_reg, c15r9, awp_ret]
      exact hret (by rw [hne]; decide) _ _ (by simp) (by simp [hne]) hJ
    | none =>
      have hnone := hfi.1 hi
      rw [hnone] at hne
      simp only [Bool.false_eq_true, if_false] at hne
      have hab : ∀ p ∈ psL (l.take k), p.1 ≠ r.file := by
        rw [List.findIdx?_eq_none_iff] at hi
        intro p hp; simpa using hi p hp
      have p3 := p56 H h.length (psL (l.take k)) g0 (by omega) r.file (encR r) hlen hab
      simp [idxI, awp_skip, awp_regD, c15r10]
      simp [nums] at p3
      simp [f1, f6, f7, g1, RR, hxk, Rgt.V, Rgt.cs]
      by_cases hz : setE r.file (encR r) = 0
      · rw [hz, if_pos rfl] at p3
        rw [hz] at hne
        refine ⟨_, _, p3, ?_⟩
        simp [c15C, awp_seq, awp_reg, awp_cond, c15r11, awp_skip]
        refine t15 (H.set h.length (psR (insP (psL (l.take k)) r.file (encR r)))) (h.length + 1) h.length dP (srL (l.take k)) (by rw [List.getElem?_set_ne (by omega)]; exact g1) (by omega) l k r hxk _ ?_ _ (by simp [f1]) (by simp [f6]) (by simp [f7])
        intro e2 h1 h6 h7
        rw [hset]
        exact hok hne _ h1 h6 h7
      · rw [if_neg hz] at p3
        refine ⟨_, _, p3, ?_⟩
        simp [hz, c15C, awp_seq, awp_reg, awp_cond, c15r11, c15r12, awp_ret]
        exact hret (by rw [hne]; exact hz) _ _ (by simp) (by simp [hne]) hJ
theorem HR_low {h : List Row} (hl : ∀ row ∈ h, row.low h.length = true) (v : V) (l : List Rgt) : ∀ row ∈ HR h (.v v) l, row.low (HR h (.v v) l).length = true := by
  have hlen : (HR h (.v v) l).length = h.length + 2 := by simp [HR]
  intro row hrow
  rw [hlen]
  rcases List.mem_append.1 hrow with hrow | hrow
  · exact Row.low_mono (by omega) (hl row hrow)
  · simp only [List.mem_cons, List.not_mem_nil, or_false] at hrow
    rcases hrow with rfl | rfl
    · simp [psR, Row.low, D.lts, D.lt]
    · simp [RR, Row.low, D.lts, D.lt]
theorem p15 (h : List Row) (hl : ∀ row ∈ h, row.low h.length = true) {m : Nat} (hm : m ≤ 2 ^ 20) (vs : List V) (l : List Rgt) (hok : ∀ r ∈ l, r.tiny m) (hn : l.length ≤ 2 ^ 30) :
    FSp Tryz.prog GLx 15 [.v (.list vs), .v (.list (l.map Rgt.V))] h (if regE l = 0 then [.ref (h.length + 1) 0, .v (.int .i64 0)] else [.v .nilp, .v (.int .i64 (regE l))]) (if regE l = 0 then HR h (.v (.list vs)) l else h) := by
  refine fsp_low k15 rfl ?_ ?_ ?_ ?_
  · split <;> simp [HR]
  · split
    · exact HR_low hl (.list vs) l
    · exact hl
  · split
    · simp [D.lt, HR]
    · simp [D.lt]
  simp only [c15, awp_seq, awp_reg, awp_block, c15r0, c15r1, entryD]
  simp [putL, c15r2]
  have e0 : h ++ [Row.cells [.own 200 2 []], Row.cells [.v (.list vs), .own 32 8 [], .ref h.length 0]] = HR h (.v (.list vs)) [] := by simp [HR, psR, psL, srL, RR]
  rw [e0]
  refine awp_loop_I l.length (fun k s => s.e = [(1, .v (.list (l.map Rgt.V))), (6, .ref (h.length + 1) 0), (7, .v (.int .i64 k))] ∧ (∀ j < k, newE l j = 0) ∧ s.h = HR h (.v (.list vs)) (l.take k)) ⟨by simp, fun j hj => by omega, by simp⟩ ?_
  rintro k ⟨se, H⟩ hk ⟨he, hE, hp⟩
  simp only at he hp
  subst he hp
  rw [c15l0_eq]
  simp only [awp_seq, awp_reg, awp_block, awp_cond, c15r3]
  simp
  by_cases hlt : k < l.length
  · obtain ⟨r, hxk⟩ : ∃ r, l[k]? = some r := ⟨_, List.getElem?_eq_getElem hlt⟩
    have hr := hok r (List.mem_of_getElem? hxk)
    have hw : IntKind.i64.wrap ((k : Int) + 1) = k + 1 := wrap_i64 (by omega) (by omega)
    rw [if_pos (by omega), awp_skip]
    refine b15 h (.v (.list vs)) l k r (hr.ok hm) (encR_le hr hm) hxk hk hn hE _ ?_ ?_ _ (by simp) (by simp) (by simp)
    · intro hz e H' h4 h5 hJ
      simp only [regE_at hlt hE hz, if_neg hz]
      simp [c15R, h4, h5, hJ]
    · intro hz e f1 f6 f7
      simp [c15r4, f1, f6, f7, hw, hlt]
      intro j hj
      rcases Nat.lt_or_ge j k with h | h
      · exact hE j h
      · have : j = k := by omega
        subst this; exact hz
  · have : k = l.length := by omega
    subst this
    rw [if_neg (by omega), awp_exit]
    simp [c15r19, awp_ret, c15R, regE_zero hE]
end Go.Va

namespace Go.Va
open Go.Proofs
def c3A : AC := (.seq (.reg c3r20 [9, 10, 16, 17, 18, 20, 110]) (.cond (.t 110 false) (.seq (.reg c3r21 [8]) .ret) .skip))
def c3Z : AC := (.regA c3r22 [9, 10, 16, 17, 132] [[], [0], [0, 1], [0, 1, 2], [0, 1, 2, 3], [0, 1, 2], [0, 1, 2, 5], [0, 1, 2, 5, 6], [0, 1, 2, 5, 6, 7], [0, 1, 2, 3, 4, 5, 6, 7, 8], [0, 1, 2, 3, 4, 5, 6, 7, 8, 9], [0, 1, 2, 3, 4, 5, 6, 7, 8, 9, 10], [0, 1, 2, 3, 4, 5, 6, 7, 8, 9, 10, 11], [0, 1, 2, 3, 4, 5, 6, 7, 8, 9, 10, 11, 12], [0, 1, 2, 3, 4, 5, 6, 7, 8, 9, 10, 11], [0, 1, 2, 3, 4, 5, 6, 7, 8, 9, 10, 11], [0, 1, 2, 3, 4, 5, 6, 7, 8, 9, 10, 11, 14, 15], [0, 1, 2, 3, 4, 5, 6, 7, 8, 9, 10, 11, 14, 15, 16], [0, 1, 2, 3, 4, 5, 6, 7, 8, 9, 10, 11, 14, 15, 16, 17], [0, 1, 2, 3, 4, 5, 6, 7, 8, 9, 10, 11, 12, 13, 14, 15, 16, 17, 18], [0, 1, 2, 3, 4, 5, 6, 7, 8, 9, 10, 11, 12, 13, 14, 15, 16, 17, 18, 19], [0, 1, 2, 3, 4, 5, 6, 7, 8, 9, 10, 11, 12, 13, 14, 15, 16, 17, 18, 19, 20]] (.take 0 (.take 1 (.take 2 (.take 3 (.take 5 (.take 6 (.take 7 (.pick (.alt 4 (.take 8 (.take 9 (.take 10 (.take 11 (.take 12 (.take 14 (.take 15 (.take 16 (.pick (.alt 13 (.take 17 (.take 18 (.take 19 (.take 20 (.take 21 .done))))) (.alt 17 (.take 13 (.take 18 (.take 19 (.take 20 (.take 21 .done))))) .none))))))))))) (.alt 8 (.take 4 (.take 9 (.take 10 (.take 11 (.take 12 (.take 14 (.take 15 (.take 16 (.pick (.alt 13 (.take 17 (.take 18 (.take 19 (.take 20 (.take 21 .done))))) (.alt 17 (.take 13 (.take 18 (.take 19 (.take 20 (.take 21 .done))))) .none))))))))))) .none)))))))))))
def c3Y : AC := (.cond (.t 132 false) (.seq (.reg c3r23 [8]) .ret) .skip)
def c3b : AC := (.seq (.reg c3r18 [9, 10, 16, 17, 18, 19]) (.seq (.regD c3r19 [9, 10, 16, 17, 18, 19, 20, 21] [[], [], [], [1, 2], [1, 2, 3], [0, 1, 2, 3, 4], [0, 1, 2, 3, 4, 5], [0, 1, 2, 3, 4, 5, 6], [0, 1, 2, 3, 4, 5, 6], [0, 1, 2, 3, 4, 5, 6, 7], [0, 1, 2, 3, 4, 5, 6, 7, 8, 9]]) (.seq c3A (.seq c3Z c3Y))))
theorem c3l1_eq : c3l1 = (.seq (.seq (.reg c3r16 [9, 10, 16, 17, 79]) (.cond (.t 79 false) .skip (.exit 2))) (.seq (.block 3 c3b) (.reg c3r17 [9, 10, 16, 17]))) := rfl
theorem root_same {l : List Rgt} (h : ∀ j < l.length, newE l j = 0) : (hmL l).get (12, 0) = bH (lfP (psL l)) 12 0 := by
  have h1 := hmL_inv (l := l) l.length (Nat.le_refl _) h 12 (Nat.le_refl _) 0
  have h2 := psL_lf (l := l) l.length (Nat.le_refl _) h
  rw [List.take_length] at h1 h2
  rw [h2, ← h1]
  rfl
theorem regE_ok {l : List Rgt} (hz : regE l = 0) : ∀ j < l.length, newE l j = 0 := by
  intro j hj
  induction j using Nat.strongRecOn with
  | _ j ih =>
    rcases Decidable.em (newE l j = 0) with h | h
    · exact h
    · exact absurd hz (by rw [regE_at hj (fun i hi => ih i hi (by omega)) h]; exact h)
set_option maxRecDepth 100000 in
set_option maxHeartbeats 2000000 in
theorem b3 (H : List Row) (h0 : 0 < H.length) (hl : ∀ row ∈ H, row.low H.length = true) {m : Nat} (hm : m ≤ 2 ^ 20) (l : List Rgt) (hok : ∀ r ∈ l, r.tiny m) (hn : l.length ≤ 2 ^ 30) (LL : List V) (k : Nat) (hk : LL[k]? = some (.list (l.map Rgt.V))) (d10 : D) (K : AExit → St → Prop)
    (hK : ∀ e J, find e 9 = .ref 0 0 → find e 10 = d10 → find e 16 = .own 25 1 LL → find e 17 = .v (.int .i64 k) → (∀ row ∈ H ++ J, row.low (H ++ J).length = true) → K .normal ⟨e, H ++ J⟩) :
    ∀ e, find e 9 = .ref 0 0 → find e 10 = d10 → find e 16 = .own 25 1 LL → find e 17 = .v (.int .i64 k) → awp Tryz.prog GLx c3b K ⟨e, H⟩ := by
  intro e f9 f10 f16 f17
  have q1 := (p14 l (fun r hr => (hok r hr).ok hm) hn).fsp
  have q2 := p13 H 0 h0 hl hm l hok hn
  have q3 := p16
  unfold parentsV at q3
  have hlk : k < LL.length := (List.getElem?_eq_some_iff.1 hk).1
  simp at q1
  unfold c3b
  simp only [awp_seq, awp_reg, c3r18]
  by_cases hz : regE l = 0
  · rw [if_pos hz, if_pos hz] at q2
    have hE := regE_ok hz
    have hp : PN H (.ref 0 0) l (H ++ rowsN (.ref 0 0) H.length l) := ⟨[], by simp, by simp⟩
    have hl1 := hp.low (by simp [D.lt, h0]) hl
    obtain ⟨g0, g1, g2, g3, g4⟩ := hp.get
    have hlen1 : (H ++ rowsN (.ref 0 0) H.length l).length = H.length + 5 := by simp [rowsN]
    obtain ⟨H1, hH1⟩ : ∃ H1, H ++ rowsN (.ref 0 0) H.length l = H1 := ⟨_, rfl⟩
    rw [hH1] at q2 hl1 g0 g1 g2 g3 g4 hlen1
    have q4 := p15 H1 hl1 hm [.list [], .list [.int .i64 0], .list [.int .i64 0], .list [.int .i64 1, .int .i64 2], .list [], .list [.int .i64 4]] l hok hn
    rw [if_pos hz, if_pos hz] at q4
    have hl2 := HR_low hl1 (.list [.list [], .list [.int .i64 0], .list [.int .i64 0], .list [.int .i64 1, .int .i64 2], .list [], .list [.int .i64 4]]) l
    have get2 : ∀ i x, H1[i]? = some x → (HR H1 (.v (.list [.list [], .list [.int .i64 0], .list [.int .i64 0], .list [.int .i64 1, .int .i64 2], .list [], .list [.int .i64 4]])) l)[i]? = some x := fun i x hx => get_old _ hx
    have b0 : (HR H1 (.v (.list [.list [], .list [.int .i64 0], .list [.int .i64 0], .list [.int .i64 1, .int .i64 2], .list [], .list [.int .i64 4]])) l)[H1.length]? = some (psR (psL l)) := by simp [HR]
    have b1 : (HR H1 (.v (.list [.list [], .list [.int .i64 0], .list [.int .i64 0], .list [.int .i64 1, .int .i64 2], .list [], .list [.int .i64 4]])) l)[H1.length + 1]? = some (RR (.v (.list [.list [], .list [.int .i64 0], .list [.int .i64 0], .list [.int .i64 1, .int .i64 2], .list [], .list [.int .i64 4]])) H1.length (srL l)) := by simp [HR]
    have hap : ∃ J, HR H1 (.v (.list [.list [], .list [.int .i64 0], .list [.int .i64 0], .list [.int .i64 1, .int .i64 2], .list [], .list [.int .i64 4]])) l = H ++ J := by rw [← hH1]; exact ⟨_, by rw [HR, List.append_assoc]⟩
    have a0 := get2 _ _ g0
    have a2 := get2 _ _ g2
    have a3 := get2 _ _ g3
    have a4 := get2 _ _ g4
    obtain ⟨H2, hH2⟩ : ∃ H2, HR H1 (.v (.list [.list [], .list [.int .i64 0], .list [.int .i64 0], .list [.int .i64 1, .int .i64 2], .list [], .list [.int .i64 4]])) l = H2 := ⟨_, rfl⟩
    rw [hH2] at q4 hl2 b0 b1 hap a0 a2 a3 a4
    have c1 := p17 H2 (H.length + 4) (H.length + 3) (H.length + 2) _ _ _ (hmL l) a4 a3 a2
    have hpl := psL_len l l.length (Nat.le_refl _)
    have hpm := psL_mem l l.length (Nat.le_refl _)
    rw [List.take_length] at hpl hpm
    have c2 := p18 H2 H1.length (psL l) b0 (by omega) (by
      intro p hp
      obtain ⟨r, hr, rfl⟩ := List.mem_map.1 ((hpm p).1 hp)
      exact ⟨encR_B (hok r hr) hm, encR_le (hok r hr) hm⟩)
    have c3 := p19 H2 (H.length + 4) H.length _ _ (kmL l) a4 a0
    have hkl := kmL_E (l := l) l.length (Nat.le_refl _) hE
    rw [List.take_length] at hkl
    rw [hkl, List.length_map] at c3
    rw [root_same hE] at c1
    obtain ⟨Z, hZ⟩ : ∃ Z, (bH (lfP (psL l)) 12 0).getD 0 = Z := ⟨_, rfl⟩
    rw [hZ] at c1 c2
    obtain ⟨J, hJ⟩ := hap
    have hK2 : ∀ e, find e 9 = .ref 0 0 → find e 10 = d10 → find e 16 = .own 25 1 LL → find e 17 = .v (.int .i64 k) → K .normal ⟨e, H2⟩ := by
      intro e a b c d
      rw [hJ] at hl2 ⊢
      exact hK e J a b c d hl2
    simp [f9, f10, f16, f17, hk]
    refine ⟨_, _, (q1 _), ?_⟩
    simp
    refine ⟨_, _, q2, ?_⟩
    simp only [awp_regD, c3r19]
    simp
    refine ⟨_, _, ⟨rfl, rfl⟩, _, q3, ?_⟩
    simp [f9, f10, f16, f17, hk]
    refine ⟨_, _, q4, ?_⟩
    simp [c3A, awp_seq, awp_reg, awp_cond, c3r20, awp_skip]
    rw [c3Z, awp_regA]
    refine atok_mono _ (fun s hs => ⟨s, .inl rfl, hs⟩) ?_
    simp only [c3r22]
    simp [b1, RR]
    constructor
    · refine ⟨_, _, c1, ?_⟩
      simp [b1, RR]
      refine ⟨_, _, c2, ?_⟩
      simp [f16, f17, hk]
      constructor
      · refine ⟨_, _, c3, ?_⟩
        simp [c3Y, f9, f10, f16, f17, awp_cond, awp_skip]
        exact hK2 _ (by simp [f9]) (by simp [f10]) (by simp [f16]) (by simp [f17])
      · refine ⟨_, _, c3, ?_⟩
        simp [c3Y, f9, f10, f16, f17, awp_cond, awp_skip]
        exact hK2 _ (by simp [f9]) (by simp [f10]) (by simp [f16]) (by simp [f17])
    · refine ⟨_, _, c1, ?_⟩
      simp [b1, RR]
      refine ⟨_, _, c2, ?_⟩
      simp [f16, f17, hk]
      constructor
      · refine ⟨_, _, c3, ?_⟩
        simp [c3Y, f9, f10, f16, f17, awp_cond, awp_skip]
        exact hK2 _ (by simp [f9]) (by simp [f10]) (by simp [f16]) (by simp [f17])
      · refine ⟨_, _, c3, ?_⟩
        simp [c3Y, f9, f10, f16, f17, awp_cond, awp_skip]
        exact hK2 _ (by simp [f9]) (by simp [f10]) (by simp [f16]) (by simp [f17])
  · rw [if_neg hz, if_neg hz] at q2
    have q4 := p15 H hl hm [.list [], .list [.int .i64 0], .list [.int .i64 0], .list [.int .i64 1, .int .i64 2], .list [], .list [.int .i64 4]] l hok hn
    rw [if_neg hz, if_neg hz] at q4
    simp [f9, f10, f16, f17, hk]
    refine ⟨_, _, (q1 _), ?_⟩
    simp
    refine ⟨_, _, q2, ?_⟩
    simp only [awp_regD, c3r19]
    simp
    refine ⟨_, _, ⟨rfl, rfl⟩, _, q3, ?_⟩
    simp [f9, f10, f16, f17, hk]
    refine ⟨_, _, q4, ?_⟩
    simp [c3A, awp_seq, awp_reg, awp_cond, c3r20, hz, awp_skip]
    rw [c3Z, awp_regA]
    refine atok_mono _ (fun s hs => ⟨s, .inl rfl, hs⟩) ?_
    simp only [c3r22]
    simp [c3Y, f9, f10, f16, f17, awp_cond, awp_skip]
    simpa using hK _ [] (by simp [f9]) (by simp [f10]) (by simp [f16]) (by simp [f17]) (by simpa using hl)
end Go.Va

namespace Go.Va
open Go.Proofs
def c3U : AC := (.seq (.seq (.reg c3r15 [9, 10, 16, 17]) (.block 2 (.loop c3l1))) (.seq (.reg c3r24 [23]) (.seq (.reg c3r25 [8]) .ret)))
def c3T : AC := (.seq (.reg c3r14 [9, 10, 16]) c3U)
def c3M : AC := (.seq (.reg c3r10 [1, 2, 3, 9, 10, 11, 12, 13, 49]) (.cond (.t 49 false) (.seq (.reg c3r11 [1, 2, 9, 10, 11, 12, 13, 15]) (.seq (.reg c3r12 [9, 10, 11, 12, 13, 15]) (.reg c3r13 [9, 10, 11, 12, 13]))) .skip))
theorem c3_eq : c3 = (.seq (.reg c3r0 [0, 1, 2, 3]) (.seq (.reg c3r1 [0, 1, 2, 3, 9]) (.seq (.reg c3r2 [1, 2, 3, 9, 10]) (.seq (.reg c3r3 [1, 2, 3, 9, 10, 11]) (.seq (.reg c3r4 [1, 2, 3, 9, 10, 11, 12]) (.seq (.reg c3r5 [1, 2, 3, 9, 10, 11, 12, 13]) (.seq (.seq (.reg c3r6 [1, 2, 3, 9, 10, 11, 12, 13, 14]) (.block 0 (.loop c3l0))) (.seq c3M c3T)))))))) := rfl
abbrev Q3 : AExit → St → Prop := fun e s => (match e with | .exit _ => False | _ => True) ∧ resVs s c3R = some [.bool true]
theorem u3 (h20 : PSp Tryz.prog GLx 20 [] [.bool true]) (H : List Row) (h0 : 0 < H.length) (hl : ∀ row ∈ H, row.low H.length = true) (ls : List (List Rgt)) (L : List Rgt) {m : Nat} (hm : m ≤ 2 ^ 20)
    (hls : ∀ l ∈ ls, (∀ r ∈ l, r.tiny m) ∧ l.length ≤ 2 ^ 30) (hL : (∀ r ∈ L, r.tiny m) ∧ L.length ≤ 2 ^ 30) (hn : ls.length ≤ 100) :
    awp Tryz.prog GLx c3U Q3 ⟨[(9, .ref 0 0), (10, .v (.list (L.map Rgt.V))), (16, .own 25 1 (ls.map fun l => .list (l.map Rgt.V)))], H⟩ := by
  have q1 := (p14 L (fun r hr => (hL.1 r hr).ok hm) hL.2).fsp
  have q2 := fun h => p13n h (.list (L.map Rgt.V))
  have q3 := h20.fsp
  simp at q1 q3
  unfold c3U
  simp only [awp_seq, awp_reg, awp_block, c3r15]
  simp
  refine awp_loop_I ls.length (fun k s => s.e = [(9, .ref 0 0), (10, .v (.list (L.map Rgt.V))), (16, .own 25 1 (ls.map fun l => .list (l.map Rgt.V))), (17, .v (.int .i64 k))] ∧ 0 < s.h.length ∧ ∀ row ∈ s.h, row.low s.h.length = true) ⟨by simp, h0, hl⟩ ?_
  rintro k ⟨se, sh⟩ hk ⟨he, h0, hl⟩
  simp only at he h0 hl
  subst he
  rw [c3l1_eq]
  simp only [awp_seq, awp_reg, awp_block, awp_cond, c3r16]
  simp
  by_cases hlt : k < ls.length
  · obtain ⟨l, hlk⟩ : ∃ l, ls[k]? = some l := ⟨_, List.getElem?_eq_getElem hlt⟩
    have hw : IntKind.i64.wrap ((k : Int) + 1) = k + 1 := wrap_i64 (by omega) (by omega)
    have hx := hls l (List.mem_of_getElem? hlk)
    rw [if_pos (by omega), awp_skip]
    refine b3 sh h0 hl hm l hx.1 hx.2 (ls.map fun l => .list (l.map Rgt.V)) k (by simp [hlk]) (.v (.list (L.map Rgt.V))) _ ?_ _ (by simp) (by simp) (by simp) (by simp)
    intro e J f9 f10 f16 f17 hlow
    simp [c3r17, f9, f10, f16, f17, hw, hlt]
    refine ⟨by omega, ?_⟩
    simpa using hlow
  · have : k = ls.length := by omega
    subst this
    rw [if_neg (by omega), awp_exit]
    simp [c3r24]
    refine ⟨_, _, (q1 _), ?_⟩
    simp
    refine ⟨_, _, (q2 _), ?_⟩
    simp [c3r25]
    refine ⟨_, _, (q3 _), ?_⟩
    simp [awp_ret, c3R]
end Go.Va

namespace Go.Va
open Go.Proofs
theorem aroundI_in {a : Int} (ha : i64 a) {n : Int} (hn : 0 < n) : 0 ≤ aroundI a n ∧ aroundI a n < n := by
  refine ⟨?_, (aroundI_b a n hn).2⟩
  unfold i64 at ha
  unfold aroundI
  split
  · have w1 : IntKind.i64.wrap (a + 1) = a + 1 := wrap_i64 (by omega) (by omega)
    have w2 : IntKind.i64.wrap (0 - (a + 1)) = 0 - (a + 1) := wrap_i64 (by omega) (by omega)
    rw [w1, w2]
    exact Int.tmod_nonneg _ (by omega)
  · exact Int.tmod_nonneg _ (by omega)
theorem flatN_at {α β : Type} {f : α → List β} {s : Nat} (hf : ∀ x, (f x).length = s) : ∀ (l : List α) (i : Nat) (x : α), l[i]? = some x → ((l.flatMap f).drop (i * s)).take s = f x
  | [], i, x, h => by simp at h
  | y :: l, 0, x, h => by
    simp only [List.getElem?_cons_zero, Option.some.injEq] at h
    subst h
    have := hf y
    simp [List.flatMap_cons, List.take_append, this]
  | y :: l, i + 1, x, h => by
    have hy := hf y
    simp only [List.getElem?_cons_succ] at h
    rw [List.flatMap_cons, Nat.succ_mul, Nat.add_comm, ← List.drop_drop]
    have : (f y ++ l.flatMap f).drop s = l.flatMap f := by rw [← hy]; simp
    rw [this]
    exact flatN_at hf l i x h
theorem flatN_set {α β : Type} {f : α → List β} {s : Nat} (hf : ∀ x, (f x).length = s) : ∀ (l : List α) (i : Nat) (y : α), i < l.length → (l.flatMap f).take (i * s) ++ (f y ++ (l.flatMap f).drop (i * s + s)) = (l.set i y).flatMap f
  | [], i, y, h => by simp at h
  | z :: l, 0, y, h => by
    have := hf z
    simp [List.flatMap_cons, ← this]
  | z :: l, i + 1, y, h => by
    have hz := hf z
    have ih := flatN_set hf l i y (by simpa using h)
    rw [List.set_cons_succ, List.flatMap_cons, List.flatMap_cons, ← ih, Nat.succ_mul]
    have e1 : (f z ++ l.flatMap f).take (i * s + s) = f z ++ (l.flatMap f).take (i * s) := by
      rw [List.take_append, hz, List.take_of_length_le (by omega)]
      congr 2; omega
    have e2 : (f z ++ l.flatMap f).drop (i * s + s + s) = (l.flatMap f).drop (i * s + s) := by
      rw [List.drop_append, hz, List.drop_of_length_le (by omega), List.nil_append]
      congr 1; omega
    rw [e1, e2, List.append_assoc]
theorem flatN_len {α β : Type} {f : α → List β} {s : Nat} (hf : ∀ x, (f x).length = s) (l : List α) : (l.flatMap f).length = l.length * s := by
  induction l with
  | nil => simp
  | cons x l ih => simp only [List.flatMap_cons, List.length_append, ih, hf, List.length_cons, Nat.succ_mul]; omega
theorem cs_len (r : Rgt) : r.cs.length = 8 := rfl
def badR (L : List Rgt) (k : Nat) : Row := .cells ((L.flatMap Rgt.cs).map .v ++ List.replicate k .any)
set_option maxRecDepth 100000 in
theorem l3_0 (L : List Rgt) (hL : L.length ≤ 100) (H : List Row) (d1 d2 d3 d9 d11 d12 : D) :
    awp Tryz.prog GLx (.loop c3l0) (fun e s => e = .exit 0 ∧ find s.e 1 = d1 ∧ find s.e 2 = d2 ∧ find s.e 3 = d3 ∧ find s.e 9 = d9 ∧ find s.e 10 = .v (.list (L.map Rgt.V)) ∧ find s.e 11 = d11 ∧ find s.e 12 = d12 ∧ find s.e 13 = .own 32 8 (L.reverse.map Rgt.V) ∧ s.h = H)
      ⟨[(1, d1), (2, d2), (3, d3), (9, d9), (10, .v (.list (L.map Rgt.V))), (11, d11), (12, d12), (13, .own 32 8 []), (14, .v (.int .i64 ((L.length : Int) - 1)))], H⟩ := by
  refine awp_loop_nat0 L.length (fun i => ⟨[(1, d1), (2, d2), (3, d3), (9, d9), (10, .v (.list (L.map Rgt.V))), (11, d11), (12, d12), (13, .own 32 8 ((L.reverse.take i).map Rgt.V)), (14, .v (.int .i64 ((L.length : Int) - 1 - i)))], H⟩) (by simp) ?_
  intro i hi
  simp only [c3l0, awp_seq, awp_reg, awp_block, awp_cond, c3r7]
  simp
  by_cases hlt : i < L.length
  · obtain ⟨x, hx⟩ : ∃ x, L[L.length - 1 - i]? = some x := ⟨_, List.getElem?_eq_getElem (by omega)⟩
    have hxr : L.reverse[i]? = some x := by rw [List.getElem?_reverse hlt]; exact hx
    have e := map_take_succ hxr Rgt.V
    have hn : ((L.length : Int) - 1 - i).toNat = L.length - 1 - i := by omega
    have hw : IntKind.i64.wrap ((L.length : Int) - 1 - i - 1) = (L.length : Int) - 1 - (i + 1) := by rw [wrap_i64 (by omega) (by omega)]; omega
    have hroom : roomy (i + 1) 144 = true := by simp [roomy]; omega
    have hm : min i L.length = i := by omega
    have h0 : (0 : Int) ≤ (L.length : Int) - 1 - i := by omega
    have hV : x.V = .agg x.cs := rfl
    have hc := cs_len x
    have hle : (i : Int) ≤ L.length - 1 := by omega
    have h8 : x.cs.take 8 = x.cs := rfl
    rw [if_pos (by omega), awp_skip]
    simp only [awp_reg, c3r9]
    simp at e
    simp [hn, hx, hle, hV, hc, h8, hm, hroom, c3r8, hw, hlt, e]
  · have : i = L.length := by omega
    subst this
    have htk : (L.reverse.map Rgt.V).take L.length = L.reverse.map Rgt.V := List.take_of_length_le (by simp)
    simp at htk
    rw [if_neg (by omega), awp_exit]
    simp [htk]
theorem bad_load {L : List Rgt} {i : Nat} {x : Rgt} (k : Nat) (hx : L[i]? = some x) : List.take 8 (List.drop (i * 8) (List.map D.copy ((L.flatMap Rgt.cs).map .v ++ List.replicate k .any))) = x.cs.map D.v := by
  have hi : i < L.length := (List.getElem?_eq_some_iff.1 hx).1
  have hl := flatN_len cs_len L
  have hc : List.map D.copy ((L.flatMap Rgt.cs).map D.v) = (L.flatMap Rgt.cs).map D.v := by simp [Function.comp_def, D.copy]
  rw [List.map_append, hc, List.drop_append_of_le_length (by rw [List.length_map, hl]; omega), List.take_append_of_le_length (by rw [List.length_drop, List.length_map, hl]; omega), ← List.map_drop, ← List.map_take, flatN_at cs_len L i x hx]
theorem bad_store {L : List Rgt} {i : Nat} (k : Nat) (S : Rgt) (hi : i < L.length) :
    List.take (i * 8) ((L.flatMap Rgt.cs).map D.v ++ List.replicate k .any) ++ (S.cs.map D.v ++ List.drop (i * 8 + 8) ((L.flatMap Rgt.cs).map D.v ++ List.replicate k .any)) = ((L.set i S).flatMap Rgt.cs).map .v ++ List.replicate k .any := by
  have hl := flatN_len cs_len L
  rw [List.take_append_of_le_length (by rw [List.length_map, hl]; omega), List.drop_append_of_le_length (by rw [List.length_map, hl]; omega), ← List.map_take, ← List.map_drop, ← flatN_set cs_len L i S hi]
  simp
set_option maxRecDepth 100000 in
theorem m3 (L : List Rgt) (hL : L.length ≤ 100) (hne : 0 < L.length) (ht : ∀ r ∈ L, r.tiny 3) (how by_ at_ : Int) (hb : i64 by_) (ha : i64 at_) (k : Nat) (d13 : D) (K : AExit → St → Prop)
    (hK : ∀ (x S : Rgt) (i : Nat) e, x.tiny 3 → S.tiny 4 → i < L.length → find e 9 = .ref 0 0 → find e 10 = .v (.list (L.map Rgt.V)) → find e 11 = .sref 1 L.length → find e 12 = .own 32 8 ((L ++ [x]).map Rgt.V) → find e 13 = d13 →
      K .normal ⟨e, [.dead, badR (L.set i S) k]⟩) :
    ∀ e, find e 1 = .v (.int .i64 how) → find e 2 = .v (.int .i64 by_) → find e 3 = .v (.int .i64 at_) → find e 9 = .ref 0 0 → find e 10 = .v (.list (L.map Rgt.V)) → find e 11 = .sref 1 L.length → find e 12 = .own 32 8 (L.map Rgt.V) → find e 13 = d13 → awp Tryz.prog GLx c3M K ⟨e, [.dead, badR L k]⟩ := by
  intro e g1 g2 g3 g9 g10 g11 g12 g13
  have hi := aroundI_in ha (n := L.length) (by omega)
  have p1 := (p11 at_ L.length (by omega)).fsp
  obtain ⟨i, hai⟩ : ∃ i : Nat, aroundI at_ L.length = i := ⟨(aroundI at_ L.length).toNat, by omega⟩
  rw [hai] at p1 hi
  have hil : i < L.length := by omega
  obtain ⟨x, hx⟩ : ∃ x, L[i]? = some x := ⟨_, List.getElem?_eq_getElem hil⟩
  have hxt := ht x (List.mem_of_getElem? hx)
  have p2 := (p12 x hxt (by decide) how by_).fsp
  have hSt := spoilF_tiny hxt (by decide) how by_ hb
  generalize spoilF x how by_ = S at *
  have hl := flatN_len cs_len L
  have hload := bad_load k hx
  have hstore := bad_store k S hil
  have hlen : i * 8 + 8 ≤ ((L.flatMap Rgt.cs).map D.v ++ List.replicate k D.any).length := by rw [List.length_append, List.length_map, hl]; omega
  have hxe : L[i] = x := (List.getElem?_eq_some_iff.1 hx).2
  have hV : ∀ r : Rgt, r.V = .agg r.cs := fun _ => rfl
  have hVc : ∀ r : Rgt, r.cs.length = 8 := fun _ => rfl
  have h8 : x.cs.take 8 = x.cs := rfl
  have hroom : roomy (L.length + 1) 144 = true := by simp [roomy]; omega
  have hvs : ∀ r : Rgt, D.vs? (r.cs.map D.v) = some r.cs := fun _ => rfl
  have htr : ∀ r : Rgt, List.map (D.toRow ∘ D.v) r.cs = r.cs.map D.v := fun _ => rfl
  have hcl : (S.cs.map D.v).length = 8 := rfl
  have hil0 : (i : Int) < L.length := by omega
  have hK' := hK x S i
  simp only [badR] at hK' ⊢
  obtain ⟨Z, hZ⟩ : ∃ Z, ((L.set i S).flatMap Rgt.cs).map D.v ++ List.replicate k D.any = Z := ⟨_, rfl⟩
  rw [hZ] at hstore hK'
  generalize (L.flatMap Rgt.cs).map D.v ++ List.replicate k D.any = ds at *
  have hput : putL ds (i * 8) (S.cs.map D.v) = Z := by rw [← hstore]; simp only [putL, hcl, List.append_assoc]
  rw [hV, hV] at p2
  simp at p1 p2
  unfold c3M
  simp only [awp_seq, awp_reg, awp_cond, c3r10]
  simp [g1, g2, g3, g9, g10, g11, g12, g13, hne, awp_seq, awp_reg, c3r11]
  refine ⟨_, _, (p1 _), ?_⟩
  simp only [c3r12]
  simp [g1, g2, g3, g9, g10, g11, g12, g13, hil, hlen, hload, hvs]
  refine ⟨_, _, (p2 _), ?_⟩
  simp [g1, g2, g3, g9, g10, g11, g12, g13, hVc, htr, hlen, hput, c3r13, hx, hV, h8, hroom]
  exact hK' _ hxt hSt hil (by simp) (by simp [hV]) (by simp) (by simp [hV]) (by simp [g13])
theorem vs_map : ∀ l : List V, D.vs? (l.map D.v) = some l
  | [] => rfl
  | x :: l => by
    have := vs_map l
    simp only [List.map_cons, D.vs?, D.v?, this]
theorem t3s (h20 : PSp Tryz.prog GLx 20 [] [.bool true]) (L B T R : List Rgt) (n k : Nat) (hB : B.length = n) (hL : L.length ≤ 100)
    (h1 : ∀ r ∈ L, r.tiny 4) (h2 : ∀ r ∈ B, r.tiny 4) (h3 : ∀ r ∈ T, r.tiny 4) (h4 : ∀ r ∈ R, r.tiny 4) (n2 : B.length ≤ 100) (n3 : T.length ≤ 101) (n4 : R.length ≤ 100) :
    ∀ e, find e 9 = .ref 0 0 → find e 10 = .v (.list (L.map Rgt.V)) → find e 11 = .sref 1 n → find e 12 = .own 32 8 (T.map Rgt.V) → find e 13 = .own 32 8 (R.map Rgt.V) → awp Tryz.prog GLx c3T Q3 ⟨e, [.dead, badR B k]⟩ := by
  intro e f9 f10 f11 f12 f13
  have hl := flatN_len cs_len B
  have hu := u3 h20 [.dead, .dead] (by simp) (by simp [Row.low]) [L, B, T, R, []] L (m := 4) (by decide) (by
    intro l hl
    simp only [List.mem_cons, List.not_mem_nil, or_false] at hl
    rcases hl with rfl | rfl | rfl | rfl | rfl
    · exact ⟨h1, by omega⟩
    · exact ⟨h2, by omega⟩
    · exact ⟨h3, by omega⟩
    · exact ⟨h4, by omega⟩
    · simp) ⟨h1, by omega⟩ (by simp)
  simp only [List.map_cons, List.map_nil] at hu
  unfold c3T
  simp only [awp_seq, awp_reg, c3r14]
  simp [f9, f10, f11, f12, f13, badR]
  refine ⟨B.map Rgt.V, by simp [hB], ?_, ?_, ?_⟩
  · intro r hr
    obtain ⟨b, -, rfl⟩ := List.mem_map.1 hr
    rfl
  · rw [List.take_append_of_le_length (by rw [List.length_map, hl, hB]; omega), List.take_of_length_le (by rw [List.length_map, hl, hB]; omega), vs_map, List.flatMap_map]
    rfl
  · exact hu
theorem t3n (h20 : PSp Tryz.prog GLx 20 [] [.bool true]) :
    ∀ e, find e 9 = .ref 0 0 → find e 10 = .v (.list []) → find e 11 = .nil 32 8 → find e 12 = .own 32 8 [] → find e 13 = .own 32 8 [] → awp Tryz.prog GLx c3T Q3 ⟨e, [.dead]⟩ := by
  intro e f9 f10 f11 f12 f13
  have hu := u3 h20 [.dead] (by simp) (by simp [Row.low]) [[], [], [], [], []] [] (m := 4) (by decide) (by simp) (by simp) (by simp)
  simp only [List.map_cons, List.map_nil] at hu
  unfold c3T
  simp only [awp_seq, awp_reg, c3r14]
  simp [f9, f10, f11, f12, f13]
  exact hu
set_option maxRecDepth 100000 in
theorem p3 (h9 : FSp Tryz.prog GLx 9 [] [] [.ref 0 0] [.dead]) (h20 : PSp Tryz.prog GLx 20 [] [.bool true]) (l : List Int) (how by_ at_ : Int) (hb : i64 by_) (ha : i64 at_) :
    PSp Tryz.prog GLx 3 [nums .i64 l, .int .i64 how, .int .i64 by_, .int .i64 at_] [.bool true] := by
  refine psp_of_awp k3 rfl ?_
  have p1 := h9
  have p2 := (p10 l).fsp
  have hLl : (rightsF l).length ≤ 4 := by
    have h1 := List.length_filter_le formedR ((List.range (pickI l 0 5).toNat).map (rightF l))
    have h2 := pickI_b l 0 5 (by decide)
    rw [List.length_map, List.length_range] at h1
    unfold rightsF; omega
  have hLt : ∀ r ∈ rightsF l, r.tiny 3 := by
    intro r hr
    unfold rightsF at hr
    obtain ⟨i, -, rfl⟩ := List.mem_map.1 (List.mem_filter.1 hr).1
    exact rightF_tiny l i
  generalize rightsF l = L at *
  have hho := ho_rgt L
  have room : ∀ (m : Nat), m ≤ 2 ^ 31 → roomy m 144 = true := by intro m hm; simp [roomy]; omega
  have rm := room L.length (by omega)
  simp [nums] at p1 p2
  rw [c3_eq]
  simp only [awp_seq, awp_reg, awp_block, c3r0, c3r1, entry]
  simp [nums]
  refine ⟨_, _, p1, ?_⟩
  simp [c3r2]
  refine ⟨_, _, (p2 _), ?_⟩
  simp [c3r3, hho, rm]
  by_cases hL : L = []
  · subst hL
    have q := l3_0 [] (by simp) [.dead] (.v (.int .i64 how)) (.v (.int .i64 by_)) (.v (.int .i64 at_)) (.ref 0 0) (.nil 32 8) (.own 32 8 [])
    simp at q
    rw [if_pos rfl]
    simp [c3r4, c3r5, c3r6, roomy]
    refine awp_mono _ ?_ q
    rintro e ⟨se, sh⟩ ⟨rfl, g1, g2, g3, g9, g10, g11, g12, g13, hh⟩
    simp only at g1 g2 g3 g9 g10 g11 g12 g13 hh
    subst hh
    unfold c3M
    simp only [awp_seq, awp_reg, awp_cond, c3r10]
    simp [g1, g2, g3, g9, g10, g11, g12, g13, awp_skip]
    exact t3n h20 _ (by simp [g9]) (by simp [g10]) (by simp [g11]) (by simp [g12]) (by simp [g13])
  · rw [if_neg hL]
    intro k
    have hpos : 0 < L.length := List.length_pos_iff.2 hL
    have q := l3_0 L (by omega) [.dead, badR L k] (.v (.int .i64 how)) (.v (.int .i64 by_)) (.v (.int .i64 at_)) (.ref 0 0) (.sref 1 L.length) (.own 32 8 (L.map Rgt.V))
    have hw : IntKind.i64.wrap ((L.length : Int) - 1) = L.length - 1 := wrap_i64 (by omega) (by omega)
    have hfl : (L.map Rgt.V).flatMap V.cells = L.flatMap Rgt.cs := by rw [List.flatMap_map]; rfl
    simp [c3r4, c3r5, c3r6, hho, rm, hw]
    rw [hfl]
    refine awp_mono _ ?_ q
    rintro e ⟨se, sh⟩ ⟨rfl, g1, g2, g3, g9, g10, g11, g12, g13, hh⟩
    simp only at g1 g2 g3 g9 g10 g11 g12 g13 hh
    subst hh
    simp only [if_true, true_and]
    have hm4 : ∀ r : Rgt, r.tiny 3 → r.tiny 4 := fun r h => ⟨h.file, h.state, h.force, h.claims, h.dates, h.bad, h.owners, h.lics, by have := h.lc; omega, by have := h.ld; omega, by have := h.lb; omega, by have := h.lo; omega, by have := h.ll; omega⟩
    refine m3 L (by omega) hpos hLt how by_ at_ hb ha k (.own 32 8 (L.reverse.map Rgt.V)) _ ?_ se g1 g2 g3 g9 g10 g11 g12 g13
    intro x S i e2 hx hS hi e9 e10 e11 e12 e13
    refine t3s h20 L (L.set i S) (L ++ [x]) L.reverse L.length k (by simp) (by omega) (fun r hr => hm4 r (hLt r hr)) ?_ ?_ ?_ (by simp; omega) (by simp; omega) (by simp; omega) e2 e9 e10 e11 e12 e13
    · intro r hr
      rcases List.mem_or_eq_of_mem_set hr with hr | rfl
      · exact hm4 r (hLt r hr)
      · exact hS
    · intro r hr
      rcases List.mem_append.1 hr with hr | hr
      · exact hm4 r (hLt r hr)
      · simp only [List.mem_singleton] at hr
        subst hr
        exact hm4 _ hx
    · intro r hr
      exact hm4 r (hLt r (List.mem_reverse.1 hr))
end Go.Va

namespace Go.Va
open Go.Proofs
def Pr0 : Prims := fun _ _ _ => none
def par6 : List (List Int) := [[], [0], [0], [1, 2], [], [4]]
theorem p120a : ∀ ps ∈ par6, PSp Tryz.prog GLx 120 [.int .i64 6, nums .i64 ps] [.bool true] := by
  intro ps hps
  simp only [par6, List.mem_cons, List.not_mem_nil, or_false] at hps
  rcases hps with rfl | rfl | rfl | rfl | rfl | rfl
  all_goals exact psp_of_ev (Pr := Pr0) (fuel := 100) Tb_ok (fun f args h x hx => by cases hx) (by kernel_rfl)
theorem p121a : ∀ ps ∈ par6, PSp Tryz.prog GLx 121 [nums .i64 ps] [.bool true] := by
  intro ps hps
  simp only [par6, List.mem_cons, List.not_mem_nil, or_false] at hps
  rcases hps with rfl | rfl | rfl | rfl | rfl | rfl
  all_goals exact psp_of_ev (Pr := Pr0) (fuel := 100) Tb_ok (fun f args h x hx => by cases hx) (by kernel_rfl)
theorem p122a : ∀ ps ∈ par6, PSp Tryz.prog GLx 122 [nums .i64 ps] [nums .i64 ps] := by
  intro ps hps
  simp only [par6, List.mem_cons, List.not_mem_nil, or_false] at hps
  rcases hps with rfl | rfl | rfl | rfl | rfl | rfl
  all_goals exact psp_of_ev (Pr := Pr0) (fuel := 100) Tb_ok (fun f args h x hx => by cases hx) (by kernel_rfl)
end Go.Va

namespace Go.Va
open Go.Proofs
abbrev bv (b : Bool) : D := .v (.bool b)
def parD : D := .own 22 1 (par6.map (nums .i64))
def txR (bs : List Bool) : Row := .cells (parD :: bs.map bv)
def rowsF (bs dn op : List Bool) : List Row := [txR bs, .cells [.ref 0 0], .cells (dn.map bv), .cells (op.map bv), .cells [.sref 2 6], .cells [.sref 3 6], .cells [.func 211 [.ref 4 0, .ref 5 0, .ref 1 0, .ref 6 0]]]
def inJ (i : Nat) (src : List Bool) : Nat → List Bool → List Bool
  | 0, bs => bs
  | j + 1, bs => (inJ i src j bs).set (i * 64 + j) ((inJ i src j bs).getD (i * 64 + j) false || src.getD j false)
theorem inJ_len (i : Nat) (src : List Bool) (bs : List Bool) : ∀ j, (inJ i src j bs).length = bs.length
  | 0 => rfl
  | j + 1 => by rw [inJ, List.length_set, inJ_len i src bs j]
def upP (i : Nat) (bs : List Bool) (p : Nat) : List Bool := inJ i ((bs.drop (p * 64)).take 64) 64 bs
set_option maxRecDepth 100000 in
theorem l211 (i : Nat) (hi : i < 6) (bs dn op src : List Bool) (hbs : bs.length = 4096) (hs : src.length = 64) (d41 d42 d43 : D) :
    awp Tryz.prog GLx (.loop c211l1) (fun e s => e = .exit 2 ∧ find s.e 0 = .v (.int .i64 i) ∧ find s.e 1 = .ref 4 0 ∧ find s.e 3 = .ref 1 0 ∧ find s.e 4 = .ref 6 0 ∧ find s.e 41 = d41 ∧ find s.e 42 = d42 ∧ find s.e 43 = d43 ∧ s.h = rowsF (inJ i src 64 bs) dn op)
      ⟨[(0, .v (.int .i64 i)), (1, .ref 4 0), (3, .ref 1 0), (4, .ref 6 0), (41, d41), (42, d42), (43, d43), (56, .agg (src.map bv)), (57, .v (.int .i64 0))], rowsF bs dn op⟩ := by
  refine awp_loop_nat0 64 (fun j => ⟨[(0, .v (.int .i64 i)), (1, .ref 4 0), (3, .ref 1 0), (4, .ref 6 0), (41, d41), (42, d42), (43, d43), (56, .agg (src.map bv)), (57, .v (.int .i64 j))], rowsF (inJ i src j bs) dn op⟩) (by simp [inJ]) ?_
  intro j hj
  simp only [c211l1, awp_seq, awp_reg, awp_block, awp_cond, c211r11]
  simp
  by_cases hlt : j < 64
  · have hw : IntKind.i64.wrap ((j : Int) + 1) = j + 1 := wrap_i64 (by omega) (by omega)
    have hnext : inJ i src (j + 1) bs = (inJ i src j bs).set (i * 64 + j) ((inJ i src j bs).getD (i * 64 + j) false || src.getD j false) := rfl
    have hbl := inJ_len i src bs j
    rw [hnext]
    generalize inJ i src j bs = B at *
    obtain ⟨b, hb⟩ : ∃ b, B[i * 64 + j]? = some b := ⟨_, List.getElem?_eq_getElem (by omega)⟩
    obtain ⟨c, hc⟩ : ∃ c, src[j]? = some c := ⟨_, List.getElem?_eq_getElem (by omega)⟩
    have hbD : B.getD (i * 64 + j) false = b := by rw [List.getD_eq_getElem?_getD, hb]; rfl
    have hcD : src.getD j false = c := by rw [List.getD_eq_getElem?_getD, hc]; rfl
    rw [hbD, hcD]
    obtain ⟨ds, hds⟩ : ∃ ds, parD :: B.map bv = ds := ⟨_, rfl⟩
    have hlen : ds.length = 4097 := by rw [← hds]; simp; omega
    have hld : ds[1 + i * 64 + j]? = some (bv b) := by rw [← hds, show 1 + i * 64 + j = (i * 64 + j) + 1 by omega]; simp [hb]
    have hput : ∀ v, putL ds (1 + i * 64 + j) [bv v] = parD :: (B.set (i * 64 + j) v).map bv := by
      intro v
      rw [← hds, show 1 + i * 64 + j = (i * 64 + j) + 1 by omega, putL]
      simp only [List.take_succ_cons, List.length_singleton, List.drop_succ_cons, List.map_set, List.cons_append]
      rw [List.set_eq_take_append_cons_drop, if_pos (by simp; omega)]
      simp
    have hlt2 : (i : Int) < 64 := by omega
    have hj2 : (j : Int) < 64 := by omega
    have hle : 1 + i * 64 + j + 1 ≤ 4097 := by omega
    rw [if_pos (by omega), awp_skip]
    simp only [awp_reg, c211r12, rowsF, txR, hds]
    have hj63 : j ≤ 63 := by omega
    simp [hs, hc, hj63, awp_regD, c211r13]
    simp [hlen, hld, hlt2, hj2, hlt, hle, hi]
    cases b with
    | false =>
      simp [hput, hlen, hle, awp_reg, c211r14, hw, rowsF, txR, hlt]
    | true =>
      simp [hput, hlen, hle, awp_reg, c211r14, hw, rowsF, txR, hlt]
  · have : j = 64 := by omega
    subst this
    rw [if_neg (by omega), awp_exit]
    simp
end Go.Va

namespace Go.Va
open Go.Proofs
def tfs (i : Nat) : List Bool := (List.range 6).map fun j => decide (j < i)
def parI (i : Nat) : List Int := par6.getD i []
def fillB (i : Nat) (bs : List Bool) : List Bool := (parI i).foldl (fun b p => upP i b p.toNat) (bs.set (i * 64 + i) true)
theorem upP_len (i : Nat) (bs : List Bool) (p : Nat) : (upP i bs p).length = bs.length := inJ_len _ _ _ _
theorem fold_len (i : Nat) : ∀ (ps : List Int) (bs : List Bool), (ps.foldl (fun b p => upP i b p.toNat) bs).length = bs.length
  | [], _ => rfl
  | p :: ps, bs => by rw [List.foldl_cons, fold_len i ps, upP_len]
theorem fillB_len (i : Nat) (bs : List Bool) : (fillB i bs).length = bs.length := by rw [fillB, fold_len, List.length_set]
theorem tfs_len (i : Nat) : (tfs i).length = 6 := by simp [tfs]
theorem tfs_get (i p : Nat) (hp : p < 6) : (tfs i)[p]? = some (decide (p < i)) := by simp [tfs, hp]
theorem tfs_set (i : Nat) (hi : i < 6) : (tfs i).set i true = tfs (i + 1) := by
  have : ∀ i < 6, (tfs i).set i true = tfs (i + 1) := by decide
  exact this i hi
theorem put_map (l : List Bool) (i : Nat) (v : Bool) (hi : i < l.length) : putL (l.map bv) i [bv v] = (l.set i v).map bv := by
  rw [putL, List.map_set, List.set_eq_take_append_cons_drop, if_pos (by simpa using hi)]
  simp
theorem p211a (bs op : List Bool) (i p : Nat) (hp : p < i) (hi : i ≤ 6) : FSp Tryz.prog GLx 211 [.v (.int .i64 p), .ref 4 0, .ref 5 0, .ref 1 0, .ref 6 0] (rowsF bs (tfs i) op) [.v (.bool true)] (rowsF bs (tfs i) op) := by
  refine fsp_of_awp k211 rfl ?_
  have hl := tfs_len i
  have hp6 : p < 6 := by omega
  have hd : (tfs i)[p]? = some true := by rw [tfs_get i p hp6]; simp [hp]
  have hp5 : p ≤ 5 := by omega
  have hp6' : (p : Int) < 6 := by omega
  generalize tfs i = dn at *
  have hde : ∀ h, dn[p]'h = true := fun h => (List.getElem?_eq_some_iff.1 hd).2
  simp only [c211, awp_seq, awp_reg, awp_cond, c211r0, c211r1, entryD, rowsF]
  simp [hp6, hp6', hp5, hd, hde, hl, awp_seq, awp_reg, c211r2, awp_ret, c211R]
set_option maxRecDepth 100000 in
set_option maxHeartbeats 1000000 in
theorem l211o (i : Nat) (hi : i < 6) (ps : List Int) (dn dn' B0 : List Bool) (hB0 : B0.length = 4096) (hps : ∀ p ∈ ps, 0 ≤ p ∧ p.toNat < i) (hpn : ps.length ≤ 2)
    (ha : ∀ bs (p : Nat), p < i → FSp Tryz.prog GLx 211 [.v (.int .i64 p), .ref 4 0, .ref 5 0, .ref 1 0, .ref 6 0] (rowsF bs dn dn') [.v (.bool true)] (rowsF bs dn dn')) :
    awp Tryz.prog GLx (.loop c211l0) (fun e s => e = .exit 0 ∧ find s.e 0 = .v (.int .i64 i) ∧ find s.e 1 = .ref 4 0 ∧ s.h = rowsF (ps.foldl (fun b p => upP i b p.toNat) B0) dn dn')
      ⟨[(0, .v (.int .i64 i)), (1, .ref 4 0), (3, .ref 1 0), (4, .ref 6 0), (41, .v (nums .i64 ps)), (42, .v (.int .i64 ps.length)), (43, .v (.int .i64 0))], rowsF B0 dn dn'⟩ := by
  have fl : ∀ k, ((ps.take k).foldl (fun b p => upP i b p.toNat) B0).length = 4096 := by
    intro k
    rw [fold_len, hB0]
  refine awp_loop_nat0 ps.length (fun k => ⟨[(0, .v (.int .i64 i)), (1, .ref 4 0), (3, .ref 1 0), (4, .ref 6 0), (41, .v (nums .i64 ps)), (42, .v (.int .i64 ps.length)), (43, .v (.int .i64 k))], rowsF ((ps.take k).foldl (fun b p => upP i b p.toNat) B0) dn dn'⟩) (by simp) ?_
  intro k hk
  have hBl := fl k
  simp only [c211l0, awp_seq, awp_reg, awp_block, awp_cond, c211r6]
  simp [nums]
  by_cases hlt : k < ps.length
  · obtain ⟨p, hpk⟩ : ∃ p, ps[k]? = some p := ⟨_, List.getElem?_eq_getElem hlt⟩
    have hw : IntKind.i64.wrap ((k : Int) + 1) = k + 1 := wrap_i64 (by omega) (by omega)
    obtain ⟨hp0, hpi⟩ := hps p (List.mem_of_getElem? hpk)
    obtain ⟨q, rfl⟩ : ∃ q : Nat, p = q := ⟨p.toNat, by omega⟩
    have hqi : q < i := by omega
    have hsuc : (ps.take (k + 1)).foldl (fun b p => upP i b p.toNat) B0 = upP i ((ps.take k).foldl (fun b p => upP i b p.toNat) B0) q := by
      rw [take_snoc hpk, List.foldl_append, List.foldl_cons, List.foldl_nil, Int.toNat_natCast]
    rw [hsuc]
    generalize (ps.take k).foldl (fun b p => upP i b p.toNat) B0 = B at *
    have hc := ha B q hqi
    have hq64 : (q : Int) < 64 := by omega
    have hq63 : q ≤ 63 := by omega
    have hsl : ((B.drop (q * 64)).take 64).length = 64 := by rw [List.length_take, List.length_drop]; omega
    have q2 := l211 i hi B dn dn' ((B.drop (q * 64)).take 64) hBl hsl (.v (nums .i64 ps)) (.v (.int .i64 ps.length)) (.v (.int .i64 k))
    have hup : upP i B q = inJ i ((B.drop (q * 64)).take 64) 64 B := by rw [upP]
    rw [← hup] at q2
    generalize upP i B q = NB at *
    clear hup
    have hld : List.take 64 (List.drop (q * 64) (List.map bv B)) = ((B.drop (q * 64)).take 64).map bv := by rw [List.map_take, List.map_drop]
    have hcp : ∀ l : List Bool, List.map (D.copy ∘ bv) l = l.map bv := fun l => by simp [Function.comp_def, D.copy]
    have hle : 1 + q * 64 ≤ 4033 := by omega
    have hdr : ∀ (x : D) (l : List D), List.drop (1 + q * 64) (x :: l) = List.drop (q * 64) l := fun x l => by rw [Nat.add_comm]; rfl
    rw [if_pos (by omega), awp_skip]
    simp only [awp_reg, c211r7]
    simp [hpk, c211r8, rowsF]
    simp only [rowsF] at hc
    refine ⟨_, _, hc, ?_⟩
    simp [awp_skip, c211r10, txR, hq64, hq63, hBl, hle, hdr, hcp]
    simp only [rowsF, txR, nums] at q2
    simp only [List.map_take, List.map_drop] at q2
    refine awp_mono _ ?_ q2
    rintro e ⟨se, sh⟩ ⟨rfl, f0, f1, f3, f4, f41, f42, f43, hh⟩
    simp only at f0 f1 f3 f4 f41 f42 f43 hh
    subst hh
    simp [c211r15, f0, f1, f3, f4, f41, f42, f43, hw, hlt]
  · have : k = ps.length := by omega
    subst this
    rw [if_neg (by omega), awp_exit]
    simp
set_option maxRecDepth 100000 in
theorem p211 (bs : List Bool) (i : Nat) (hi : i < 6) (hbs : bs.length = 4096) : FSp Tryz.prog GLx 211 [.v (.int .i64 i), .ref 4 0, .ref 5 0, .ref 1 0, .ref 6 0] (rowsF bs (tfs i) (tfs i)) [.v (.bool true)] (rowsF (fillB i bs) (tfs (i + 1)) (tfs (i + 1))) := by
  refine fsp_of_awp k211 rfl ?_
  have hl := tfs_len i
  have hd : (tfs i)[i]? = some false := by rw [tfs_get i i hi]; simp
  have hi5 : i ≤ 5 := by omega
  have hi6' : (i : Int) < 6 := by omega
  have hset := put_map (tfs i) i true (by omega)
  rw [tfs_set i hi] at hset
  have ha := fun bs p hp => p211a bs (tfs (i + 1)) i p hp (by omega)
  have hpar : par6[i]? = some (parI i) := by
    have : ∀ i < 6, par6[i]? = some (parI i) := by decide
    exact this i hi
  have hps : ∀ p ∈ parI i, 0 ≤ p ∧ p.toNat < i := by
    have : ∀ i < 6, ∀ p ∈ parI i, 0 ≤ p ∧ p.toNat < i := by decide
    exact this i hi
  have hpn : (parI i).length ≤ 2 := by
    have : ∀ i < 6, (parI i).length ≤ 2 := by decide
    exact this i hi
  have hres : fillB i bs = (parI i).foldl (fun b p => upP i b p.toNat) (bs.set (i * 64 + i) true) := rfl
  generalize fillB i bs = FB at *
  generalize parI i = ps at *
  generalize tfs (i + 1) = dn' at *
  generalize tfs i = dn at *
  have r0 : putL (parD :: bs.map bv) (1 + i * 64 + i) [bv true] = parD :: (bs.set (i * 64 + i) true).map bv := by
    rw [show 1 + i * 64 + i = (i * 64 + i) + 1 by omega, putL]
    have := put_map bs (i * 64 + i) true (by omega)
    rw [putL] at this
    simpa using this
  have hi64 : i ≤ 63 := by omega
  have hi64' : (i : Int) < 64 := by omega
  have hle : 1 + i * 64 + i + 1 ≤ bs.length + 1 := by omega
  simp only [c211, awp_seq, awp_reg, awp_cond, c211r0, c211r1, entryD, rowsF]
  simp [hi5, hi6', hd, hl, awp_skip, c211r3]
  simp [hset, c211r4, txR, hi64, hi64', r0, hle]
  have hpl : par6.length = 6 := rfl
  simp [c211r5, parD, hpar, hpl, hi6', hi5, nums]
  have q := l211o i hi ps dn dn' (bs.set (i * 64 + i) true) (by rw [List.length_set, hbs]) hps hpn ha
  rw [← hres] at q
  simp [rowsF, txR, parD, nums] at q
  simp only [awp_block]
  refine awp_mono _ ?_ q
  rintro e ⟨se, sh⟩ ⟨rfl, f0, f1, hh⟩
  simp only at f0 f1 hh
  subst hh
  simp [c211r16, f0, f1, hi6', hi5, hl, hset, c211r17, awp_ret, c211R]
end Go.Va

namespace Go.Va
open Go.Proofs
def c123A : AC := match c123 with | .seq _ (.seq a _) => a | _ => .skip
def c123T : AC := match c123 with | .seq _ (.seq _ b) => b | _ => .skip
theorem c123_eq : c123 = .seq (.reg c123r0 [1]) (.seq c123A c123T) := rfl
def tr123 : AT := match c123A with | .regA _ _ _ t => t | _ => .done
def cl123 : List (List Nat) := match c123A with | .regA _ _ c _ => c | _ => []
theorem c123A_eq : c123A = .regA c123r1 [1, 3, 4] cl123 tr123 := rfl
def os123 (rest : List D) : Option (List St) := evT (ev Tb Pr0 4) [] c123r1 tr123 ⟨[(1, .ref 1 0)], [.cells (parD :: rest), .cells [.ref 0 0]]⟩
theorem os_eq (rest : List D) : os123 rest = (os123 []).map (List.map fun o => ⟨o.e, o.h.set 0 (.cells (parD :: rest))⟩) := by kernel_rfl
def F6 : Row := .cells ((tfs 0).map bv)
def exp123 : St := ⟨[(1, .ref 1 0), (3, .ref 4 0), (4, .ref 5 0)], [.cells [parD], .cells [.ref 0 0], F6, F6, .cells [.sref 2 6], .cells [.sref 3 6]]⟩
def pi123 (o : St) : List (Nat × Nat) :=
  match find o.e 3, find o.e 4 with
  | .ref a _, .ref b _ => match o.h[a]?, o.h[b]? with
    | some (.cells [.sref u _]), some (.cells [.sref v _]) => [(a, 4), (b, 5), (u, 2), (v, 3)]
    | _, _ => []
  | _, _ => []
def chk123 (o : St) : Bool :=
  decide (o.h.length = 6) && permOK 2 6 (pi123 o) && noObj o.h && decide (rnm (flip (pi123 o)) 0 = 0) && ((List.range 6).all fun i => decide (i = 0) || !decide (rnm (flip (pi123 o)) i = 0)) &&
    endEq [1, 3, 4] (renSt (pi123 o) o) exp123
theorem os_chk : (match os123 [] with | some os => os.all chk123 | none => false) = true := by kernel_rfl
theorem ren_bv (π : List (Nat × Nat)) (bs : List Bool) : Row.ren π (.cells (parD :: bs.map bv)) = .cells (parD :: bs.map bv) := by
  simp [Row.ren, rens_map, parD, D.ren, Function.comp_def]
theorem renRows_set (π : List (Nat × Nat)) (h : List Row) (X : Row) (hX : X.ren π = X) (hl : h.length = 6) (h0 : rnm (flip π) 0 = 0) (hi : ∀ i < 6, i ≠ 0 → rnm (flip π) i ≠ 0) : renRows π (h.set 0 X) = (renRows π h).set 0 X := by
  refine List.ext_getElem? fun i => ?_
  simp only [renRows, List.length_set, hl, List.getElem?_map]
  rcases Nat.lt_or_ge i 6 with hi6 | hi6
  · rw [List.getElem?_range hi6]
    by_cases hz : i = 0
    · subst hz
      rw [List.getElem?_set_self (by simp)]
      simp only [Option.map_some, h0]
      rw [List.getElem?_set_self (by omega)]
      simp [hX]
    · rw [List.getElem?_set_ne (Ne.symm hz), List.getElem?_map, List.getElem?_range hi6]
      simp only [Option.map_some]
      rw [List.getElem?_set_ne (Ne.symm (hi i hi6 hz))]
  · rw [List.getElem?_eq_none (by simpa using hi6), List.getElem?_eq_none (by simpa using hi6)]
    rfl
theorem a123 (bs : List Bool) (Q : AExit → St → Prop)
    (hQ : Q .normal ⟨[(1, .ref 1 0), (3, .ref 4 0), (4, .ref 5 0)], [txR bs, .cells [.ref 0 0], F6, F6, .cells [.sref 2 6], .cells [.sref 3 6]]⟩) :
    awp Tryz.prog GLx c123A Q ⟨[(1, .ref 1 0)], [txR bs, .cells [.ref 0 0]]⟩ := by
  rw [c123A_eq, awp_regA]
  obtain ⟨os, h0⟩ : ∃ os, os123 [] = some os := by
    have h := os_chk
    cases ho : os123 [] with
    | none => rw [ho] at h; cases h
    | some os => exact ⟨os, rfl⟩
  have hchk := os_chk
  rw [h0] at hchk
  have he := os_eq (bs.map bv)
  rw [h0, Option.map_some] at he
  obtain ⟨-, hall⟩ := evT_sound (P := Tryz.prog) (GL := GLx) (ev_snd Tb_ok (fun f args h x hx => by cases hx) 4) tr123 he ⟨fun r hr => by simp [Lp.has] at hr, by simp⟩
  refine hall _ fun o ho => ?_
  obtain ⟨o0, ho0, rfl⟩ := List.mem_map.1 ho
  have hc := (List.all_eq_true.1 hchk) o0 ho0
  simp only [chk123, Bool.and_eq_true, decide_eq_true_eq] at hc
  obtain ⟨⟨⟨⟨⟨c1, c2⟩, c3⟩, c4⟩, c5⟩, c6⟩ := hc
  obtain ⟨e1, e2⟩ := endEq_eq c6
  have hi : ∀ i < 6, i ≠ 0 → rnm (flip (pi123 o0)) i ≠ 0 := by
    intro i hi hz
    have := (List.all_eq_true.1 c5) i (List.mem_range.2 hi)
    simpa [hz] using this
  have hr := renRows_set (pi123 o0) o0.h (.cells (parD :: bs.map bv)) (ren_bv _ _) c1 c4 hi
  simp only [renSt] at e1 e2
  rw [e2] at hr
  refine ren_leaf (K := fun s2 => Q .normal ⟨normE s2.e [1, 3, 4], s2.h⟩) (pi123 o0) ?_ ?_ ?_
  · simpa [c1, Lp.ins] using c2
  · simp only [noObj, List.all_eq_true, Lp.ins] at c3 ⊢
    intro r hr
    rcases List.mem_or_eq_of_mem_set hr with hr | rfl
    · exact c3 r hr
    · rfl
  · simp only [Lp.ins]
    rw [hr, e1]
    exact hQ
end Go.Va

namespace Go.Va
open Go.Proofs
def fillN : Nat → List Bool → List Bool
  | 0, bs => bs
  | i + 1, bs => fillB i (fillN i bs)
theorem fillN_len (bs : List Bool) : ∀ i, (fillN i bs).length = bs.length
  | 0 => rfl
  | i + 1 => by rw [fillN, fillB_len, fillN_len bs i]
theorem c123T_eq : c123T = (.seq (.reg c123r2 [1, 3, 4, 5]) (.seq (.reg c123r3 [1, 5]) (.seq (.seq (.reg c123r4 [5, 24, 25]) (.block 0 (.loop c123l0))) (.seq (.reg c123r10 [2]) .ret)))) := rfl
theorem l123 (bs : List Bool) (hbs : bs.length = 4096) :
    awp Tryz.prog GLx (.loop c123l0) (fun e s => e = .exit 0 ∧ s.h = rowsF (fillN 6 bs) (tfs 6) (tfs 6))
      ⟨[(5, .ref 6 0), (24, .v (.int .i64 6)), (25, .v (.int .i64 0))], rowsF bs (tfs 0) (tfs 0)⟩ := by
  refine awp_loop_nat0 6 (fun i => ⟨[(5, .ref 6 0), (24, .v (.int .i64 6)), (25, .v (.int .i64 i))], rowsF (fillN i bs) (tfs i) (tfs i)⟩) (by simp [fillN]) ?_
  intro i hi
  simp only [c123l0, awp_seq, awp_reg, awp_block, awp_cond, c123r5]
  simp
  by_cases hlt : i < 6
  · have hw : IntKind.i64.wrap ((i : Int) + 1) = i + 1 := wrap_i64 (by omega) (by omega)
    have p1 := p211 (fillN i bs) i hlt (by rw [fillN_len, hbs])
    have hn : fillN (i + 1) bs = fillB i (fillN i bs) := rfl
    rw [hn]
    generalize fillB i (fillN i bs) = B2 at *
    generalize fillN i bs = B at *
    generalize tfs (i + 1) = t2 at *
    generalize tfs i = t1 at *
    rw [if_pos (by omega), awp_skip]
    simp only [awp_reg, c123r6]
    simp [c123r7, rowsF]
    simp only [rowsF] at p1
    refine ⟨_, _, p1, ?_⟩
    simp [awp_skip, c123r9, hw]
    omega
  · have : i = 6 := by omega
    subst this
    rw [if_neg (by omega), awp_exit]
    simp
theorem p123 (bs : List Bool) (hbs : bs.length = 4096) : FSp Tryz.prog GLx 123 [.ref 0 0] [txR bs] [.v (.bool true)] (rowsF (fillN 6 bs) (tfs 6) (tfs 6)) := by
  refine fsp_of_awp k123 rfl ?_
  have q := l123 bs hbs
  generalize rowsF (fillN 6 bs) (tfs 6) (tfs 6) = HH at *
  rw [c123_eq]
  simp only [awp_seq, awp_reg, c123r0, entryD]
  simp
  refine a123 bs _ ?_
  rw [c123T_eq]
  simp only [awp_seq, awp_reg, awp_block, c123r2]
  simp [c123r3, putL, txR, parD]
  simp [c123r4, par6]
  simp only [rowsF, txR, parD, F6] at q ⊢
  refine awp_mono _ ?_ q
  rintro e ⟨se, sh⟩ ⟨rfl, hh⟩
  simp only at hh
  subst hh
  simp [c123r10, awp_ret, c123R]
end Go.Va

namespace Go.Va
open Go.Proofs
theorem l46 (Z : List D) :
    awp Tryz.prog GLx (.loop c46l0) (fun e s => e = .exit 0 ∧ find s.e 5 = .ref 0 0 ∧ s.h = [.cells (.own 22 1 (par6.map (nums .i64)) :: Z)])
      ⟨[(4, .v (.int .i64 6)), (5, .ref 0 0), (14, .v (.list (par6.map (nums .i64)))), (15, .v (.int .i64 6)), (16, .v (.int .i64 0))], [.cells (.own 22 1 [] :: Z)]⟩ := by
  refine awp_loop_nat0 6 (fun k => ⟨[(4, .v (.int .i64 6)), (5, .ref 0 0), (14, .v (.list (par6.map (nums .i64)))), (15, .v (.int .i64 6)), (16, .v (.int .i64 k))], [.cells (.own 22 1 ((par6.take k).map (nums .i64)) :: Z)]⟩) (by simp) ?_
  intro k hk
  simp only [c46l0, awp_seq, awp_reg, awp_block, awp_cond, c46r6]
  simp
  have hp6 : par6.length = 6 := rfl
  by_cases hlt : k < 6
  · obtain ⟨ps, hps⟩ : ∃ ps, par6[k]? = some ps := ⟨_, List.getElem?_eq_getElem (by omega)⟩
    have hmem := List.mem_of_getElem? hps
    have p1 := (p120a ps hmem).fsp
    have p2 := (p121a ps hmem).fsp
    have p3 := p122a ps hmem
    have hw : IntKind.i64.wrap ((k : Int) + 1) = k + 1 := wrap_i64 (by omega) (by omega)
    have e := map_take_succ hps (nums .i64)
    have hm : min k par6.length = k := by omega
    have hroom : roomy (k + 1) 24 = true := by simp [roomy]; omega
    generalize par6 = par at *
    rw [if_pos (by omega), awp_skip]
    simp only [awp_reg, c46r7]
    simp only [nums] at p1 p2 p3 e
    simp at p1 p2
    simp [hps, nums]
    simp only [c46r8]
    simp
    refine ⟨_, _, (p1 _), ?_⟩
    simp
    refine ⟨_, _, (p2 _), ?_⟩
    simp [awp_skip, awp_regD, c46r10]
    refine ⟨_, _, ⟨rfl, rfl⟩, _, p3, ?_⟩
    simp [hm, hroom, putL, c46r11, hw, hlt, e]
  · have : k = 6 := by omega
    subst this
    rw [if_neg (by omega), awp_exit]
    have : (par6.map (nums .i64)).take 6 = par6.map (nums .i64) := rfl
    simp [this]
def zb : List Bool := List.replicate 4096 false
def zD : List D := List.replicate 4096 (.v (.bool false))
theorem zD_eq : zD = zb.map bv := by rw [zD, zb, List.map_replicate]
theorem zD_row : zD.map D.toRow = zD := by rw [zD, List.map_replicate]; rfl
theorem zb_len : zb.length = 4096 := by rw [zb, List.length_replicate]
def c46r4' : List GI := [⟨none, .p 12 (.build (.nil 22 1 :: zD) [])⟩, ⟨none, .box 13 (.t 12 false)⟩, ⟨none, .mv 5 (.t 13 false)⟩]
theorem c46r4_eq : c46r4 = c46r4' := rfl
theorem p46 : FSp Tryz.prog GLx 46 [.v (.list (par6.map (nums .i64)))] [] [.ref 0 0, .v (.int .i64 0)] (rowsF (fillN 6 zb) (tfs 6) (tfs 6)) := by
  refine fsp_of_awp k46 rfl ?_
  have q := l46 zD
  have q2 := p123 zb zb_len
  rw [txR, ← zD_eq, parD] at q2
  generalize rowsF (fillN 6 zb) (tfs 6) (tfs 6) = HH at *
  have hp6 : par6.length = 6 := rfl
  have hz := zD_row
  simp only [c46, awp_seq, awp_reg, awp_block, awp_cond, c46r0, c46r1, entryD]
  rw [c46r4_eq]
  unfold c46r4'
  generalize zD = Z at *
  generalize par6 = par at *
  simp [hp6, c46r2, awp_skip]
  simp [hz, c46r5, hp6]
  refine awp_mono _ ?_ q
  rintro e ⟨se, sh⟩ ⟨rfl, f5, hh⟩
  simp only at f5 hh
  subst hh
  simp [c46r12, f5]
  refine ⟨_, _, q2, ?_⟩
  simp [awp_skip, c46r14, awp_ret, c46R, f5]
theorem p9 : FSp Tryz.prog GLx 9 [] [] [.ref 0 0] [.dead] := by
  have key : FSp Tryz.prog GLx 9 [] [] [.ref 0 0] [txR (fillN 6 zb)] := by
    refine fsp_low k9 rfl (by simp) ?_ ?_ ?_
    · intro row hrow
      simp only [List.mem_singleton] at hrow
      subst hrow
      simp only [txR, Row.low]
      refine lts_all fun d hd => ?_
      rcases List.mem_cons.1 hd with rfl | hd
      · rfl
      · obtain ⟨b, -, rfl⟩ := List.mem_map.1 hd
        rfl
    · intro d hd
      simp only [List.mem_singleton] at hd
      subst hd
      rfl
    have q1 := p16.fsp
    have q2 := p46
    have e : parentsV = .list (par6.map (nums .i64)) := rfl
    rw [e] at q1
    have hJ : ∃ J, rowsF (fillN 6 zb) (tfs 6) (tfs 6) = [txR (fillN 6 zb)] ++ J := ⟨_, rfl⟩
    generalize rowsF (fillN 6 zb) (tfs 6) (tfs 6) = HH at *
    generalize txR (fillN 6 zb) = TX at *
    generalize par6 = par at *
    simp at q1 hJ
    simp only [c9, awp_seq, awp_reg, awp_cond, c9r0, c9r1, entryD]
    simp
    refine ⟨_, _, (q1 _), ?_⟩
    simp
    refine ⟨_, _, q2, ?_⟩
    simp [c9r2, awp_skip, c9r4, awp_ret, c9R, hJ]
  exact key.kill 0
end Go.Va

