/- Laws, part 44: what the card asks of the parameters. No condition. -/
import Derived.Test.YtbonllhdlmegeaaGreatDoorRows
import Derived.Test.YtbonllhdlmegeaaGreatDoorCards
import Derived.KernelRfl
namespace Go.Proofs.YtbonllhdlmegeaaGreatDoor.rightsBytes
theorem named3 : Tryz.prog.funcNamed "priorart/priorartlaw27.RightsBytes" = some 3 := by kernel_rfl
theorem looks0 : false = Tryz.pinned.checked.prog.looks [] := by kernel_rfl
theorem ws22 : Tryz.prog.wantsStandIn 22 = false := by kernel_rfl
theorem ws3 : Tryz.prog.wantsStandIn 3 = false := by kernel_rfl
theorem ws23 : Tryz.prog.wantsStandIn 23 = false := by kernel_rfl
theorem ws5 : Tryz.prog.wantsStandIn 5 = false := by kernel_rfl
theorem plain (f : FuncId) (fn : Func) (hf : Tryz.pinned.checked.prog.funcNamed "priorart/priorartlaw27.RightsBytes" = some f) (hfn : Tryz.pinned.checked.prog.funcs[f]? = some fn) :
    false = Tryz.pinned.checked.prog.looks [] ∧ ∀ (j : Nat) t, fn.params[j]? = some t → Tryz.pinned.checked.prog.wantsStandIn t = false := by
  obtain rfl : f = 3 := Option.some.inj (named3.symm.trans hf) |>.symm
  obtain rfl : fn = Tryz.f3 := (Option.some.inj (Tryz.func3.symm.trans hfn)).symm
  refine ⟨looks0, fun j t ht => ?_⟩
  rw [Tryz.params3] at ht
  have hm : t ∈ #[22, 22, 3, 3, 3, 23, 5] := Array.mem_of_getElem? ht
  simp at hm
  rcases hm with rfl | rfl | rfl | rfl
  · exact ws22
  · exact ws3
  · exact ws23
  · exact ws5
end Go.Proofs.YtbonllhdlmegeaaGreatDoor.rightsBytes
