/- Part 0 of the proof that ExtractMakes returns true for every input and leaves its arguments alone. Condition: the variable that the row lists holds what the text of the program lays. Texts joined here: Vk. -/
import Derived.Test.YtopldfpkgbkomaaGreatDoorRows
import Derived.Stop.Joined
import Derived.JoinedCond
import Derived.ProofKit
set_option linter.all false
namespace Go.Proofs.YtopldfpkgbkomaaGreatDoor.extractMakes
set_option maxHeartbeats 8000000 in
theorem closed : joinedFacts Tryz.prog 3 Tryz.f3 (OpenSpec.ofChange Rows.extractMakesSpec).bare Rows.extractMakesRow = true := by
  simp only [joinedFacts, Bool.and_eq_true]
  repeat' apply And.intro
  all_goals as_aux_lemma => kernel_rfl
end Go.Proofs.YtopldfpkgbkomaaGreatDoor.extractMakes

