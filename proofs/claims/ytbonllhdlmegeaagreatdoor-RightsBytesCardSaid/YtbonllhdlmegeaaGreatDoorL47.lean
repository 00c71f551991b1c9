/- The closed facts of the row of RightsBytes, but for those that go over the list of its functions. -/
import Derived.Test.YtbonllhdlmegeaaGreatDoorRows
import Derived.Stop.Joined
import Derived.JoinedCond
import Derived.ProofKit
namespace Go.Proofs.YtbonllhdlmegeaaGreatDoor.rightsBytes

set_option maxHeartbeats 8000000 in
theorem closed0 (hN : (Rows.rightsBytesRow.named == Tryz.prog.varsNamed 3) = true) (hI : (Rows.rightsBytesRow.inPlace == Tryz.prog.inPlace 3) = true) (hU : (Rows.rightsBytesRow.unfollowed == Tryz.prog.unfollowed 3) = true) (hR : (Rows.rightsBytesRow.recurses == Tryz.prog.recurses 3) = true) : joinedFacts Tryz.prog 3 Tryz.f3 (OpenSpec.ofChange Rows.rightsBytesSpec).bare Rows.rightsBytesRow = true := by
  simp only [joinedFacts, Bool.and_eq_true]
  repeat' apply And.intro
  all_goals first | with_reducible exact hN | with_reducible exact hI | with_reducible exact hU | with_reducible exact hR | (as_aux_lemma => kernel_rfl)
end Go.Proofs.YtbonllhdlmegeaaGreatDoor.rightsBytes
