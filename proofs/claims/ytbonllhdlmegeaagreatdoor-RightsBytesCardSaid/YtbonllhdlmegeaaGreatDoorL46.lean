/- RightsBytes: the other closed facts that go over the list of its functions. -/
import Derived.Test.YtbonllhdlmegeaaGreatDoorL45
namespace Go.Proofs.YtbonllhdlmegeaaGreatDoor.rightsBytes
open Go
theorem inPlace_ok : (Rows.rightsBytesRow.inPlace == Tryz.prog.inPlace 3) = true := by
  unfold Program.inPlace
  rw [clos]
  kernel_rfl
theorem unf_eq : Tryz.prog.unfollowed 3 = true := by
  unfold Program.unfollowed
  rw [clos]
  kernel_rfl
theorem unf_ok : (Rows.rightsBytesRow.unfollowed == Tryz.prog.unfollowed 3) = true := by
  rw [unf_eq]
  rfl
theorem rec_ok : (Rows.rightsBytesRow.recurses == Tryz.prog.recurses 3) = true := by
  unfold Program.recurses
  rw [unf_eq, Bool.true_or]
  rfl
end Go.Proofs.YtbonllhdlmegeaaGreatDoor.rightsBytes
