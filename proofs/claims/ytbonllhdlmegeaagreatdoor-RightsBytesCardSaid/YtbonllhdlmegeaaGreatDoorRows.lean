/-
  NARROWER THAN 'FOR EVERY INPUT', by the rows' own cells (each row's printed sentence says how): RightsBytes: laid.
  DERIVED. THE GIVEN ROWS OF THIS SEAT. 1 by the template 'for every input the law returns true; each argument reads behind the call as it read before'; 0 by the template 'total and deterministic' (their statements: YtbonllhdlmegeaaGreatDoorTotals.lean).
  GIVEN WITH THE SEED: the statements are not yours to turn. If you find one false, say at which input.
  Laid BY PROGRAM, IN A SANDBOX (cutbox-rows.mjs): the forced cells as the released guide's own fill.sh prints them over the translation 4a6b6f67b5488a55… (all of the seat's roots in one cut). By AI agents, Wed Nov 11 2026. No macro, syntax, notation, axiom, sorry.
-/
import Derived.Test.YtbonllhdlmegeaaGreatDoorChecked
import GoSem.Claim
import GoSem.ClaimJoined
import GoSem.ClaimMapViews
import Derived.JoinedTies
import Derived.KernelRfl
namespace Go.Proofs.YtbonllhdlmegeaaGreatDoor
/- THE CELL 'sum', in the pinned program and in every row, IS THE sha256 OF THE DUMP (.gsa) THAT YtbonllhdlmegeaaGreatDoorProg.lean LOADS. Nothing in Lean hashes anything: it is a label: what it is worth is what the hold of that sum in a sandbox is worth. -/
noncomputable def Tryz.pinned : Pinned := { name := "ytbonllhdlmegeaagreatdoor", sum := "4a6b6f67b5488a55004cc2f3c435369558f0bf69f509de68bf48baa186ebd5e6", checked := Tryz.checked }
namespace Rows
def none {H : Type} : Left H := { results := [], args := [] }

/- WHAT THE LISTED PACKAGE-LEVEL VARIABLES READ AS WHEN THE CALL BEGINS. Each datum BY PROGRAM (the guide's laid-datum.mjs) off the statement by which the dump's own 'gosem.cut.vars' lays the variable. In a bare row this is a premise. The card (YtbonllhdlmegeaaGreatDoorCards.lean) ties it to the program's text. -/
def laid_priorart_civil_lengths {H : Type} : DataW H := .agg [.lit (.int .i64 31), .lit (.int .i64 28), .lit (.int .i64 31), .lit (.int .i64 30), .lit (.int .i64 31), .lit (.int .i64 30), .lit (.int .i64 31), .lit (.int .i64 31), .lit (.int .i64 30), .lit (.int .i64 31), .lit (.int .i64 30), .lit (.int .i64 31)]
def laid_priorart_law_ranges {H : Type} : DataW H := .agg [.agg [.lit (.int .i64 0), .lit (.int .i64 120)], .agg [.lit (.int .i64 0), .lit (.int .i64 120)], .agg [.lit (.int .i64 0), .lit (.int .i64 120)], .agg [.lit (.int .i64 0), .lit (.int .i64 120)], .agg [.lit (.int .i64 0), .lit (.int .i64 120)], .agg [.lit (.int .i64 0), .lit (.int .i64 120)], .agg [.lit (.int .i64 0), .lit (.int .i64 120)], .agg [.lit (.int .i64 1), .lit (.int .i64 100)], .agg [.lit (.int .i64 1), .lit (.int .i64 100)], .agg [.lit (.int .i64 0), .lit (.int .i64 1099511627776)], .agg [.lit (.int .i64 0), .lit (.int .i64 1099511627776)], .agg [.lit (.int .i64 0), .lit (.int .i64 1099511627776)], .agg [.lit (.int .i64 0), .lit (.int .i64 1099511627776)], .agg [.lit (.int .i64 0), .lit (.int .i64 1099511627776)], .agg [.lit (.int .i64 0), .lit (.int .i64 1099511627776)], .agg [.lit (.int .i64 0), .lit (.int .i64 1099511627776)], .agg [.lit (.int .i64 0), .lit (.int .i64 1099511627776)], .agg [.lit (.int .i64 0), .lit (.int .i64 100)], .agg [.lit (.int .i64 0), .lit (.int .i64 100)]]
def laid_priorart_acts_fields {H : Type} : DataW H := .agg [.lit (.int .i64 655), .lit (.int .i64 1), .lit (.int .i64 1), .lit (.int .i64 257), .lit (.int .i64 61), .lit (.int .i64 20), .lit (.int .i64 17), .lit (.int .i64 17), .lit (.int .i64 49), .lit (.int .i64 17), .lit (.int .i64 1), .lit (.int .i64 1), .lit (.int .i64 5), .lit (.int .i64 281), .lit (.int .i64 5), .lit (.int .i64 257), .lit (.int .i64 77), .lit (.int .i64 29), .lit (.int .i64 17), .lit (.int .i64 1024), .lit (.int .i64 18), .lit (.int .i64 50)]
def laid_priorart_fees_events {H : Type} : DataW H := .agg [.agg [.lit (.int .i64 10), .lit (.int .i64 2), .lit (.int .i64 11)], .agg [.lit (.int .i64 12), .lit (.int .i64 3), .lit (.int .i64 12)], .agg [.lit (.int .i64 14), .lit (.int .i64 4), .lit (.int .i64 13)], .agg [.lit (.int .i64 18), .lit (.int .i64 5), .lit (.int .i64 14)]]

/-- 'priorartlaw27.RightsBytes': WHATEVER THE INPUT: true; the input reads as it did. -/
def rightsBytesSpec : ChangeSpec := { name := "rightsBytes", fn := fun _ => fun
  | [d1, d2, d3, d4, d5, d6, d7] => { results := [.lit (.bool true)], args := [d1, d2, d3, d4, d5, d6, d7] }
  | _ => none }
def rightsBytesRow : OpenClaim := { program := "ytbonllhdlmegeaagreatdoor", sum := "4a6b6f67b5488a55004cc2f3c435369558f0bf69f509de68bf48baa186ebd5e6", func := "priorart/priorartlaw27.RightsBytes", spec := "rightsBytes", unfollowed := true, recurses := true, named := ["priorart/acts.fields", "priorart/law.ranges", "priorart/civil.lengths", "priorart/fees.events"], apart := false, laid := [("priorart/civil.lengths", laid_priorart_civil_lengths), ("priorart/law.ranges", laid_priorart_law_ranges), ("priorart/acts.fields", laid_priorart_acts_fields), ("priorart/fees.events", laid_priorart_fees_events)] }
def RightsBytesSaid : Prop := rightsBytesRow.holds Tryz.pinned (OpenSpec.ofChange rightsBytesSpec)

/-- ITS FALSE NEIGHBOUR: 'it returns false'. Refute it at one input. -/
def rightsBytesWrong : ChangeSpec := { name := "rightsBytes", fn := fun _ => fun
  | [d1, d2, d3, d4, d5, d6, d7] => { results := [.lit (.bool false)], args := [d1, d2, d3, d4, d5, d6, d7] }
  | _ => none }
def RightsBytesWrongFalsely : Prop := rightsBytesRow.holds Tryz.pinned (OpenSpec.ofChange rightsBytesWrong)

/- THE SECOND FORM. 'bulk': how many values and letters a reading holds, each counted each time it is reached (what is shared counts as often as it is met; a slice's spare places count too). A statement '..UptoSaid' is the law's where the arguments, and the package variables that the reading takes, are together of bulk at most 1048576: NARROWER than '..Said'. Prove '..Said' where nothing that the law and all that it calls make is longer than what came in: it says more and counts as full. Else prove '..UptoSaid'. A law counts once. -/
mutual
def uptoBulk {H : Type} : DataW H → Nat
  | .lit (.string bytes) => bytes.length + 1
  | .lit _ => 1
  | .nil => 1
  | .ptr d => uptoBulk d + 1
  | .slice elems spare => uptoBulkAll elems + uptoBulkAll spare + 1
  | .agg parts => uptoBulkAll parts + 1
  | .iface _ d => uptoBulk d + 1
  | .map entries => uptoBulkEntries entries + 1
  | .held _ => 1
def uptoBulkAll {H : Type} : List (DataW H) → Nat
  | [] => 0
  | d :: r => uptoBulk d + uptoBulkAll r
def uptoBulkEntries {H : Type} : List (Lit × DataW H) → Nat
  | [] => 0
  | x :: r => uptoBulkEntry x + uptoBulkEntries r
def uptoBulkEntry {H : Type} : Lit × DataW H → Nat
  | (.string bytes, d) => bytes.length + uptoBulk d + 1
  | (_, d) => uptoBulk d + 1
 end
def uptoSmall : (H : Type) → List (DataW H) → Bool := fun _ ds => decide (uptoBulkAll ds ≤ 1048576)
def OpenSpec.upto (s : _root_.Go.ChangeSpec) : _root_.Go.OpenSpec := { _root_.Go.OpenSpec.ofChange s with cond := some uptoSmall }

/-- 'priorartlaw27.RightsBytes', WHERE WHAT IT READS IS OF BULK AT MOST 1048576: true; the input reads as it did. -/
def rightsBytesUptoRow : OpenClaim := { program := "ytbonllhdlmegeaagreatdoor", sum := "4a6b6f67b5488a55004cc2f3c435369558f0bf69f509de68bf48baa186ebd5e6", func := "priorart/priorartlaw27.RightsBytes", spec := "rightsBytes", unfollowed := true, recurses := true, named := ["priorart/acts.fields", "priorart/law.ranges", "priorart/civil.lengths", "priorart/fees.events"], apart := false, laid := [("priorart/civil.lengths", laid_priorart_civil_lengths), ("priorart/law.ranges", laid_priorart_law_ranges), ("priorart/acts.fields", laid_priorart_acts_fields), ("priorart/fees.events", laid_priorart_fees_events)], narrowed := true }
def RightsBytesUptoSaid : Prop := rightsBytesUptoRow.holds Tryz.pinned (OpenSpec.upto rightsBytesSpec)

end Rows
end Go.Proofs.YtbonllhdlmegeaaGreatDoor
