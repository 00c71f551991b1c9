/-
  NARROWER THAN 'FOR EVERY INPUT', by the rows' own cells (each row's printed sentence says how): ExtractMakes: laid · ExtractBetter: laid · ExtractAnswers: laid · ExtractChecks: laid · ExtractOther: laid · ExtractBytes: laid.
  DERIVED. THE GIVEN ROWS OF THIS SEAT. 6 by the template 'for every input the law returns true; each argument reads behind the call as it read before'; 0 by the template 'total and deterministic' (their statements: YtopldfpkgbkomaaGreatDoorTotals.lean).
  GIVEN WITH THE SEED: the statements are not yours to turn. If you find one false, say at which input.
  Laid BY PROGRAM, IN A SANDBOX (cutbox-rows.mjs): the forced cells as the released guide's own fill.sh prints them over the translation 72e12f1a0a2c14d6… (all of the seat's roots in one cut). By AI agents, Wed Nov 11 2026. No macro, syntax, notation, axiom, sorry.
-/
import Derived.Test.YtopldfpkgbkomaaGreatDoorChecked
import GoSem.Claim
import GoSem.ClaimJoined
import GoSem.ClaimMapViews
import Derived.JoinedTies
import Derived.KernelRfl
namespace Go.Proofs.YtopldfpkgbkomaaGreatDoor
/- THE CELL 'sum', in the pinned program and in every row, IS THE sha256 OF THE DUMP (.gsa) THAT YtopldfpkgbkomaaGreatDoorProg.lean LOADS. Nothing in Lean hashes anything: it is a label: what it is worth is what the hold of that sum in a sandbox is worth. -/
noncomputable def Tryz.pinned : Pinned := { name := "ytopldfpkgbkomaagreatdoor", sum := "72e12f1a0a2c14d61cfd0764ab17a29cee04686dce14b87783e46204f2557658", checked := Tryz.checked }
namespace Rows
def none {H : Type} : Left H := { results := [], args := [] }

/- WHAT THE LISTED PACKAGE-LEVEL VARIABLES READ AS WHEN THE CALL BEGINS. Each datum BY PROGRAM (the guide's laid-datum.mjs) off the statement by which the dump's own 'gosem.cut.vars' lays the variable. In a bare row this is a premise. The card (YtopldfpkgbkomaaGreatDoorCards.lean) ties it to the program's text. -/
def laid_priorart_authmap_whole {H : Type} : DataW H := .agg [.lit (.int .i64 12), .lit (.int .i64 0)]

/-- 'priorartlaw35.ExtractMakes': WHATEVER THE INPUT: true; the input reads as it did. -/
def extractMakesSpec : ChangeSpec := { name := "extractMakes", fn := fun _ => fun
  | [d1, d2, d3, d4] => { results := [.lit (.bool true)], args := [d1, d2, d3, d4] }
  | _ => none }
def extractMakesRow : OpenClaim := { program := "ytopldfpkgbkomaagreatdoor", sum := "72e12f1a0a2c14d61cfd0764ab17a29cee04686dce14b87783e46204f2557658", func := "priorart/priorartlaw35.ExtractMakes", spec := "extractMakes", unfollowed := true, recurses := true, named := ["priorart/authmap.whole"], plainKeys := false, apart := false, laid := [("priorart/authmap.whole", laid_priorart_authmap_whole)] }
def ExtractMakesSaid : Prop := extractMakesRow.holds Tryz.pinned (OpenSpec.ofChange extractMakesSpec)

/-- ITS FALSE NEIGHBOUR: 'it returns false'. Refute it at one input. -/
def extractMakesWrong : ChangeSpec := { name := "extractMakes", fn := fun _ => fun
  | [d1, d2, d3, d4] => { results := [.lit (.bool false)], args := [d1, d2, d3, d4] }
  | _ => none }
def ExtractMakesWrongFalsely : Prop := extractMakesRow.holds Tryz.pinned (OpenSpec.ofChange extractMakesWrong)

/-- 'priorartlaw35.ExtractBetter': WHATEVER THE INPUT: true; the input reads as it did. -/
def extractBetterSpec : ChangeSpec := { name := "extractBetter", fn := fun _ => fun
  | [d1, d2, d3, d4] => { results := [.lit (.bool true)], args := [d1, d2, d3, d4] }
  | _ => none }
def extractBetterRow : OpenClaim := { program := "ytopldfpkgbkomaagreatdoor", sum := "72e12f1a0a2c14d61cfd0764ab17a29cee04686dce14b87783e46204f2557658", func := "priorart/priorartlaw35.ExtractBetter", spec := "extractBetter", unfollowed := true, recurses := true, named := ["priorart/authmap.whole"], plainKeys := false, apart := false, laid := [("priorart/authmap.whole", laid_priorart_authmap_whole)] }
def ExtractBetterSaid : Prop := extractBetterRow.holds Tryz.pinned (OpenSpec.ofChange extractBetterSpec)

/-- ITS FALSE NEIGHBOUR: 'it returns false'. Refute it at one input. -/
def extractBetterWrong : ChangeSpec := { name := "extractBetter", fn := fun _ => fun
  | [d1, d2, d3, d4] => { results := [.lit (.bool false)], args := [d1, d2, d3, d4] }
  | _ => none }
def ExtractBetterWrongFalsely : Prop := extractBetterRow.holds Tryz.pinned (OpenSpec.ofChange extractBetterWrong)

/-- 'priorartlaw35.ExtractAnswers': WHATEVER THE INPUT: true; the input reads as it did. -/
def extractAnswersSpec : ChangeSpec := { name := "extractAnswers", fn := fun _ => fun
  | [d1, d2, d3, d4, d5, d6] => { results := [.lit (.bool true)], args := [d1, d2, d3, d4, d5, d6] }
  | _ => none }
def extractAnswersRow : OpenClaim := { program := "ytopldfpkgbkomaagreatdoor", sum := "72e12f1a0a2c14d61cfd0764ab17a29cee04686dce14b87783e46204f2557658", func := "priorart/priorartlaw35.ExtractAnswers", spec := "extractAnswers", unfollowed := true, recurses := true, named := ["priorart/authmap.whole"], plainKeys := false, apart := false, laid := [("priorart/authmap.whole", laid_priorart_authmap_whole)] }
def ExtractAnswersSaid : Prop := extractAnswersRow.holds Tryz.pinned (OpenSpec.ofChange extractAnswersSpec)

/-- ITS FALSE NEIGHBOUR: 'it returns false'. Refute it at one input. -/
def extractAnswersWrong : ChangeSpec := { name := "extractAnswers", fn := fun _ => fun
  | [d1, d2, d3, d4, d5, d6] => { results := [.lit (.bool false)], args := [d1, d2, d3, d4, d5, d6] }
  | _ => none }
def ExtractAnswersWrongFalsely : Prop := extractAnswersRow.holds Tryz.pinned (OpenSpec.ofChange extractAnswersWrong)

/-- 'priorartlaw35.ExtractChecks': WHATEVER THE INPUT: true; the input reads as it did. -/
def extractChecksSpec : ChangeSpec := { name := "extractChecks", fn := fun _ => fun
  | [d1, d2, d3, d4, d5, d6, d7] => { results := [.lit (.bool true)], args := [d1, d2, d3, d4, d5, d6, d7] }
  | _ => none }
def extractChecksRow : OpenClaim := { program := "ytopldfpkgbkomaagreatdoor", sum := "72e12f1a0a2c14d61cfd0764ab17a29cee04686dce14b87783e46204f2557658", func := "priorart/priorartlaw35.ExtractChecks", spec := "extractChecks", unfollowed := true, recurses := true, named := ["priorart/authmap.whole"], plainKeys := false, apart := false, laid := [("priorart/authmap.whole", laid_priorart_authmap_whole)] }
def ExtractChecksSaid : Prop := extractChecksRow.holds Tryz.pinned (OpenSpec.ofChange extractChecksSpec)

/-- ITS FALSE NEIGHBOUR: 'it returns false'. Refute it at one input. -/
def extractChecksWrong : ChangeSpec := { name := "extractChecks", fn := fun _ => fun
  | [d1, d2, d3, d4, d5, d6, d7] => { results := [.lit (.bool false)], args := [d1, d2, d3, d4, d5, d6, d7] }
  | _ => none }
def ExtractChecksWrongFalsely : Prop := extractChecksRow.holds Tryz.pinned (OpenSpec.ofChange extractChecksWrong)

/-- 'priorartlaw35.ExtractOther': WHATEVER THE INPUT: true; the input reads as it did. -/
def extractOtherSpec : ChangeSpec := { name := "extractOther", fn := fun _ => fun
  | [d1, d2, d3, d4] => { results := [.lit (.bool true)], args := [d1, d2, d3, d4] }
  | _ => none }
def extractOtherRow : OpenClaim := { program := "ytopldfpkgbkomaagreatdoor", sum := "72e12f1a0a2c14d61cfd0764ab17a29cee04686dce14b87783e46204f2557658", func := "priorart/priorartlaw35.ExtractOther", spec := "extractOther", unfollowed := true, recurses := true, named := ["priorart/authmap.whole"], plainKeys := false, apart := false, laid := [("priorart/authmap.whole", laid_priorart_authmap_whole)] }
def ExtractOtherSaid : Prop := extractOtherRow.holds Tryz.pinned (OpenSpec.ofChange extractOtherSpec)

/-- ITS FALSE NEIGHBOUR: 'it returns false'. Refute it at one input. -/
def extractOtherWrong : ChangeSpec := { name := "extractOther", fn := fun _ => fun
  | [d1, d2, d3, d4] => { results := [.lit (.bool false)], args := [d1, d2, d3, d4] }
  | _ => none }
def ExtractOtherWrongFalsely : Prop := extractOtherRow.holds Tryz.pinned (OpenSpec.ofChange extractOtherWrong)

/-- 'priorartlaw35.ExtractBytes': WHATEVER THE INPUT: true; the input reads as it did. -/
def extractBytesSpec : ChangeSpec := { name := "extractBytes", fn := fun _ => fun
  | [d1, d2, d3, d4, d5, d6, d7, d8] => { results := [.lit (.bool true)], args := [d1, d2, d3, d4, d5, d6, d7, d8] }
  | _ => none }
def extractBytesRow : OpenClaim := { program := "ytopldfpkgbkomaagreatdoor", sum := "72e12f1a0a2c14d61cfd0764ab17a29cee04686dce14b87783e46204f2557658", func := "priorart/priorartlaw35.ExtractBytes", spec := "extractBytes", unfollowed := true, recurses := true, named := ["priorart/authmap.whole"], plainKeys := false, apart := false, laid := [("priorart/authmap.whole", laid_priorart_authmap_whole)] }
def ExtractBytesSaid : Prop := extractBytesRow.holds Tryz.pinned (OpenSpec.ofChange extractBytesSpec)

/-- ITS FALSE NEIGHBOUR: 'it returns false'. Refute it at one input. -/
def extractBytesWrong : ChangeSpec := { name := "extractBytes", fn := fun _ => fun
  | [d1, d2, d3, d4, d5, d6, d7, d8] => { results := [.lit (.bool false)], args := [d1, d2, d3, d4, d5, d6, d7, d8] }
  | _ => none }
def ExtractBytesWrongFalsely : Prop := extractBytesRow.holds Tryz.pinned (OpenSpec.ofChange extractBytesWrong)

/- THE SECOND FORM. 'bulk': how many values and letters a reading holds, each counted each time it is reached (what is shared counts as often as it is met; a slice's spare places count too). A statement '..UptoSaid' is the law's where the arguments, and the package variables that the reading takes, are together of bulk at most 1048576: NARROWER than '..Said'. Prove '..Said' where nothing that the law and all that it calls make is longer than what came in: it says more and counts as full. Else prove '..UptoSaid'. A law counts once. -/
mutual
def uptoBulk {H : Type} : DataW H → Nat
  | .lit (.string bytes) => bytes.length + 1
  | .lit _ => 1
  | .nil => 1
  | .ptr d => uptoBulk d + 1
  | .slice elems spare => uptoBulkAll elems + uptoBulkAll spare + 1
  | .agg parts => uptoBulkAll parts + 1
  | .iface _ d => uptoBulk d + 1
  | .map entries => uptoBulkEntries entries + 1
  | .held _ => 1
def uptoBulkAll {H : Type} : List (DataW H) → Nat
  | [] => 0
  | d :: r => uptoBulk d + uptoBulkAll r
def uptoBulkEntries {H : Type} : List (Lit × DataW H) → Nat
  | [] => 0
  | x :: r => uptoBulkEntry x + uptoBulkEntries r
def uptoBulkEntry {H : Type} : Lit × DataW H → Nat
  | (.string bytes, d) => bytes.length + uptoBulk d + 1
  | (_, d) => uptoBulk d + 1
 end
def uptoSmall : (H : Type) → List (DataW H) → Bool := fun _ ds => decide (uptoBulkAll ds ≤ 1048576)
def OpenSpec.upto (s : _root_.Go.ChangeSpec) : _root_.Go.OpenSpec := { _root_.Go.OpenSpec.ofChange s with cond := some uptoSmall }

/-- 'priorartlaw35.ExtractMakes', WHERE WHAT IT READS IS OF BULK AT MOST 1048576: true; the input reads as it did. -/
def extractMakesUptoRow : OpenClaim := { program := "ytopldfpkgbkomaagreatdoor", sum := "72e12f1a0a2c14d61cfd0764ab17a29cee04686dce14b87783e46204f2557658", func := "priorart/priorartlaw35.ExtractMakes", spec := "extractMakes", unfollowed := true, recurses := true, named := ["priorart/authmap.whole"], plainKeys := false, apart := false, laid := [("priorart/authmap.whole", laid_priorart_authmap_whole)], narrowed := true }
def ExtractMakesUptoSaid : Prop := extractMakesUptoRow.holds Tryz.pinned (OpenSpec.upto extractMakesSpec)

/-- 'priorartlaw35.ExtractBetter', WHERE WHAT IT READS IS OF BULK AT MOST 1048576: true; the input reads as it did. -/
def extractBetterUptoRow : OpenClaim := { program := "ytopldfpkgbkomaagreatdoor", sum := "72e12f1a0a2c14d61cfd0764ab17a29cee04686dce14b87783e46204f2557658", func := "priorart/priorartlaw35.ExtractBetter", spec := "extractBetter", unfollowed := true, recurses := true, named := ["priorart/authmap.whole"], plainKeys := false, apart := false, laid := [("priorart/authmap.whole", laid_priorart_authmap_whole)], narrowed := true }
def ExtractBetterUptoSaid : Prop := extractBetterUptoRow.holds Tryz.pinned (OpenSpec.upto extractBetterSpec)

/-- 'priorartlaw35.ExtractAnswers', WHERE WHAT IT READS IS OF BULK AT MOST 1048576: true; the input reads as it did. -/
def extractAnswersUptoRow : OpenClaim := { program := "ytopldfpkgbkomaagreatdoor", sum := "72e12f1a0a2c14d61cfd0764ab17a29cee04686dce14b87783e46204f2557658", func := "priorart/priorartlaw35.ExtractAnswers", spec := "extractAnswers", unfollowed := true, recurses := true, named := ["priorart/authmap.whole"], plainKeys := false, apart := false, laid := [("priorart/authmap.whole", laid_priorart_authmap_whole)], narrowed := true }
def ExtractAnswersUptoSaid : Prop := extractAnswersUptoRow.holds Tryz.pinned (OpenSpec.upto extractAnswersSpec)

/-- 'priorartlaw35.ExtractChecks', WHERE WHAT IT READS IS OF BULK AT MOST 1048576: true; the input reads as it did. -/
def extractChecksUptoRow : OpenClaim := { program := "ytopldfpkgbkomaagreatdoor", sum := "72e12f1a0a2c14d61cfd0764ab17a29cee04686dce14b87783e46204f2557658", func := "priorart/priorartlaw35.ExtractChecks", spec := "extractChecks", unfollowed := true, recurses := true, named := ["priorart/authmap.whole"], plainKeys := false, apart := false, laid := [("priorart/authmap.whole", laid_priorart_authmap_whole)], narrowed := true }
def ExtractChecksUptoSaid : Prop := extractChecksUptoRow.holds Tryz.pinned (OpenSpec.upto extractChecksSpec)

/-- 'priorartlaw35.ExtractOther', WHERE WHAT IT READS IS OF BULK AT MOST 1048576: true; the input reads as it did. -/
def extractOtherUptoRow : OpenClaim := { program := "ytopldfpkgbkomaagreatdoor", sum := "72e12f1a0a2c14d61cfd0764ab17a29cee04686dce14b87783e46204f2557658", func := "priorart/priorartlaw35.ExtractOther", spec := "extractOther", unfollowed := true, recurses := true, named := ["priorart/authmap.whole"], plainKeys := false, apart := false, laid := [("priorart/authmap.whole", laid_priorart_authmap_whole)], narrowed := true }
def ExtractOtherUptoSaid : Prop := extractOtherUptoRow.holds Tryz.pinned (OpenSpec.upto extractOtherSpec)

/-- 'priorartlaw35.ExtractBytes', WHERE WHAT IT READS IS OF BULK AT MOST 1048576: true; the input reads as it did. -/
def extractBytesUptoRow : OpenClaim := { program := "ytopldfpkgbkomaagreatdoor", sum := "72e12f1a0a2c14d61cfd0764ab17a29cee04686dce14b87783e46204f2557658", func := "priorart/priorartlaw35.ExtractBytes", spec := "extractBytes", unfollowed := true, recurses := true, named := ["priorart/authmap.whole"], plainKeys := false, apart := false, laid := [("priorart/authmap.whole", laid_priorart_authmap_whole)], narrowed := true }
def ExtractBytesUptoSaid : Prop := extractBytesUptoRow.holds Tryz.pinned (OpenSpec.upto extractBytesSpec)

end Rows
end Go.Proofs.YtopldfpkgbkomaaGreatDoor
