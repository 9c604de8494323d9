/-
  No cell of these rows narrows 'for every input' (looked for: loops, veiled, ifaces, maps, wideKeys, modest, calm, conditions, laid).
  DERIVED. THE GIVEN ROWS OF THIS SEAT. 4 by the template 'for every input the law returns true; each argument reads behind the call as it read before'; 0 by the template 'total and deterministic' (their statements: YtokoipmbhohoiaaTotals.lean).
  GIVEN WITH THE SEED: the statements are not yours to turn. If you find one false, say at which input.
  Laid BY PROGRAM, IN A SANDBOX (cutbox-rows.mjs): the forced cells as the released guide's own fill.sh prints them over the translation 96cc32c9a983801f… (all of the seat's roots in one cut). By AI agents, Wed Nov 11 2026. No macro, syntax, notation, axiom, sorry.
-/
import Derived.Test.YtokoipmbhohoiaaChecked
import GoSem.Claim
import GoSem.ClaimJoined
import GoSem.ClaimMapViews
import Derived.JoinedTies
import Derived.KernelRfl
namespace Go.Proofs.Ytokoipmbhohoiaa
/- THE CELL 'sum', in the pinned program and in every row, IS THE sha256 OF THE DUMP (.gsa) THAT YtokoipmbhohoiaaProg.lean LOADS. Nothing in Lean hashes anything: it is a label: what it is worth is what the hold of that sum in a sandbox is worth. -/
noncomputable def Try.pinned : Pinned := { name := "ytokoipmbhohoiaa", sum := "96cc32c9a983801f1eb66dd6b6459edd34c836cd037198f4dc2dea4dd2418e92", checked := Try.checked }
namespace Rows
def none {H : Type} : Left H := { results := [], args := [] }

/-- 'backhaullaw17.GradeTells': WHATEVER THE INPUT: true; the input reads as it did. -/
def gradeTellsSpec : ChangeSpec := { name := "gradeTells", fn := fun _ => fun
  | [d1, d2, d3] => { results := [.lit (.bool true)], args := [d1, d2, d3] }
  | _ => none }
def gradeTellsRow : OpenClaim := { program := "ytokoipmbhohoiaa", sum := "96cc32c9a983801f1eb66dd6b6459edd34c836cd037198f4dc2dea4dd2418e92", func := "backhaul/backhaullaw17.GradeTells", spec := "gradeTells", unfollowed := true, recurses := true, apart := false }
def GradeTellsSaid : Prop := gradeTellsRow.holds Try.pinned (OpenSpec.ofChange gradeTellsSpec)

/-- ITS FALSE NEIGHBOUR: 'it returns false'. Refute it at one input. -/
def gradeTellsWrong : ChangeSpec := { name := "gradeTells", fn := fun _ => fun
  | [d1, d2, d3] => { results := [.lit (.bool false)], args := [d1, d2, d3] }
  | _ => none }
def GradeTellsWrongFalsely : Prop := gradeTellsRow.holds Try.pinned (OpenSpec.ofChange gradeTellsWrong)

/-- 'backhaullaw17.GradeCounts': WHATEVER THE INPUT: true; the input reads as it did. -/
def gradeCountsSpec : ChangeSpec := { name := "gradeCounts", fn := fun _ => fun
  | [d1, d2] => { results := [.lit (.bool true)], args := [d1, d2] }
  | _ => none }
def gradeCountsRow : OpenClaim := { program := "ytokoipmbhohoiaa", sum := "96cc32c9a983801f1eb66dd6b6459edd34c836cd037198f4dc2dea4dd2418e92", func := "backhaul/backhaullaw17.GradeCounts", spec := "gradeCounts", unfollowed := true, recurses := true, apart := false }
def GradeCountsSaid : Prop := gradeCountsRow.holds Try.pinned (OpenSpec.ofChange gradeCountsSpec)

/-- ITS FALSE NEIGHBOUR: 'it returns false'. Refute it at one input. -/
def gradeCountsWrong : ChangeSpec := { name := "gradeCounts", fn := fun _ => fun
  | [d1, d2] => { results := [.lit (.bool false)], args := [d1, d2] }
  | _ => none }
def GradeCountsWrongFalsely : Prop := gradeCountsRow.holds Try.pinned (OpenSpec.ofChange gradeCountsWrong)

/-- 'backhaullaw17.GradeSteps': WHATEVER THE INPUT: true; the input reads as it did. -/
def gradeStepsSpec : ChangeSpec := { name := "gradeSteps", fn := fun _ => fun
  | [d1, d2, d3] => { results := [.lit (.bool true)], args := [d1, d2, d3] }
  | _ => none }
def gradeStepsRow : OpenClaim := { program := "ytokoipmbhohoiaa", sum := "96cc32c9a983801f1eb66dd6b6459edd34c836cd037198f4dc2dea4dd2418e92", func := "backhaul/backhaullaw17.GradeSteps", spec := "gradeSteps", unfollowed := true, recurses := true, apart := false }
def GradeStepsSaid : Prop := gradeStepsRow.holds Try.pinned (OpenSpec.ofChange gradeStepsSpec)

/-- ITS FALSE NEIGHBOUR: 'it returns false'. Refute it at one input. -/
def gradeStepsWrong : ChangeSpec := { name := "gradeSteps", fn := fun _ => fun
  | [d1, d2, d3] => { results := [.lit (.bool false)], args := [d1, d2, d3] }
  | _ => none }
def GradeStepsWrongFalsely : Prop := gradeStepsRow.holds Try.pinned (OpenSpec.ofChange gradeStepsWrong)

/-- 'backhaullaw17.GradeAll': WHATEVER THE INPUT: true; the input reads as it did. -/
def gradeAllSpec : ChangeSpec := { name := "gradeAll", fn := fun _ => fun
  | [d1, d2, d3] => { results := [.lit (.bool true)], args := [d1, d2, d3] }
  | _ => none }
def gradeAllRow : OpenClaim := { program := "ytokoipmbhohoiaa", sum := "96cc32c9a983801f1eb66dd6b6459edd34c836cd037198f4dc2dea4dd2418e92", func := "backhaul/backhaullaw17.GradeAll", spec := "gradeAll", unfollowed := true, recurses := true, apart := false }
def GradeAllSaid : Prop := gradeAllRow.holds Try.pinned (OpenSpec.ofChange gradeAllSpec)

/-- ITS FALSE NEIGHBOUR: 'it returns false'. Refute it at one input. -/
def gradeAllWrong : ChangeSpec := { name := "gradeAll", fn := fun _ => fun
  | [d1, d2, d3] => { results := [.lit (.bool false)], args := [d1, d2, d3] }
  | _ => none }
def GradeAllWrongFalsely : Prop := gradeAllRow.holds Try.pinned (OpenSpec.ofChange gradeAllWrong)

/- THE SECOND FORM. 'bulk': how many values and letters a reading holds, each counted each time it is reached (what is shared counts as often as it is met; a slice's spare places count too). A statement '..UptoSaid' is the law's where the arguments, and the package variables that the reading takes, are together of bulk at most 1048576: NARROWER than '..Said'. Prove '..Said' where nothing that the law and all that it calls make is longer than what came in: it says more and counts as full. Else prove '..UptoSaid'. A law counts once. -/
mutual
def uptoBulk {H : Type} : DataW H → Nat
  | .lit (.string bytes) => bytes.length + 1
  | .lit _ => 1
  | .nil => 1
  | .ptr d => uptoBulk d + 1
  | .slice elems spare => uptoBulkAll elems + uptoBulkAll spare + 1
  | .agg parts => uptoBulkAll parts + 1
  | .iface _ d => uptoBulk d + 1
  | .map entries => uptoBulkEntries entries + 1
  | .held _ => 1
def uptoBulkAll {H : Type} : List (DataW H) → Nat
  | [] => 0
  | d :: r => uptoBulk d + uptoBulkAll r
def uptoBulkEntries {H : Type} : List (Lit × DataW H) → Nat
  | [] => 0
  | x :: r => uptoBulkEntry x + uptoBulkEntries r
def uptoBulkEntry {H : Type} : Lit × DataW H → Nat
  | (.string bytes, d) => bytes.length + uptoBulk d + 1
  | (_, d) => uptoBulk d + 1
 end
def uptoSmall : (H : Type) → List (DataW H) → Bool := fun _ ds => decide (uptoBulkAll ds ≤ 1048576)
def OpenSpec.upto (s : _root_.Go.ChangeSpec) : _root_.Go.OpenSpec := { _root_.Go.OpenSpec.ofChange s with cond := some uptoSmall }

/-- 'backhaullaw17.GradeTells', WHERE WHAT IT READS IS OF BULK AT MOST 1048576: true; the input reads as it did. -/
def gradeTellsUptoRow : OpenClaim := { program := "ytokoipmbhohoiaa", sum := "96cc32c9a983801f1eb66dd6b6459edd34c836cd037198f4dc2dea4dd2418e92", func := "backhaul/backhaullaw17.GradeTells", spec := "gradeTells", unfollowed := true, recurses := true, apart := false, narrowed := true }
def GradeTellsUptoSaid : Prop := gradeTellsUptoRow.holds Try.pinned (OpenSpec.upto gradeTellsSpec)

/-- 'backhaullaw17.GradeCounts', WHERE WHAT IT READS IS OF BULK AT MOST 1048576: true; the input reads as it did. -/
def gradeCountsUptoRow : OpenClaim := { program := "ytokoipmbhohoiaa", sum := "96cc32c9a983801f1eb66dd6b6459edd34c836cd037198f4dc2dea4dd2418e92", func := "backhaul/backhaullaw17.GradeCounts", spec := "gradeCounts", unfollowed := true, recurses := true, apart := false, narrowed := true }
def GradeCountsUptoSaid : Prop := gradeCountsUptoRow.holds Try.pinned (OpenSpec.upto gradeCountsSpec)

/-- 'backhaullaw17.GradeSteps', WHERE WHAT IT READS IS OF BULK AT MOST 1048576: true; the input reads as it did. -/
def gradeStepsUptoRow : OpenClaim := { program := "ytokoipmbhohoiaa", sum := "96cc32c9a983801f1eb66dd6b6459edd34c836cd037198f4dc2dea4dd2418e92", func := "backhaul/backhaullaw17.GradeSteps", spec := "gradeSteps", unfollowed := true, recurses := true, apart := false, narrowed := true }
def GradeStepsUptoSaid : Prop := gradeStepsUptoRow.holds Try.pinned (OpenSpec.upto gradeStepsSpec)

/-- 'backhaullaw17.GradeAll', WHERE WHAT IT READS IS OF BULK AT MOST 1048576: true; the input reads as it did. -/
def gradeAllUptoRow : OpenClaim := { program := "ytokoipmbhohoiaa", sum := "96cc32c9a983801f1eb66dd6b6459edd34c836cd037198f4dc2dea4dd2418e92", func := "backhaul/backhaullaw17.GradeAll", spec := "gradeAll", unfollowed := true, recurses := true, apart := false, narrowed := true }
def GradeAllUptoSaid : Prop := gradeAllUptoRow.holds Try.pinned (OpenSpec.upto gradeAllSpec)

end Rows
end Go.Proofs.Ytokoipmbhohoiaa
