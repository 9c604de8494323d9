/-
  No cell of these rows narrows 'for every input' (looked for: loops, veiled, ifaces, maps, wideKeys, modest, calm, conditions, laid).
  DERIVED. THE GIVEN ROWS OF THIS SEAT. 6 by the template 'for every input the law returns true; each argument reads behind the call as it read before'; 0 by the template 'total and deterministic' (their statements: YtpoafdckkmecnaaTotals.lean).
  GIVEN WITH THE SEED: the statements are not yours to turn. If you find one false, say at which input.
  Laid BY PROGRAM, IN A SANDBOX (cutbox-rows.mjs): the forced cells as the released guide's own fill.sh prints them over the translation cc1e04b075ed0b2c… (all of the seat's roots in one cut). By AI agents, Wed Nov 11 2026. No macro, syntax, notation, axiom, sorry.
-/
import Derived.Test.YtpoafdckkmecnaaChecked
import GoSem.Claim
import GoSem.ClaimJoined
import GoSem.ClaimMapViews
import Derived.JoinedTies
import Derived.KernelRfl
namespace Go.Proofs.Ytpoafdckkmecnaa
/- THE CELL 'sum', in the pinned program and in every row, IS THE sha256 OF THE DUMP (.gsa) THAT YtpoafdckkmecnaaProg.lean LOADS. Nothing in Lean hashes anything: it is a label: what it is worth is what the hold of that sum in a sandbox is worth. -/
noncomputable def Try.pinned : Pinned := { name := "ytpoafdckkmecnaa", sum := "cc1e04b075ed0b2c3729994a6c8252e08584ffb1772f6484c08829233b10a331", checked := Try.checked }
namespace Rows
def none {H : Type} : Left H := { results := [], args := [] }

/-- 'backhaullaw20.PolicyTells': WHATEVER THE INPUT: true; the input reads as it did. -/
def policyTellsSpec : ChangeSpec := { name := "policyTells", fn := fun _ => fun
  | [d1, d2, d3] => { results := [.lit (.bool true)], args := [d1, d2, d3] }
  | _ => none }
def policyTellsRow : OpenClaim := { program := "ytpoafdckkmecnaa", sum := "cc1e04b075ed0b2c3729994a6c8252e08584ffb1772f6484c08829233b10a331", func := "backhaul/backhaullaw20.PolicyTells", spec := "policyTells", unfollowed := true, recurses := true, apart := false }
def PolicyTellsSaid : Prop := policyTellsRow.holds Try.pinned (OpenSpec.ofChange policyTellsSpec)

/-- ITS FALSE NEIGHBOUR: 'it returns false'. Refute it at one input. -/
def policyTellsWrong : ChangeSpec := { name := "policyTells", fn := fun _ => fun
  | [d1, d2, d3] => { results := [.lit (.bool false)], args := [d1, d2, d3] }
  | _ => none }
def PolicyTellsWrongFalsely : Prop := policyTellsRow.holds Try.pinned (OpenSpec.ofChange policyTellsWrong)

/-- 'backhaullaw20.PolicyTimes': WHATEVER THE INPUT: true; the input reads as it did. -/
def policyTimesSpec : ChangeSpec := { name := "policyTimes", fn := fun _ => fun
  | [d1, d2, d3] => { results := [.lit (.bool true)], args := [d1, d2, d3] }
  | _ => none }
def policyTimesRow : OpenClaim := { program := "ytpoafdckkmecnaa", sum := "cc1e04b075ed0b2c3729994a6c8252e08584ffb1772f6484c08829233b10a331", func := "backhaul/backhaullaw20.PolicyTimes", spec := "policyTimes", unfollowed := true, recurses := true, apart := false }
def PolicyTimesSaid : Prop := policyTimesRow.holds Try.pinned (OpenSpec.ofChange policyTimesSpec)

/-- ITS FALSE NEIGHBOUR: 'it returns false'. Refute it at one input. -/
def policyTimesWrong : ChangeSpec := { name := "policyTimes", fn := fun _ => fun
  | [d1, d2, d3] => { results := [.lit (.bool false)], args := [d1, d2, d3] }
  | _ => none }
def PolicyTimesWrongFalsely : Prop := policyTimesRow.holds Try.pinned (OpenSpec.ofChange policyTimesWrong)

/-- 'backhaullaw20.PolicyUntil': WHATEVER THE INPUT: true; the input reads as it did. -/
def policyUntilSpec : ChangeSpec := { name := "policyUntil", fn := fun _ => fun
  | [d1, d2, d3] => { results := [.lit (.bool true)], args := [d1, d2, d3] }
  | _ => none }
def policyUntilRow : OpenClaim := { program := "ytpoafdckkmecnaa", sum := "cc1e04b075ed0b2c3729994a6c8252e08584ffb1772f6484c08829233b10a331", func := "backhaul/backhaullaw20.PolicyUntil", spec := "policyUntil", unfollowed := true, recurses := true, apart := false }
def PolicyUntilSaid : Prop := policyUntilRow.holds Try.pinned (OpenSpec.ofChange policyUntilSpec)

/-- ITS FALSE NEIGHBOUR: 'it returns false'. Refute it at one input. -/
def policyUntilWrong : ChangeSpec := { name := "policyUntil", fn := fun _ => fun
  | [d1, d2, d3] => { results := [.lit (.bool false)], args := [d1, d2, d3] }
  | _ => none }
def PolicyUntilWrongFalsely : Prop := policyUntilRow.holds Try.pinned (OpenSpec.ofChange policyUntilWrong)

/-- 'backhaullaw16.QuizTells': WHATEVER THE INPUT: true; the input reads as it did. -/
def quizTellsSpec : ChangeSpec := { name := "quizTells", fn := fun _ => fun
  | [d1, d2, d3] => { results := [.lit (.bool true)], args := [d1, d2, d3] }
  | _ => none }
def quizTellsRow : OpenClaim := { program := "ytpoafdckkmecnaa", sum := "cc1e04b075ed0b2c3729994a6c8252e08584ffb1772f6484c08829233b10a331", func := "backhaul/backhaullaw16.QuizTells", spec := "quizTells", unfollowed := true, recurses := true, apart := false }
def QuizTellsSaid : Prop := quizTellsRow.holds Try.pinned (OpenSpec.ofChange quizTellsSpec)

/-- ITS FALSE NEIGHBOUR: 'it returns false'. Refute it at one input. -/
def quizTellsWrong : ChangeSpec := { name := "quizTells", fn := fun _ => fun
  | [d1, d2, d3] => { results := [.lit (.bool false)], args := [d1, d2, d3] }
  | _ => none }
def QuizTellsWrongFalsely : Prop := quizTellsRow.holds Try.pinned (OpenSpec.ofChange quizTellsWrong)

/-- 'backhaullaw16.QuizBounds': WHATEVER THE INPUT: true; the input reads as it did. -/
def quizBoundsSpec : ChangeSpec := { name := "quizBounds", fn := fun _ => fun
  | [d1, d2] => { results := [.lit (.bool true)], args := [d1, d2] }
  | _ => none }
def quizBoundsRow : OpenClaim := { program := "ytpoafdckkmecnaa", sum := "cc1e04b075ed0b2c3729994a6c8252e08584ffb1772f6484c08829233b10a331", func := "backhaul/backhaullaw16.QuizBounds", spec := "quizBounds", unfollowed := true, recurses := true, apart := false }
def QuizBoundsSaid : Prop := quizBoundsRow.holds Try.pinned (OpenSpec.ofChange quizBoundsSpec)

/-- ITS FALSE NEIGHBOUR: 'it returns false'. Refute it at one input. -/
def quizBoundsWrong : ChangeSpec := { name := "quizBounds", fn := fun _ => fun
  | [d1, d2] => { results := [.lit (.bool false)], args := [d1, d2] }
  | _ => none }
def QuizBoundsWrongFalsely : Prop := quizBoundsRow.holds Try.pinned (OpenSpec.ofChange quizBoundsWrong)

/-- 'backhaullaw16.QuizMore': WHATEVER THE INPUT: true; the input reads as it did. -/
def quizMoreSpec : ChangeSpec := { name := "quizMore", fn := fun _ => fun
  | [d1, d2, d3] => { results := [.lit (.bool true)], args := [d1, d2, d3] }
  | _ => none }
def quizMoreRow : OpenClaim := { program := "ytpoafdckkmecnaa", sum := "cc1e04b075ed0b2c3729994a6c8252e08584ffb1772f6484c08829233b10a331", func := "backhaul/backhaullaw16.QuizMore", spec := "quizMore", unfollowed := true, recurses := true, apart := false }
def QuizMoreSaid : Prop := quizMoreRow.holds Try.pinned (OpenSpec.ofChange quizMoreSpec)

/-- ITS FALSE NEIGHBOUR: 'it returns false'. Refute it at one input. -/
def quizMoreWrong : ChangeSpec := { name := "quizMore", fn := fun _ => fun
  | [d1, d2, d3] => { results := [.lit (.bool false)], args := [d1, d2, d3] }
  | _ => none }
def QuizMoreWrongFalsely : Prop := quizMoreRow.holds Try.pinned (OpenSpec.ofChange quizMoreWrong)

/- THE SECOND FORM. 'bulk': how many values and letters a reading holds, each counted each time it is reached (what is shared counts as often as it is met; a slice's spare places count too). A statement '..UptoSaid' is the law's where the arguments, and the package variables that the reading takes, are together of bulk at most 1048576: NARROWER than '..Said'. Prove '..Said' where nothing that the law and all that it calls make is longer than what came in: it says more and counts as full. Else prove '..UptoSaid'. A law counts once. -/
mutual
def uptoBulk {H : Type} : DataW H → Nat
  | .lit (.string bytes) => bytes.length + 1
  | .lit _ => 1
  | .nil => 1
  | .ptr d => uptoBulk d + 1
  | .slice elems spare => uptoBulkAll elems + uptoBulkAll spare + 1
  | .agg parts => uptoBulkAll parts + 1
  | .iface _ d => uptoBulk d + 1
  | .map entries => uptoBulkEntries entries + 1
  | .held _ => 1
def uptoBulkAll {H : Type} : List (DataW H) → Nat
  | [] => 0
  | d :: r => uptoBulk d + uptoBulkAll r
def uptoBulkEntries {H : Type} : List (Lit × DataW H) → Nat
  | [] => 0
  | x :: r => uptoBulkEntry x + uptoBulkEntries r
def uptoBulkEntry {H : Type} : Lit × DataW H → Nat
  | (.string bytes, d) => bytes.length + uptoBulk d + 1
  | (_, d) => uptoBulk d + 1
 end
def uptoSmall : (H : Type) → List (DataW H) → Bool := fun _ ds => decide (uptoBulkAll ds ≤ 1048576)
def OpenSpec.upto (s : _root_.Go.ChangeSpec) : _root_.Go.OpenSpec := { _root_.Go.OpenSpec.ofChange s with cond := some uptoSmall }

/-- 'backhaullaw20.PolicyTells', WHERE WHAT IT READS IS OF BULK AT MOST 1048576: true; the input reads as it did. -/
def policyTellsUptoRow : OpenClaim := { program := "ytpoafdckkmecnaa", sum := "cc1e04b075ed0b2c3729994a6c8252e08584ffb1772f6484c08829233b10a331", func := "backhaul/backhaullaw20.PolicyTells", spec := "policyTells", unfollowed := true, recurses := true, apart := false, narrowed := true }
def PolicyTellsUptoSaid : Prop := policyTellsUptoRow.holds Try.pinned (OpenSpec.upto policyTellsSpec)

/-- 'backhaullaw20.PolicyTimes', WHERE WHAT IT READS IS OF BULK AT MOST 1048576: true; the input reads as it did. -/
def policyTimesUptoRow : OpenClaim := { program := "ytpoafdckkmecnaa", sum := "cc1e04b075ed0b2c3729994a6c8252e08584ffb1772f6484c08829233b10a331", func := "backhaul/backhaullaw20.PolicyTimes", spec := "policyTimes", unfollowed := true, recurses := true, apart := false, narrowed := true }
def PolicyTimesUptoSaid : Prop := policyTimesUptoRow.holds Try.pinned (OpenSpec.upto policyTimesSpec)

/-- 'backhaullaw20.PolicyUntil', WHERE WHAT IT READS IS OF BULK AT MOST 1048576: true; the input reads as it did. -/
def policyUntilUptoRow : OpenClaim := { program := "ytpoafdckkmecnaa", sum := "cc1e04b075ed0b2c3729994a6c8252e08584ffb1772f6484c08829233b10a331", func := "backhaul/backhaullaw20.PolicyUntil", spec := "policyUntil", unfollowed := true, recurses := true, apart := false, narrowed := true }
def PolicyUntilUptoSaid : Prop := policyUntilUptoRow.holds Try.pinned (OpenSpec.upto policyUntilSpec)

/-- 'backhaullaw16.QuizTells', WHERE WHAT IT READS IS OF BULK AT MOST 1048576: true; the input reads as it did. -/
def quizTellsUptoRow : OpenClaim := { program := "ytpoafdckkmecnaa", sum := "cc1e04b075ed0b2c3729994a6c8252e08584ffb1772f6484c08829233b10a331", func := "backhaul/backhaullaw16.QuizTells", spec := "quizTells", unfollowed := true, recurses := true, apart := false, narrowed := true }
def QuizTellsUptoSaid : Prop := quizTellsUptoRow.holds Try.pinned (OpenSpec.upto quizTellsSpec)

/-- 'backhaullaw16.QuizBounds', WHERE WHAT IT READS IS OF BULK AT MOST 1048576: true; the input reads as it did. -/
def quizBoundsUptoRow : OpenClaim := { program := "ytpoafdckkmecnaa", sum := "cc1e04b075ed0b2c3729994a6c8252e08584ffb1772f6484c08829233b10a331", func := "backhaul/backhaullaw16.QuizBounds", spec := "quizBounds", unfollowed := true, recurses := true, apart := false, narrowed := true }
def QuizBoundsUptoSaid : Prop := quizBoundsUptoRow.holds Try.pinned (OpenSpec.upto quizBoundsSpec)

/-- 'backhaullaw16.QuizMore', WHERE WHAT IT READS IS OF BULK AT MOST 1048576: true; the input reads as it did. -/
def quizMoreUptoRow : OpenClaim := { program := "ytpoafdckkmecnaa", sum := "cc1e04b075ed0b2c3729994a6c8252e08584ffb1772f6484c08829233b10a331", func := "backhaul/backhaullaw16.QuizMore", spec := "quizMore", unfollowed := true, recurses := true, apart := false, narrowed := true }
def QuizMoreUptoSaid : Prop := quizMoreUptoRow.holds Try.pinned (OpenSpec.upto quizMoreSpec)

end Rows
end Go.Proofs.Ytpoafdckkmecnaa
