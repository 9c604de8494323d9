/-
  No cell of these rows narrows 'for every input' (looked for: loops, veiled, ifaces, maps, wideKeys, modest, calm, conditions, laid).
  DERIVED. THE GIVEN ROWS OF THIS SEAT. 4 by the template 'for every input the law returns true; each argument reads behind the call as it read before'; 0 by the template 'total and deterministic' (their statements: YtjoclfiefpbgfaaTotals.lean).
  GIVEN WITH THE SEED: the statements are not yours to turn. If you find one false, say at which input.
  Laid BY PROGRAM, IN A SANDBOX (cutbox-rows.mjs): the forced cells as the released guide's own fill.sh prints them over the translation 15a06e306b078598… (all of the seat's roots in one cut). By AI agents, Wed Nov 11 2026. No macro, syntax, notation, axiom, sorry.
-/
import Derived.Test.YtjoclfiefpbgfaaChecked
import GoSem.Claim
import GoSem.ClaimJoined
import GoSem.ClaimMapViews
import Derived.JoinedTies
import Derived.KernelRfl
namespace Go.Proofs.Ytjoclfiefpbgfaa
/- THE CELL 'sum', in the pinned program and in every row, IS THE sha256 OF THE DUMP (.gsa) THAT YtjoclfiefpbgfaaProg.lean LOADS. Nothing in Lean hashes anything: it is a label: what it is worth is what the hold of that sum in a sandbox is worth. -/
noncomputable def Try.pinned : Pinned := { name := "ytjoclfiefpbgfaa", sum := "15a06e306b078598fdfa61f4b723479bc29c4749c6607d8dfcbb03e2d80ffc0b", checked := Try.checked }
namespace Rows
def none {H : Type} : Left H := { results := [], args := [] }

/-- 'backhaullaw25.UnitMakes': WHATEVER THE INPUT: true; the input reads as it did. -/
def unitMakesSpec : ChangeSpec := { name := "unitMakes", fn := fun _ => fun
  | [d] => { results := [.lit (.bool true)], args := [d] }
  | _ => none }
def unitMakesRow : OpenClaim := { program := "ytjoclfiefpbgfaa", sum := "15a06e306b078598fdfa61f4b723479bc29c4749c6607d8dfcbb03e2d80ffc0b", func := "backhaul/backhaullaw25.UnitMakes", spec := "unitMakes", unfollowed := true, recurses := true, apart := false }
def UnitMakesSaid : Prop := unitMakesRow.holds Try.pinned (OpenSpec.ofChange unitMakesSpec)

/-- ITS FALSE NEIGHBOUR: 'it returns false'. Refute it at one input. -/
def unitMakesWrong : ChangeSpec := { name := "unitMakes", fn := fun _ => fun
  | [d] => { results := [.lit (.bool false)], args := [d] }
  | _ => none }
def UnitMakesWrongFalsely : Prop := unitMakesRow.holds Try.pinned (OpenSpec.ofChange unitMakesWrong)

/-- 'backhaullaw25.UnitMoves': WHATEVER THE INPUT: true; the input reads as it did. -/
def unitMovesSpec : ChangeSpec := { name := "unitMoves", fn := fun _ => fun
  | [d1, d2, d3] => { results := [.lit (.bool true)], args := [d1, d2, d3] }
  | _ => none }
def unitMovesRow : OpenClaim := { program := "ytjoclfiefpbgfaa", sum := "15a06e306b078598fdfa61f4b723479bc29c4749c6607d8dfcbb03e2d80ffc0b", func := "backhaul/backhaullaw25.UnitMoves", spec := "unitMoves", unfollowed := true, recurses := true, apart := false }
def UnitMovesSaid : Prop := unitMovesRow.holds Try.pinned (OpenSpec.ofChange unitMovesSpec)

/-- ITS FALSE NEIGHBOUR: 'it returns false'. Refute it at one input. -/
def unitMovesWrong : ChangeSpec := { name := "unitMoves", fn := fun _ => fun
  | [d1, d2, d3] => { results := [.lit (.bool false)], args := [d1, d2, d3] }
  | _ => none }
def UnitMovesWrongFalsely : Prop := unitMovesRow.holds Try.pinned (OpenSpec.ofChange unitMovesWrong)

/-- 'backhaullaw25.UnitSteps': WHATEVER THE INPUT: true; the input reads as it did. -/
def unitStepsSpec : ChangeSpec := { name := "unitSteps", fn := fun _ => fun
  | [d1, d2, d3] => { results := [.lit (.bool true)], args := [d1, d2, d3] }
  | _ => none }
def unitStepsRow : OpenClaim := { program := "ytjoclfiefpbgfaa", sum := "15a06e306b078598fdfa61f4b723479bc29c4749c6607d8dfcbb03e2d80ffc0b", func := "backhaul/backhaullaw25.UnitSteps", spec := "unitSteps", unfollowed := true, recurses := true, apart := false }
def UnitStepsSaid : Prop := unitStepsRow.holds Try.pinned (OpenSpec.ofChange unitStepsSpec)

/-- ITS FALSE NEIGHBOUR: 'it returns false'. Refute it at one input. -/
def unitStepsWrong : ChangeSpec := { name := "unitSteps", fn := fun _ => fun
  | [d1, d2, d3] => { results := [.lit (.bool false)], args := [d1, d2, d3] }
  | _ => none }
def UnitStepsWrongFalsely : Prop := unitStepsRow.holds Try.pinned (OpenSpec.ofChange unitStepsWrong)

/-- 'backhaullaw25.UnitOnce': WHATEVER THE INPUT: true; the input reads as it did. -/
def unitOnceSpec : ChangeSpec := { name := "unitOnce", fn := fun _ => fun
  | [d1, d2, d3] => { results := [.lit (.bool true)], args := [d1, d2, d3] }
  | _ => none }
def unitOnceRow : OpenClaim := { program := "ytjoclfiefpbgfaa", sum := "15a06e306b078598fdfa61f4b723479bc29c4749c6607d8dfcbb03e2d80ffc0b", func := "backhaul/backhaullaw25.UnitOnce", spec := "unitOnce", unfollowed := true, recurses := true, apart := false }
def UnitOnceSaid : Prop := unitOnceRow.holds Try.pinned (OpenSpec.ofChange unitOnceSpec)

/-- ITS FALSE NEIGHBOUR: 'it returns false'. Refute it at one input. -/
def unitOnceWrong : ChangeSpec := { name := "unitOnce", fn := fun _ => fun
  | [d1, d2, d3] => { results := [.lit (.bool false)], args := [d1, d2, d3] }
  | _ => none }
def UnitOnceWrongFalsely : Prop := unitOnceRow.holds Try.pinned (OpenSpec.ofChange unitOnceWrong)

/- THE SECOND FORM. 'bulk': how many values and letters a reading holds, each counted each time it is reached (what is shared counts as often as it is met; a slice's spare places count too). A statement '..UptoSaid' is the law's where the arguments, and the package variables that the reading takes, are together of bulk at most 1048576: NARROWER than '..Said'. Prove '..Said' where nothing that the law and all that it calls make is longer than what came in: it says more and counts as full. Else prove '..UptoSaid'. A law counts once. -/
mutual
def uptoBulk {H : Type} : DataW H → Nat
  | .lit (.string bytes) => bytes.length + 1
  | .lit _ => 1
  | .nil => 1
  | .ptr d => uptoBulk d + 1
  | .slice elems spare => uptoBulkAll elems + uptoBulkAll spare + 1
  | .agg parts => uptoBulkAll parts + 1
  | .iface _ d => uptoBulk d + 1
  | .map entries => uptoBulkEntries entries + 1
  | .held _ => 1
def uptoBulkAll {H : Type} : List (DataW H) → Nat
  | [] => 0
  | d :: r => uptoBulk d + uptoBulkAll r
def uptoBulkEntries {H : Type} : List (Lit × DataW H) → Nat
  | [] => 0
  | x :: r => uptoBulkEntry x + uptoBulkEntries r
def uptoBulkEntry {H : Type} : Lit × DataW H → Nat
  | (.string bytes, d) => bytes.length + uptoBulk d + 1
  | (_, d) => uptoBulk d + 1
 end
def uptoSmall : (H : Type) → List (DataW H) → Bool := fun _ ds => decide (uptoBulkAll ds ≤ 1048576)
def OpenSpec.upto (s : _root_.Go.ChangeSpec) : _root_.Go.OpenSpec := { _root_.Go.OpenSpec.ofChange s with cond := some uptoSmall }

/-- 'backhaullaw25.UnitMakes', WHERE WHAT IT READS IS OF BULK AT MOST 1048576: true; the input reads as it did. -/
def unitMakesUptoRow : OpenClaim := { program := "ytjoclfiefpbgfaa", sum := "15a06e306b078598fdfa61f4b723479bc29c4749c6607d8dfcbb03e2d80ffc0b", func := "backhaul/backhaullaw25.UnitMakes", spec := "unitMakes", unfollowed := true, recurses := true, apart := false, narrowed := true }
def UnitMakesUptoSaid : Prop := unitMakesUptoRow.holds Try.pinned (OpenSpec.upto unitMakesSpec)

/-- 'backhaullaw25.UnitMoves', WHERE WHAT IT READS IS OF BULK AT MOST 1048576: true; the input reads as it did. -/
def unitMovesUptoRow : OpenClaim := { program := "ytjoclfiefpbgfaa", sum := "15a06e306b078598fdfa61f4b723479bc29c4749c6607d8dfcbb03e2d80ffc0b", func := "backhaul/backhaullaw25.UnitMoves", spec := "unitMoves", unfollowed := true, recurses := true, apart := false, narrowed := true }
def UnitMovesUptoSaid : Prop := unitMovesUptoRow.holds Try.pinned (OpenSpec.upto unitMovesSpec)

/-- 'backhaullaw25.UnitSteps', WHERE WHAT IT READS IS OF BULK AT MOST 1048576: true; the input reads as it did. -/
def unitStepsUptoRow : OpenClaim := { program := "ytjoclfiefpbgfaa", sum := "15a06e306b078598fdfa61f4b723479bc29c4749c6607d8dfcbb03e2d80ffc0b", func := "backhaul/backhaullaw25.UnitSteps", spec := "unitSteps", unfollowed := true, recurses := true, apart := false, narrowed := true }
def UnitStepsUptoSaid : Prop := unitStepsUptoRow.holds Try.pinned (OpenSpec.upto unitStepsSpec)

/-- 'backhaullaw25.UnitOnce', WHERE WHAT IT READS IS OF BULK AT MOST 1048576: true; the input reads as it did. -/
def unitOnceUptoRow : OpenClaim := { program := "ytjoclfiefpbgfaa", sum := "15a06e306b078598fdfa61f4b723479bc29c4749c6607d8dfcbb03e2d80ffc0b", func := "backhaul/backhaullaw25.UnitOnce", spec := "unitOnce", unfollowed := true, recurses := true, apart := false, narrowed := true }
def UnitOnceUptoSaid : Prop := unitOnceUptoRow.holds Try.pinned (OpenSpec.upto unitOnceSpec)

end Rows
end Go.Proofs.Ytjoclfiefpbgfaa
