/-
  No cell of these rows narrows 'for every input' (looked for: loops, veiled, ifaces, maps, wideKeys, modest, calm, conditions, laid).
  DERIVED. THE GIVEN ROWS OF THIS SEAT. 8 by the template 'for every input the law returns true; each argument reads behind the call as it read before'; 0 by the template 'total and deterministic' (their statements: YtlgkimmjoclaaaaTotals.lean).
  GIVEN WITH THE SEED: the statements are not yours to turn. If you find one false, say at which input.
  Laid BY PROGRAM, IN A SANDBOX (cutbox-rows.mjs): the forced cells as the released guide's own fill.sh prints them over the translation 5f8f5ff148c7cf72… (all of the seat's roots in one cut). By AI agents, Wed Nov 11 2026. No macro, syntax, notation, axiom, sorry.
-/
import Derived.Test.YtlgkimmjoclaaaaChecked
import GoSem.Claim
import GoSem.ClaimJoined
import GoSem.ClaimMapViews
import Derived.JoinedTies
import Derived.KernelRfl
namespace Go.Proofs.Ytlgkimmjoclaaaa
/- THE CELL 'sum', in the pinned program and in every row, IS THE sha256 OF THE DUMP (.gsa) THAT YtlgkimmjoclaaaaProg.lean LOADS. Nothing in Lean hashes anything: it is a label: what it is worth is what the hold of that sum in a sandbox is worth. -/
noncomputable def Try.pinned : Pinned := { name := "ytlgkimmjoclaaaa", sum := "5f8f5ff148c7cf72dcd5894d4fb0ae815b8a27be9e3d2c26b7668e49f8ba3ef6", checked := Try.checked }
namespace Rows
def none {H : Type} : Left H := { results := [], args := [] }

/-- 'backhaullaw18.RuleTells': WHATEVER THE INPUT: true; the input reads as it did. -/
def ruleTellsSpec : ChangeSpec := { name := "ruleTells", fn := fun _ => fun
  | [d1, d2] => { results := [.lit (.bool true)], args := [d1, d2] }
  | _ => none }
def ruleTellsRow : OpenClaim := { program := "ytlgkimmjoclaaaa", sum := "5f8f5ff148c7cf72dcd5894d4fb0ae815b8a27be9e3d2c26b7668e49f8ba3ef6", func := "backhaul/backhaullaw18.RuleTells", spec := "ruleTells", unfollowed := true, recurses := true, apart := false }
def RuleTellsSaid : Prop := ruleTellsRow.holds Try.pinned (OpenSpec.ofChange ruleTellsSpec)

/-- ITS FALSE NEIGHBOUR: 'it returns false'. Refute it at one input. -/
def ruleTellsWrong : ChangeSpec := { name := "ruleTells", fn := fun _ => fun
  | [d1, d2] => { results := [.lit (.bool false)], args := [d1, d2] }
  | _ => none }
def RuleTellsWrongFalsely : Prop := ruleTellsRow.holds Try.pinned (OpenSpec.ofChange ruleTellsWrong)

/-- 'backhaullaw18.RuleDecides': WHATEVER THE INPUT: true; the input reads as it did. -/
def ruleDecidesSpec : ChangeSpec := { name := "ruleDecides", fn := fun _ => fun
  | [d1, d2] => { results := [.lit (.bool true)], args := [d1, d2] }
  | _ => none }
def ruleDecidesRow : OpenClaim := { program := "ytlgkimmjoclaaaa", sum := "5f8f5ff148c7cf72dcd5894d4fb0ae815b8a27be9e3d2c26b7668e49f8ba3ef6", func := "backhaul/backhaullaw18.RuleDecides", spec := "ruleDecides", unfollowed := true, recurses := true, apart := false }
def RuleDecidesSaid : Prop := ruleDecidesRow.holds Try.pinned (OpenSpec.ofChange ruleDecidesSpec)

/-- ITS FALSE NEIGHBOUR: 'it returns false'. Refute it at one input. -/
def ruleDecidesWrong : ChangeSpec := { name := "ruleDecides", fn := fun _ => fun
  | [d1, d2] => { results := [.lit (.bool false)], args := [d1, d2] }
  | _ => none }
def RuleDecidesWrongFalsely : Prop := ruleDecidesRow.holds Try.pinned (OpenSpec.ofChange ruleDecidesWrong)

/-- 'backhaullaw18.RuleFirst': WHATEVER THE INPUT: true; the input reads as it did. -/
def ruleFirstSpec : ChangeSpec := { name := "ruleFirst", fn := fun _ => fun
  | [d1, d2] => { results := [.lit (.bool true)], args := [d1, d2] }
  | _ => none }
def ruleFirstRow : OpenClaim := { program := "ytlgkimmjoclaaaa", sum := "5f8f5ff148c7cf72dcd5894d4fb0ae815b8a27be9e3d2c26b7668e49f8ba3ef6", func := "backhaul/backhaullaw18.RuleFirst", spec := "ruleFirst", unfollowed := true, recurses := true, apart := false }
def RuleFirstSaid : Prop := ruleFirstRow.holds Try.pinned (OpenSpec.ofChange ruleFirstSpec)

/-- ITS FALSE NEIGHBOUR: 'it returns false'. Refute it at one input. -/
def ruleFirstWrong : ChangeSpec := { name := "ruleFirst", fn := fun _ => fun
  | [d1, d2] => { results := [.lit (.bool false)], args := [d1, d2] }
  | _ => none }
def RuleFirstWrongFalsely : Prop := ruleFirstRow.holds Try.pinned (OpenSpec.ofChange ruleFirstWrong)

/-- 'backhaullaw18.RuleOrder': WHATEVER THE INPUT: true; the input reads as it did. -/
def ruleOrderSpec : ChangeSpec := { name := "ruleOrder", fn := fun _ => fun
  | [d1, d2, d3] => { results := [.lit (.bool true)], args := [d1, d2, d3] }
  | _ => none }
def ruleOrderRow : OpenClaim := { program := "ytlgkimmjoclaaaa", sum := "5f8f5ff148c7cf72dcd5894d4fb0ae815b8a27be9e3d2c26b7668e49f8ba3ef6", func := "backhaul/backhaullaw18.RuleOrder", spec := "ruleOrder", unfollowed := true, recurses := true, apart := false }
def RuleOrderSaid : Prop := ruleOrderRow.holds Try.pinned (OpenSpec.ofChange ruleOrderSpec)

/-- ITS FALSE NEIGHBOUR: 'it returns false'. Refute it at one input. -/
def ruleOrderWrong : ChangeSpec := { name := "ruleOrder", fn := fun _ => fun
  | [d1, d2, d3] => { results := [.lit (.bool false)], args := [d1, d2, d3] }
  | _ => none }
def RuleOrderWrongFalsely : Prop := ruleOrderRow.holds Try.pinned (OpenSpec.ofChange ruleOrderWrong)

/-- 'backhaullaw24.LifeTells': WHATEVER THE INPUT: true; the input reads as it did. -/
def lifeTellsSpec : ChangeSpec := { name := "lifeTells", fn := fun _ => fun
  | [d1, d2] => { results := [.lit (.bool true)], args := [d1, d2] }
  | _ => none }
def lifeTellsRow : OpenClaim := { program := "ytlgkimmjoclaaaa", sum := "5f8f5ff148c7cf72dcd5894d4fb0ae815b8a27be9e3d2c26b7668e49f8ba3ef6", func := "backhaul/backhaullaw24.LifeTells", spec := "lifeTells", recurses := true, apart := false }
def LifeTellsSaid : Prop := lifeTellsRow.holds Try.pinned (OpenSpec.ofChange lifeTellsSpec)

/-- ITS FALSE NEIGHBOUR: 'it returns false'. Refute it at one input. -/
def lifeTellsWrong : ChangeSpec := { name := "lifeTells", fn := fun _ => fun
  | [d1, d2] => { results := [.lit (.bool false)], args := [d1, d2] }
  | _ => none }
def LifeTellsWrongFalsely : Prop := lifeTellsRow.holds Try.pinned (OpenSpec.ofChange lifeTellsWrong)

/-- 'backhaullaw24.LifeRuns': WHATEVER THE INPUT: true; the input reads as it did. -/
def lifeRunsSpec : ChangeSpec := { name := "lifeRuns", fn := fun _ => fun
  | [d1, d2] => { results := [.lit (.bool true)], args := [d1, d2] }
  | _ => none }
def lifeRunsRow : OpenClaim := { program := "ytlgkimmjoclaaaa", sum := "5f8f5ff148c7cf72dcd5894d4fb0ae815b8a27be9e3d2c26b7668e49f8ba3ef6", func := "backhaul/backhaullaw24.LifeRuns", spec := "lifeRuns", recurses := true, apart := false }
def LifeRunsSaid : Prop := lifeRunsRow.holds Try.pinned (OpenSpec.ofChange lifeRunsSpec)

/-- ITS FALSE NEIGHBOUR: 'it returns false'. Refute it at one input. -/
def lifeRunsWrong : ChangeSpec := { name := "lifeRuns", fn := fun _ => fun
  | [d1, d2] => { results := [.lit (.bool false)], args := [d1, d2] }
  | _ => none }
def LifeRunsWrongFalsely : Prop := lifeRunsRow.holds Try.pinned (OpenSpec.ofChange lifeRunsWrong)

/-- 'backhaullaw24.LifeEnds': WHATEVER THE INPUT: true; the input reads as it did. -/
def lifeEndsSpec : ChangeSpec := { name := "lifeEnds", fn := fun _ => fun
  | [d] => { results := [.lit (.bool true)], args := [d] }
  | _ => none }
def lifeEndsRow : OpenClaim := { program := "ytlgkimmjoclaaaa", sum := "5f8f5ff148c7cf72dcd5894d4fb0ae815b8a27be9e3d2c26b7668e49f8ba3ef6", func := "backhaul/backhaullaw24.LifeEnds", spec := "lifeEnds", recurses := true, apart := false }
def LifeEndsSaid : Prop := lifeEndsRow.holds Try.pinned (OpenSpec.ofChange lifeEndsSpec)

/-- ITS FALSE NEIGHBOUR: 'it returns false'. Refute it at one input. -/
def lifeEndsWrong : ChangeSpec := { name := "lifeEnds", fn := fun _ => fun
  | [d] => { results := [.lit (.bool false)], args := [d] }
  | _ => none }
def LifeEndsWrongFalsely : Prop := lifeEndsRow.holds Try.pinned (OpenSpec.ofChange lifeEndsWrong)

/-- 'backhaullaw24.LifeNodes': WHATEVER THE INPUT: true; the input reads as it did. -/
def lifeNodesSpec : ChangeSpec := { name := "lifeNodes", fn := fun _ => fun
  | [d1, d2, d3] => { results := [.lit (.bool true)], args := [d1, d2, d3] }
  | _ => none }
def lifeNodesRow : OpenClaim := { program := "ytlgkimmjoclaaaa", sum := "5f8f5ff148c7cf72dcd5894d4fb0ae815b8a27be9e3d2c26b7668e49f8ba3ef6", func := "backhaul/backhaullaw24.LifeNodes", spec := "lifeNodes", recurses := true, apart := false }
def LifeNodesSaid : Prop := lifeNodesRow.holds Try.pinned (OpenSpec.ofChange lifeNodesSpec)

/-- ITS FALSE NEIGHBOUR: 'it returns false'. Refute it at one input. -/
def lifeNodesWrong : ChangeSpec := { name := "lifeNodes", fn := fun _ => fun
  | [d1, d2, d3] => { results := [.lit (.bool false)], args := [d1, d2, d3] }
  | _ => none }
def LifeNodesWrongFalsely : Prop := lifeNodesRow.holds Try.pinned (OpenSpec.ofChange lifeNodesWrong)

/- THE SECOND FORM. 'bulk': how many values and letters a reading holds, each counted each time it is reached (what is shared counts as often as it is met; a slice's spare places count too). A statement '..UptoSaid' is the law's where the arguments, and the package variables that the reading takes, are together of bulk at most 1048576: NARROWER than '..Said'. Prove '..Said' where nothing that the law and all that it calls make is longer than what came in: it says more and counts as full. Else prove '..UptoSaid'. A law counts once. -/
mutual
def uptoBulk {H : Type} : DataW H → Nat
  | .lit (.string bytes) => bytes.length + 1
  | .lit _ => 1
  | .nil => 1
  | .ptr d => uptoBulk d + 1
  | .slice elems spare => uptoBulkAll elems + uptoBulkAll spare + 1
  | .agg parts => uptoBulkAll parts + 1
  | .iface _ d => uptoBulk d + 1
  | .map entries => uptoBulkEntries entries + 1
  | .held _ => 1
def uptoBulkAll {H : Type} : List (DataW H) → Nat
  | [] => 0
  | d :: r => uptoBulk d + uptoBulkAll r
def uptoBulkEntries {H : Type} : List (Lit × DataW H) → Nat
  | [] => 0
  | x :: r => uptoBulkEntry x + uptoBulkEntries r
def uptoBulkEntry {H : Type} : Lit × DataW H → Nat
  | (.string bytes, d) => bytes.length + uptoBulk d + 1
  | (_, d) => uptoBulk d + 1
 end
def uptoSmall : (H : Type) → List (DataW H) → Bool := fun _ ds => decide (uptoBulkAll ds ≤ 1048576)
def OpenSpec.upto (s : _root_.Go.ChangeSpec) : _root_.Go.OpenSpec := { _root_.Go.OpenSpec.ofChange s with cond := some uptoSmall }

/-- 'backhaullaw18.RuleTells', WHERE WHAT IT READS IS OF BULK AT MOST 1048576: true; the input reads as it did. -/
def ruleTellsUptoRow : OpenClaim := { program := "ytlgkimmjoclaaaa", sum := "5f8f5ff148c7cf72dcd5894d4fb0ae815b8a27be9e3d2c26b7668e49f8ba3ef6", func := "backhaul/backhaullaw18.RuleTells", spec := "ruleTells", unfollowed := true, recurses := true, apart := false, narrowed := true }
def RuleTellsUptoSaid : Prop := ruleTellsUptoRow.holds Try.pinned (OpenSpec.upto ruleTellsSpec)

/-- 'backhaullaw18.RuleDecides', WHERE WHAT IT READS IS OF BULK AT MOST 1048576: true; the input reads as it did. -/
def ruleDecidesUptoRow : OpenClaim := { program := "ytlgkimmjoclaaaa", sum := "5f8f5ff148c7cf72dcd5894d4fb0ae815b8a27be9e3d2c26b7668e49f8ba3ef6", func := "backhaul/backhaullaw18.RuleDecides", spec := "ruleDecides", unfollowed := true, recurses := true, apart := false, narrowed := true }
def RuleDecidesUptoSaid : Prop := ruleDecidesUptoRow.holds Try.pinned (OpenSpec.upto ruleDecidesSpec)

/-- 'backhaullaw18.RuleFirst', WHERE WHAT IT READS IS OF BULK AT MOST 1048576: true; the input reads as it did. -/
def ruleFirstUptoRow : OpenClaim := { program := "ytlgkimmjoclaaaa", sum := "5f8f5ff148c7cf72dcd5894d4fb0ae815b8a27be9e3d2c26b7668e49f8ba3ef6", func := "backhaul/backhaullaw18.RuleFirst", spec := "ruleFirst", unfollowed := true, recurses := true, apart := false, narrowed := true }
def RuleFirstUptoSaid : Prop := ruleFirstUptoRow.holds Try.pinned (OpenSpec.upto ruleFirstSpec)

/-- 'backhaullaw18.RuleOrder', WHERE WHAT IT READS IS OF BULK AT MOST 1048576: true; the input reads as it did. -/
def ruleOrderUptoRow : OpenClaim := { program := "ytlgkimmjoclaaaa", sum := "5f8f5ff148c7cf72dcd5894d4fb0ae815b8a27be9e3d2c26b7668e49f8ba3ef6", func := "backhaul/backhaullaw18.RuleOrder", spec := "ruleOrder", unfollowed := true, recurses := true, apart := false, narrowed := true }
def RuleOrderUptoSaid : Prop := ruleOrderUptoRow.holds Try.pinned (OpenSpec.upto ruleOrderSpec)

/-- 'backhaullaw24.LifeTells', WHERE WHAT IT READS IS OF BULK AT MOST 1048576: true; the input reads as it did. -/
def lifeTellsUptoRow : OpenClaim := { program := "ytlgkimmjoclaaaa", sum := "5f8f5ff148c7cf72dcd5894d4fb0ae815b8a27be9e3d2c26b7668e49f8ba3ef6", func := "backhaul/backhaullaw24.LifeTells", spec := "lifeTells", recurses := true, apart := false, narrowed := true }
def LifeTellsUptoSaid : Prop := lifeTellsUptoRow.holds Try.pinned (OpenSpec.upto lifeTellsSpec)

/-- 'backhaullaw24.LifeRuns', WHERE WHAT IT READS IS OF BULK AT MOST 1048576: true; the input reads as it did. -/
def lifeRunsUptoRow : OpenClaim := { program := "ytlgkimmjoclaaaa", sum := "5f8f5ff148c7cf72dcd5894d4fb0ae815b8a27be9e3d2c26b7668e49f8ba3ef6", func := "backhaul/backhaullaw24.LifeRuns", spec := "lifeRuns", recurses := true, apart := false, narrowed := true }
def LifeRunsUptoSaid : Prop := lifeRunsUptoRow.holds Try.pinned (OpenSpec.upto lifeRunsSpec)

/-- 'backhaullaw24.LifeEnds', WHERE WHAT IT READS IS OF BULK AT MOST 1048576: true; the input reads as it did. -/
def lifeEndsUptoRow : OpenClaim := { program := "ytlgkimmjoclaaaa", sum := "5f8f5ff148c7cf72dcd5894d4fb0ae815b8a27be9e3d2c26b7668e49f8ba3ef6", func := "backhaul/backhaullaw24.LifeEnds", spec := "lifeEnds", recurses := true, apart := false, narrowed := true }
def LifeEndsUptoSaid : Prop := lifeEndsUptoRow.holds Try.pinned (OpenSpec.upto lifeEndsSpec)

/-- 'backhaullaw24.LifeNodes', WHERE WHAT IT READS IS OF BULK AT MOST 1048576: true; the input reads as it did. -/
def lifeNodesUptoRow : OpenClaim := { program := "ytlgkimmjoclaaaa", sum := "5f8f5ff148c7cf72dcd5894d4fb0ae815b8a27be9e3d2c26b7668e49f8ba3ef6", func := "backhaul/backhaullaw24.LifeNodes", spec := "lifeNodes", recurses := true, apart := false, narrowed := true }
def LifeNodesUptoSaid : Prop := lifeNodesUptoRow.holds Try.pinned (OpenSpec.upto lifeNodesSpec)

end Rows
end Go.Proofs.Ytlgkimmjoclaaaa
