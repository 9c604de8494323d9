/- The walk of the law RuleFirst: its call returns true in every world. Conditions: none. -/
import Derived.Test.YtlgkimmjoclaaaaRulePlainFirst
import Derived.Test.YtlgkimmjoclaaaaRuleLaw
namespace Go.Proofs.Ytlgkimmjoclaaaa.RuleLaw
open Go.RowKit Go.Proofs.Ytlgkimmjoclaaaa.PRule Go.Proofs.Ytlgkimmjoclaaaa.RulePlain Go.Proofs.YtlgkimmjoclaaaaW.PrintWords Go.Proofs.YtlgkimmjoclaaaaW.PrintLast Go.Proofs.YtlgkimmjoclaaaaW.PrintMore
set_option linter.unusedVariables false

theorem first_walk (A : Option Addr) (cap : Nat) (l : List S23) (g : Int) (v : Bool) (m : Int) (w : World) (h : Kd.C k23 w A l.length l) (hc : l.length ≤ cap) (_ : (Lit.int .i64 g).wf = true) (_ : (Lit.int .i64 m).wf = true) :
    Calls Try.prog 5 #[.slice A l.length cap, .agg #[.int .i64 g, .bool v, .int .i64 m]] w fun e w' => e = .returned (.bool true) ∧ Below w.heap.size w w' :=
  backhaullaw18_RuleFirst.calls 600 A cap l g v m true w h hc (firsts l g v m)
end Go.Proofs.Ytlgkimmjoclaaaa.RuleLaw
