/- The walk of the law RuleOrder: its call returns true in every world. Conditions: none. -/
import Derived.Test.YtlgkimmjoclaaaaRulePlainOrder
import Derived.Test.YtlgkimmjoclaaaaRuleLaw
namespace Go.Proofs.Ytlgkimmjoclaaaa.RuleLaw
open Go.RowKit Go.Proofs.Ytlgkimmjoclaaaa.PRule Go.Proofs.Ytlgkimmjoclaaaa.RulePlain Go.Proofs.YtlgkimmjoclaaaaW.PrintWords Go.Proofs.YtlgkimmjoclaaaaW.PrintLast Go.Proofs.YtlgkimmjoclaaaaW.PrintMore
set_option linter.unusedVariables false

theorem order_walk (A : Option Addr) (cap : Nat) (l : List S23) (g : Int) (v : Bool) (m out : Int) (w : World) (h : Kd.C k23 w A l.length l) (hc : l.length ≤ cap) (_ : (Lit.int .i64 g).wf = true) (_ : (Lit.int .i64 m).wf = true) (_ : (Lit.int .i64 out).wf = true) :
    Calls Try.prog 6 #[.slice A l.length cap, .agg #[.int .i64 g, .bool v, .int .i64 m], .int .i64 out] w fun e w' => e = .returned (.bool true) ∧ Below w.heap.size w w' :=
  backhaullaw18_RuleOrder.calls 353 A cap l g v m out true w h hc (orders l g v m out 350 (by decide))
end Go.Proofs.Ytlgkimmjoclaaaa.RuleLaw
