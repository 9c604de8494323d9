/- The walk of the law RuleTells: its call returns true in every world. Conditions: none. -/
import Derived.Test.YtlgkimmjoclaaaaRulePlainTells
import Derived.Test.YtlgkimmjoclaaaaRuleLaw
namespace Go.Proofs.Ytlgkimmjoclaaaa.RuleLaw
open Go.RowKit Go.Proofs.Ytlgkimmjoclaaaa.PRule Go.Proofs.Ytlgkimmjoclaaaa.RulePlain Go.Proofs.YtlgkimmjoclaaaaW.PrintWords Go.Proofs.YtlgkimmjoclaaaaW.PrintLast Go.Proofs.YtlgkimmjoclaaaaW.PrintMore
set_option linter.unusedVariables false

theorem tells_walk (a b c d f g : Int) (v : Bool) (m : Int) (w : World) (_ : (Lit.int .i64 a).wf = true) (_ : (Lit.int .i64 b).wf = true) (_ : (Lit.int .i64 c).wf = true) (_ : (Lit.int .i64 d).wf = true) (_ : (Lit.int .i64 f).wf = true) (_ : (Lit.int .i64 g).wf = true) (_ : (Lit.int .i64 m).wf = true) :
    Calls Try.prog 3 #[.agg #[.int .i64 a, .int .i64 b, .int .i64 c, .int .i64 d, .int .i64 f], .agg #[.int .i64 g, .bool v, .int .i64 m]] w fun e w' => e = .returned (.bool true) ∧ Below w.heap.size w w' :=
  backhaullaw18_RuleTells.calls 100 a b c d f g v m true w (tells a b c d f g v m)
end Go.Proofs.Ytlgkimmjoclaaaa.RuleLaw
