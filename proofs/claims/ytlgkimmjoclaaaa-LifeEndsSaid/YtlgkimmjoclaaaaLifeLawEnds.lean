/- The walk of the law LifeEnds: its call returns true in every world. Conditions: none. -/
import Derived.Test.YtlgkimmjoclaaaaLifePlainEnds
import Derived.Test.YtlgkimmjoclaaaaLifeRows
namespace Go.Proofs.Ytlgkimmjoclaaaa.LifeLaw
open Go.RowKit Go.Proofs.Ytlgkimmjoclaaaa.PLife Go.Proofs.Ytlgkimmjoclaaaa.LifePlain Go.Proofs.YtlgkimmjoclaaaaW.PrintWords Go.Proofs.YtlgkimmjoclaaaaW.PrintLast Go.Proofs.YtlgkimmjoclaaaaW.PrintMore
set_option linter.unusedVariables false

theorem ends_walk (s t : Int) (w : World) (_ : (Lit.int .i64 s).wf = true) (_ : (Lit.int .i64 t).wf = true) :
    Calls Try.prog 9 #[.agg #[.int .i64 s, .int .i64 t]] w fun e w' => e = .returned (.bool true) ∧ Below w.heap.size w w' :=
  backhaullaw24_LifeEnds.calls_t 400 s t true w (ends s t) rfl
end Go.Proofs.Ytlgkimmjoclaaaa.LifeLaw
