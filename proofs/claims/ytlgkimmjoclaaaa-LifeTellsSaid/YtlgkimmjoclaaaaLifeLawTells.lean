/- The walk of the law LifeTells: its call returns true in every world. Conditions: none. -/
import Derived.Test.YtlgkimmjoclaaaaLifePlainTells
import Derived.Test.YtlgkimmjoclaaaaLifeRows
namespace Go.Proofs.Ytlgkimmjoclaaaa.LifeLaw
open Go.RowKit Go.Proofs.Ytlgkimmjoclaaaa.PLife Go.Proofs.Ytlgkimmjoclaaaa.LifePlain Go.Proofs.YtlgkimmjoclaaaaW.PrintWords Go.Proofs.YtlgkimmjoclaaaaW.PrintLast Go.Proofs.YtlgkimmjoclaaaaW.PrintMore
set_option linter.unusedVariables false

theorem tells_walk (s t a b : Int) (w : World) (_ : (Lit.int .i64 s).wf = true) (_ : (Lit.int .i64 t).wf = true) (_ : (Lit.int .i64 a).wf = true) (_ : (Lit.int .i64 b).wf = true) :
    Calls Try.prog 7 #[.agg #[.int .i64 s, .int .i64 t], .agg #[.int .i64 a, .int .i64 b]] w fun e w' => e = .returned (.bool true) ∧ Below w.heap.size w w' :=
  backhaullaw24_LifeTells.calls_t 700 s t a b true w (tells s t a b) rfl
end Go.Proofs.Ytlgkimmjoclaaaa.LifeLaw
