/- The walk of the law LifeRuns: its call returns true in every world. Conditions: none. -/
import Derived.Test.YtlgkimmjoclaaaaLifePlainRuns
import Derived.Test.YtlgkimmjoclaaaaLifeRows
namespace Go.Proofs.Ytlgkimmjoclaaaa.LifeLaw
open Go.RowKit Go.Proofs.Ytlgkimmjoclaaaa.PLife Go.Proofs.Ytlgkimmjoclaaaa.LifePlain Go.Proofs.YtlgkimmjoclaaaaW.PrintWords Go.Proofs.YtlgkimmjoclaaaaW.PrintLast Go.Proofs.YtlgkimmjoclaaaaW.PrintMore
set_option linter.unusedVariables false

theorem runs_walk (s t : Int) (A : Option Addr) (cap : Nat) (l : List S52) (w : World) (_ : (Lit.int .i64 s).wf = true) (_ : (Lit.int .i64 t).wf = true) (h : Kd.C k52 w A l.length l) (hc : l.length ≤ cap) :
    Calls Try.prog 8 #[.agg #[.int .i64 s, .int .i64 t], .slice A l.length cap] w fun e w' => e = .returned (.bool true) ∧ Below w.heap.size w w' :=
  backhaullaw24_LifeRuns.calls_t 1100 s t A cap l true w h hc (runs s t l) rfl
end Go.Proofs.Ytlgkimmjoclaaaa.LifeLaw
