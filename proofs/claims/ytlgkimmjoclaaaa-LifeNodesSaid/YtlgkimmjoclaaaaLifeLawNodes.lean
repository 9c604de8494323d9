/- The walk of the law LifeNodes: its call returns true in every world. Conditions: none. -/
import Derived.Test.YtlgkimmjoclaaaaLifePlainNodes
import Derived.Test.YtlgkimmjoclaaaaLifeRows
namespace Go.Proofs.Ytlgkimmjoclaaaa.LifeLaw
open Go.RowKit Go.Proofs.Ytlgkimmjoclaaaa.PLife Go.Proofs.Ytlgkimmjoclaaaa.LifePlain Go.Proofs.YtlgkimmjoclaaaaW.PrintWords Go.Proofs.YtlgkimmjoclaaaaW.PrintLast Go.Proofs.YtlgkimmjoclaaaaW.PrintMore
set_option linter.unusedVariables false

theorem nodes_walk (s t : Int) (A : Option Addr) (cap : Nat) (l : List S52) (A2 : Option Addr) (cap2 : Nat) (l2 : List S52) (w : World) (_ : (Lit.int .i64 s).wf = true) (_ : (Lit.int .i64 t).wf = true) (h : Kd.C k52 w A l.length l) (hc : l.length ≤ cap) (h2 : Kd.C k52 w A2 l2.length l2) (hc2 : l2.length ≤ cap2) :
    Calls Try.prog 10 #[.agg #[.int .i64 s, .int .i64 t], .slice A l.length cap, .slice A2 l2.length cap2] w fun e w' => e = .returned (.bool true) ∧ Below w.heap.size w w' :=
  backhaullaw24_LifeNodes.calls_t 1200 s t A cap l A2 cap2 l2 true w h hc h2 hc2 (nodes_law s t l l2) rfl
end Go.Proofs.Ytlgkimmjoclaaaa.LifeLaw
