/- The law LifeEnds as a plain law: its closed form is true. Conditions: none. -/
import Derived.Test.YtlgkimmjoclaaaaPLifex19
import Derived.Test.YtlgkimmjoclaaaaPLifex22
import Derived.Test.YtlgkimmjoclaaaaLifePlain
namespace Go.Proofs.Ytlgkimmjoclaaaa.LifePlain
open Go.RowKit Go.Proofs.Ytlgkimmjoclaaaa.PLife Go.Proofs.YtlgkimmjoclaaaaW.PrintWords Go.Proofs.YtlgkimmjoclaaaaW.PrintLast Go.Proofs.YtlgkimmjoclaaaaW.PrintMore

theorem awEnds (k : Nat) (hk : 60 ≤ k) : backhaullaw24_awake.f k = some true := more backhaullaw24_awake.mono hk (by decide +kernel)

theorem ends_in : ∀ p ∈ nodes, backhaullaw24_LifeEnds.f 400 p.1 p.2 = some true := by decide +kernel
theorem ends (s w : Int) : backhaullaw24_LifeEnds.f 400 s w = some true := by
  cases h : isN s w with
  | true => exact at_nodes (P := fun s w => backhaullaw24_LifeEnds.f 400 s w = some true) ends_in h
  | false =>
    unfold backhaullaw24_LifeEnds.f
    rw [acts_no h, check_no h, least_no h 399, term_no h, awEnds 400 (by decide)]
    rfl

end Go.Proofs.Ytlgkimmjoclaaaa.LifePlain
