/- The law RuleTells as a plain law over lists of rows: its closed form is true. Conditions: none. -/
import Derived.Test.YtlgkimmjoclaaaaPRulex17
import Derived.Test.YtlgkimmjoclaaaaRulePlain
namespace Go.Proofs.Ytlgkimmjoclaaaa.RulePlain
open Go.RowKit Go.Proofs.Ytlgkimmjoclaaaa.PRule Go.Proofs.YtlgkimmjoclaaaaW.PrintWords Go.Proofs.YtlgkimmjoclaaaaW.PrintLast Go.Proofs.YtlgkimmjoclaaaaW.PrintMore

theorem tells (a b c d f g : Int) (w : Bool) (m : Int) : backhaullaw18_RuleTells.f 100 a b c d f g w m = some true := by
  unfold backhaullaw18_RuleTells.f backhaullaw18_of.f
  have e1 := qMatch ⟨a, b, c, d, f⟩ g w m
  have e2 := rMatch ⟨a, b, c, d, f⟩ g w m 100 (by omega)
  simp only at e1 e2
  rw [qRow, rRow, qFacts]
  simp only [Option.bind_some, if_true]
  rw [rFacts, e1]
  simp only [Option.bind_some, if_true]
  rw [e2, aw]
  simp
end Go.Proofs.Ytlgkimmjoclaaaa.RulePlain
