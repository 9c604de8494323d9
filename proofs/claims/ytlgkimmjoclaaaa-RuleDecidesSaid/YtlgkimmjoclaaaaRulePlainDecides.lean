/- The law RuleDecides as a plain law over lists of rows: its closed form is true. Conditions: none. -/
import Derived.Test.YtlgkimmjoclaaaaPRulex21
import Derived.Test.YtlgkimmjoclaaaaRulePlain
namespace Go.Proofs.Ytlgkimmjoclaaaa.RulePlain
open Go.RowKit Go.Proofs.Ytlgkimmjoclaaaa.PRule Go.Proofs.YtlgkimmjoclaaaaW.PrintWords Go.Proofs.YtlgkimmjoclaaaaW.PrintLast Go.Proofs.YtlgkimmjoclaaaaW.PrintMore

theorem decides (l : List S23) (g : Int) (w : Bool) (m : Int) : backhaullaw18_RuleDecides.f 600 l g w m = some true := by
  unfold backhaullaw18_RuleDecides.f backhaullaw18_of.f
  by_cases hl : (l.length : Int) > 100
  · rw [if_pos hl]; rfl
  have hl' : l.length ≤ 100 := by omega
  have hf : (fitsL l g w m).length ≤ 100 := by
    have := fl_length g w m l 0
    unfold fitsL
    split <;> simp <;> omega
  rw [if_neg hl, qDecide l hl' g w m 600 (by omega)]
  simp only [Option.bind_some]
  rw [rDecide l hl' g w m 600 (by omega), qCheck l hl' 600 (by omega), rCheck l hl' 600 (by omega), qFitsL l hl' g w m 600 (by omega)]
  simp only [Option.bind_some, if_true]
  rw [rFitsL l hl' g w m 600 (by omega)]
  simp only [Option.bind_some]
  rw [same _ hf 600 (by omega), aw]
  simp
end Go.Proofs.Ytlgkimmjoclaaaa.RulePlain
