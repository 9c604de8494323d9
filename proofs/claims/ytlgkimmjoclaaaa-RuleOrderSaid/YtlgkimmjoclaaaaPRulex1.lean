-- PRINTED by printx.py (the kit's print, with contracts that were written by hand in the place of what it does not print). Not trusted: Lean checks it.
import Derived.Test.YtlgkimmjoclaaaaPRulex0
namespace Go.Proofs.Ytlgkimmjoclaaaa.PRule
open Go.RowKit Go.Proofs.YtlgkimmjoclaaaaW.PrintWords Go.Proofs.YtlgkimmjoclaaaaW.PrintLast Go.Proofs.YtlgkimmjoclaaaaW.PrintMore
attribute [local go_sem] max2_int min2_int max_two min_two max_three min_three max_four min_four   -- for this text's walks alone
set_option linter.unusedVariables false
set_option linter.unusedSimpArgs false

/-! ### rule_CheckRow: function 11 -/
def rule_CheckRow.f (a b c d f : Int) : Option Int := some (if (1 ≤ a ∧ a < 16 ∧ 1 ≤ b ∧ b ≤ 3) ∧ (0 ≤ c ∧ c ≤ d ∧ d ≤ 1000000000000) ∧ (1 ≤ f ∧ f ≤ 5) then 0 else 36)
theorem ret_int {a b : Int} (h : a = b) : Ending.returned (.int .i64 a) = .returned (.int .i64 b) := by rw [h]
set_option maxHeartbeats 4000000 in
theorem rule_CheckRow.calls (a b c d f r : Int) (w : World) (h : rule_CheckRow.f a b c d f = some r) :
    Calls Try.prog 11 #[.agg #[.int .i64 a, .int .i64 b, .int .i64 c, .int .i64 d, .int .i64 f]] w fun e w' => e = .returned (.int .i64 r) ∧ Below w.heap.size w w' := by
  have H := Aside0.mk h
  clear h
  go_enter Try.func11, Try.ntmps11
  go_wp2
  refine wp_loop_rounds 4 ?_
  rw [rounds_succ]
  go_wp2
  all_goals (try (rw [rounds_succ]; go_wp2))
  all_goals (try (rw [rounds_succ]; go_wp2))
  all_goals (try (rw [rounds_succ]; go_wp2))
  all_goals
    go_ret
    refine ⟨ret_int ?_, by repeat (first | exact Below.refl _ _ | apply below_alloc)⟩
    obtain rfl := Option.some.inj H.out
    clear H
    simp at *
    try omega


end Go.Proofs.Ytlgkimmjoclaaaa.PRule
