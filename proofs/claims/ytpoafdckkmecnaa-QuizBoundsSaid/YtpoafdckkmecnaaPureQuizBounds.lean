/- QuizBounds: a score lies between that of all yes, which is nothing, and that of all no, which is the worst one: the plain statement that is left of the law's row. Conditions: those of the row, none beyond. -/
import Derived.Test.YtpoafdckkmecnaaQuizPlain
namespace Go.Proofs.Ytpoafdckkmecnaa.Pure
open Go.RowKit Go.Proofs.Ytpoafdckkmecnaa.PQuiz Go.Proofs.Ytpoafdckkmecnaa.QuizPlain Go.Proofs.YtpoafdckkmecnaaW.PrintWords Go.Proofs.YtpoafdckkmecnaaW.PrintLast Go.Proofs.YtpoafdckkmecnaaW.PrintMore


theorem QuizBounds : backhaullaw16_QuizBounds.Pure := by
  intro l a _ _ _ _
  refine ⟨300, ?_⟩
  unfold backhaullaw16_QuizBounds.f
  by_cases hl : (l.length : Int) > 100
  · rw [if_pos hl]; simp only [backhaullaw16_QuizBounds.j0, if_true]; rw [aw 299 (by omega)]; rfl
  have hl' : l.length ≤ 100 := by omega
  rw [if_neg hl, qCheck l hl' 300 (by omega)]
  simp only [Option.bind_some]
  rcases chk_cases l with h | h
  · obtain ⟨h1, h2, h3⟩ := chk_zero h
    have hp := pow_le l.length h2
    have hc := pow_cast l.length
    have e1 : wrap64 ((shl .i64 1 (IntKind.u64.wrap (l.length : Int))) - 1) = ((2 ^ l.length - 1 : Nat) : Int) := by
      rw [u64w (by omega) (by omega), shl_nat l.length (by omega), w64 (by omega) (by omega)]
      omega
    have s1 : score l ((2 ^ l.length - 1 : Nat) : Int) = (0, 0) := by
      rw [score_ok h (by omega), noes_all l.length h2]; rfl
    have s2 : score l 0 = (total l (noes 0 l.length), 0) := score_ok h (by omega)
    have s3 : worst l = total l (noes 0 l.length) := by unfold worst; rw [if_pos h]
    rw [h]
    simp only [bne_self_eq_false, backhaullaw16_QuizBounds.j0]
    rw [if_neg (by simp), if_pos (by rw [u64w (by omega) (by omega)]; omega), e1, qScore l hl' _ 299 (by omega), qScore l hl' _ 299 (by omega), qWorst l hl' 299 (by omega), s1, s2, s3]
    simp only [Option.bind_some, if_true, bne_self_eq_false, backhaullaw16_QuizBounds.j1]
    rw [if_neg (by simp), qScore l hl' _ 298 (by omega), aw 298 (by omega)]
    by_cases ha : 0 ≤ a ∧ a < 2 ^ l.length
    · have hb := total_le h3 h2 a l.length (Nat.le_refl _)
      rw [score_ok h ha]
      simp only [Option.bind_some, if_true]
      rw [if_pos hb.1, if_pos hb.2]
    · rw [score_arg h ha]; rfl
  · rw [h]
    simp only [backhaullaw16_QuizBounds.j0]
    rw [if_pos (by simp), aw 299 (by omega)]; rfl

end Go.Proofs.Ytpoafdckkmecnaa.Pure
