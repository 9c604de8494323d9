/- QuizMore: one more no adds its weight, and the answers come back of their noes: the plain statement that is left of the law's row. Conditions: those of the row, none beyond. -/
import Derived.Test.YtpoafdckkmecnaaQuizPlain
import Derived.OpenShut
namespace Go.Proofs.Ytpoafdckkmecnaa.Pure
open Go.RowKit Go.Proofs.Ytpoafdckkmecnaa.PQuiz Go.Proofs.Ytpoafdckkmecnaa.QuizPlain Go.Proofs.YtpoafdckkmecnaaW.PrintWords Go.Proofs.YtpoafdckkmecnaaW.PrintLast Go.Proofs.YtpoafdckkmecnaaW.PrintMore


theorem QuizMore : backhaullaw16_QuizMore.Pure := by
  intro l a t _ _ _ _ wt
  have bt := Go.bounds_i64 wt
  refine ⟨300, ?_⟩
  unfold backhaullaw16_QuizMore.f
  by_cases hl : (l.length : Int) > 100
  · rw [if_pos hl, aw 300 (by omega)]; rfl
  have hl' : l.length ≤ 100 := by omega
  rw [if_neg hl, qScore l hl' a 300 (by omega), qFailed l hl' a 300 (by omega)]
  simp only [Option.bind_some]
  rcases chk_cases l with h | h
  · obtain ⟨h1, h2, h3⟩ := chk_zero h
    have hp := pow_le l.length h2
    have hc := pow_cast l.length
    by_cases ha : 0 ≤ a ∧ a < 2 ^ l.length
    · have hn := noes_len a l.length
      rw [score_ok h ha, fails_ok h ha]
      simp only [if_true]
      rw [qAnswers l (noes a l.length) hl' (by omega) 300 (by omega) (by omega), answers_back h ha]
      simp only [Option.bind_some, if_true, bne_self_eq_false, backhaullaw16_QuizMore.j0]
      rw [if_neg (by simp)]
      have done : ∀ s, backhaullaw16_QuizMore.j1 299 l a t s true = some true := by
        intro s
        simp only [backhaullaw16_QuizMore.j1, if_true]
        rw [aw 298 (by omega)]; rfl
      by_cases t1 : t < 0
      · rw [if_pos t1, done]
      rw [if_neg t1]
      by_cases t2 : t ≥ (l.length : Int)
      · rw [if_pos t2, done]
      rw [if_neg t2]
      have tw : IntKind.u64.wrap t = t := u64w (by omega) (by omega)
      rw [tw, if_pos (by omega)]
      obtain ⟨i, rfl⟩ := Int.eq_ofNat_of_zero_le (by omega : 0 ≤ t)
      obtain ⟨b, rfl⟩ := Int.eq_ofNat_of_zero_le ha.1
      have hb : b < 256 := by omega
      have hi : i < 8 := by omega
      have e1 : (Go.bits .and .i64 (shr .i64 (b : Int) (i : Int)) 1 == 0) = decide (b / 2 ^ i % 2 = 0) := by
        rw [← nb_small b hb i hi]
        unfold nb shr
        rw [Nat.min_eq_left (by simp [IntKind.bits]; omega)]
      rw [e1]
      by_cases hq : b / 2 ^ i % 2 = 0
      · rw [decide_eq_true hq, done]
      rw [decide_eq_false hq]
      have hbit : b / 2 ^ i % 2 = 1 := by omega
      have hge : 2 ^ i ≤ b := by
        rcases Nat.lt_or_ge b (2 ^ i) with h' | h'
        · rw [Nat.div_eq_of_lt h'] at hbit; simp at hbit
        · exact h'
      have hu := Nat.two_pow_pos i
      have e2 : wrap64 ((b : Int) - (shl .i64 1 (i : Int))) = ((b - 2 ^ i : Nat) : Int) := by
        rw [shl_nat i (by omega), w64 (by omega) (by omega)]
        omega
      have r1 := rd_bd h3 (i : Int) (by omega) (by omega)
      have r2 := total_bd h3 (noes (b : Int) l.length) (noes_inR _ _)
      simp only [backhaullaw16_QuizMore.j1]
      rw [if_neg (by simp), tw, if_pos (by omega), e2, qScore l hl' _ 298 (by omega), score_ok h ⟨by omega, by omega⟩, aw 298 (by omega)]
      simp only [Option.bind_some]
      rw [if_pos (by omega), if_pos (by omega), total_more b i hb hi hbit l.length h2, if_pos (show i < l.length by omega), w64 (by omega) (by omega), if_pos rfl]
      rfl
    · rw [score_arg h ha, fails_arg h ha]
      simp only [List.length_nil]
      rw [aw 300 (by omega)]
      rfl
  · rw [score_no h, fails_no h]
    simp only [List.length_nil]
    rw [aw 300 (by omega)]
    rfl

end Go.Proofs.Ytpoafdckkmecnaa.Pure
