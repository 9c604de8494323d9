/- QuizTells: the program's scores, noes and answers are the document's: the plain statement that is left of the law's row. Conditions: those of the row, none beyond. -/
import Derived.Test.YtpoafdckkmecnaaQuizPlain
import Derived.OpenShut
namespace Go.Proofs.Ytpoafdckkmecnaa.Pure
open Go.RowKit Go.Proofs.Ytpoafdckkmecnaa.PQuiz Go.Proofs.Ytpoafdckkmecnaa.QuizPlain Go.Proofs.YtpoafdckkmecnaaW.PrintWords Go.Proofs.YtpoafdckkmecnaaW.PrintLast Go.Proofs.YtpoafdckkmecnaaW.PrintMore


theorem same_l (l : List Int) (hl : l.length ≤ 100) (d : Nat) : ∀ (k i : Nat), i + d = l.length → d < k → backhaulref02_SameInts.l0 k l l (i : Int) = some true := by
  induction d with
  | zero =>
    intro k i hi hk
    obtain ⟨k, rfl⟩ : ∃ m, k = m + 1 := ⟨k - 1, by omega⟩
    simp only [backhaulref02_SameInts.l0]
    rw [if_neg (by omega)]
  | succ d ih =>
    intro k i hi hk
    obtain ⟨k, rfl⟩ : ∃ m, k = m + 1 := ⟨k - 1, by omega⟩
    simp only [backhaulref02_SameInts.l0]
    rw [if_pos (by omega), if_pos (by omega), if_pos (by omega), if_pos trivial, w64 (by omega) (by omega)]
    exact ih k (i + 1) (by omega) (by omega)
theorem same (l : List Int) (hl : l.length ≤ 100) (k : Nat) (hk : l.length + 2 ≤ k) : backhaulref02_SameInts.f k l l = some true := by
  unfold backhaulref02_SameInts.f
  rw [if_pos rfl]
  exact same_l l hl l.length k 0 (by omega) (by omega)
theorem fails_len (l : List Int) (a : Int) (hl : l.length ≤ 100) : (fails l a).1.length ≤ 100 := by
  have := noes_len a l.length
  unfold fails
  split
  · split <;> simp <;> omega
  · simp
theorem QuizTells : backhaullaw16_QuizTells.Pure := by
  intro l a F _ _ _ wa _ _ _
  have ba := Go.bounds_i64 wa
  refine ⟨400, ?_⟩
  unfold backhaullaw16_QuizTells.f
  have done : ∀ x, backhaullaw16_QuizTells.j0 400 l a F x = some true ∨ x = false := by
    intro x
    cases x
    · exact .inr rfl
    · left
      simp only [backhaullaw16_QuizTells.j0, if_true]
      rw [aw 399 (by omega)]; rfl
  by_cases hl : (l.length : Int) > 100
  · rw [if_pos hl]; exact (done true).resolve_right (by simp)
  rw [if_neg hl]
  by_cases hF : (F.length : Int) > 100
  · rw [decide_eq_true hF]; exact (done true).resolve_right (by simp)
  rw [decide_eq_false hF]
  have hl' : l.length ≤ 100 := by omega
  have hF' : F.length ≤ 100 := by omega
  have hs := fails_len l a hl'
  simp only [backhaullaw16_QuizTells.j0]
  rw [if_neg (by simp), qScore l hl' a 399 (by omega), rScore l hl' a (by omega) 399 (by omega), qFailed l hl' a 399 (by omega), rFailed l hl' a (by omega) 399 (by omega), qAnswers l F hl' hF' 399 (by omega) (by omega), rAnswers l F hl' hF' 399 (by omega), qCheck l hl' 399 (by omega), rCheck l hl' 399 (by omega), qWorst l hl' 399 (by omega), rWorst l hl' 399 (by omega), aw 399 (by omega)]
  simp only [Option.bind_some, if_true]
  rw [same _ hs 399 (by omega)]
  simp

end Go.Proofs.Ytpoafdckkmecnaa.Pure
