/- The law GradeTells as a plain law: its closed form is true. Conditions: none. -/
import Derived.Test.YtokoipmbhohoiaaPGradex22
import Derived.Test.YtokoipmbhohoiaaGradePlain
namespace Go.Proofs.Ytokoipmbhohoiaa.Pure
open Go.RowKit Go.Proofs.Ytokoipmbhohoiaa.PGrade Go.Proofs.Ytokoipmbhohoiaa.GradePlain Go.Proofs.YtokoipmbhohoiaaW.PrintWords Go.Proofs.YtokoipmbhohoiaaW.PrintLast

theorem GradeTells : backhaullaw17_GradeTells.Pure := by
  intro l s n _ _ _ _ _
  refine ⟨9000, ?_⟩
  unfold backhaullaw17_GradeTells.f
  rw [aw 9000 (by decide), qGOf l s 9000 (by decide), rGOf l s 9000 (by decide), qSpan l n 9000 (by decide), rSpan l n 9000 (by decide), qGChk l 9000 (by decide), rGChk l]
  by_cases h : (l.length : Int) > 100
  · rw [if_pos h]; rfl
  · rw [if_neg h]
    simp

end Go.Proofs.Ytokoipmbhohoiaa.Pure
