/- The law LifeRuns as a plain law: its closed form is true. Conditions: none. -/
import Derived.Test.YtlgkimmjoclaaaaPLifex19
import Derived.Test.YtlgkimmjoclaaaaPLifex21
import Derived.Test.YtlgkimmjoclaaaaLifePlain
namespace Go.Proofs.Ytlgkimmjoclaaaa.LifePlain
open Go.RowKit Go.Proofs.Ytlgkimmjoclaaaa.PLife Go.Proofs.YtlgkimmjoclaaaaW.PrintWords Go.Proofs.YtlgkimmjoclaaaaW.PrintLast Go.Proofs.YtlgkimmjoclaaaaW.PrintMore

theorem awRuns (k : Nat) (hk : 60 ≤ k) : backhaullaw24_awake.f k = some true := more backhaullaw24_awake.mono hk (by decide +kernel)

theorem runs_l (l : List S52) (hl : l.length ≤ 1000) (d : Nat) : ∀ (k i : Nat) (s w : Int), isN s w = true → i + d = l.length → d + 62 ≤ k → 
    backhaullaw24_LifeRuns.l0 k l (run s w (l.drop i) (i : Int)).2.2.1 (run s w (l.drop i) (i : Int)).2.2.2 s w (i : Int) (run s w (l.drop i) (i : Int)).1 (run s w (l.drop i) (i : Int)).2.1 = some true := by
  induction d with
  | zero =>
    intro k i s w hn hi hk
    obtain ⟨k, rfl⟩ := Nat.exists_eq_succ_of_ne_zero (by omega : k ≠ 0)
    rw [List.drop_eq_nil_of_le (by omega)]
    simp only [backhaullaw24_LifeRuns.l0, run]
    rw [if_neg (by omega), awRuns k (by omega)]
    have e : (i : Int) = (l.length : Int) := by omega
    simp [e]
  | succ d ih =>
    intro k i s w hn hi hk
    obtain ⟨k, rfl⟩ := Nat.exists_eq_succ_of_ne_zero (by omega : k ≠ 0)
    have hlt : i < l.length := by omega
    rw [List.drop_eq_getElem_cons hlt]
    simp only [backhaullaw24_LifeRuns.l0, run]
    rw [if_pos (by omega), if_pos (by omega), rd52 l i hlt, w2 (by omega), rnext_yes hn _ _ k (by omega)]
    simp only [Option.bind_some]
    by_cases he : (step s w l[i].f0 l[i].f1).2.2 = 0
    · rw [if_pos he, if_pos he]
      exact ih k (i + 1) _ _ ((step_yes hn _ _).2.2.1 he) (by omega) (by omega)
    · have a := awRuns k (by omega)
      simp [he, a]
theorem runs (s w : Int) (l : List S52) : backhaullaw24_LifeRuns.f 1100 s w l = some true := by
  unfold backhaullaw24_LifeRuns.f
  rw [awRuns 1100 (by decide)]
  by_cases hl : (l.length : Int) > 1000
  · rw [if_pos hl]; rfl
  · rw [if_neg hl]
    have hl' : l.length ≤ 1000 := by omega
    cases h : isN s w with
    | false => rw [run_no h, rnode_no h 1100 (by decide)]; rfl
    | true =>
      rw [run_yes h l (by omega) 1100 (by omega), rnode h 1100 (by decide)]
      simp only [Option.bind_some, if_true]
      exact runs_l l hl' l.length 1100 0 s w h (by omega) (by omega)

end Go.Proofs.Ytlgkimmjoclaaaa.LifePlain
