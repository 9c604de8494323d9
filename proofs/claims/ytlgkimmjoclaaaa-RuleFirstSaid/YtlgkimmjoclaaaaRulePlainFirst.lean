/- The law RuleFirst as a plain law over lists of rows: its closed form is true. Conditions: none. -/
import Derived.Test.YtlgkimmjoclaaaaPRulex22
import Derived.Test.YtlgkimmjoclaaaaRulePlain
namespace Go.Proofs.Ytlgkimmjoclaaaa.RulePlain
open Go.RowKit Go.Proofs.Ytlgkimmjoclaaaa.PRule Go.Proofs.YtlgkimmjoclaaaaW.PrintWords Go.Proofs.YtlgkimmjoclaaaaW.PrintLast Go.Proofs.YtlgkimmjoclaaaaW.PrintMore

theorem first_l (l : List S23) (hl : l.length ≤ 100) (g : Int) (w : Bool) (m : Int) (ha : l.all okR = true) (hf : okF g m = true) (d : Nat) : ∀ (k i : Nat), i + d = l.length → d < k →
    backhaullaw18_RuleFirst.l0 k l (dec g w m (l.drop i) i).1 (dec g w m (l.drop i) i).2.1 (dec g w m (l.drop i) i).2.2 (i : Int) g w m = some true := by
  induction d with
  | zero =>
    intro k i hi hk
    obtain ⟨k, rfl⟩ : ∃ m, k = m + 1 := ⟨k - 1, by omega⟩
    rw [List.drop_of_length_le (by omega)]
    simp only [backhaullaw18_RuleFirst.l0, dec]
    rw [if_neg (by omega), aw]
    simp
  | succ d ih =>
    intro k i hi hk
    obtain ⟨k, rfl⟩ : ∃ m, k = m + 1 := ⟨k - 1, by omega⟩
    have h := ih k (i + 1) (by omega) (by omega)
    have hm : mtch (l.getD i z23) g w m = fit (l.getD i z23) g w m := by unfold mtch; rw [all_at ha i (by omega), hf]; simp
    rw [drop_at l i (by omega)]
    simp only [backhaullaw18_RuleFirst.l0, dec]
    rw [if_pos (by omega), if_pos (by omega), rd_nat, qMatch, hm, aw, w64 (by omega) (by omega)]
    simp only [Option.bind_some]
    by_cases hq : fit (l.getD i z23) g w m = true
    · simp only [if_pos hq, if_true]
    · simp only [if_neg hq]
      exact h
theorem firsts (l : List S23) (g : Int) (w : Bool) (m : Int) : backhaullaw18_RuleFirst.f 600 l g w m = some true := by
  have done : ∀ x, backhaullaw18_RuleFirst.j0 600 l x g w m = some true ∨ x = false := by
    intro x
    cases x
    · exact .inr rfl
    · left
      simp only [backhaullaw18_RuleFirst.j0, if_true]
      rfl
  unfold backhaullaw18_RuleFirst.f
  by_cases hl : (l.length : Int) > 100
  · rw [if_pos hl]; exact (done true).resolve_right (by simp)
  have hl' : l.length ≤ 100 := by omega
  rw [if_neg hl, qCheck l hl' 600 (by omega)]
  simp only [Option.bind_some]
  rcases codeT_cases l with h | h
  · obtain ⟨h1, h2, h3⟩ := codeT_zero h
    rw [h, if_pos rfl, qFacts]
    simp only [Option.bind_some, codeF]
    cases hf : okF g m
    · exact (done true).resolve_right (by simp)
    · simp only [if_true, bne_self_eq_false, backhaullaw18_RuleFirst.j0]
      rw [if_neg (by simp), qDecide l hl' g w m 599 (by omega)]
      have e : decide_ l g w m = dec g w m l 0 := by unfold decide_; rw [if_pos h, if_pos hf]
      rw [e]
      simpa using first_l l hl' g w m h3 hf l.length 599 0 (by omega) (by omega)
  · rw [h, if_neg (by simp)]; exact (done true).resolve_right (by simp)

end Go.Proofs.Ytlgkimmjoclaaaa.RulePlain
