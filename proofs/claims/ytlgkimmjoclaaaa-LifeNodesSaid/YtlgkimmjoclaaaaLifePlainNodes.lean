/- The law LifeNodes as a plain law: its closed form is true. Conditions: none. -/
import Derived.Test.YtlgkimmjoclaaaaPLifex19
import Derived.Test.YtlgkimmjoclaaaaPLifex23
import Derived.Test.YtlgkimmjoclaaaaLifeCore
namespace Go.Proofs.Ytlgkimmjoclaaaa.LifePlain
open Go.RowKit Go.Proofs.Ytlgkimmjoclaaaa.PLife Go.Proofs.YtlgkimmjoclaaaaW.PrintWords Go.Proofs.YtlgkimmjoclaaaaW.PrintLast Go.Proofs.YtlgkimmjoclaaaaW.PrintMore

theorem awNodes (k : Nat) (hk : 60 ≤ k) : backhaullaw24_awake.f k = some true := more backhaullaw24_awake.mono hk (by decide +kernel)

theorem term_any (s w : Int) : ∃ t, life_Terminal.f s w = some t := by
  unfold life_Terminal.f
  repeat' split
  all_goals exact ⟨_, rfl⟩
theorem nodes_j1 {s w : Int} (h : isN s w = true) (a b : List S52) (ha : a.length ≤ 500) (hb : b.length ≤ 500) (k : Nat) (hk : 1100 ≤ k) :
    backhaullaw24_LifeNodes.j1 (k + 1) a b (run s w a 0).2.2.2 false s w (run s w a 0).1 (run s w a 0).2.1 = some true := by
  obtain ⟨hm, h0, h1, h2⟩ := run_facts a s w 0 h
  simp only [backhaullaw24_LifeNodes.j1, Bool.false_eq_true, if_false]
  by_cases he : (run s w a 0).2.2.2 = 0
  · have hd := run_append a b s w 0 he
    have hs := run_shift b (run s w a 0).1 (run s w a 0).2.1 0 (a.length : Int)
    obtain ⟨_, g0, g1, g2⟩ := run_facts b (run s w a 0).1 (run s w a 0).2.1 0 hm
    have hg : (run (run s w a 0).1 (run s w a 0).2.1 b 0).2.2.1 ≤ 0 + b.length := by
      by_cases e : (run (run s w a 0).1 (run s w a 0).2.1 b 0).2.2.2 = 0
      · exact Int.le_of_eq (g1 e)
      · exact Int.le_of_lt (g2 e)
    rw [if_pos he, run_yes hm b (by omega) k (by omega)]
    simp only [Option.bind_some, List.nil_append]
    rw [if_pos (by simp only [List.length_nil]; omega), if_pos (by omega), run_yes h (a ++ b) (by simp only [List.length_append]; omega) k (by simp only [List.length_append]; omega), hd, hs]
    simp only [Option.bind_some, beq_self_eq_true, Bool.and_self, if_true]
    rw [if_pos (by unfold wrap64; omega)]
    obtain ⟨t, ht⟩ := term_any (run s w a 0).1 (run s w a 0).2.1
    rw [ht, awNodes k (by omega)]
    simp only [Option.bind_some]
    cases t with
    | false => rfl
    | true => rw [if_pos rfl, if_pos (run_last hm ht b 0)]
  · rw [if_neg he, awNodes k (by omega)]
    rfl
theorem nodes_law (s w : Int) (a b : List S52) : backhaullaw24_LifeNodes.f 1200 s w a b = some true := by
  have done : backhaullaw24_LifeNodes.j0 1200 a b true s w = some true := by
    simp only [backhaullaw24_LifeNodes.j0, if_true]
    rw [awNodes 1199 (by decide)]
    rfl
  unfold backhaullaw24_LifeNodes.f
  by_cases ha : (a.length : Int) > 500
  · rw [if_pos ha]; exact done
  · rw [if_neg ha]
    by_cases hb : (b.length : Int) > 500
    · rw [show decide ((b.length : Int) > 500) = true from decide_eq_true hb]; exact done
    · rw [show decide ((b.length : Int) > 500) = false from decide_eq_false hb]
      simp only [backhaullaw24_LifeNodes.j0, Bool.false_eq_true, if_false]
      cases h : isN s w with
      | false =>
        rw [run_no h, check_no h, awNodes 1199 (by decide)]
        rfl
      | true =>
        obtain ⟨hm, h0, h1, h2⟩ := run_facts a s w 0 h
        rw [run_yes h a (by omega) 1199 (by omega), check_yes h]
        simp only [Option.bind_some, if_true]
        rw [check_yes hm]
        simp only [Option.bind_some, if_true]
        have hle : (run s w a 0).2.2.1 ≤ (a.length : Int) := by
          by_cases e : (run s w a 0).2.2.2 = 0
          · have := h1 e; omega
          · have := h2 e; omega
        rw [if_neg (by omega), if_neg (by omega)]
        have e : (((run s w a 0).2.2.2 == 0) != ((run s w a 0).2.2.1 == (a.length : Int))) = false := by
          by_cases e : (run s w a 0).2.2.2 = 0
          · have := h1 e
            rw [e, show (run s w a 0).2.2.1 = (a.length : Int) by omega]
            simp
          · have := h2 e
            rw [show ((run s w a 0).2.2.2 == 0) = false from beq_eq_false_iff_ne.2 e, show ((run s w a 0).2.2.1 == (a.length : Int)) = false from beq_eq_false_iff_ne.2 (by omega)]
            rfl
        rw [e]
        exact nodes_j1 h a b (by omega) (by omega) 1198 (by decide)

end Go.Proofs.Ytlgkimmjoclaaaa.LifePlain
