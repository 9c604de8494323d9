/- The law GradeAll as a plain law: its closed form is true. Conditions: none. -/
import Derived.Test.YtokoipmbhohoiaaPGradex29
import Derived.Test.YtokoipmbhohoiaaCountPlain
namespace Go.Proofs.Ytokoipmbhohoiaa.Pure
open Go.RowKit Go.Proofs.Ytokoipmbhohoiaa.PGrade Go.Proofs.Ytokoipmbhohoiaa.GradePlain Go.Proofs.YtokoipmbhohoiaaW.PrintWords Go.Proofs.YtokoipmbhohoiaaW.PrintLast

theorem shl_len : ∀ n : Nat, n < 9 → shl .i64 1 (IntKind.u64.wrap (n : Int)) = ((2 ^ n : Nat) : Int) ∧ 0 ≤ IntKind.u64.wrap (n : Int) := by decide +kernel
theorem span_tells {a b c : Int} (h : okc a b c) (s i : Int) (hs : 0 ≤ s ∧ s ≤ 8000) (hi : 0 ≤ i ∧ i < 4) : (s ≥ (spn a b c i).1 ∧ s ≤ (spn a b c i).2.1) ↔ gr a b c s = i := by
  rw [gr_span h s i hs hi]
  unfold spn
  split <;> simp only <;> omega
theorem fin (l asks : List Int) (s n e i : Int) (ha : asks.length ≤ 100) (k : Nat) (hk : 400 ≤ k) : backhaullaw17_GradeAll.j2 (k + 1) l s asks n e i false = some true := by
  simp only [backhaullaw17_GradeAll.j2, Bool.false_eq_true, if_false]
  rw [qCount asks l ha k (by omega), aw k (by omega)]
  simp only [Option.bind_some]
  rcases chk_cases asks with h | h
  · rcases gchk_cases l with g | g
    · obtain ⟨a, b, c, rfl, ho⟩ := gchk_zero g
      obtain ⟨h1, h8, _⟩ := chk_zero h
      obtain ⟨hp, hq⟩ := two_pow asks.length h8
      obtain ⟨p, q⟩ := cnt_sum asks a b c (2 ^ asks.length) 0 (0, 0, 0, 0) (by unfold pos4; simp) (by unfold sum4; simp only; omega)
      obtain ⟨s1, s2⟩ := shl_len asks.length (by omega)
      rw [cntv_yes h ho, s1, qCheck asks ha k (by omega), h]
      generalize cnt asks a b c (2 ^ asks.length) 0 (0, 0, 0, 0) = v at p q ⊢
      obtain ⟨x, y, z, u⟩ := v
      unfold pos4 at p
      unfold sum4 at q
      simp only at p q ⊢
      have e1 : wrap64 (x + y) = x + y := w64 (by omega) (by omega)
      have e2 : wrap64 (x + y + z) = x + y + z := w64 (by omega) (by omega)
      have e3 : wrap64 (x + y + z + u) = x + y + z + u := w64 (by omega) (by omega)
      rw [if_pos trivial, if_pos s2, e1, e2, e3, if_pos (by omega)]
      rfl
    · rw [cntv_no (Or.inr g)]; rfl
  · rw [cntv_no (Or.inl h)]; rfl
theorem loop {a b c : Int} (ho : okc a b c) (asks : List Int) (ha : asks.length ≤ 100) (s : Int) (hs : 0 ≤ s ∧ s ≤ 8000) (d : Nat) : ∀ (k i : Nat), i + d = 4 → 500 + 2 * d ≤ k → backhaullaw17_GradeAll.l0 k [a, b, c] s asks (gr a b c s) 0 (i : Int) = some true := by
  induction d with
  | zero =>
    intro k i hi hk
    obtain ⟨k, rfl⟩ := Nat.exists_eq_succ_of_ne_zero (by omega : k ≠ 0)
    obtain ⟨k, rfl⟩ := Nat.exists_eq_succ_of_ne_zero (by omega : k ≠ 0)
    simp only [backhaullaw17_GradeAll.l0]
    rw [if_neg (by omega)]
    exact fin _ _ _ _ _ _ ha k (by omega)
  | succ d ih =>
    intro k i hi hk
    obtain ⟨k, rfl⟩ := Nat.exists_eq_succ_of_ne_zero (by omega : k ≠ 0)
    obtain ⟨k, rfl⟩ := Nat.exists_eq_succ_of_ne_zero (by omega : k ≠ 0)
    have hi4 : 0 ≤ (i : Int) ∧ (i : Int) < 4 := by omega
    have t := span_tells ho s (i : Int) hs hi4
    have wi : wrap64 ((i : Int) + 1) = ((i + 1 : Nat) : Int) := by unfold wrap64; omega
    have e2 : (spn a b c i).2.2 = 0 := by unfold spn; split <;> rfl
    have nx := ih k (i + 1) (by omega) (by omega)
    simp only [backhaullaw17_GradeAll.l0]
    rw [if_pos hi4.2]
    simp only [backhaullaw17_GradeAll.j2, beq_self_eq_true, if_true]
    rw [qSpan [a, b, c] i k (by omega), spv_yes ho, if_pos hi4, wi]
    simp only [Option.bind_some]
    rw [if_pos e2, nx]
    by_cases h1 : s ≥ (spn a b c i).1
    · rw [if_pos h1]
      have : (decide (s ≤ (spn a b c i).2.1) != ((i : Int) == gr a b c s)) = false := by
        by_cases h2 : s ≤ (spn a b c i).2.1
        · have := t.1 ⟨h1, h2⟩; simp [h2, this]
        · have : ¬ gr a b c s = i := fun q => h2 (t.2 q).2
          simp [h2]; exact fun q => this q.symm
      rw [this]; rfl
    · rw [if_neg h1]
      have : ¬ gr a b c s = i := fun q => h1 (t.2 q).1
      have : (false != ((i : Int) == gr a b c s)) = false := by simp; exact fun q => this q.symm
      rw [this]; rfl
theorem GradeAll : backhaullaw17_GradeAll.Pure := by
  intro l s asks _ _ _ _ _ _ _
  refine ⟨1000, ?_⟩
  have done : backhaullaw17_GradeAll.j0 1000 l s asks true = some true := by
    simp only [backhaullaw17_GradeAll.j0, if_true]
    rw [aw 999 (by decide)]
    rfl
  unfold backhaullaw17_GradeAll.f
  by_cases hl : (l.length : Int) > 100
  · rw [if_pos hl]; exact done
  · rw [if_neg hl]
    by_cases ha : (asks.length : Int) > 100
    · rw [show decide ((asks.length : Int) > 100) = true from decide_eq_true ha]; exact done
    · rw [show decide ((asks.length : Int) > 100) = false from decide_eq_false ha]
      simp only [backhaullaw17_GradeAll.j0, Bool.false_eq_true, if_false]
      rw [qGOf l s 999 (by decide)]
      simp only [Option.bind_some]
      have no : ∀ e : Int, e ≠ 0 → ∀ n, backhaullaw17_GradeAll.l0 999 l s asks n e 0 = some true := by
        intro e he n
        simp only [backhaullaw17_GradeAll.l0]
        rw [if_pos (by decide), beq_eq_false_iff_ne.2 he]
        exact fin _ _ _ _ _ _ (by omega) 997 (by decide)
      rcases gchk_cases l with g | g
      · obtain ⟨a, b, c, rfl, ho⟩ := gchk_zero g
        rw [ofv_yes ho]
        by_cases hs : 0 ≤ s ∧ s ≤ 8000
        · rw [if_pos hs]
          exact loop ho asks (by omega) s hs 4 999 0 (by omega) (by omega)
        · rw [if_neg hs]; exact no 2 (by decide) 0
      · rw [ofv_no g]; exact no 36 (by decide) 0

end Go.Proofs.Ytokoipmbhohoiaa.Pure
