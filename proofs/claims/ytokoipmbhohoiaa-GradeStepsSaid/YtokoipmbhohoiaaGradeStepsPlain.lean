/- The law GradeSteps as a plain law, and its walk. Conditions: none. -/
import Derived.Test.YtokoipmbhohoiaaPGradex28
import Derived.Test.YtokoipmbhohoiaaGradePlain
namespace Go.Proofs.Ytokoipmbhohoiaa.GradeLaw
open Go.RowKit Go.Proofs.Ytokoipmbhohoiaa.PGrade Go.Proofs.Ytokoipmbhohoiaa.GradePlain Go.Proofs.YtokoipmbhohoiaaW.PrintWords Go.Proofs.YtokoipmbhohoiaaW.PrintLast
set_option linter.unusedVariables false

theorem gr_up {a b c s t : Int} (h : okc a b c) (hs : s ≤ t) : gr a b c s ≤ gr a b c t := by
  unfold okc at h
  unfold gr
  repeat' split
  all_goals omega
theorem gr_cuts {a b c a' b' c' s : Int} (h : okc a b c) (h' : okc a' b' c') (ha : a ≤ a') (hb : b ≤ b') (hc : c ≤ c') : gr a' b' c' s ≤ gr a b c s := by
  unfold okc at h h'
  unfold gr
  repeat' split
  all_goals omega
theorem ofv_zero {l : List Int} {s : Int} (h : (ofv l s).2 = 0) : ∃ a b c, l = [a, b, c] ∧ okc a b c ∧ 0 ≤ s ∧ s ≤ 8000 ∧ (ofv l s).1 = gr a b c s := by
  rcases gchk_cases l with e | e
  · obtain ⟨a, b, c, rfl, ho⟩ := gchk_zero e
    rw [ofv_yes ho] at h ⊢
    by_cases hs : 0 ≤ s ∧ s ≤ 8000
    · rw [if_pos hs]; exact ⟨a, b, c, rfl, ho, hs.1, hs.2, rfl⟩
    · rw [if_neg hs] at h; simp at h
  · rw [ofv_no e] at h; simp at h
theorem steps_j2 (l m : List Int) (s : Int) (h : (ofv l s).2 = 0) (h' : (ofv m s).2 = 0) (k : Nat) (hk : 60 ≤ k) : backhaullaw17_GradeSteps.j2 (k + 1) l m (ofv l s).1 (ofv m s).1 false = some true := by
  obtain ⟨a, b, c, rfl, ho, _, _, e⟩ := ofv_zero h
  obtain ⟨a', b', c', rfl, ho', _, _, e'⟩ := ofv_zero h'
  rw [e, e']
  have e3 : (([a, b, c] : List Int).length : Int) = 3 := rfl
  have e3' : (([a', b', c'] : List Int).length : Int) = 3 := rfl
  have r2 : ∀ x y z, rd [x, y, z] 2 = z := fun _ _ _ => rfl
  have r1 : ∀ x y z, rd [x, y, z] 1 = y := fun _ _ _ => rfl
  have r0 : ∀ x y z, rd [x, y, z] 0 = x := fun _ _ _ => rfl
  simp only [backhaullaw17_GradeSteps.j2, aw k hk, e3, e3', r2, r1, r0, Option.bind_some, Bool.false_eq_true, if_false]
  by_cases h0 : a > a'
  · simp [h0]
  · by_cases h1 : b > b'
    · simp [h0, h1]
    · by_cases h2 : c > c'
      · simp [h0, h1, h2]
      · have g := gr_cuts (s := s) ho ho' (by omega) (by omega) (by omega)
        simp [h0, h1, h2, g]
theorem steps (l m : List Int) (s t : Int) : backhaullaw17_GradeSteps.f 100 l m s t = some true := by
  have done : backhaullaw17_GradeSteps.j0 100 l m true s t = some true := by
    simp only [backhaullaw17_GradeSteps.j0, if_true]
    rw [aw 99 (by decide)]
    rfl
  have last : backhaullaw17_GradeSteps.j1 99 l m (ofv l s).1 (ofv l s).2 (ofv m s).1 (ofv m s).2 false = some true := by
    simp only [backhaullaw17_GradeSteps.j1, Bool.false_eq_true, if_false]
    have no : backhaullaw17_GradeSteps.j2 98 l m (ofv l s).1 (ofv m s).1 true = some true := by
      simp only [backhaullaw17_GradeSteps.j2, if_true]; rw [aw 97 (by decide)]; rfl
    by_cases h : (ofv l s).2 = 0
    · rw [if_pos h]
      by_cases h' : (ofv m s).2 = 0
      · rw [if_pos h']
        have y := steps_j2 l m s h h' 97 (by decide)
        obtain ⟨a, b, c, rfl, -⟩ := ofv_zero h
        obtain ⟨a', b', c', rfl, -⟩ := ofv_zero h'
        simpa using y
      · rw [if_neg h']; exact no
    · rw [if_neg h]; exact no
  unfold backhaullaw17_GradeSteps.f
  by_cases hl : (l.length : Int) > 100
  · rw [if_pos hl]; exact done
  · rw [if_neg hl]
    by_cases hm : (m.length : Int) > 100
    · rw [show decide ((m.length : Int) > 100) = true from decide_eq_true hm]; exact done
    · rw [show decide ((m.length : Int) > 100) = false from decide_eq_false hm]
      simp only [backhaullaw17_GradeSteps.j0, Bool.false_eq_true, if_false]
      rw [qGOf l s 99 (by decide), qGOf l t 99 (by decide), qGOf m s 99 (by decide)]
      simp only [Option.bind_some]
      have fin := last
      by_cases h1 : (ofv l s).2 = 0
      · rw [if_pos h1]
        by_cases h2 : (ofv l t).2 = 0
        · rw [if_pos h2]
          by_cases h3 : s ≤ t
          · rw [if_pos h3]
            have g : decide ((ofv l s).1 > (ofv l t).1) = false := by
              obtain ⟨a, b, c, rfl, ho, _, _, e⟩ := ofv_zero h1
              obtain ⟨a', b', c', e4, ho', _, _, e'⟩ := ofv_zero h2
              cases e4
              have := gr_up ho h3
              rw [e, e']
              exact decide_eq_false (by omega)
            rw [g]; exact fin
          · rw [if_neg h3]; exact fin
        · rw [if_neg h2]; exact fin
      · rw [if_neg h1]; exact fin
theorem steps_walk (a0 : Option Addr) (len0 cap0 : Nat) (z0 : List Int) (a1 : Option Addr) (len1 cap1 : Nat) (z1 : List Int) (s t : Int) (w : World) (w0 : (a0 = none ∧ len0 = 0 ∧ cap0 = 0 ∧ z0 = []) ∨ ∃ x, a0 = some x ∧ len0 ≤ cap0 ∧ cap0 ≤ maxLen ∧ z0.length = cap0 ∧ (∀ i, i < z0.length → w.cell? (x.add i) = some (.int .i64 (z0.getD i 0))) ∧ ∀ n ∈ z0, (Lit.int .i64 n).wf = true) (y0 : len0 * 8 ≤ 140737488351232) (w1 : (a1 = none ∧ len1 = 0 ∧ cap1 = 0 ∧ z1 = []) ∨ ∃ x, a1 = some x ∧ len1 ≤ cap1 ∧ cap1 ≤ maxLen ∧ z1.length = cap1 ∧ (∀ i, i < z1.length → w.cell? (x.add i) = some (.int .i64 (z1.getD i 0))) ∧ ∀ n ∈ z1, (Lit.int .i64 n).wf = true) (y1 : len1 * 8 ≤ 140737488351232) (_ : (Lit.int .i64 s).wf = true) (_ : (Lit.int .i64 t).wf = true) :
    Calls Try.prog 5 #[.slice a0 len0 cap0, .slice a1 len1 cap1, .agg #[.int .i64 s, .int .i64 t]] w fun e w' => e = .returned (.bool true) ∧ Below w.heap.size w w' := by
  obtain ⟨l0, rfl, hr0, hm0, hw0, hc0⟩ := ReadsInt.ofRowC w0
  obtain ⟨l1, rfl, hr1, hm1, hw1, hc1⟩ := ReadsInt.ofRowC w1
  exact backhaullaw17_GradeSteps.calls_t 100 _ _ l0 _ _ l1 s t true w (Kd.C_of_reads (d := (0 : Int)) (h1 := fun _ => rfl) hr0) hc0 (Kd.C_of_reads (d := (0 : Int)) (h1 := fun _ => rfl) hr1) hc1 (steps l0 l1 s t) rfl
end Go.Proofs.Ytokoipmbhohoiaa.GradeLaw
