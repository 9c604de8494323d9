/- The law UnitSteps returns true: what is told with OK may be, and stands where its act leads. Conditions: none. -/
import Derived.Test.YtjoclfiefpbgfaaUStepsWalk
import Derived.Test.YtjoclfiefpbgfaaUAwake
namespace Go.Proofs.Ytjoclfiefpbgfaa.PUnit
open Go.RowKit Go.Proofs.YtjoclfiefpbgfaaW.PrintWords Go.Proofs.YtjoclfiefpbgfaaW.PrintLast Go.Proofs.YtjoclfiefpbgfaaW.PrintMore
open SerPlain LifePlain
set_option linter.unusedVariables false
set_option linter.unusedSimpArgs false

theorem step_six (s w a b : Int) (hb : b < 0 ∨ 6 < b) : LifePlain.step s w a b = LifePlain.step s w a 6 := by
  unfold LifePlain.step
  rw [rnext_six s w a b hb]
theorem step_way {s w : Int} (h : isN s w = true) (a b : Int) (ha : a ∈ [1, 3, 4, 5, 6, 7, 8, 9]) : LifePlain.step s w a b = LifePlain.step s w a 0 := by
  have go : ∀ c ∈ [0, 1, 2, 3, 4, 5, 6], LifePlain.step s w a c = LifePlain.step s w a 0 := fun c hc => beq_iff_eq.1 (at_nodes (P := fun s w => ∀ a ∈ [1, 3, 4, 5, 6, 7, 8, 9], ∀ c ∈ [0, 1, 2, 3, 4, 5, 6], (LifePlain.step s w a c == LifePlain.step s w a 0) = true) (by decide +kernel) h a ha c hc)
  by_cases hb : b < 0 ∨ 6 < b
  · rw [step_six s w a b hb]
    exact go 6 (by decide)
  · exact go b (by simp; omega)
theorem f_see {s w : Int} (h : isN s w = true) (h0 : (LifePlain.step s w 1 0).2.2 = 0) : isN (LifePlain.step s w 1 0).1 (LifePlain.step s w 1 0).2.1 = true ∧ (LifePlain.step s w 1 0).1 ≠ 1 ∧ s ≠ 4 ∧ s ≠ 5 ∧ (LifePlain.step s w 1 0).1 ≠ 4 ∧ (LifePlain.step s w 1 0).1 ≠ 5 := by
  have t := at_nodes (P := fun s w => ((LifePlain.step s w 1 0).2.2 != 0 || (isN (LifePlain.step s w 1 0).1 (LifePlain.step s w 1 0).2.1 && ((LifePlain.step s w 1 0).1 != 1 && (s != 4 && (s != 5 && ((LifePlain.step s w 1 0).1 != 4 && (LifePlain.step s w 1 0).1 != 5)))))) = true) (by decide +kernel) h
  rw [Bool.or_eq_true] at t
  rcases t with t | t
  · exact absurd h0 (bne_iff_ne.1 t)
  · simp only [Bool.and_eq_true, Bool.or_eq_true, bne_iff_ne, beq_iff_eq, ne_eq] at t
    exact t
theorem f_enter3 {s w : Int} (h : isN s w = true) (h0 : (LifePlain.step s w 3 0).2.2 = 0) : isN (LifePlain.step s w 3 0).1 (LifePlain.step s w 3 0).2.1 = true ∧ (LifePlain.step s w 3 0).1 ≠ 1 ∧ ((LifePlain.step s w 3 0).1 = 4 ∨ (LifePlain.step s w 3 0).1 = 5) := by
  have t := at_nodes (P := fun s w => ((LifePlain.step s w 3 0).2.2 != 0 || (isN (LifePlain.step s w 3 0).1 (LifePlain.step s w 3 0).2.1 && ((LifePlain.step s w 3 0).1 != 1 && ((LifePlain.step s w 3 0).1 == 4 || (LifePlain.step s w 3 0).1 == 5)))) = true) (by decide +kernel) h
  rw [Bool.or_eq_true] at t
  rcases t with t | t
  · exact absurd h0 (bne_iff_ne.1 t)
  · simp only [Bool.and_eq_true, Bool.or_eq_true, bne_iff_ne, beq_iff_eq, ne_eq] at t
    exact t
theorem f_enter7 {s w : Int} (h : isN s w = true) (h0 : (LifePlain.step s w 7 0).2.2 = 0) : isN (LifePlain.step s w 7 0).1 (LifePlain.step s w 7 0).2.1 = true ∧ (LifePlain.step s w 7 0).1 ≠ 1 ∧ ((LifePlain.step s w 7 0).1 = 4 ∨ (LifePlain.step s w 7 0).1 = 5) := by
  have t := at_nodes (P := fun s w => ((LifePlain.step s w 7 0).2.2 != 0 || (isN (LifePlain.step s w 7 0).1 (LifePlain.step s w 7 0).2.1 && ((LifePlain.step s w 7 0).1 != 1 && ((LifePlain.step s w 7 0).1 == 4 || (LifePlain.step s w 7 0).1 == 5)))) = true) (by decide +kernel) h
  rw [Bool.or_eq_true] at t
  rcases t with t | t
  · exact absurd h0 (bne_iff_ne.1 t)
  · simp only [Bool.and_eq_true, Bool.or_eq_true, bne_iff_ne, beq_iff_eq, ne_eq] at t
    exact t
theorem f_leave4 {s w : Int} (h : isN s w = true) (h0 : (LifePlain.step s w 4 0).2.2 = 0) : isN (LifePlain.step s w 4 0).1 (LifePlain.step s w 4 0).2.1 = true ∧ (LifePlain.step s w 4 0).1 ≠ 1 ∧ (LifePlain.step s w 4 0).1 ≠ 4 ∧ (LifePlain.step s w 4 0).1 ≠ 5 := by
  have t := at_nodes (P := fun s w => ((LifePlain.step s w 4 0).2.2 != 0 || (isN (LifePlain.step s w 4 0).1 (LifePlain.step s w 4 0).2.1 && ((LifePlain.step s w 4 0).1 != 1 && ((LifePlain.step s w 4 0).1 != 4 && (LifePlain.step s w 4 0).1 != 5)))) = true) (by decide +kernel) h
  rw [Bool.or_eq_true] at t
  rcases t with t | t
  · exact absurd h0 (bne_iff_ne.1 t)
  · simp only [Bool.and_eq_true, Bool.or_eq_true, bne_iff_ne, beq_iff_eq, ne_eq] at t
    exact t
theorem f_leave5 {s w : Int} (h : isN s w = true) (h0 : (LifePlain.step s w 5 0).2.2 = 0) : isN (LifePlain.step s w 5 0).1 (LifePlain.step s w 5 0).2.1 = true ∧ (LifePlain.step s w 5 0).1 ≠ 1 ∧ (LifePlain.step s w 5 0).1 ≠ 4 ∧ (LifePlain.step s w 5 0).1 ≠ 5 := by
  have t := at_nodes (P := fun s w => ((LifePlain.step s w 5 0).2.2 != 0 || (isN (LifePlain.step s w 5 0).1 (LifePlain.step s w 5 0).2.1 && ((LifePlain.step s w 5 0).1 != 1 && ((LifePlain.step s w 5 0).1 != 4 && (LifePlain.step s w 5 0).1 != 5)))) = true) (by decide +kernel) h
  rw [Bool.or_eq_true] at t
  rcases t with t | t
  · exact absurd h0 (bne_iff_ne.1 t)
  · simp only [Bool.and_eq_true, Bool.or_eq_true, bne_iff_ne, beq_iff_eq, ne_eq] at t
    exact t
theorem f_leave6 {s w : Int} (h : isN s w = true) (h0 : (LifePlain.step s w 6 0).2.2 = 0) : isN (LifePlain.step s w 6 0).1 (LifePlain.step s w 6 0).2.1 = true ∧ (LifePlain.step s w 6 0).1 ≠ 1 ∧ (LifePlain.step s w 6 0).1 ≠ 4 ∧ (LifePlain.step s w 6 0).1 ≠ 5 := by
  have t := at_nodes (P := fun s w => ((LifePlain.step s w 6 0).2.2 != 0 || (isN (LifePlain.step s w 6 0).1 (LifePlain.step s w 6 0).2.1 && ((LifePlain.step s w 6 0).1 != 1 && ((LifePlain.step s w 6 0).1 != 4 && (LifePlain.step s w 6 0).1 != 5)))) = true) (by decide +kernel) h
  rw [Bool.or_eq_true] at t
  rcases t with t | t
  · exact absurd h0 (bne_iff_ne.1 t)
  · simp only [Bool.and_eq_true, Bool.or_eq_true, bne_iff_ne, beq_iff_eq, ne_eq] at t
    exact t
theorem f_leave8 {s w : Int} (h : isN s w = true) (h0 : (LifePlain.step s w 8 0).2.2 = 0) : isN (LifePlain.step s w 8 0).1 (LifePlain.step s w 8 0).2.1 = true ∧ (LifePlain.step s w 8 0).1 ≠ 1 ∧ (LifePlain.step s w 8 0).1 ≠ 4 ∧ (LifePlain.step s w 8 0).1 ≠ 5 := by
  have t := at_nodes (P := fun s w => ((LifePlain.step s w 8 0).2.2 != 0 || (isN (LifePlain.step s w 8 0).1 (LifePlain.step s w 8 0).2.1 && ((LifePlain.step s w 8 0).1 != 1 && ((LifePlain.step s w 8 0).1 != 4 && (LifePlain.step s w 8 0).1 != 5)))) = true) (by decide +kernel) h
  rw [Bool.or_eq_true] at t
  rcases t with t | t
  · exact absurd h0 (bne_iff_ne.1 t)
  · simp only [Bool.and_eq_true, Bool.or_eq_true, bne_iff_ne, beq_iff_eq, ne_eq] at t
    exact t
theorem f_leave9 {s w : Int} (h : isN s w = true) (h0 : (LifePlain.step s w 9 0).2.2 = 0) : isN (LifePlain.step s w 9 0).1 (LifePlain.step s w 9 0).2.1 = true ∧ (LifePlain.step s w 9 0).1 ≠ 1 ∧ (LifePlain.step s w 9 0).1 ≠ 4 ∧ (LifePlain.step s w 9 0).1 ≠ 5 := by
  have t := at_nodes (P := fun s w => ((LifePlain.step s w 9 0).2.2 != 0 || (isN (LifePlain.step s w 9 0).1 (LifePlain.step s w 9 0).2.1 && ((LifePlain.step s w 9 0).1 != 1 && ((LifePlain.step s w 9 0).1 != 4 && (LifePlain.step s w 9 0).1 != 5)))) = true) (by decide +kernel) h
  rw [Bool.or_eq_true] at t
  rcases t with t | t
  · exact absurd h0 (bne_iff_ne.1 t)
  · simp only [Bool.and_eq_true, Bool.or_eq_true, bne_iff_ne, beq_iff_eq, ne_eq] at t
    exact t
theorem f_decide {s w : Int} (h : isN s w = true) (b : Int) (h0 : (LifePlain.step s w 2 b).2.2 = 0) : isN (LifePlain.step s w 2 b).1 (LifePlain.step s w 2 b).2.1 = true ∧ (LifePlain.step s w 2 b).1 ≠ 1 ∧ s ≠ 4 ∧ s ≠ 5 ∧ (LifePlain.step s w 2 b).1 ≠ 4 ∧ (LifePlain.step s w 2 b).1 ≠ 5 := by
  have go : ∀ b ∈ [0, 1, 2, 3, 4, 5, 6], (LifePlain.step s w 2 b).2.2 = 0 → isN (LifePlain.step s w 2 b).1 (LifePlain.step s w 2 b).2.1 = true ∧ (LifePlain.step s w 2 b).1 ≠ 1 ∧ s ≠ 4 ∧ s ≠ 5 ∧ (LifePlain.step s w 2 b).1 ≠ 4 ∧ (LifePlain.step s w 2 b).1 ≠ 5 := by
    intro b hb h0
    have t := at_nodes (P := fun s w => ∀ b ∈ [0, 1, 2, 3, 4, 5, 6], ((LifePlain.step s w 2 b).2.2 != 0 || (isN (LifePlain.step s w 2 b).1 (LifePlain.step s w 2 b).2.1 && ((LifePlain.step s w 2 b).1 != 1 && (s != 4 && (s != 5 && ((LifePlain.step s w 2 b).1 != 4 && (LifePlain.step s w 2 b).1 != 5)))))) = true) (by decide +kernel) h b hb
    rw [Bool.or_eq_true] at t
    rcases t with t | t
    · exact absurd h0 (bne_iff_ne.1 t)
    · simp only [Bool.and_eq_true, Bool.or_eq_true, bne_iff_ne, beq_iff_eq, ne_eq] at t
      exact t
  by_cases hb : b < 0 ∨ 6 < b
  · rw [step_six s w 2 b hb] at h0 ⊢
    exact go 6 (by decide) h0
  · exact go b (by simp; omega) h0
theorem movF_ok {u : U} {a b : Int} (h : (movF u a b).2 = 0) : chk u = true ∧ (LifePlain.step u.st u.w a b).2.2 = 0 ∧ (movF u a b).1 = { u with st := (LifePlain.step u.st u.w a b).1, w := (LifePlain.step u.st u.w a b).2.1 } := by
  have hc := movF_chk h
  unfold movF at h ⊢
  rw [if_pos hc] at h ⊢
  by_cases h2 : (LifePlain.step u.st u.w a b).2.2 = 0
  · rw [if_pos h2]; exact ⟨hc, h2, rfl⟩
  · rw [if_neg h2] at h; exact absurd h h2
theorem chk_parts {u : U} (h : chk u = true) : okSer u.s = true ∧ isN u.st u.w = true ∧ u.stands = true ∧ u.graded = true ∧ u.held = true := by
  unfold chk at h
  simp only [Bool.and_eq_true] at h
  exact h
theorem graded_range {u : U} (h : u.graded = true) : 0 ≤ u.g ∧ u.g < 4 := by
  unfold U.graded at h
  split at h
  · rw [beq_iff_eq] at h; omega
  · simpa using h
/-- A unit that differs from one that may be in its state, its way, its grade and its order alone. -/
theorem chk_new {u r : U} (hu : chk u = true) (h1 : r.s = u.s) (h2 : r.stands = u.stands) (h3 : isN r.st r.w = true) (h4 : r.st ≠ 1) (h5 : 0 ≤ r.g ∧ r.g < 4) (h6 : r.held = true) : chk r = true := by
  obtain ⟨a1, a2, a3, a4, a5⟩ := chk_parts hu
  unfold chk
  rw [h1, a1, h3, h2, a3, h6]
  unfold U.graded
  rw [if_neg h4, decide_eq_true h5.1, decide_eq_true h5.2]
  rfl
theorem held_out {u : U} (h : u.held = true) (h4 : u.st ≠ 4) (h5 : u.st ≠ 5) : u.i = 0 := by
  unfold U.held at h
  rw [if_neg (by omega)] at h
  exact beq_iff_eq.1 h
theorem held_of {r : U} (h : (r.st = 4 ∨ r.st = 5) ∧ idb r.i = true ∨ (r.st ≠ 4 ∧ r.st ≠ 5) ∧ r.i = 0) : r.held = true := by
  unfold U.held
  rcases h with ⟨h1, h2⟩ | ⟨⟨h1, h2⟩, h3⟩
  · rw [if_pos h1]; exact h2
  · rw [if_neg (by omega)]; exact beq_iff_eq.2 h3
theorem gd_of {u r : U} (hs : u.s.size ≤ 200) {n a b e : Int} (hu : chk u = true) (he : e = 0) (h0 : (LifePlain.step u.st u.w a b).2.2 = 0) (hn : LifePlain.step u.st u.w a n = LifePlain.step u.st u.w a b)
    (hr : chk r = true) (h1 : r.s = u.s) (h2 : r.o = u.o) (h3 : r.l = u.l) (h4 : r.p = u.p) (h5 : r.r = u.r) (h6 : r.a = u.a) (h7 : r.st = (LifePlain.step u.st u.w a b).1) (h8 : r.w = (LifePlain.step u.st u.w a b).2.1) :
    Gd u n (nodeF u).1 (nodeF u).2 r e a (LifePlain.step u.st u.w a b).1 (LifePlain.step u.st u.w a b).2.1 := by
  have en : nodeF u = (u.st, u.w) := by unfold nodeF; rw [if_pos hu]
  have er : nodeF r = (r.st, r.w) := by unfold nodeF; rw [if_pos hr]
  refine .inr ⟨he, fun W => ?_, fun W => ?_, fun W => ?_, fun W => same_calls r u h1 h2 h3 h4 h5 h6 W⟩
  · rw [en]
    refine life_Next.calls 60 u.st u.w a n _ _ 0 W ?_
    rw [next_yes (chk_isN hu) a n 60 (by decide), hn]
    generalize LifePlain.step u.st u.w a b = x at h0
    obtain ⟨x1, x2, x3⟩ := x
    simp only at h0
    rw [h0]
  · have k := node_calls r (by rw [h1]; exact hs) W
    rw [er] at k
    rw [← h7, ← h8]
    exact k
  · have k := check_calls r (by rw [h1]; exact hs) W
    rw [(chkE_eq r).2 hr] at k
    exact k
def P1 (u : U) (a b : Int) : Int := (LifePlain.step u.st u.w a b).1
def Q1 (u : U) (a b : Int) : Int := (LifePlain.step u.st u.w a b).2.1
theorem gd_see (u : U) (hs : u.s.size ≤ 200) (n : Int) : Gd u n (nodeF u).1 (nodeF u).2 (seeF u n).1 (seeF u n).2 1 (P1 u 1 0) (Q1 u 1 0) := by
  rcases see_ways u n with ⟨h, hx, hc⟩ | ⟨h, -, hx, hc⟩ | ⟨h, -, -, hx, hc⟩ | ⟨h, g0, g4, hx, hc⟩
  · exact .inl ⟨by rw [hc]; exact h, hx⟩
  · exact .inl ⟨by rw [hc]; decide, hx⟩
  · exact .inl ⟨by rw [hc]; decide, hx⟩
  · obtain ⟨k1, k2, k3⟩ := movF_ok h
    obtain ⟨a1, a2, a3, a4, a5⟩ := chk_parts k1
    obtain ⟨b1, b2, b3, b4, b5, b6⟩ := f_see a2 k2
    have hio := held_out a5 b3 b4
    rw [hx, hc, k3]
    exact gd_of hs k1 rfl k2 (step_way a2 1 n (by decide)) (chk_new k1 rfl rfl b1 b2 ⟨g0, g4⟩ (held_of (.inr ⟨⟨b5, b6⟩, hio⟩))) rfl rfl rfl rfl rfl rfl rfl rfl
theorem gd_decide (u : U) (hs : u.s.size ≤ 200) (n : Int) : Gd u n (nodeF u).1 (nodeF u).2 (movF u 2 n).1 (movF u 2 n).2 2 (P1 u 2 n) (Q1 u 2 n) := by
  by_cases h : (movF u 2 n).2 = 0
  · obtain ⟨k1, k2, k3⟩ := movF_ok h
    obtain ⟨a1, a2, a3, a4, a5⟩ := chk_parts k1
    obtain ⟨b1, b2, b3, b4, b5, b6⟩ := f_decide a2 n k2
    have hio := held_out a5 b3 b4
    have hgr := graded_range a4
    rw [k3]
    exact gd_of hs k1 h k2 rfl (chk_new k1 rfl rfl b1 b2 hgr (held_of (.inr ⟨⟨b5, b6⟩, hio⟩))) rfl rfl rfl rfl rfl rfl rfl rfl
  · exact .inl ⟨h, movF_bad h⟩
theorem gd_enter (u : U) (hs : u.s.size ≤ 200) (act n : Int) : Gd u n (nodeF u).1 (nodeF u).2 (enterF u act n).1 (enterF u act n).2 act (P1 u act 0) (Q1 u act 0) := by
  rcases enter_ways u act n with ⟨-, hx, hc⟩ | ⟨-, -, -, hx, hc⟩ | ⟨-, ha, hw⟩
  · exact .inl ⟨by rw [hc]; decide, hx⟩
  · exact .inl ⟨by rw [hc]; decide, hx⟩
  · rcases hw with ⟨h, hx, hc⟩ | ⟨h, -, hx, hc⟩ | ⟨h, hb, hx, hc⟩
    · exact .inl ⟨by rw [hc]; exact h, hx⟩
    · exact .inl ⟨by rw [hc]; decide, hx⟩
    · obtain ⟨k1, k2, k3⟩ := movF_ok h
      obtain ⟨a1, a2, a3, a4, a5⟩ := chk_parts k1
      have hf : isN (P1 u act 0) (Q1 u act 0) = true ∧ P1 u act 0 ≠ 1 ∧ (P1 u act 0 = 4 ∨ P1 u act 0 = 5) ∧ LifePlain.step u.st u.w act n = LifePlain.step u.st u.w act 0 := by
        rcases ha with rfl | rfl
        · obtain ⟨b1, b2, b3⟩ := f_enter3 a2 k2; exact ⟨b1, b2, b3, step_way a2 3 n (by decide)⟩
        · obtain ⟨b1, b2, b3⟩ := f_enter7 a2 k2; exact ⟨b1, b2, b3, step_way a2 7 n (by decide)⟩
      obtain ⟨b1, b2, b3, b4⟩ := hf
      have hgr := graded_range a4
      rw [hx, hc, k3]
      exact gd_of hs k1 rfl k2 b4 (chk_new k1 rfl rfl b1 b2 hgr (held_of (.inl ⟨b3, hb⟩))) rfl rfl rfl rfl rfl rfl rfl rfl
theorem gd_leave (u : U) (hs : u.s.size ≤ 200) (act n : Int) : Gd u n (nodeF u).1 (nodeF u).2 (leaveF u act).1 (leaveF u act).2 act (P1 u act 0) (Q1 u act 0) := by
  rcases leave_ways u act with ⟨-, hx, hc⟩ | ⟨-, -, -, -, -, -, hx, hc⟩ | ⟨-, ha, hw⟩
  · exact .inl ⟨by rw [hc]; decide, hx⟩
  · exact .inl ⟨by rw [hc]; decide, hx⟩
  · rcases hw with ⟨h, hx, hc⟩ | ⟨h, hx, hc⟩
    · exact .inl ⟨by rw [hc]; exact h, hx⟩
    · obtain ⟨k1, k2, k3⟩ := movF_ok h
      obtain ⟨a1, a2, a3, a4, a5⟩ := chk_parts k1
      have hf : isN (P1 u act 0) (Q1 u act 0) = true ∧ P1 u act 0 ≠ 1 ∧ (P1 u act 0 ≠ 4 ∧ P1 u act 0 ≠ 5) ∧ LifePlain.step u.st u.w act n = LifePlain.step u.st u.w act 0 := by
        rcases ha with rfl | rfl | rfl | rfl | rfl
        · obtain ⟨b1, b2, b3, b4⟩ := f_leave4 a2 k2; exact ⟨b1, b2, ⟨b3, b4⟩, step_way a2 4 n (by decide)⟩
        · obtain ⟨b1, b2, b3, b4⟩ := f_leave5 a2 k2; exact ⟨b1, b2, ⟨b3, b4⟩, step_way a2 5 n (by decide)⟩
        · obtain ⟨b1, b2, b3, b4⟩ := f_leave6 a2 k2; exact ⟨b1, b2, ⟨b3, b4⟩, step_way a2 6 n (by decide)⟩
        · obtain ⟨b1, b2, b3, b4⟩ := f_leave8 a2 k2; exact ⟨b1, b2, ⟨b3, b4⟩, step_way a2 8 n (by decide)⟩
        · obtain ⟨b1, b2, b3, b4⟩ := f_leave9 a2 k2; exact ⟨b1, b2, ⟨b3, b4⟩, step_way a2 9 n (by decide)⟩
      obtain ⟨b1, b2, b3, b4⟩ := hf
      have hgr := graded_range a4
      rw [hx, hc, k3]
      exact gd_of hs k1 rfl k2 b4 (chk_new k1 rfl rfl b1 b2 hgr (held_of (.inr ⟨b3, rfl⟩))) rfl rfl rfl rfl rfl rfl rfl rfl
theorem UnitSteps (u : U) (act n : Int) (w : World) : Calls Try.prog 5 #[.agg #[.string u.s, .int .i64 u.o, .int .i64 u.l, .int .i64 u.p, .int .i64 u.r, .int .i64 u.a, .int .i64 u.st, .int .i64 u.g, .int .i64 u.w, .int .i64 u.i], .int .i64 act, .int .i64 n] w fun e w' => e = .returned (.bool true) ∧ Below w.heap.size w w' := by
  by_cases hs : 200 < u.s.size
  · exact steps_big u act n awake_calls (decide_eq_true (by omega)) (decide_eq_true hs) w
  · have hs2 : u.s.size ≤ 200 := by omega
    exact steps_walk u (seeF u n).1 (movF u 2 n).1 (enterF u act n).1 (leaveF u act).1 act n _ _ _ _ _ _ awake_calls (fun W => see_calls u hs2 n W) (fun W => decide_calls u hs2 n W) (fun W => enter_calls u hs2 act n W) (fun W => leave_calls u hs2 act W) (fun W => node_calls u hs2 W) (gd_see u hs2 n) (gd_decide u hs2 n) (gd_enter u hs2 act n) (gd_leave u hs2 act n) (decide_eq_false (by omega)) (decide_eq_false hs) w
theorem UnitSteps_law (a0_0 : ByteArray) (a0_1 a0_2 a0_3 a0_4 a0_5 a0_6 a0_7 a0_8 a0_9 a1 a2 : Int) (W : World) {F0 F1 F2 F3 F4 F5 F6 F7 F8 F9 F10 F11 : Prop} (_ : F0) (_ : F1) (_ : F2) (_ : F3) (_ : F4) (_ : F5) (_ : F6) (_ : F7) (_ : F8) (_ : F9) (_ : F10) (_ : F11) : Calls Try.prog 5 #[.agg #[.string a0_0, .int .i64 a0_1, .int .i64 a0_2, .int .i64 a0_3, .int .i64 a0_4, .int .i64 a0_5, .int .i64 a0_6, .int .i64 a0_7, .int .i64 a0_8, .int .i64 a0_9], .int .i64 a1, .int .i64 a2] W fun e w' => e = .returned (.bool true) ∧ Below W.heap.size W w' := UnitSteps ⟨a0_0, a0_1, a0_2, a0_3, a0_4, a0_5, a0_6, a0_7, a0_8, a0_9⟩ a1 a2 W
end Go.Proofs.Ytjoclfiefpbgfaa.PUnit
