/- The law UnitOnce returns true, walked. Conditions: none. -/
import Derived.Test.YtjoclfiefpbgfaaUOnceWalk
import Derived.Test.YtjoclfiefpbgfaaUAwake
namespace Go.Proofs.Ytjoclfiefpbgfaa.PUnit
open Go.RowKit Go.Proofs.YtjoclfiefpbgfaaW.PrintWords Go.Proofs.YtjoclfiefpbgfaaW.PrintLast Go.Proofs.YtjoclfiefpbgfaaW.PrintMore
open SerPlain LifePlain
set_option linter.unusedVariables false
set_option linter.unusedSimpArgs false

theorem done_mov {u : U} (h : doneF u = true) (a b : Int) : (movF u a b).2 ≠ 0 := by
  unfold doneF at h
  rw [Bool.and_eq_true] at h
  have hn := chk_isN h.1
  have ht : life_Terminal.f u.st u.w = some true := by rw [term_all, h.2]
  unfold movF
  rw [if_pos h.1, if_neg ((step_yes hn a b).2.2.2 ht)]
  exact (step_yes hn a b).2.2.2 ht
theorem once_plain {u : U} (h : doneF u = true) (act n : Int) : (seeF u n).2 ≠ 0 ∧ (movF u 2 n).2 ≠ 0 ∧ (enterF u act n).2 ≠ 0 ∧ (leaveF u act).2 ≠ 0 ∧ chkE u = 0 := by
  refine ⟨?_, done_mov h 2 n, ?_, ?_, ?_⟩
  · rcases see_ways u n with ⟨h1, -, hc⟩ | ⟨h1, -⟩ | ⟨h1, -⟩ | ⟨h1, -⟩
    · rw [hc]; exact h1
    · exact absurd h1 (done_mov h 1 0)
    · exact absurd h1 (done_mov h 1 0)
    · exact absurd h1 (done_mov h 1 0)
  · rcases enter_ways u act n with ⟨-, -, hc⟩ | ⟨-, -, -, -, hc⟩ | ⟨-, -, hw⟩
    · rw [hc]; decide
    · rw [hc]; decide
    · rcases hw with ⟨h1, -, hc⟩ | ⟨h1, -⟩ | ⟨h1, -⟩
      · rw [hc]; exact h1
      · exact absurd h1 (done_mov h act 0)
      · exact absurd h1 (done_mov h act 0)
  · rcases leave_ways u act with ⟨-, -, hc⟩ | ⟨-, -, -, -, -, -, -, hc⟩ | ⟨-, -, hw⟩
    · rw [hc]; decide
    · rw [hc]; decide
    · rcases hw with ⟨h1, -, hc⟩ | ⟨h1, -⟩
      · rw [hc]; exact h1
      · exact absurd h1 (done_mov h act 0)
  · unfold doneF at h
    rw [Bool.and_eq_true] at h
    exact (chkE_eq u).2 h.1
theorem UnitOnce (u : U) (act n : Int) (w : World) : Calls Try.prog 6 #[.agg #[.string u.s, .int .i64 u.o, .int .i64 u.l, .int .i64 u.p, .int .i64 u.r, .int .i64 u.a, .int .i64 u.st, .int .i64 u.g, .int .i64 u.w, .int .i64 u.i], .int .i64 act, .int .i64 n] w fun e w' => e = .returned (.bool true) ∧ Below w.heap.size w w' := by
  by_cases hs : 200 < u.s.size
  · exact once_big u act n awake_calls ⟨decide_eq_true (by omega), decide_eq_true hs⟩ w
  · have hs2 : u.s.size ≤ 200 := by omega
    cases hd : doneF u with
    | false =>
      exact once_walk u (seeF u n).1 (movF u 2 n).1 (enterF u act n).1 (leaveF u act).1 act n _ _ _ _ (chkE u) false (fun W => by rw [← hd]; exact done_calls u hs2 W) awake_calls (fun W => see_calls u hs2 n W) (fun W => decide_calls u hs2 n W) (fun W => enter_calls u hs2 act n W) (fun W => leave_calls u hs2 act W) (fun W => check_calls u hs2 W) (.inl ⟨decide_eq_false (by omega), decide_eq_false hs, rfl⟩) w
    | true =>
      obtain ⟨h1, h2, h3, h4, h5⟩ := once_plain hd act n
      exact once_walk u (seeF u n).1 (movF u 2 n).1 (enterF u act n).1 (leaveF u act).1 act n _ _ _ _ (chkE u) true (fun W => by rw [← hd]; exact done_calls u hs2 W) awake_calls (fun W => see_calls u hs2 n W) (fun W => decide_calls u hs2 n W) (fun W => enter_calls u hs2 act n W) (fun W => leave_calls u hs2 act W) (fun W => check_calls u hs2 W) (.inr ⟨decide_eq_false (by omega), decide_eq_false hs, rfl, h1, h2, h3, h4, h5⟩) w
theorem UnitOnce_law (a0_0 : ByteArray) (a0_1 a0_2 a0_3 a0_4 a0_5 a0_6 a0_7 a0_8 a0_9 a1 a2 : Int) (W : World) {F0 F1 F2 F3 F4 F5 F6 F7 F8 F9 F10 F11 : Prop} (_ : F0) (_ : F1) (_ : F2) (_ : F3) (_ : F4) (_ : F5) (_ : F6) (_ : F7) (_ : F8) (_ : F9) (_ : F10) (_ : F11) : Calls Try.prog 6 #[.agg #[.string a0_0, .int .i64 a0_1, .int .i64 a0_2, .int .i64 a0_3, .int .i64 a0_4, .int .i64 a0_5, .int .i64 a0_6, .int .i64 a0_7, .int .i64 a0_8, .int .i64 a0_9], .int .i64 a1, .int .i64 a2] W fun e w' => e = .returned (.bool true) ∧ Below W.heap.size W w' := UnitOnce ⟨a0_0, a0_1, a0_2, a0_3, a0_4, a0_5, a0_6, a0_7, a0_8, a0_9⟩ a1 a2 W
end Go.Proofs.Ytjoclfiefpbgfaa.PUnit
