/- The law UnitMoves returns true, walked. Conditions: none. -/
import Derived.Test.YtjoclfiefpbgfaaUMovesWalk
import Derived.Test.YtjoclfiefpbgfaaUAwake
import Derived.Test.YtjoclfiefpbgfaaURClosed
namespace Go.Proofs.Ytjoclfiefpbgfaa.PUnit
open Go.RowKit Go.Proofs.YtjoclfiefpbgfaaW.PrintWords Go.Proofs.YtjoclfiefpbgfaaW.PrintLast Go.Proofs.YtjoclfiefpbgfaaW.PrintMore
open SerPlain LifePlain
set_option linter.unusedVariables false
set_option linter.unusedSimpArgs false

theorem UnitMoves (u : U) (act n : Int) (w : World) : Calls Try.prog 4 #[.agg #[.string u.s, .int .i64 u.o, .int .i64 u.l, .int .i64 u.p, .int .i64 u.r, .int .i64 u.a, .int .i64 u.st, .int .i64 u.g, .int .i64 u.w, .int .i64 u.i], .int .i64 act, .int .i64 n] w fun e w' => e = .returned (.bool true) ∧ Below w.heap.size w w' := by
  by_cases hs : 200 < u.s.size
  · exact moves_big u act n awake_calls ⟨decide_eq_true (by omega), decide_eq_true hs⟩ w
  · have hs2 : u.s.size ≤ 200 := by omega
    exact moves_walk u (seeF u n).1 (movF u 2 n).1 (enterF u act n).1 (leaveF u act).1 act n _ _ _ _ awake_calls (fun W => see_calls u hs2 n W) (fun W => rsee_calls u hs2 n W) (fun W => decide_calls u hs2 n W) (fun W => rdecide_calls u hs2 n W) (fun W => enter_calls u hs2 act n W) (fun W => renter_calls u hs2 act n W) (fun W => leave_calls u hs2 act W) (fun W => rleave_calls u hs2 act W) ⟨decide_eq_false (by omega), decide_eq_false hs⟩ w
theorem UnitMoves_law (a0_0 : ByteArray) (a0_1 a0_2 a0_3 a0_4 a0_5 a0_6 a0_7 a0_8 a0_9 a1 a2 : Int) (W : World) {F0 F1 F2 F3 F4 F5 F6 F7 F8 F9 F10 F11 : Prop} (_ : F0) (_ : F1) (_ : F2) (_ : F3) (_ : F4) (_ : F5) (_ : F6) (_ : F7) (_ : F8) (_ : F9) (_ : F10) (_ : F11) : Calls Try.prog 4 #[.agg #[.string a0_0, .int .i64 a0_1, .int .i64 a0_2, .int .i64 a0_3, .int .i64 a0_4, .int .i64 a0_5, .int .i64 a0_6, .int .i64 a0_7, .int .i64 a0_8, .int .i64 a0_9], .int .i64 a1, .int .i64 a2] W fun e w' => e = .returned (.bool true) ∧ Below W.heap.size W w' := UnitMoves ⟨a0_0, a0_1, a0_2, a0_3, a0_4, a0_5, a0_6, a0_7, a0_8, a0_9⟩ a1 a2 W
end Go.Proofs.Ytjoclfiefpbgfaa.PUnit
