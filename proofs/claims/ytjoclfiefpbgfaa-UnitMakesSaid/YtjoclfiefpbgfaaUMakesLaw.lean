/- The law UnitMakes returns true, walked. Conditions: none. -/
import Derived.Test.YtjoclfiefpbgfaaUMakesWalk
import Derived.Test.YtjoclfiefpbgfaaUAwake
import Derived.Test.YtjoclfiefpbgfaaURClosed
namespace Go.Proofs.Ytjoclfiefpbgfaa.PUnit
open Go.RowKit Go.Proofs.YtjoclfiefpbgfaaW.PrintWords Go.Proofs.YtjoclfiefpbgfaaW.PrintLast Go.Proofs.YtjoclfiefpbgfaaW.PrintMore
open SerPlain LifePlain
set_option linter.unusedVariables false
set_option linter.unusedSimpArgs false

theorem UnitMakes (u : U) (w : World) : Calls Try.prog 3 #[.agg #[.string u.s, .int .i64 u.o, .int .i64 u.l, .int .i64 u.p, .int .i64 u.r, .int .i64 u.a, .int .i64 u.st, .int .i64 u.g, .int .i64 u.w, .int .i64 u.i]] w fun e w' => e = .returned (.bool true) ∧ Below w.heap.size w w' := by
  by_cases hs : 200 < u.s.size
  · exact makes_big u awake_calls ⟨decide_eq_true (by omega), decide_eq_true hs⟩ w
  · have hs2 : u.s.size ≤ 200 := by omega
    refine makes_walk u (newF u.s u.o u.l u.p u.r u.a).1 (nodeF u).1 (nodeF u).2 (newF u.s u.o u.l u.p u.r u.a).2 (chkE u) (doneF u) awake_calls (fun W => new_calls _ _ _ _ _ _ hs2 W) (fun W => rnew_calls _ _ _ _ _ _ hs2 W) (fun W => node_calls u hs2 W) (fun W => rcheck_calls u hs2 W) (fun W => check_calls u hs2 W) (fun W => done_calls u hs2 W) (fun W => rdone_calls u hs2 W) ?_ w
    unfold nodeF
    cases hc : chk u with
    | false => exact .inr ⟨decide_eq_false (by omega), decide_eq_false hs, by rw [chkE_bad hc]; decide, rfl, rfl⟩
    | true => exact .inl ⟨decide_eq_false (by omega), decide_eq_false hs, (chkE_eq u).2 hc, rfl, rfl⟩
theorem UnitMakes_law (a0_0 : ByteArray) (a0_1 a0_2 a0_3 a0_4 a0_5 a0_6 a0_7 a0_8 a0_9 : Int) (W : World) {F0 F1 F2 F3 F4 F5 F6 F7 F8 F9 : Prop} (_ : F0) (_ : F1) (_ : F2) (_ : F3) (_ : F4) (_ : F5) (_ : F6) (_ : F7) (_ : F8) (_ : F9) : Calls Try.prog 3 #[.agg #[.string a0_0, .int .i64 a0_1, .int .i64 a0_2, .int .i64 a0_3, .int .i64 a0_4, .int .i64 a0_5, .int .i64 a0_6, .int .i64 a0_7, .int .i64 a0_8, .int .i64 a0_9]] W fun e w' => e = .returned (.bool true) ∧ Below W.heap.size W w' := UnitMakes ⟨a0_0, a0_1, a0_2, a0_3, a0_4, a0_5, a0_6, a0_7, a0_8, a0_9⟩ W
end Go.Proofs.Ytjoclfiefpbgfaa.PUnit
