/- What unit's functions tell, in closed form. Conditions: serials of at most 200 bytes. -/
import Derived.Test.YtjoclfiefpbgfaaUCheck
import Derived.Test.YtjoclfiefpbgfaaUMoved
import Derived.Test.YtjoclfiefpbgfaaUWalk
import Derived.Test.YtjoclfiefpbgfaaUNWalk
import Derived.Test.YtjoclfiefpbgfaaUNode
import Derived.Test.YtjoclfiefpbgfaaUDone
import Derived.Test.YtjoclfiefpbgfaaPM1
namespace Go.Proofs.Ytjoclfiefpbgfaa.PUnit
open Go.RowKit Go.Proofs.YtjoclfiefpbgfaaW.PrintWords Go.Proofs.YtjoclfiefpbgfaaW.PrintLast Go.Proofs.YtjoclfiefpbgfaaW.PrintMore
open SerPlain LifePlain
set_option linter.unusedVariables false
set_option linter.unusedSimpArgs false

theorem chk_isN {u : U} (h : chk u = true) : isN u.st u.w = true := by
  unfold chk at h
  simp only [Bool.and_eq_true] at h
  exact h.2.1
theorem chk_ser {u : U} (h : chk u = true) : okSer u.s = true := by
  unfold chk at h
  simp only [Bool.and_eq_true] at h
  exact h.1
theorem chkE_eq (u : U) : chkE u = 0 ↔ chk u = true := by
  unfold chkE
  cases chk u <;> simp
theorem chkE_bad {u : U} (h : chk u = false) : chkE u = 40 := by unfold chkE; rw [h]; rfl
theorem movF_bad {u : U} {a b : Int} (h : (movF u a b).2 ≠ 0) : (movF u a b).1 = zU := by
  unfold movF at h ⊢
  cases hc : chk u with
  | false => rfl
  | true =>
    simp only [hc, if_true] at h ⊢
    by_cases h2 : (LifePlain.step u.st u.w a b).2.2 = 0
    · rw [if_pos h2] at h; exact absurd rfl h
    · rw [if_neg h2]
theorem movF_chk {u : U} {a b : Int} (h : (movF u a b).2 = 0) : chk u = true := by
  unfold movF at h
  cases hc : chk u with
  | false => rw [hc, if_neg (by decide)] at h; exact absurd h (by decide)
  | true => rfl
theorem moved_f (u : U) (hs : u.s.size ≤ 200) (a b : Int) : unit_record_moved.f 60 u.s u.o u.l u.p u.r u.a u.st u.g u.w u.i a b = some ((movF u a b).1.s, (movF u a b).1.o, (movF u a b).1.l, (movF u a b).1.p, (movF u a b).1.r, (movF u a b).1.a, (movF u a b).1.st, (movF u a b).1.g, (movF u a b).1.w, (movF u a b).1.i, (movF u a b).2) := by
  unfold unit_record_moved.f unit_Check.f movF
  rw [if_pos hs]
  simp only [Option.bind_some]
  cases hc : chk u with
  | false =>
    rw [show chkE ⟨u.s, u.o, u.l, u.p, u.r, u.a, u.st, u.g, u.w, u.i⟩ = 40 from chkE_bad hc]
    rfl
  | true =>
    rw [show chkE ⟨u.s, u.o, u.l, u.p, u.r, u.a, u.st, u.g, u.w, u.i⟩ = 0 from (chkE_eq u).2 hc]
    simp only [if_true, unit_record_node.f, Option.bind_some]
    rw [next_yes (chk_isN hc) a b 60 (by decide)]
    simp only [Option.bind_some]
    by_cases h2 : (LifePlain.step u.st u.w a b).2.2 = 0
    · simp only [if_pos h2]
    · simp only [if_neg h2]
      rfl
theorem moved_calls (u : U) (hs : u.s.size ≤ 200) (a b : Int) (w : World) : Calls Try.prog 37 #[.agg #[.string u.s, .int .i64 u.o, .int .i64 u.l, .int .i64 u.p, .int .i64 u.r, .int .i64 u.a, .int .i64 u.st, .int .i64 u.g, .int .i64 u.w, .int .i64 u.i], .agg #[.int .i64 a, .int .i64 b]] w fun ee w' => ee = .returned (.tuple #[.agg #[.string (movF u a b).1.s, .int .i64 (movF u a b).1.o, .int .i64 (movF u a b).1.l, .int .i64 (movF u a b).1.p, .int .i64 (movF u a b).1.r, .int .i64 (movF u a b).1.a, .int .i64 (movF u a b).1.st, .int .i64 (movF u a b).1.g, .int .i64 (movF u a b).1.w, .int .i64 (movF u a b).1.i], .int .i64 (movF u a b).2]) ∧ Below w.heap.size w w' := 
  unit_record_moved.calls 60 u.s u.o u.l u.p u.r u.a u.st u.g u.w u.i a b (movF u a b).1.s (movF u a b).1.o (movF u a b).1.l (movF u a b).1.p (movF u a b).1.r (movF u a b).1.a (movF u a b).1.st (movF u a b).1.g (movF u a b).1.w (movF u a b).1.i (movF u a b).2 w (moved_f u hs a b)
theorem below_of {P : Program} {f : Nat} {xs : Array Value} {w : World} {r : Ending} (h : Calls P f xs w fun e w' => e = r ∧ Drawn0 w w') : Calls P f xs w fun e w' => e = r ∧ Below w.heap.size w w' := h.mono (fun _ _ h => ⟨h.1, h.2.below⟩)
theorem id_calls (n : Int) (w : World) : Calls Try.prog 39 #[.int .i64 n] w fun ee w' => ee = .returned (.bool (idb n)) ∧ Below w.heap.size w w' := below_of (unit_id.calls n _ w (unit_id_f n))
/-- The ways that a look takes. -/
theorem see_ways (u : U) (n : Int) : ((movF u 1 0).2 ≠ 0 ∧ (seeF u n).1 = zU ∧ (seeF u n).2 = (movF u 1 0).2) ∨ ((movF u 1 0).2 = 0 ∧ n < 0 ∧ (seeF u n).1 = zU ∧ (seeF u n).2 = 2) ∨ ((movF u 1 0).2 = 0 ∧ 0 ≤ n ∧ 4 ≤ n ∧ (seeF u n).1 = zU ∧ (seeF u n).2 = 2) ∨ ((movF u 1 0).2 = 0 ∧ 0 ≤ n ∧ n < 4 ∧ (seeF u n).1 = { (movF u 1 0).1 with g := n } ∧ (seeF u n).2 = 0) := by
  unfold seeF
  by_cases h : (movF u 1 0).2 = 0
  · rw [if_pos h]
    by_cases h1 : n < 0
    · rw [if_neg (by omega)]; exact .inr (.inl ⟨h, h1, rfl, rfl⟩)
    · by_cases h2 : 4 ≤ n
      · rw [if_neg (by omega)]; exact .inr (.inr (.inl ⟨h, by omega, h2, rfl, rfl⟩))
      · rw [if_pos (by omega)]; exact .inr (.inr (.inr ⟨h, by omega, by omega, rfl, rfl⟩))
  · rw [if_neg h]; exact .inl ⟨h, rfl, rfl⟩
theorem enter_ways (u : U) (act n : Int) : (chk u = false ∧ (enterF u act n).1 = zU ∧ (enterF u act n).2 = 40) ∨ (chk u = true ∧ act ≠ 3 ∧ act ≠ 7 ∧ (enterF u act n).1 = zU ∧ (enterF u act n).2 = 30) ∨
    (chk u = true ∧ (act = 3 ∨ act = 7) ∧ (((movF u act 0).2 ≠ 0 ∧ (enterF u act n).1 = zU ∧ (enterF u act n).2 = (movF u act 0).2) ∨ ((movF u act 0).2 = 0 ∧ idb n = false ∧ (enterF u act n).1 = zU ∧ (enterF u act n).2 = 31) ∨ ((movF u act 0).2 = 0 ∧ idb n = true ∧ (enterF u act n).1 = { (movF u act 0).1 with i := n } ∧ (enterF u act n).2 = 0))) := by
  unfold enterF
  cases hc : chk u with
  | false => exact .inl ⟨rfl, rfl, rfl⟩
  | true =>
    rw [if_pos rfl]
    by_cases h1 : act = 3 ∨ act = 7
    · rw [if_pos h1]
      refine .inr (.inr ⟨rfl, h1, ?_⟩)
      by_cases h : (movF u act 0).2 = 0
      · rw [if_pos h]
        cases hn : idb n with
        | false => exact .inr (.inl ⟨h, rfl, rfl, rfl⟩)
        | true => exact .inr (.inr ⟨h, rfl, rfl, rfl⟩)
      · rw [if_neg h]; exact .inl ⟨h, rfl, rfl⟩
    · rw [if_neg h1]
      exact .inr (.inl ⟨rfl, fun e => h1 (.inl e), fun e => h1 (.inr e), rfl, rfl⟩)
theorem leave_ways (u : U) (act : Int) : (chk u = false ∧ (leaveF u act).1 = zU ∧ (leaveF u act).2 = 40) ∨ (chk u = true ∧ act ≠ 4 ∧ act ≠ 5 ∧ act ≠ 6 ∧ act ≠ 8 ∧ act ≠ 9 ∧ (leaveF u act).1 = zU ∧ (leaveF u act).2 = 30) ∨
    (chk u = true ∧ (act = 4 ∨ act = 5 ∨ act = 6 ∨ act = 8 ∨ act = 9) ∧ (((movF u act 0).2 ≠ 0 ∧ (leaveF u act).1 = zU ∧ (leaveF u act).2 = (movF u act 0).2) ∨ ((movF u act 0).2 = 0 ∧ (leaveF u act).1 = { (movF u act 0).1 with i := 0 } ∧ (leaveF u act).2 = 0))) := by
  unfold leaveF
  cases hc : chk u with
  | false => exact .inl ⟨rfl, rfl, rfl⟩
  | true =>
    rw [if_pos rfl]
    by_cases h1 : act = 4 ∨ act = 5 ∨ act = 6 ∨ act = 8 ∨ act = 9
    · rw [if_pos h1]
      refine .inr (.inr ⟨rfl, h1, ?_⟩)
      by_cases h : (movF u act 0).2 = 0
      · rw [if_pos h]; exact .inr ⟨h, rfl, rfl⟩
      · rw [if_neg h]; exact .inl ⟨h, rfl, rfl⟩
    · rw [if_neg h1]
      exact .inr (.inl ⟨rfl, fun e => h1 (.inl e), fun e => h1 (.inr (.inl e)), fun e => h1 (.inr (.inr (.inl e))), fun e => h1 (.inr (.inr (.inr (.inl e)))), fun e => h1 (.inr (.inr (.inr (.inr e)))), rfl, rfl⟩)
theorem see_calls (u : U) (hs : u.s.size ≤ 200) (n : Int) (w : World) : Calls Try.prog 15 #[.agg #[.string u.s, .int .i64 u.o, .int .i64 u.l, .int .i64 u.p, .int .i64 u.r, .int .i64 u.a, .int .i64 u.st, .int .i64 u.g, .int .i64 u.w, .int .i64 u.i], .int .i64 n] w fun ee w' => ee = .returned (.tuple #[.agg #[.string (seeF u n).1.s, .int .i64 (seeF u n).1.o, .int .i64 (seeF u n).1.l, .int .i64 (seeF u n).1.p, .int .i64 (seeF u n).1.r, .int .i64 (seeF u n).1.a, .int .i64 (seeF u n).1.st, .int .i64 (seeF u n).1.g, .int .i64 (seeF u n).1.w, .int .i64 (seeF u n).1.i], .int .i64 (seeF u n).2]) ∧ Below w.heap.size w w' := by
  refine see_walk u (movF u 1 0).1 (seeF u n).1 n (movF u 1 0).2 (seeF u n).2 (fun W => moved_calls u hs 1 0 W) ?_ w
  rcases see_ways u n with ⟨h, hx, hc⟩ | ⟨h, h1, hx, hc⟩ | ⟨h, h1, h2, hx, hc⟩ | ⟨h, h1, h2, hx, hc⟩
  · exact .inl ⟨h, hx, hc⟩
  · exact .inr (.inl ⟨h, decide_eq_true h1, hx, hc⟩)
  · exact .inr (.inr (.inl ⟨h, decide_eq_false (by omega), decide_eq_true (by omega), hx, hc⟩))
  · exact .inr (.inr (.inr ⟨h, decide_eq_false (by omega), decide_eq_false (by omega), hx, hc⟩))

theorem decide_calls (u : U) (hs : u.s.size ≤ 200) (n : Int) (w : World) : Calls Try.prog 17 #[.agg #[.string u.s, .int .i64 u.o, .int .i64 u.l, .int .i64 u.p, .int .i64 u.r, .int .i64 u.a, .int .i64 u.st, .int .i64 u.g, .int .i64 u.w, .int .i64 u.i], .int .i64 n] w fun ee w' => ee = .returned (.tuple #[.agg #[.string (movF u 2 n).1.s, .int .i64 (movF u 2 n).1.o, .int .i64 (movF u 2 n).1.l, .int .i64 (movF u 2 n).1.p, .int .i64 (movF u 2 n).1.r, .int .i64 (movF u 2 n).1.a, .int .i64 (movF u 2 n).1.st, .int .i64 (movF u 2 n).1.g, .int .i64 (movF u 2 n).1.w, .int .i64 (movF u 2 n).1.i], .int .i64 (movF u 2 n).2]) ∧ Below w.heap.size w w' := decide_walk u (movF u 2 n).1 n (movF u 2 n).2 (fun W => moved_calls u hs 2 n W) w
theorem enter_calls (u : U) (hs : u.s.size ≤ 200) (act n : Int) (w : World) : Calls Try.prog 19 #[.agg #[.string u.s, .int .i64 u.o, .int .i64 u.l, .int .i64 u.p, .int .i64 u.r, .int .i64 u.a, .int .i64 u.st, .int .i64 u.g, .int .i64 u.w, .int .i64 u.i], .int .i64 act, .int .i64 n] w fun ee w' => ee = .returned (.tuple #[.agg #[.string (enterF u act n).1.s, .int .i64 (enterF u act n).1.o, .int .i64 (enterF u act n).1.l, .int .i64 (enterF u act n).1.p, .int .i64 (enterF u act n).1.r, .int .i64 (enterF u act n).1.a, .int .i64 (enterF u act n).1.st, .int .i64 (enterF u act n).1.g, .int .i64 (enterF u act n).1.w, .int .i64 (enterF u act n).1.i], .int .i64 (enterF u act n).2]) ∧ Below w.heap.size w w' := by
  refine enter_walk u (movF u act 0).1 (enterF u act n).1 act n (chkE u) (movF u act 0).2 (enterF u act n).2 (idb n) (fun W => check_calls u hs W) (fun W => moved_calls u hs act 0 W) (fun W => id_calls n W) ?_ w
  rcases enter_ways u act n with ⟨hk, hx, hc⟩ | ⟨hk, h3, h7, hx, hc⟩ | ⟨hk, ha, hw⟩
  · have e := chkE_bad hk
    exact .inl ⟨by rw [e]; decide, hx, hc.trans e.symm⟩
  · exact .inr (.inl ⟨(chkE_eq u).2 hk, h3, h7, hx, hc⟩)
  · have e := (chkE_eq u).2 hk
    rcases ha with ha | ha
    · rcases hw with ⟨h, hx, hc⟩ | ⟨h, hb, hx, hc⟩ | ⟨h, hb, hx, hc⟩
      · exact .inr (.inr (.inl ⟨e, ha, h, hx, hc⟩))
      · exact .inr (.inr (.inr (.inl ⟨e, ha, h, hb, hx, hc⟩)))
      · exact .inr (.inr (.inr (.inr (.inl ⟨e, ha, h, hb, hx, hc⟩))))
    · rcases hw with ⟨h, hx, hc⟩ | ⟨h, hb, hx, hc⟩ | ⟨h, hb, hx, hc⟩
      · exact .inr (.inr (.inr (.inr (.inr (.inl ⟨e, ha, h, hx, hc⟩)))))
      · exact .inr (.inr (.inr (.inr (.inr (.inr (.inl ⟨e, ha, h, hb, hx, hc⟩))))))
      · exact .inr (.inr (.inr (.inr (.inr (.inr (.inr (⟨e, ha, h, hb, hx, hc⟩)))))))

theorem leave_calls (u : U) (hs : u.s.size ≤ 200) (act : Int) (w : World) : Calls Try.prog 21 #[.agg #[.string u.s, .int .i64 u.o, .int .i64 u.l, .int .i64 u.p, .int .i64 u.r, .int .i64 u.a, .int .i64 u.st, .int .i64 u.g, .int .i64 u.w, .int .i64 u.i], .int .i64 act] w fun ee w' => ee = .returned (.tuple #[.agg #[.string (leaveF u act).1.s, .int .i64 (leaveF u act).1.o, .int .i64 (leaveF u act).1.l, .int .i64 (leaveF u act).1.p, .int .i64 (leaveF u act).1.r, .int .i64 (leaveF u act).1.a, .int .i64 (leaveF u act).1.st, .int .i64 (leaveF u act).1.g, .int .i64 (leaveF u act).1.w, .int .i64 (leaveF u act).1.i], .int .i64 (leaveF u act).2]) ∧ Below w.heap.size w w' := by
  refine leave_walk u (movF u act 0).1 (leaveF u act).1 act (chkE u) (movF u act 0).2 (leaveF u act).2 (fun W => check_calls u hs W) (fun W => moved_calls u hs act 0 W) ?_ w
  rcases leave_ways u act with ⟨hk, hx, hc⟩ | ⟨hk, h4, h5, h6, h8, h9, hx, hc⟩ | ⟨hk, ha, hw⟩
  · have e := chkE_bad hk
    exact .inl ⟨by rw [e]; decide, hx, hc.trans e.symm⟩
  · exact .inr (.inl ⟨(chkE_eq u).2 hk, h4, h5, h6, h8, h9, hx, hc⟩)
  · have e := (chkE_eq u).2 hk
    rcases ha with ha | ha | ha | ha | ha
    · rcases hw with ⟨h, hx, hc⟩ | ⟨h, hx, hc⟩
      · exact .inr (.inr (.inl ⟨e, ha, h, hx, hc⟩))
      · exact .inr (.inr (.inr (.inl ⟨e, ha, h, hx, hc⟩)))
    · rcases hw with ⟨h, hx, hc⟩ | ⟨h, hx, hc⟩
      · exact .inr (.inr (.inr (.inr (.inl ⟨e, ha, h, hx, hc⟩))))
      · exact .inr (.inr (.inr (.inr (.inr (.inl ⟨e, ha, h, hx, hc⟩)))))
    · rcases hw with ⟨h, hx, hc⟩ | ⟨h, hx, hc⟩
      · exact .inr (.inr (.inr (.inr (.inr (.inr (.inl ⟨e, ha, h, hx, hc⟩))))))
      · exact .inr (.inr (.inr (.inr (.inr (.inr (.inr (.inl ⟨e, ha, h, hx, hc⟩)))))))
    · rcases hw with ⟨h, hx, hc⟩ | ⟨h, hx, hc⟩
      · exact .inr (.inr (.inr (.inr (.inr (.inr (.inr (.inr (.inl ⟨e, ha, h, hx, hc⟩))))))))
      · exact .inr (.inr (.inr (.inr (.inr (.inr (.inr (.inr (.inr (.inl ⟨e, ha, h, hx, hc⟩)))))))))
    · rcases hw with ⟨h, hx, hc⟩ | ⟨h, hx, hc⟩
      · exact .inr (.inr (.inr (.inr (.inr (.inr (.inr (.inr (.inr (.inr (.inl ⟨e, ha, h, hx, hc⟩))))))))))
      · exact .inr (.inr (.inr (.inr (.inr (.inr (.inr (.inr (.inr (.inr (.inr (⟨e, ha, h, hx, hc⟩)))))))))))

theorem new_calls (s : ByteArray) (o l p r a : Int) (hs : s.size ≤ 200) (w : World) : Calls Try.prog 8 #[.string s, .int .i64 o, .int .i64 l, .int .i64 p, .int .i64 r, .int .i64 a] w fun ee w' => ee = .returned (.tuple #[.agg #[.string (newF s o l p r a).1.s, .int .i64 (newF s o l p r a).1.o, .int .i64 (newF s o l p r a).1.l, .int .i64 (newF s o l p r a).1.p, .int .i64 (newF s o l p r a).1.r, .int .i64 (newF s o l p r a).1.a, .int .i64 (newF s o l p r a).1.st, .int .i64 (newF s o l p r a).1.g, .int .i64 (newF s o l p r a).1.w, .int .i64 (newF s o l p r a).1.i], .int .i64 (newF s o l p r a).2]) ∧ Below w.heap.size w w' := by
  refine new_walk s o l p r a (newF s o l p r a).1 (serE s) (chkE (newU s o l p r a)) (newF s o l p r a).2 (fun W => serial_Check.calls s _ W (check_f s hs)) (fun W => check_calls (newU s o l p r a) hs W) ?_ w
  unfold newF
  cases h1 : okSer s with
  | false => exact .inl ⟨by unfold serE; rw [h1]; decide, rfl, by unfold serE; rw [h1]; rfl⟩
  | true =>
    have e1 : serE s = 0 := by unfold serE; rw [h1]; rfl
    cases h2 : chk (newU s o l p r a) with
    | false => exact .inr (.inl ⟨e1, by rw [chkE_bad h2]; decide, rfl, rfl⟩)
    | true => exact .inr (.inr ⟨e1, (chkE_eq _).2 h2, rfl, rfl⟩)

theorem node_f (u : U) (hs : u.s.size ≤ 200) : unit_Node.f u.s u.o u.l u.p u.r u.a u.st u.g u.w u.i = some ((nodeF u).1, (nodeF u).2) := by
  unfold unit_Node.f unit_Check.f nodeF
  rw [if_pos hs]
  simp only [Option.bind_some]
  cases hc : chk u with
  | false => rw [show chkE ⟨u.s, u.o, u.l, u.p, u.r, u.a, u.st, u.g, u.w, u.i⟩ = 40 from chkE_bad hc]; rfl
  | true => rw [show chkE ⟨u.s, u.o, u.l, u.p, u.r, u.a, u.st, u.g, u.w, u.i⟩ = 0 from (chkE_eq u).2 hc]; rfl
theorem term_all (s w : Int) : life_Terminal.f s w = some (termb s w) := by
  have h : ∃ b, life_Terminal.f s w = some b := by
    unfold life_Terminal.f
    repeat' split
    all_goals exact ⟨_, rfl⟩
  obtain ⟨b, hb⟩ := h
  unfold termb
  rw [hb]
  cases b <;> rfl
theorem ser_pos {s : ByteArray} (h : okSer s = true) : 1 ≤ s.size := by
  unfold okSer okS at h
  simp only [Bool.and_eq_true, decide_eq_true_eq] at h
  exact h.2.1
theorem done_f (u : U) (hs : u.s.size ≤ 200) : unit_Done.f u.s u.o u.l u.p u.r u.a u.st u.g u.w u.i = some (doneF u) := by
  unfold unit_Done.f doneF
  rw [node_f u hs]
  simp only [Option.bind_some]
  rw [term_all]
  unfold nodeF
  cases hc : chk u with
  | false => simp only [Option.bind_some]; split <;> rfl
  | true =>
    have hp := ser_pos (chk_ser hc)
    have h1 : u.s.toList.isEmpty = false := by
      rw [← Bool.not_eq_true, List.isEmpty_iff]
      intro e
      rw [ByteArray.toList_eq] at e
      have : u.s.data.toList.length = 0 := by rw [e]; rfl
      rw [Array.length_toList] at this
      have : u.s.size = 0 := this
      omega
    rw [h1]
    simp
theorem node_calls (u : U) (hs : u.s.size ≤ 200) (w : World) : Calls Try.prog 10 #[.agg #[.string u.s, .int .i64 u.o, .int .i64 u.l, .int .i64 u.p, .int .i64 u.r, .int .i64 u.a, .int .i64 u.st, .int .i64 u.g, .int .i64 u.w, .int .i64 u.i]] w fun ee w' => ee = .returned (.agg #[.int .i64 (nodeF u).1, .int .i64 (nodeF u).2]) ∧ Below w.heap.size w w' := unit_Node.calls u.s u.o u.l u.p u.r u.a u.st u.g u.w u.i _ _ w (node_f u hs)
theorem done_calls (u : U) (hs : u.s.size ≤ 200) (w : World) : Calls Try.prog 13 #[.agg #[.string u.s, .int .i64 u.o, .int .i64 u.l, .int .i64 u.p, .int .i64 u.r, .int .i64 u.a, .int .i64 u.st, .int .i64 u.g, .int .i64 u.w, .int .i64 u.i]] w fun ee w' => ee = .returned (.bool (doneF u)) ∧ Below w.heap.size w w' := unit_Done.calls u.s u.o u.l u.p u.r u.a u.st u.g u.w u.i _ w (done_f u hs)
end Go.Proofs.Ytjoclfiefpbgfaa.PUnit
