/- What backhaulref25's functions tell, in closed form: what unit's tell. Conditions: serials of at most 200 bytes. -/
import Derived.Test.YtjoclfiefpbgfaaURCheck
import Derived.Test.YtjoclfiefpbgfaaURWalk
import Derived.Test.YtjoclfiefpbgfaaUClosed
import Derived.Test.YtjoclfiefpbgfaaURDone
import Derived.Test.YtjoclfiefpbgfaaPM1
import Derived.Test.YtjoclfiefpbgfaaPM0
namespace Go.Proofs.Ytjoclfiefpbgfaa.PUnit
open Go.RowKit Go.Proofs.YtjoclfiefpbgfaaW.PrintWords Go.Proofs.YtjoclfiefpbgfaaW.PrintLast Go.Proofs.YtjoclfiefpbgfaaW.PrintMore
open SerPlain LifePlain
set_option linter.unusedVariables false
set_option linter.unusedSimpArgs false

theorem rid_f (n : Int) : backhaulref25_id.f n = some (idb n) := by
  unfold backhaulref25_id.f idb
  by_cases h : n > 0
  · rw [if_pos h, decide_eq_true (show 1 ≤ n by omega), Bool.true_and]
    congr 1
    simp only [decide_eq_decide]
    omega
  · rw [if_neg h, decide_eq_false (show ¬ 1 ≤ n by omega), Bool.false_and]
theorem rid_calls (n : Int) (w : World) : Calls Try.prog 29 #[.int .i64 n] w fun ee w' => ee = .returned (.bool (idb n)) ∧ Below w.heap.size w w' := below_of (backhaulref25_id.calls n _ w (rid_f n))
theorem rnode_f (s w : Int) (k : Nat) (hk : 20 ≤ k) : backhaulref24_Node.f k s w = some (isN s w) := by
  cases h : isN s w with
  | false => exact rnode_no h k hk
  | true => exact rnode h k hk
theorem rchk_eq (u : U) : (if (((serE u.s == 0) && idb u.o && idb u.r && decide (0 ≤ u.l) && decide (u.l ≤ 7) && decide (0 ≤ u.p) && decide (u.p ≤ 19) && decide (0 ≤ u.a) && decide (u.a ≤ 1000000) && isN u.st u.w && decide (0 ≤ u.g) && decide (u.g ≤ 3)) && ((!(u.st == 1) || (u.g == 0)) && (if ((u.st == 4) || (u.st == 5)) = true then idb u.i else (u.i == 0)))) = true then (0 : Int) else 40) = chkE u := by
  unfold chkE
  have h0 : (serE u.s == 0) = okSer u.s := by unfold serE; cases okSer u.s <;> rfl
  rw [h0]
  congr 1
  unfold chk U.stands U.graded U.held
  cases okSer u.s with
  | false => simp
  | true =>
    cases isN u.st u.w with
    | false => simp
    | true =>
      cases idb u.o with
      | false => simp
      | true =>
        cases idb u.r with
        | false => simp
        | true =>
          by_cases h1 : u.st = 1
          · rw [h1]
            cases idb u.i <;> simp <;> omega
          · have b1 : (u.st == 1) = false := beq_eq_false_iff_ne.mpr h1
            rw [b1, if_neg h1]
            by_cases h45 : u.st = 4 ∨ u.st = 5
            · have b45 : ((u.st == 4) || (u.st == 5)) = true := by simpa using h45
              rw [if_pos h45, if_pos b45]
              cases idb u.i <;> simp <;> omega
            · have b45 : ((u.st == 4) || (u.st == 5)) = false := by simpa using h45
              rw [if_neg h45, b45]
              simp
              omega
theorem rcheck_calls (u : U) (hs : u.s.size ≤ 200) (w : World) : Calls Try.prog 11 #[.agg #[.string u.s, .int .i64 u.o, .int .i64 u.l, .int .i64 u.p, .int .i64 u.r, .int .i64 u.a, .int .i64 u.st, .int .i64 u.g, .int .i64 u.w, .int .i64 u.i]] w fun ee w' => ee = .returned (.int .i64 (chkE u)) ∧ Below w.heap.size w w' := by
  refine rcheck_walk u (serE u.s) (chkE u) _ _ _ _ _ _ _ _ _ _ _ _ _ _ _ _ _ _ (fun W => backhaulref01_Check.calls 60 u.s _ W (rcheck_f u.s hs 60 (by decide))) rid_calls (fun W => backhaulref24_Node.calls 20 _ _ _ W (rnode_f _ _ 20 (by decide))) rfl rfl rfl rfl rfl rfl rfl rfl rfl rfl rfl rfl rfl rfl rfl rfl rfl rfl ?_ (rchk_eq u) w
  by_cases h1 : u.st = 1
  · rw [h1]; exact .inl ⟨rfl, rfl, rfl⟩
  · by_cases h4 : u.st = 4
    · rw [h4]; exact .inr (.inl ⟨rfl, rfl, rfl⟩)
    · by_cases h5 : u.st = 5
      · rw [h5]; exact .inr (.inr (.inl ⟨rfl, rfl, rfl⟩))
      · exact .inr (.inr (.inr ⟨beq_eq_false_iff_ne.mpr h1, beq_eq_false_iff_ne.mpr h4, beq_eq_false_iff_ne.mpr h5⟩))
def rstep (u : U) (a b : Int) : Int × Int × Int := if isN u.st u.w = true then LifePlain.step u.st u.w a b else (0, 0, 33)
theorem rnext_f (u : U) (a b : Int) : backhaulref24_Next.f 60 u.st u.w a b = some (rstep u a b) := by
  unfold rstep
  cases h : isN u.st u.w with
  | false => exact rnext_no h a b 60 (by decide)
  | true => exact rnext_yes h a b 60 (by decide)
theorem rmoved_calls (u : U) (hs : u.s.size ≤ 200) (a b : Int) (w : World) : Calls Try.prog 38 #[.agg #[.string u.s, .int .i64 u.o, .int .i64 u.l, .int .i64 u.p, .int .i64 u.r, .int .i64 u.a, .int .i64 u.st, .int .i64 u.g, .int .i64 u.w, .int .i64 u.i], .int .i64 a, .int .i64 b] w fun ee w' => ee = .returned (.tuple #[.agg #[.string (movF u a b).1.s, .int .i64 (movF u a b).1.o, .int .i64 (movF u a b).1.l, .int .i64 (movF u a b).1.p, .int .i64 (movF u a b).1.r, .int .i64 (movF u a b).1.a, .int .i64 (movF u a b).1.st, .int .i64 (movF u a b).1.g, .int .i64 (movF u a b).1.w, .int .i64 (movF u a b).1.i], .int .i64 (movF u a b).2]) ∧ Below w.heap.size w w' := by
  cases hk : chk u with
  | false =>
    refine rmoved_walk u (movF u a b).1 a b (rstep u a b).1 (rstep u a b).2.1 (chkE u) (rstep u a b).2.2 (movF u a b).2 (fun W => rcheck_calls u hs W) (fun W => backhaulref24_Next.calls 60 _ _ _ _ _ _ _ W (rnext_f u a b)) ?_ w
    unfold movF
    rw [hk]
    exact .inl ⟨by rw [chkE_bad hk]; decide, rfl, rfl⟩
  | true =>
    refine rmoved_walk u (movF u a b).1 a b (rstep u a b).1 (rstep u a b).2.1 (chkE u) (rstep u a b).2.2 (movF u a b).2 (fun W => rcheck_calls u hs W) (fun W => backhaulref24_Next.calls 60 _ _ _ _ _ _ _ W (rnext_f u a b)) ?_ w
    unfold movF rstep
    rw [hk, chk_isN hk]
    rw [if_pos rfl, if_pos rfl]
    by_cases h2 : (LifePlain.step u.st u.w a b).2.2 = 0
    · rw [if_pos h2]; exact .inr (.inr ⟨(chkE_eq u).2 hk, h2, rfl, rfl⟩)
    · rw [if_neg h2]; exact .inr (.inl ⟨(chkE_eq u).2 hk, h2, rfl, rfl⟩)

theorem rsee_calls (u : U) (hs : u.s.size ≤ 200) (n : Int) (w : World) : Calls Try.prog 16 #[.agg #[.string u.s, .int .i64 u.o, .int .i64 u.l, .int .i64 u.p, .int .i64 u.r, .int .i64 u.a, .int .i64 u.st, .int .i64 u.g, .int .i64 u.w, .int .i64 u.i], .int .i64 n] w fun ee w' => ee = .returned (.tuple #[.agg #[.string (seeF u n).1.s, .int .i64 (seeF u n).1.o, .int .i64 (seeF u n).1.l, .int .i64 (seeF u n).1.p, .int .i64 (seeF u n).1.r, .int .i64 (seeF u n).1.a, .int .i64 (seeF u n).1.st, .int .i64 (seeF u n).1.g, .int .i64 (seeF u n).1.w, .int .i64 (seeF u n).1.i], .int .i64 (seeF u n).2]) ∧ Below w.heap.size w w' := by
  refine rsee_walk u (movF u 1 0).1 (seeF u n).1 n (movF u 1 0).2 (seeF u n).2 (fun W => rmoved_calls u hs 1 0 W) ?_ w
  rcases see_ways u n with ⟨h, hx, hc⟩ | ⟨h, h1, hx, hc⟩ | ⟨h, h1, h2, hx, hc⟩ | ⟨h, h1, h2, hx, hc⟩
  · exact .inl ⟨h, (movF_bad h).trans hx.symm, hc⟩
  · exact .inr (.inl ⟨h, decide_eq_true h1, hx, hc⟩)
  · exact .inr (.inr (.inl ⟨h, decide_eq_false (by omega), decide_eq_true (by omega), hx, hc⟩))
  · exact .inr (.inr (.inr ⟨h, decide_eq_false (by omega), decide_eq_false (by omega), hx, hc⟩))

theorem rdecide_calls (u : U) (hs : u.s.size ≤ 200) (n : Int) (w : World) : Calls Try.prog 18 #[.agg #[.string u.s, .int .i64 u.o, .int .i64 u.l, .int .i64 u.p, .int .i64 u.r, .int .i64 u.a, .int .i64 u.st, .int .i64 u.g, .int .i64 u.w, .int .i64 u.i], .int .i64 n] w fun ee w' => ee = .returned (.tuple #[.agg #[.string (movF u 2 n).1.s, .int .i64 (movF u 2 n).1.o, .int .i64 (movF u 2 n).1.l, .int .i64 (movF u 2 n).1.p, .int .i64 (movF u 2 n).1.r, .int .i64 (movF u 2 n).1.a, .int .i64 (movF u 2 n).1.st, .int .i64 (movF u 2 n).1.g, .int .i64 (movF u 2 n).1.w, .int .i64 (movF u 2 n).1.i], .int .i64 (movF u 2 n).2]) ∧ Below w.heap.size w w' := rdecide_walk u (movF u 2 n).1 n (movF u 2 n).2 (fun W => rmoved_calls u hs 2 n W) w
theorem renter_calls (u : U) (hs : u.s.size ≤ 200) (act n : Int) (w : World) : Calls Try.prog 20 #[.agg #[.string u.s, .int .i64 u.o, .int .i64 u.l, .int .i64 u.p, .int .i64 u.r, .int .i64 u.a, .int .i64 u.st, .int .i64 u.g, .int .i64 u.w, .int .i64 u.i], .int .i64 act, .int .i64 n] w fun ee w' => ee = .returned (.tuple #[.agg #[.string (enterF u act n).1.s, .int .i64 (enterF u act n).1.o, .int .i64 (enterF u act n).1.l, .int .i64 (enterF u act n).1.p, .int .i64 (enterF u act n).1.r, .int .i64 (enterF u act n).1.a, .int .i64 (enterF u act n).1.st, .int .i64 (enterF u act n).1.g, .int .i64 (enterF u act n).1.w, .int .i64 (enterF u act n).1.i], .int .i64 (enterF u act n).2]) ∧ Below w.heap.size w w' := by
  refine renter_walk u (movF u act 0).1 (enterF u act n).1 act n (chkE u) (movF u act 0).2 (enterF u act n).2 (idb n) (fun W => rcheck_calls u hs W) (fun W => rmoved_calls u hs act 0 W) (fun W => rid_calls n W) ?_ w
  rcases enter_ways u act n with ⟨hk, hx, hc⟩ | ⟨hk, h3, h7, hx, hc⟩ | ⟨hk, ha, hw⟩
  · have e := chkE_bad hk
    exact .inl ⟨by rw [e]; decide, hx, hc⟩
  · exact .inr (.inl ⟨(chkE_eq u).2 hk, h3, h7, hx, hc⟩)
  · have e := (chkE_eq u).2 hk
    rcases ha with ha | ha
    · rcases hw with ⟨h, hx, hc⟩ | ⟨h, hb, hx, hc⟩ | ⟨h, hb, hx, hc⟩
      · exact .inr (.inr (.inl ⟨e, ha, h, (movF_bad h).trans hx.symm, hc⟩))
      · exact .inr (.inr (.inr (.inl ⟨e, ha, h, hb, hx, hc⟩)))
      · exact .inr (.inr (.inr (.inr (.inl ⟨e, ha, h, hb, hx, hc⟩))))
    · rcases hw with ⟨h, hx, hc⟩ | ⟨h, hb, hx, hc⟩ | ⟨h, hb, hx, hc⟩
      · exact .inr (.inr (.inr (.inr (.inr (.inl ⟨e, ha, h, (movF_bad h).trans hx.symm, hc⟩)))))
      · exact .inr (.inr (.inr (.inr (.inr (.inr (.inl ⟨e, ha, h, hb, hx, hc⟩))))))
      · exact .inr (.inr (.inr (.inr (.inr (.inr (.inr (⟨e, ha, h, hb, hx, hc⟩)))))))

theorem rleave_calls (u : U) (hs : u.s.size ≤ 200) (act : Int) (w : World) : Calls Try.prog 22 #[.agg #[.string u.s, .int .i64 u.o, .int .i64 u.l, .int .i64 u.p, .int .i64 u.r, .int .i64 u.a, .int .i64 u.st, .int .i64 u.g, .int .i64 u.w, .int .i64 u.i], .int .i64 act] w fun ee w' => ee = .returned (.tuple #[.agg #[.string (leaveF u act).1.s, .int .i64 (leaveF u act).1.o, .int .i64 (leaveF u act).1.l, .int .i64 (leaveF u act).1.p, .int .i64 (leaveF u act).1.r, .int .i64 (leaveF u act).1.a, .int .i64 (leaveF u act).1.st, .int .i64 (leaveF u act).1.g, .int .i64 (leaveF u act).1.w, .int .i64 (leaveF u act).1.i], .int .i64 (leaveF u act).2]) ∧ Below w.heap.size w w' := by
  refine rleave_walk u (movF u act 0).1 (leaveF u act).1 act (chkE u) (movF u act 0).2 (leaveF u act).2 (fun W => rcheck_calls u hs W) (fun W => rmoved_calls u hs act 0 W) ?_ w
  rcases leave_ways u act with ⟨hk, hx, hc⟩ | ⟨hk, h4, h5, h6, h8, h9, hx, hc⟩ | ⟨hk, ha, hw⟩
  · have e := chkE_bad hk
    exact .inl ⟨by rw [e]; decide, hx, hc⟩
  · exact .inr (.inl ⟨(chkE_eq u).2 hk, h4, h5, h6, h8, h9, hx, hc⟩)
  · have e := (chkE_eq u).2 hk
    rcases ha with ha | ha | ha | ha | ha
    · rcases hw with ⟨h, hx, hc⟩ | ⟨h, hx, hc⟩
      · exact .inr (.inr (.inl ⟨e, ha, h, (movF_bad h).trans hx.symm, hc⟩))
      · exact .inr (.inr (.inr (.inl ⟨e, ha, h, hx, hc⟩)))
    · rcases hw with ⟨h, hx, hc⟩ | ⟨h, hx, hc⟩
      · exact .inr (.inr (.inr (.inr (.inl ⟨e, ha, h, (movF_bad h).trans hx.symm, hc⟩))))
      · exact .inr (.inr (.inr (.inr (.inr (.inl ⟨e, ha, h, hx, hc⟩)))))
    · rcases hw with ⟨h, hx, hc⟩ | ⟨h, hx, hc⟩
      · exact .inr (.inr (.inr (.inr (.inr (.inr (.inl ⟨e, ha, h, (movF_bad h).trans hx.symm, hc⟩))))))
      · exact .inr (.inr (.inr (.inr (.inr (.inr (.inr (.inl ⟨e, ha, h, hx, hc⟩)))))))
    · rcases hw with ⟨h, hx, hc⟩ | ⟨h, hx, hc⟩
      · exact .inr (.inr (.inr (.inr (.inr (.inr (.inr (.inr (.inl ⟨e, ha, h, (movF_bad h).trans hx.symm, hc⟩))))))))
      · exact .inr (.inr (.inr (.inr (.inr (.inr (.inr (.inr (.inr (.inl ⟨e, ha, h, hx, hc⟩)))))))))
    · rcases hw with ⟨h, hx, hc⟩ | ⟨h, hx, hc⟩
      · exact .inr (.inr (.inr (.inr (.inr (.inr (.inr (.inr (.inr (.inr (.inl ⟨e, ha, h, (movF_bad h).trans hx.symm, hc⟩))))))))))
      · exact .inr (.inr (.inr (.inr (.inr (.inr (.inr (.inr (.inr (.inr (.inr (⟨e, ha, h, hx, hc⟩)))))))))))

theorem rnew_calls (s : ByteArray) (o l p r a : Int) (hs : s.size ≤ 200) (w : World) : Calls Try.prog 9 #[.string s, .int .i64 o, .int .i64 l, .int .i64 p, .int .i64 r, .int .i64 a] w fun ee w' => ee = .returned (.tuple #[.agg #[.string (newF s o l p r a).1.s, .int .i64 (newF s o l p r a).1.o, .int .i64 (newF s o l p r a).1.l, .int .i64 (newF s o l p r a).1.p, .int .i64 (newF s o l p r a).1.r, .int .i64 (newF s o l p r a).1.a, .int .i64 (newF s o l p r a).1.st, .int .i64 (newF s o l p r a).1.g, .int .i64 (newF s o l p r a).1.w, .int .i64 (newF s o l p r a).1.i], .int .i64 (newF s o l p r a).2]) ∧ Below w.heap.size w w' := by
  refine rnew_walk s o l p r a (newF s o l p r a).1 (serE s) (chkE (newU s o l p r a)) (newF s o l p r a).2 (fun W => backhaulref01_Check.calls 60 s _ W (rcheck_f s hs 60 (by decide))) (fun W => rcheck_calls (newU s o l p r a) hs W) ?_ w
  unfold newF
  cases h1 : okSer s with
  | false => exact .inl ⟨by unfold serE; rw [h1]; decide, rfl, rfl⟩
  | true =>
    have e1 : serE s = 0 := by unfold serE; rw [h1]; rfl
    cases h2 : chk (newU s o l p r a) with
    | false => exact .inr (.inl ⟨e1, by rw [chkE_bad h2]; decide, rfl, rfl⟩)
    | true => exact .inr (.inr ⟨e1, (chkE_eq _).2 h2, rfl, rfl⟩)

theorem rterm_all : ∀ p ∈ nodes, backhaulref24_Terminal.f 300 p.1 p.2 = some (termb p.1 p.2) := by decide +kernel
theorem rterm_f (s w : Int) : backhaulref24_Terminal.f 300 s w = some (isN s w && termb s w) := by
  cases h : isN s w with
  | false => exact rterm_no h 300 (by decide)
  | true => rw [at_nodes (P := fun s w => backhaulref24_Terminal.f 300 s w = some (termb s w)) rterm_all h]; rfl
theorem rdone_calls (u : U) (hs : u.s.size ≤ 200) (w : World) : Calls Try.prog 14 #[.agg #[.string u.s, .int .i64 u.o, .int .i64 u.l, .int .i64 u.p, .int .i64 u.r, .int .i64 u.a, .int .i64 u.st, .int .i64 u.g, .int .i64 u.w, .int .i64 u.i]] w fun ee w' => ee = .returned (.bool (doneF u)) ∧ Below w.heap.size w w' := by
  refine rdone_walk u (chkE u) (isN u.st u.w && termb u.st u.w) (doneF u) (fun W => rcheck_calls u hs W) (fun W => backhaulref24_Terminal.calls 300 _ _ _ W (rterm_f _ _)) ?_ w
  unfold doneF
  cases hc : chk u with
  | false => exact .inl ⟨by rw [chkE_bad hc]; decide, rfl⟩
  | true => exact .inr ⟨(chkE_eq u).2 hc, by rw [chk_isN hc]⟩
end Go.Proofs.Ytjoclfiefpbgfaa.PUnit
