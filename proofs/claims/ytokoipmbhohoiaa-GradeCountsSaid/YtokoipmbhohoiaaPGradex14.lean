-- PRINTED by printx.py (the kit's print, with contracts that were written by hand in the place of what it does not print). Not trusted: Lean checks it.
import Derived.Test.YtokoipmbhohoiaaPGradex0
import Derived.Test.YtokoipmbhohoiaaPGradex4
import Derived.Test.YtokoipmbhohoiaaPGradex7
import Derived.Test.YtokoipmbhohoiaaPGradex10
import Derived.Test.YtokoipmbhohoiaaPGradex12
import Derived.Test.YtokoipmbhohoiaaPGradex13
namespace Go.Proofs.Ytokoipmbhohoiaa.PGrade
open Go.RowKit Go.Proofs.YtokoipmbhohoiaaW.PrintWords Go.Proofs.YtokoipmbhohoiaaW.PrintLast Go.Proofs.YtokoipmbhohoiaaW.PrintMore
attribute [local go_sem] max2_int min2_int max_two min_two max_three min_three max_four min_four   -- for this text's walks alone
set_option linter.unusedVariables false
set_option linter.unusedSimpArgs false

/-! ### grade_Count: function 14 -/
theorem eqArr36 (a b c d a' b' c' d' : Int) (w : World) : (Op.equalIn 10000 36 (.agg #[.int .i64 a, .int .i64 b, .int .i64 c, .int .i64 d]) (.agg #[.int .i64 a', .int .i64 b', .int .i64 c', .int .i64 d'])).run Try.prog w = .ok (a == a' && (b == b' && (c == c' && (d == d')))) w := by
  have u3 := Try.underlying3
  have a3 := Try.isAgg3
  have z3 := Try.sizeOf3
  rw [show (10000 : Nat) = 9999 + 1 from rfl, Op.equalIn]
  simp only [Sem.run_bind, run_underlying Try.underlying36, Result.andThen_ok]
  simp only [Std.Legacy.Range.forIn_eq_forIn_range', Std.Legacy.Range.size, Nat.sub_zero, Nat.add_sub_cancel, Nat.div_one, List.range'_succ, List.range'_zero, List.forIn_cons, List.forIn_nil]
  go_simp
  by_cases h1 : a = a' <;> by_cases h2 : b = b' <;> by_cases h3 : c = c' <;> by_cases h4 : d = d' <;> simp [h1, h2, h3, h4]
theorem eqArr41 (a b c d a' b' c' d' : Bool) (w : World) : (Op.equalIn 10000 41 (.agg #[.bool a, .bool b, .bool c, .bool d]) (.agg #[.bool a', .bool b', .bool c', .bool d'])).run Try.prog w = .ok (a == a' && (b == b' && (c == c' && (d == d')))) w := by
  have u3 := Try.underlying4
  have a3 := Try.isAgg4
  have z3 := Try.sizeOf4
  rw [show (10000 : Nat) = 9999 + 1 from rfl, Op.equalIn]
  simp only [Sem.run_bind, run_underlying Try.underlying41, Result.andThen_ok]
  simp only [Std.Legacy.Range.forIn_eq_forIn_range', Std.Legacy.Range.size, Nat.sub_zero, Nat.add_sub_cancel, Nat.div_one, List.range'_succ, List.range'_zero, List.forIn_cons, List.forIn_nil]
  go_simp
  by_cases h1 : a = a' <;> by_cases h2 : b = b' <;> by_cases h3 : c = c' <;> by_cases h4 : d = d' <;> simp [h1, h2, h3, h4]
theorem blk4 {w : World} {g : Nat} {t : TypeId} {a b c d : Value} (h : w.heap[g]? = some (.cells #[a, b, c, d] t (0, 0))) : w.cell? ⟨g, 0, none⟩ = some a ∧ w.cell? ⟨g, 1, none⟩ = some b ∧ w.cell? ⟨g, 2, none⟩ = some c ∧ w.cell? ⟨g, 3, none⟩ = some d ∧ w.frozen? ⟨g, 0, none⟩ = false ∧ w.frozen? ⟨g, 1, none⟩ = false ∧ w.frozen? ⟨g, 2, none⟩ = false ∧ w.frozen? ⟨g, 3, none⟩ = false :=
  ⟨(blk_cell h 0).trans rfl, (blk_cell h 1).trans rfl, (blk_cell h 2).trans rfl, (blk_cell h 3).trans rfl, blk_frozen h 0, blk_frozen h 1, blk_frozen h 2, blk_frozen h 3⟩
theorem put4 {w : World} {g : Nat} {t : TypeId} {a b c d : Value} (h : w.heap[g]? = some (.cells #[a, b, c, d] t (0, 0))) (x y z u : Value) : ((((w.setCell ⟨g, 0, none⟩ x).setCell ⟨g, 1, none⟩ y).setCell ⟨g, 2, none⟩ z).setCell ⟨g, 3, none⟩ u).heap[g]? = some (.cells #[x, y, z, u] t (0, 0)) := blk_set (blk_set (blk_set (blk_set h 0 x) 1 y) 2 z) 3 u
def bump (a b c d g : Int) : Int × Int × Int × Int := if g = 0 then (wrap64 (a + 1), b, c, d) else if g = 1 then (a, wrap64 (b + 1), c, d) else if g = 2 then (a, b, wrap64 (c + 1), d) else (a, b, c, wrap64 (d + 1))
def grade_Count.l0 : Nat → List Int → List Int → Int → Int → Int → Int → Int → Int → Option (Int × Int × Int × Int × Int)
  | 0, _, _, _, _, _, _, _, _ => none
  | k + 1, x0, x1, n, i, a, b, c, d => if i < n then (quiz_Score.f k x0 i).bind fun s => if s.2 = 0 then (grade_scale_of.f k x1 s.1).bind fun g => if 0 ≤ g ∧ g < 4 then grade_Count.l0 k x0 x1 n (wrap64 (i + 1)) (bump a b c d g).1 (bump a b c d g).2.1 (bump a b c d g).2.2.1 (bump a b c d g).2.2.2 else none else some (0, 0, 0, 0, s.2) else some (a, b, c, d, 0)
def grade_Count.f (k : Nat) (l0 l1 : List Int) : Option (Int × Int × Int × Int × Int) := (quiz_Check.f k l0).bind fun t => if t = 0 then (grade_Check.f k l1).bind fun e => if e = 0 then (if l0.length < 9 then grade_Count.l0 k l0 l1 (2 ^ l0.length) 0 0 0 0 0 else none) else some (0, 0, 0, 0, e) else some (0, 0, 0, 0, t)
theorem grade_Count.mono_l : ∀ k x0 x1 n i a b c d, LeO (grade_Count.l0 k x0 x1 n i a b c d) (grade_Count.l0 (k + 1) x0 x1 n i a b c d)
  | 0 => fun _ _ _ _ _ _ _ _ r h => by simp [grade_Count.l0] at h
  | k + 1 => by
    intro x0 x1 n i a b c d
    unfold grade_Count.l0
    refine LeO.ite ?_ (LeO.refl _)
    refine LeO.bind (quiz_Score.mono _ _ _) (fun s => ?_)
    refine LeO.ite ?_ (LeO.refl _)
    refine LeO.bind (grade_scale_of.mono _ _ _) (fun g => ?_)
    refine LeO.ite ?_ (LeO.none _)
    exact grade_Count.mono_l k _ _ _ _ _ _ _ _
theorem grade_Count.mono : ∀ a0 a1 k, LeO (grade_Count.f k a0 a1) (grade_Count.f (k + 1) a0 a1) := by
  intro a0 a1 k
  unfold grade_Count.f
  refine LeO.bind (quiz_Check.mono _ _) (fun t => ?_)
  refine LeO.ite ?_ (LeO.refl _)
  refine LeO.bind (grade_Check.mono _ _) (fun t => ?_)
  refine LeO.ite ?_ (LeO.refl _)
  refine LeO.ite ?_ (LeO.none _)
  exact grade_Count.mono_l k _ _ _ _ _ _ _ _
set_option maxHeartbeats 8000000 in
set_option maxRecDepth 100000 in
theorem grade_Count.calls (k : Nat) (A0 : Option Addr) (c0 : Nat) (l0 : List Int) (A1 : Option Addr) (c1 : Nat) (l1 : List Int) (r1 r2 r3 r4 r5 : Int) (w : World) (hr0 : Kd.C (Kd.int .i64) w A0 l0.length l0) (hc0 : l0.length ≤ c0) (hr1 : Kd.C (Kd.int .i64) w A1 l1.length l1) (hc1 : l1.length ≤ c1) (h : grade_Count.f k l0 l1 = some (r1, r2, r3, r4, r5)) :
    Calls Try.prog 14 #[.slice A0 l0.length c0, .slice A1 l1.length c1] w fun e w' => e = .returned (.tuple #[.agg #[.int .i64 r1, .int .i64 r2, .int .i64 r3, .int .i64 r4], .int .i64 r5]) ∧ Below w.heap.size w w' := by
  have hu36 := Try.underlying36
  have HR0 := Aside0.mk hr0
  have HC0 := Aside0.mk hc0
  have HR1 := Aside0.mk hr1
  have HC1 := Aside0.mk hc1
  have HB := Aside0.mk (Below.refl w.heap.size w)
  have h' := h
  unfold grade_Count.f at h'
  clear h hr0 hc0 hr1 hc1
  obtain ⟨t, ht, h⟩ := Option.bind_eq_some_iff.mp h'
  clear h'
  have HT := Aside0.mk ht
  clear ht
  by_cases e0 : t = 0
  · subst e0
    rw [if_pos rfl] at h
    obtain ⟨e, he, h⟩ := Option.bind_eq_some_iff.mp h
    have HE := Aside0.mk he
    clear he
    by_cases e1 : e = 0
    · subst e1
      rw [if_pos rfl] at h
      by_cases e2 : l0.length < 9
      · rw [if_pos e2] at h
        obtain ⟨e4, e5, e7⟩ := pow_small _ e2
        have H := Aside0.mk h
        clear h
        have l8 : ((l0.length : Nat) : Int) < 9 := by omega
        have E4 := Aside0.mk e4
        clear e4 e7
        go_enter Try.func14, Try.ntmps14
        go_wp2_with (first
          | ((with_reducible refine gate_dst (N := 4) rfl ?_); refine box_event ?hg (N := 4) ?hd (cs := #[.int .i64 0, .int .i64 0, .int .i64 0, .int .i64 0]) (t := 36) ?hr ?_; (case hd => rfl); (case hg => rfl); (case hr => first | (go_simp; done) | (go_simp; rfl)); intro gb4 hg wb4 hbox hb; have n0_ := Aside0.mk (below_step HB.out hb); have n1_ := Aside0.mk hbox; have GE4 := Aside0.mk (by rw [hg]; exact HB.out.size : w.heap.size ≤ gb4); clear HB; have HB := n0_; have BK4 := n1_; clear n0_ n1_ hb hbox hg; obtain ⟨q0, q1, q2, q3, f0, f1, f2, f3⟩ := blk4 BK4.out)
          | ((with_reducible refine gate_dst (N := 9) rfl ?_); refine box_event ?hg (N := 9) ?hd (cs := #[.int .i64 0, .int .i64 0, .int .i64 0, .int .i64 0]) (t := 36) ?hr ?_; (case hd => rfl); (case hg => rfl); (case hr => first | (go_simp; done) | (go_simp; rfl)); intro gb9 hg wb9 hbox hb; have n0_ := Aside0.mk (below_step HB.out hb); have n1_ := Aside0.mk hbox; have GE9 := Aside0.mk (by rw [hg]; exact HB.out.size : w.heap.size ≤ gb9); have o4_ := Aside0.mk (blk_below BK4.out hb); have NE49 := Aside0.mk (by rw [hg]; exact Nat.ne_of_lt (blk_lt BK4.out) : gb4 ≠ gb9); clear BK4; have BK4 := o4_; clear o4_; clear q0 q1 q2 q3 f0 f1 f2 f3; obtain ⟨q0, q1, q2, q3, f0, f1, f2, f3⟩ := blk4 BK4.out; clear HB; have HB := n0_; have BK9 := n1_; clear n0_ n1_ hb hbox hg; obtain ⟨p0, p1, p2, p3, g0, g1, g2, g3⟩ := blk4 BK9.out)
          | (go_at_call 17; refine (quiz_Check.calls k _ _ l0 0 _ (Kd.C_below HR0.out HB.out) HC0.out HT.out).mono ?_; rintro e w1 ⟨rfl, hb⟩; replace hb := hb.below; have n0_ := Aside0.mk (below_step HB.out hb); have o4_ := Aside0.mk (blk_below BK4.out hb); clear BK4; have BK4 := o4_; clear o4_; clear q0 q1 q2 q3 f0 f1 f2 f3; obtain ⟨q0, q1, q2, q3, f0, f1, f2, f3⟩ := blk4 BK4.out; clear HB; have HB := n0_; clear n0_ hb)
          | (go_at_call 12; refine (grade_Check.calls k _ _ l1 0 _ (Kd.C_below HR1.out HB.out) HC1.out HE.out).mono ?_; rintro e w1 ⟨rfl, hb⟩; replace hb := hb.below; have n0_ := Aside0.mk (below_step HB.out hb); have o4_ := Aside0.mk (blk_below BK4.out hb); clear BK4; have BK4 := o4_; clear o4_; clear q0 q1 q2 q3 f0 f1 f2 f3; obtain ⟨q0, q1, q2, q3, f0, f1, f2, f3⟩ := blk4 BK4.out; clear HB; have HB := n0_; clear n0_ hb))
        go_loopg [30] k (fun kq v30 w' => ∃ (i a b c d : Int), v30 = .int .i64 i ∧ Aside0 (grade_Count.l0 kq l0 l1 (2 ^ l0.length) i a b c d = some (r1, r2, r3, r4, r5)) ∧ Aside0 (w'.heap[gb4]? = some (.cells #[.int .i64 0, .int .i64 0, .int .i64 0, .int .i64 0] 36 (0, 0))) ∧ Aside0 (w'.heap[gb9]? = some (.cells #[.int .i64 a, .int .i64 b, .int .i64 c, .int .i64 d] 36 (0, 0))) ∧ Aside0 (Below w.heap.size w w'))
        case atStart => exact ⟨0, 0, 0, 0, 0, rfl, H, BK4, BK9, HB⟩
        case round =>
          clear HB BK4 BK9 H
          clear q0 q1 q2 q3 f0 f1 f2 f3
          clear p0 p1 p2 p3 g0 g1 g2 g3
          obtain ⟨i, a, b, c, d, rfl, HA, BK4, BK9, HB⟩ := hrel
          obtain ⟨q0, q1, q2, q3, f0, f1, f2, f3⟩ := blk4 BK4.out
          obtain ⟨p0, p1, p2, p3, g0, g1, g2, g3⟩ := blk4 BK9.out
          cases gk with
          | zero => exact absurd HA.out (by simp [grade_Count.l0])
          | succ k1 =>
            have h := HA.out
            clear HA
            simp only [grade_Count.l0] at h
            by_cases hi : i < 2 ^ l0.length
            · rw [if_pos hi] at h
              obtain ⟨⟨s1, s2⟩, hs, h⟩ := Option.bind_eq_some_iff.mp h
              have HS := Aside0.mk hs
              clear hs
              simp only at h
              by_cases e3 : s2 = 0
              · subst e3
                rw [if_pos rfl] at h
                obtain ⟨g, hg, h⟩ := Option.bind_eq_some_iff.mp h
                have HG := Aside0.mk hg
                clear hg
                by_cases e6 : 0 ≤ g ∧ g < 4
                · rw [if_pos e6] at h
                  rcases (by omega : g = 0 ∨ g = 1 ∨ g = 2 ∨ g = 3) with rfl | rfl | rfl | rfl
                  all_goals
                    have HN := Aside0.mk h
                    clear h e6
                  · go_wp2_with (first
                      | (go_at_call 22; refine (quiz_Score.calls k1 _ _ l0 i s1 0 _ (Kd.C_below HR0.out HB.out) HC0.out HS.out).mono ?_; rintro e w1 ⟨rfl, hb⟩; have n0_ := Aside0.mk (below_step HB.out hb); have o4_ := Aside0.mk (blk_below BK4.out hb); clear BK4; have BK4 := o4_; clear o4_; clear q0 q1 q2 q3 f0 f1 f2 f3; obtain ⟨q0, q1, q2, q3, f0, f1, f2, f3⟩ := blk4 BK4.out; have o9_ := Aside0.mk (blk_below BK9.out hb); clear BK9; have BK9 := o9_; clear o9_; clear p0 p1 p2 p3 g0 g1 g2 g3; obtain ⟨p0, p1, p2, p3, g0, g1, g2, g3⟩ := blk4 BK9.out; clear HB; have HB := n0_; clear n0_ hb)
                      | (go_at_call 19; refine (grade_scale_of.calls k1 _ _ l1 s1 0 _ (Kd.C_below HR1.out HB.out) HC1.out HG.out).mono ?_; rintro e w1 ⟨rfl, hb⟩; replace hb := hb.below; have n0_ := Aside0.mk (below_step HB.out hb); have o4_ := Aside0.mk (blk_below BK4.out hb); clear BK4; have BK4 := o4_; clear o4_; clear q0 q1 q2 q3 f0 f1 f2 f3; obtain ⟨q0, q1, q2, q3, f0, f1, f2, f3⟩ := blk4 BK4.out; have o9_ := Aside0.mk (blk_below BK9.out hb); clear BK9; have BK9 := o9_; clear o9_; clear p0 p1 p2 p3 g0 g1 g2 g3; obtain ⟨p0, p1, p2, p3, g0, g1, g2, g3⟩ := blk4 BK9.out; clear HB; have HB := n0_; clear n0_ hb))
                    go_roundg k1
                    case measure => omega
                    case rel => exact ⟨_, (wrap64 (a + 1)), b, c, d, rfl, HN, ⟨blk_far BK4.out NE49.out _⟩, ⟨blk_set BK9.out 0 _⟩, ⟨below_set HB.out GE9.out⟩⟩
                  · go_wp2_with (first
                      | (go_at_call 22; refine (quiz_Score.calls k1 _ _ l0 i s1 0 _ (Kd.C_below HR0.out HB.out) HC0.out HS.out).mono ?_; rintro e w1 ⟨rfl, hb⟩; have n0_ := Aside0.mk (below_step HB.out hb); have o4_ := Aside0.mk (blk_below BK4.out hb); clear BK4; have BK4 := o4_; clear o4_; clear q0 q1 q2 q3 f0 f1 f2 f3; obtain ⟨q0, q1, q2, q3, f0, f1, f2, f3⟩ := blk4 BK4.out; have o9_ := Aside0.mk (blk_below BK9.out hb); clear BK9; have BK9 := o9_; clear o9_; clear p0 p1 p2 p3 g0 g1 g2 g3; obtain ⟨p0, p1, p2, p3, g0, g1, g2, g3⟩ := blk4 BK9.out; clear HB; have HB := n0_; clear n0_ hb)
                      | (go_at_call 19; refine (grade_scale_of.calls k1 _ _ l1 s1 1 _ (Kd.C_below HR1.out HB.out) HC1.out HG.out).mono ?_; rintro e w1 ⟨rfl, hb⟩; replace hb := hb.below; have n0_ := Aside0.mk (below_step HB.out hb); have o4_ := Aside0.mk (blk_below BK4.out hb); clear BK4; have BK4 := o4_; clear o4_; clear q0 q1 q2 q3 f0 f1 f2 f3; obtain ⟨q0, q1, q2, q3, f0, f1, f2, f3⟩ := blk4 BK4.out; have o9_ := Aside0.mk (blk_below BK9.out hb); clear BK9; have BK9 := o9_; clear o9_; clear p0 p1 p2 p3 g0 g1 g2 g3; obtain ⟨p0, p1, p2, p3, g0, g1, g2, g3⟩ := blk4 BK9.out; clear HB; have HB := n0_; clear n0_ hb))
                    go_roundg k1
                    case measure => omega
                    case rel => exact ⟨_, a, (wrap64 (b + 1)), c, d, rfl, HN, ⟨blk_far BK4.out NE49.out _⟩, ⟨blk_set BK9.out 1 _⟩, ⟨below_set HB.out GE9.out⟩⟩
                  · go_wp2_with (first
                      | (go_at_call 22; refine (quiz_Score.calls k1 _ _ l0 i s1 0 _ (Kd.C_below HR0.out HB.out) HC0.out HS.out).mono ?_; rintro e w1 ⟨rfl, hb⟩; have n0_ := Aside0.mk (below_step HB.out hb); have o4_ := Aside0.mk (blk_below BK4.out hb); clear BK4; have BK4 := o4_; clear o4_; clear q0 q1 q2 q3 f0 f1 f2 f3; obtain ⟨q0, q1, q2, q3, f0, f1, f2, f3⟩ := blk4 BK4.out; have o9_ := Aside0.mk (blk_below BK9.out hb); clear BK9; have BK9 := o9_; clear o9_; clear p0 p1 p2 p3 g0 g1 g2 g3; obtain ⟨p0, p1, p2, p3, g0, g1, g2, g3⟩ := blk4 BK9.out; clear HB; have HB := n0_; clear n0_ hb)
                      | (go_at_call 19; refine (grade_scale_of.calls k1 _ _ l1 s1 2 _ (Kd.C_below HR1.out HB.out) HC1.out HG.out).mono ?_; rintro e w1 ⟨rfl, hb⟩; replace hb := hb.below; have n0_ := Aside0.mk (below_step HB.out hb); have o4_ := Aside0.mk (blk_below BK4.out hb); clear BK4; have BK4 := o4_; clear o4_; clear q0 q1 q2 q3 f0 f1 f2 f3; obtain ⟨q0, q1, q2, q3, f0, f1, f2, f3⟩ := blk4 BK4.out; have o9_ := Aside0.mk (blk_below BK9.out hb); clear BK9; have BK9 := o9_; clear o9_; clear p0 p1 p2 p3 g0 g1 g2 g3; obtain ⟨p0, p1, p2, p3, g0, g1, g2, g3⟩ := blk4 BK9.out; clear HB; have HB := n0_; clear n0_ hb))
                    go_roundg k1
                    case measure => omega
                    case rel => exact ⟨_, a, b, (wrap64 (c + 1)), d, rfl, HN, ⟨blk_far BK4.out NE49.out _⟩, ⟨blk_set BK9.out 2 _⟩, ⟨below_set HB.out GE9.out⟩⟩
                  · go_wp2_with (first
                      | (go_at_call 22; refine (quiz_Score.calls k1 _ _ l0 i s1 0 _ (Kd.C_below HR0.out HB.out) HC0.out HS.out).mono ?_; rintro e w1 ⟨rfl, hb⟩; have n0_ := Aside0.mk (below_step HB.out hb); have o4_ := Aside0.mk (blk_below BK4.out hb); clear BK4; have BK4 := o4_; clear o4_; clear q0 q1 q2 q3 f0 f1 f2 f3; obtain ⟨q0, q1, q2, q3, f0, f1, f2, f3⟩ := blk4 BK4.out; have o9_ := Aside0.mk (blk_below BK9.out hb); clear BK9; have BK9 := o9_; clear o9_; clear p0 p1 p2 p3 g0 g1 g2 g3; obtain ⟨p0, p1, p2, p3, g0, g1, g2, g3⟩ := blk4 BK9.out; clear HB; have HB := n0_; clear n0_ hb)
                      | (go_at_call 19; refine (grade_scale_of.calls k1 _ _ l1 s1 3 _ (Kd.C_below HR1.out HB.out) HC1.out HG.out).mono ?_; rintro e w1 ⟨rfl, hb⟩; replace hb := hb.below; have n0_ := Aside0.mk (below_step HB.out hb); have o4_ := Aside0.mk (blk_below BK4.out hb); clear BK4; have BK4 := o4_; clear o4_; clear q0 q1 q2 q3 f0 f1 f2 f3; obtain ⟨q0, q1, q2, q3, f0, f1, f2, f3⟩ := blk4 BK4.out; have o9_ := Aside0.mk (blk_below BK9.out hb); clear BK9; have BK9 := o9_; clear o9_; clear p0 p1 p2 p3 g0 g1 g2 g3; obtain ⟨p0, p1, p2, p3, g0, g1, g2, g3⟩ := blk4 BK9.out; clear HB; have HB := n0_; clear n0_ hb))
                    go_roundg k1
                    case measure => omega
                    case rel => exact ⟨_, a, b, c, (wrap64 (d + 1)), rfl, HN, ⟨blk_far BK4.out NE49.out _⟩, ⟨blk_set BK9.out 3 _⟩, ⟨below_set HB.out GE9.out⟩⟩
                · rw [if_neg e6] at h; simp at h
              · rw [if_neg e3] at h
                have c3b : (s2 != 0) = true := bne_iff_ne.mpr e3
                simp only [Option.some.injEq, Prod.mk.injEq] at h
                obtain ⟨rfl, rfl, rfl, rfl, rfl⟩ := h
                go_wp2_with (first
                  | (go_at_call 22; refine (quiz_Score.calls k1 _ _ l0 i s1 s2 _ (Kd.C_below HR0.out HB.out) HC0.out HS.out).mono ?_; rintro e w1 ⟨rfl, hb⟩; have n0_ := Aside0.mk (below_step HB.out hb); have o4_ := Aside0.mk (blk_below BK4.out hb); clear BK4; have BK4 := o4_; clear o4_; clear q0 q1 q2 q3 f0 f1 f2 f3; obtain ⟨q0, q1, q2, q3, f0, f1, f2, f3⟩ := blk4 BK4.out; have o9_ := Aside0.mk (blk_below BK9.out hb); clear BK9; have BK9 := o9_; clear o9_; clear p0 p1 p2 p3 g0 g1 g2 g3; obtain ⟨p0, p1, p2, p3, g0, g1, g2, g3⟩ := blk4 BK9.out; clear HB; have HB := n0_; clear n0_ hb))
                refine bodyPost_ret (results_ct rfl _ _ gb4 36 #[.int .i64 0, .int .i64 0, .int .i64 0, .int .i64 0] (0, 0) _ rfl (put4 BK4.out _ _ _ _) Try.underlying36 rfl (by kernel_rfl)) rfl ?_
                exact ⟨rfl, by repeat (first | exact HB.out | refine below_set ?_ GE4.out)⟩
            · rw [if_neg hi] at h
              simp only [Option.some.injEq, Prod.mk.injEq] at h
              obtain ⟨rfl, rfl, rfl, rfl, rfl⟩ := h
              go_wp2
              refine bodyPost_ret (results_ct rfl _ _ gb4 36 #[.int .i64 a, .int .i64 b, .int .i64 c, .int .i64 d] (0, 0) _ rfl (put4 BK4.out _ _ _ _) Try.underlying36 rfl (by kernel_rfl)) rfl ?_
              exact ⟨rfl, by repeat (first | exact HB.out | refine below_set ?_ GE4.out)⟩
      · rw [if_neg e2] at h; simp at h
    · rw [if_neg e1] at h
      have c1b : (e != 0) = true := bne_iff_ne.mpr e1
      simp only [Option.some.injEq, Prod.mk.injEq] at h
      obtain ⟨rfl, rfl, rfl, rfl, rfl⟩ := h
      go_enter Try.func14, Try.ntmps14
      go_wp2_with (first
        | ((with_reducible refine gate_dst (N := 4) rfl ?_); refine box_event ?hg (N := 4) ?hd (cs := #[.int .i64 0, .int .i64 0, .int .i64 0, .int .i64 0]) (t := 36) ?hr ?_; (case hd => rfl); (case hg => rfl); (case hr => first | (go_simp; done) | (go_simp; rfl)); intro gb4 hg wb4 hbox hb; have n0_ := Aside0.mk (below_step HB.out hb); have n1_ := Aside0.mk hbox; have GE4 := Aside0.mk (by rw [hg]; exact HB.out.size : w.heap.size ≤ gb4); clear HB; have HB := n0_; have BK4 := n1_; clear n0_ n1_ hb hbox hg; obtain ⟨q0, q1, q2, q3, f0, f1, f2, f3⟩ := blk4 BK4.out)
        | (go_at_call 17; refine (quiz_Check.calls k _ _ l0 0 _ (Kd.C_below HR0.out HB.out) HC0.out HT.out).mono ?_; rintro e w1 ⟨rfl, hb⟩; replace hb := hb.below; have n0_ := Aside0.mk (below_step HB.out hb); have o4_ := Aside0.mk (blk_below BK4.out hb); clear BK4; have BK4 := o4_; clear o4_; clear q0 q1 q2 q3 f0 f1 f2 f3; obtain ⟨q0, q1, q2, q3, f0, f1, f2, f3⟩ := blk4 BK4.out; clear HB; have HB := n0_; clear n0_ hb)
        | (go_at_call 12; refine (grade_Check.calls k _ _ l1 e _ (Kd.C_below HR1.out HB.out) HC1.out HE.out).mono ?_; rintro e w1 ⟨rfl, hb⟩; replace hb := hb.below; have n0_ := Aside0.mk (below_step HB.out hb); have o4_ := Aside0.mk (blk_below BK4.out hb); clear BK4; have BK4 := o4_; clear o4_; clear q0 q1 q2 q3 f0 f1 f2 f3; obtain ⟨q0, q1, q2, q3, f0, f1, f2, f3⟩ := blk4 BK4.out; clear HB; have HB := n0_; clear n0_ hb))
      refine bodyPost_ret (results_ct rfl _ _ gb4 36 #[.int .i64 0, .int .i64 0, .int .i64 0, .int .i64 0] (0, 0) _ rfl (put4 BK4.out _ _ _ _) Try.underlying36 rfl (by kernel_rfl)) rfl ?_
      exact ⟨rfl, by repeat (first | exact HB.out | refine below_set ?_ GE4.out)⟩
  · rw [if_neg e0] at h
    have c0b : (t != 0) = true := bne_iff_ne.mpr e0
    simp only [Option.some.injEq, Prod.mk.injEq] at h
    obtain ⟨rfl, rfl, rfl, rfl, rfl⟩ := h
    go_enter Try.func14, Try.ntmps14
    go_wp2_with (first
      | ((with_reducible refine gate_dst (N := 4) rfl ?_); refine box_event ?hg (N := 4) ?hd (cs := #[.int .i64 0, .int .i64 0, .int .i64 0, .int .i64 0]) (t := 36) ?hr ?_; (case hd => rfl); (case hg => rfl); (case hr => first | (go_simp; done) | (go_simp; rfl)); intro gb4 hg wb4 hbox hb; have n0_ := Aside0.mk (below_step HB.out hb); have n1_ := Aside0.mk hbox; have GE4 := Aside0.mk (by rw [hg]; exact HB.out.size : w.heap.size ≤ gb4); clear HB; have HB := n0_; have BK4 := n1_; clear n0_ n1_ hb hbox hg; obtain ⟨q0, q1, q2, q3, f0, f1, f2, f3⟩ := blk4 BK4.out)
      | (go_at_call 17; refine (quiz_Check.calls k _ _ l0 t _ (Kd.C_below HR0.out HB.out) HC0.out HT.out).mono ?_; rintro e w1 ⟨rfl, hb⟩; replace hb := hb.below; have n0_ := Aside0.mk (below_step HB.out hb); have o4_ := Aside0.mk (blk_below BK4.out hb); clear BK4; have BK4 := o4_; clear o4_; clear q0 q1 q2 q3 f0 f1 f2 f3; obtain ⟨q0, q1, q2, q3, f0, f1, f2, f3⟩ := blk4 BK4.out; clear HB; have HB := n0_; clear n0_ hb))
    refine bodyPost_ret (results_ct rfl _ _ gb4 36 #[.int .i64 0, .int .i64 0, .int .i64 0, .int .i64 0] (0, 0) _ rfl (put4 BK4.out _ _ _ _) Try.underlying36 rfl (by kernel_rfl)) rfl ?_
    exact ⟨rfl, by repeat (first | exact HB.out | refine below_set ?_ GE4.out)⟩


end Go.Proofs.Ytokoipmbhohoiaa.PGrade
