-- PRINTED by printx.py (the kit's print, with contracts that were written by hand in the place of what it does not print). Not trusted: Lean checks it.
import Derived.Test.YtokoipmbhohoiaaPGradex0
import Derived.Test.YtokoipmbhohoiaaPGradex8
import Derived.Test.YtokoipmbhohoiaaPGradex9
import Derived.Test.YtokoipmbhohoiaaPGradex10
import Derived.Test.YtokoipmbhohoiaaPGradex14
import Derived.Test.YtokoipmbhohoiaaPGradex17
namespace Go.Proofs.Ytokoipmbhohoiaa.PGrade
open Go.RowKit Go.Proofs.YtokoipmbhohoiaaW.PrintWords Go.Proofs.YtokoipmbhohoiaaW.PrintLast Go.Proofs.YtokoipmbhohoiaaW.PrintMore
attribute [local go_sem] max2_int min2_int max_two min_two max_three min_three max_four min_four   -- for this text's walks alone
set_option linter.unusedVariables false
set_option linter.unusedSimpArgs false

attribute [local go_sem high] eqArr36 eqArr41
/-! ### backhaullaw17_GradeAll: function 6 -/
mutual
def backhaullaw17_GradeAll.j0 : Nat → List Int → Int → List Int → Bool → Option (Bool)
  | 0, _, _, _, _ => none
  | k + 1, x0, x1, x2, x22 => if x22 = true then ((backhaullaw17_awake.f k).bind fun t258 => (some t258)) else ((grade_Of.f k x0 x1).bind fun bt259 => (backhaullaw17_GradeAll.l0 k x0 x1 x2 bt259.1 bt259.2 0))
def backhaullaw17_GradeAll.l0 : Nat → List Int → Int → List Int → Int → Int → Int → Option (Bool)
  | 0, _, _, _, _, _, _ => none
  | k + 1, x0, x1, x2, x7, x8, x9 => if x9 < 4 then (backhaullaw17_GradeAll.j2 k x0 x1 x2 x7 x8 x9 (x8 == 0)) else (backhaullaw17_GradeAll.j2 k x0 x1 x2 x7 x8 x9 false)
def backhaullaw17_GradeAll.j2 : Nat → List Int → Int → List Int → Int → Int → Int → Bool → Option (Bool)
  | 0, _, _, _, _, _, _, _ => none
  | k + 1, x0, x1, x2, x7, x8, x9, x35 => if x35 = true then ((grade_Span.f k x0 x9).bind fun bt261 => (if bt261.2.2 = 0 then (if x1 ≥ bt261.1 then (if ((decide (x1 ≤ bt261.2.1)) != (x9 == x7)) = true then (some false) else (backhaullaw17_GradeAll.l0 k x0 x1 x2 x7 x8 (wrap64 (x9 + 1)))) else (if (false != (x9 == x7)) = true then (some false) else (backhaullaw17_GradeAll.l0 k x0 x1 x2 x7 x8 (wrap64 (x9 + 1))))) else (some false))) else ((grade_Count.f k x2 x0).bind fun bt264 => (if bt264.2.2.2.2 = 0 then (if 0 ≤ (IntKind.u64.wrap ((x2.length : Int))) then (if (wrap64 ((wrap64 ((wrap64 (bt264.1 + bt264.2.1)) + bt264.2.2.1)) + bt264.2.2.2.1)) = (shl .i64 1 (IntKind.u64.wrap ((x2.length : Int)))) then ((quiz_Check.f k x2).bind fun t270 => (if t270 = 0 then ((backhaullaw17_awake.f k).bind fun t271 => (some t271)) else (some false))) else (some false)) else (none)) else (if bt264.1 = 0 then (if bt264.2.1 = 0 then (if bt264.2.2.1 = 0 then (if bt264.2.2.2.1 = 0 then ((backhaullaw17_awake.f k).bind fun t272 => (some t272)) else (some false)) else (some false)) else (some false)) else (some false))))
end
def backhaullaw17_GradeAll.f (k : Nat) (l0 : List Int) (a1 : Int) (l2 : List Int) : Option (Bool) := if (l0.length : Int) > 100 then (backhaullaw17_GradeAll.j0 k l0 a1 l2 true) else (backhaullaw17_GradeAll.j0 k l0 a1 l2 (decide ((l2.length : Int) > 100)))
theorem backhaullaw17_GradeAll.mono_l : ∀ k, (∀ y0 y1 y2 y3, LeO (backhaullaw17_GradeAll.j0 k y0 y1 y2 y3) (backhaullaw17_GradeAll.j0 (k + 1) y0 y1 y2 y3)) ∧ (∀ y0 y1 y2 y3 y4 y5, LeO (backhaullaw17_GradeAll.l0 k y0 y1 y2 y3 y4 y5) (backhaullaw17_GradeAll.l0 (k + 1) y0 y1 y2 y3 y4 y5)) ∧ (∀ y0 y1 y2 y3 y4 y5 y6, LeO (backhaullaw17_GradeAll.j2 k y0 y1 y2 y3 y4 y5 y6) (backhaullaw17_GradeAll.j2 (k + 1) y0 y1 y2 y3 y4 y5 y6))
  | 0 => ⟨fun _ _ _ _ r h => by simp [backhaullaw17_GradeAll.j0] at h, fun _ _ _ _ _ _ r h => by simp [backhaullaw17_GradeAll.l0] at h, fun _ _ _ _ _ _ _ r h => by simp [backhaullaw17_GradeAll.j2] at h⟩
  | k + 1 => by
    obtain ⟨ih0, ih1, ih2⟩ := backhaullaw17_GradeAll.mono_l k
    refine ⟨?_, ?_, ?_⟩
    · intro y0 y1 y2 y3
      unfold backhaullaw17_GradeAll.j0
      repeat' first
      | (with_reducible exact ih0 _ _ _ _)
      | (with_reducible exact ih1 _ _ _ _ _ _)
      | (with_reducible exact ih2 _ _ _ _ _ _ _)
      | (with_reducible exact backhaullaw17_awake.mono _)
      | (with_reducible exact grade_Count.mono _ _ _)
      | (with_reducible exact grade_Of.mono _ _ _)
      | (with_reducible exact grade_Span.mono _ _ _)
      | (with_reducible exact quiz_Check.mono _ _)
      | (with_reducible exact LeO.refl _)
      | (with_reducible exact LeO.none _)
      | (with_reducible refine LeO.ite ?_ ?_)
      | (with_reducible refine LeO.bind ?_ (fun _ => ?_))
      | exact ih0 _ _ _ _
      | exact ih1 _ _ _ _ _ _
      | exact ih2 _ _ _ _ _ _ _
      | exact backhaullaw17_awake.mono _
      | exact grade_Count.mono _ _ _
      | exact grade_Of.mono _ _ _
      | exact grade_Span.mono _ _ _
      | exact quiz_Check.mono _ _
      | exact LeO.none _
      | refine LeO.ite ?_ ?_
      | refine LeO.bind ?_ (fun _ => ?_)
    · intro y0 y1 y2 y3 y4 y5
      unfold backhaullaw17_GradeAll.l0
      repeat' first
      | (with_reducible exact ih0 _ _ _ _)
      | (with_reducible exact ih1 _ _ _ _ _ _)
      | (with_reducible exact ih2 _ _ _ _ _ _ _)
      | (with_reducible exact backhaullaw17_awake.mono _)
      | (with_reducible exact grade_Count.mono _ _ _)
      | (with_reducible exact grade_Of.mono _ _ _)
      | (with_reducible exact grade_Span.mono _ _ _)
      | (with_reducible exact quiz_Check.mono _ _)
      | (with_reducible exact LeO.refl _)
      | (with_reducible exact LeO.none _)
      | (with_reducible refine LeO.ite ?_ ?_)
      | (with_reducible refine LeO.bind ?_ (fun _ => ?_))
      | exact ih0 _ _ _ _
      | exact ih1 _ _ _ _ _ _
      | exact ih2 _ _ _ _ _ _ _
      | exact backhaullaw17_awake.mono _
      | exact grade_Count.mono _ _ _
      | exact grade_Of.mono _ _ _
      | exact grade_Span.mono _ _ _
      | exact quiz_Check.mono _ _
      | exact LeO.none _
      | refine LeO.ite ?_ ?_
      | refine LeO.bind ?_ (fun _ => ?_)
    · intro y0 y1 y2 y3 y4 y5 y6
      unfold backhaullaw17_GradeAll.j2
      repeat' first
      | (with_reducible exact ih0 _ _ _ _)
      | (with_reducible exact ih1 _ _ _ _ _ _)
      | (with_reducible exact ih2 _ _ _ _ _ _ _)
      | (with_reducible exact backhaullaw17_awake.mono _)
      | (with_reducible exact grade_Count.mono _ _ _)
      | (with_reducible exact grade_Of.mono _ _ _)
      | (with_reducible exact grade_Span.mono _ _ _)
      | (with_reducible exact quiz_Check.mono _ _)
      | (with_reducible exact LeO.refl _)
      | (with_reducible exact LeO.none _)
      | (with_reducible refine LeO.ite ?_ ?_)
      | (with_reducible refine LeO.bind ?_ (fun _ => ?_))
      | exact ih0 _ _ _ _
      | exact ih1 _ _ _ _ _ _
      | exact ih2 _ _ _ _ _ _ _
      | exact backhaullaw17_awake.mono _
      | exact grade_Count.mono _ _ _
      | exact grade_Of.mono _ _ _
      | exact grade_Span.mono _ _ _
      | exact quiz_Check.mono _ _
      | exact LeO.none _
      | refine LeO.ite ?_ ?_
      | refine LeO.bind ?_ (fun _ => ?_)
theorem backhaullaw17_GradeAll.mono : ∀ a0 a1 a2 k, LeO (backhaullaw17_GradeAll.f k a0 a1 a2) (backhaullaw17_GradeAll.f (k + 1) a0 a1 a2) := by
  intro a0 a1 a2 k
  obtain ⟨ih0, ih1, ih2⟩ := backhaullaw17_GradeAll.mono_l k
  unfold backhaullaw17_GradeAll.f
  repeat' first
      | (with_reducible exact ih0 _ _ _ _)
      | (with_reducible exact ih1 _ _ _ _ _ _)
      | (with_reducible exact ih2 _ _ _ _ _ _ _)
      | (with_reducible exact backhaullaw17_awake.mono _)
      | (with_reducible exact grade_Count.mono _ _ _)
      | (with_reducible exact grade_Of.mono _ _ _)
      | (with_reducible exact grade_Span.mono _ _ _)
      | (with_reducible exact quiz_Check.mono _ _)
      | (with_reducible exact LeO.refl _)
      | (with_reducible exact LeO.none _)
      | (with_reducible refine LeO.ite ?_ ?_)
      | (with_reducible refine LeO.bind ?_ (fun _ => ?_))
      | exact ih0 _ _ _ _
      | exact ih1 _ _ _ _ _ _
      | exact ih2 _ _ _ _ _ _ _
      | exact backhaullaw17_awake.mono _
      | exact grade_Count.mono _ _ _
      | exact grade_Of.mono _ _ _
      | exact grade_Span.mono _ _ _
      | exact quiz_Check.mono _ _
      | exact LeO.none _
      | refine LeO.ite ?_ ?_
      | refine LeO.bind ?_ (fun _ => ?_)
set_option maxHeartbeats 8000000 in
set_option maxRecDepth 100000 in
theorem backhaullaw17_GradeAll.calls_t (k : Nat) (A0 : Option Addr) (c0 : Nat) (l0 : List Int) (a1 : Int) (A2 : Option Addr) (c2 : Nat) (l2 : List Int) (r : Bool) (w : World) (hr0 : Kd.C (Kd.int .i64) w A0 l0.length l0) (hc0 : l0.length ≤ c0) (hr2 : Kd.C (Kd.int .i64) w A2 l2.length l2) (hc2 : l2.length ≤ c2) (h : backhaullaw17_GradeAll.f k l0 a1 l2 = some r) (hr : r = true) :
    Calls Try.prog 6 #[.slice A0 l0.length c0, .int .i64 a1, .slice A2 l2.length c2] w fun e w' => e = .returned (.bool r) ∧ Below w.heap.size w w' := by
  have hu36 := Try.underlying36
  have HR0 := Aside0.mk hr0
  have HC0 := Aside0.mk hc0
  clear hr0 hc0
  have HR2 := Aside0.mk hr2
  have HC2 := Aside0.mk hc2
  clear hr2 hc2
  have HB := Aside0.mk (Below.refl w.heap.size w)
  have H : (if (l0.length : Int) > 100 then (backhaullaw17_GradeAll.j0 k l0 a1 l2 true) else (backhaullaw17_GradeAll.j0 k l0 a1 l2 (decide ((l2.length : Int) > 100)))) = some r := h
  clear h
  have HC4 := Aside0.mk H
  clear H
  go_enter Try.func6, Try.ntmps6
  go_upto_region 1 with (fail)
  go_cut [22] (fun v22 wc => ∃ (kq : Nat) (x22_3 : Bool), v22 = .bool x22_3 ∧ Aside0 (backhaullaw17_GradeAll.j0 kq l0 a1 l2 x22_3 = some r) ∧ Aside0 (kq ≤ k) ∧ Aside0 (Below w.heap.size w wc))
  case first =>
    have H := HC4.out
    clear HC4
    by_cases c5 : (l0.length : Int) > 100
    · rw [if_pos c5] at H
      have c5b0 : decide (100 < (l0.length : Int)) = true := decide_eq_true c5
      have c5b1 : decide (100 < l0.length) = true := decide_eq_true (by omega)
      clear c5
      (first | rw [c5b0] | (simp only [i64_w, i32_w]; rw [c5b0]) | skip)
      have H' := Aside0.mk H
      clear H
      go_wp2
      go_meet
      case rel => exact ⟨_, (true), (by first | rfl | (simp; done) | (simp [*]; done)), H', ⟨by first | omega | exact Nat.le_refl _⟩, ⟨by repeat (first | (with_reducible first | exact HB.out | apply below_alloc | apply pw_below_drewN | apply below_drew1) | exact HB.out)⟩⟩
    · rw [if_neg c5] at H
      have c5b0 : decide (100 < (l0.length : Int)) = false := decide_eq_false c5
      have c5b1 : decide (100 < l0.length) = false := decide_eq_false (by omega)
      clear c5
      (first | rw [c5b0] | (simp only [i64_w, i32_w]; rw [c5b0]) | skip)
      have H' := Aside0.mk H
      clear H
      go_wp2
      go_meet
      case rel => exact ⟨_, (decide ((l2.length : Int) > 100)), (by first | rfl | (simp; done) | (simp [*]; done)), H', ⟨by first | omega | exact Nat.le_refl _⟩, ⟨by repeat (first | (with_reducible first | exact HB.out | apply below_alloc | apply pw_below_drewN | apply below_drew1) | exact HB.out)⟩⟩
  case rest =>
    clear HC4
    try clear c2
    try clear p2
    try clear c5
    try clear c5b0
    try clear c5b1
    obtain ⟨kq, x22_3, rfl, HA, HJ3, HB⟩ := hcut
    cases kq with
    | zero => exact absurd HA.out (by simp [backhaullaw17_GradeAll.j0])
    | succ kj3 =>
      have H := HA.out
      clear HA
      simp only [backhaullaw17_GradeAll.j0] at H
      by_cases c6 : x22_3 = true
      · subst c6
        have H1 : ((backhaullaw17_awake.f kj3).bind fun t258 => (some t258)) = some r := by rw [if_pos rfl] at H; exact H
        clear H
        have H := H1
        clear H1
        replace H := Option.bind_eq_some_iff.mp H
        obtain ⟨t258, A70, H⟩ := H
        replace H : (some t258) = some r := H
        have A7 := Aside0.mk A70
        clear A70
        obtain rfl := Option.some.inj H
        go_wp2_with (first | ((with_reducible refine gate_callee (f := 7) rfl ?_); refine goesL_ (some 23) rfl rfl Try.func7 (by kernel_rfl) rfl #[] rfl (by (try simp only [List.map_toArray, List.map_cons, List.map_nil]); first | done | rfl | (simp only [List.length_drop, List.length_take]; rfl)) ?_; (with_reducible refine (backhaullaw17_awake.calls kj3  t258 _ A7.out).mono ?_); rintro e w8 ⟨rfl, hb⟩; refine ⟨_, rfl, ?_⟩; have n0_ := Aside0.mk (below_step (by repeat (first | (with_reducible first | exact HB.out | apply below_alloc | apply pw_below_drewN | apply below_drew1) | exact HB.out)) hb); clear HB; have HB := n0_; clear n0_; (try clear hb); (try clear hb2); (try clear hk); (try clear hi)))
        go_ret
        exact ⟨by first | rfl | (simp [errW_none, errW_some] <;> rfl) | (simp [*, errW_none, errW_some] <;> rfl), by repeat (first | (with_reducible first | exact HB.out | apply below_alloc | apply pw_below_drewN | apply below_drew1) | exact HB.out)⟩
      · replace c6 := Bool.eq_false_iff.mpr c6
        subst c6
        have H1 : ((grade_Of.f kj3 l0 a1).bind fun bt259 => (backhaullaw17_GradeAll.l0 kj3 l0 a1 l2 bt259.1 bt259.2 0)) = some r := by rw [if_neg (show ¬ (false = true) by decide)] at H; exact H
        clear H
        have H := H1
        clear H1
        replace H := Option.bind_eq_some_iff.mp H
        obtain ⟨⟨t259, t260⟩, A90, H⟩ := H
        replace H : (backhaullaw17_GradeAll.l0 kj3 l0 a1 l2 t259 t260 0) = some r := H
        have A9 := Aside0.mk A90
        clear A90
        have H' := Aside0.mk H
        clear H
        go_wp2_with (first | ((with_reducible refine gate_callee (f := 8) rfl ?_); refine goesL_ (some 27) rfl rfl Try.func8 (by kernel_rfl) rfl #[.slice A0 l0.length c0, .int .i64 a1] rfl (by (try simp only [List.map_toArray, List.map_cons, List.map_nil]); first | done | rfl | (simp only [List.length_drop, List.length_take]; rfl)) ?_; (with_reducible refine (grade_Of.calls kj3 _ _ l0 a1 t259 t260 _ ?side1 ?side2 A9.out).mono ?_); (case side1 => repeat (first | exact (Kd.C_below HR0.out HB.out) | (with_reducible refine Kd.C_alloc ?_ _) | (with_reducible refine Kd.C_drewN ?_ _) | (with_reducible refine Kd.C_drew ?_))); (case side2 => exact HC0.out); rintro e w' ⟨rfl, ⟨nd, rfl⟩⟩; refine ⟨_, rfl, ?_⟩))
        go_loopg [9] kj3 (fun kq v9 w' => ∃ (x9_2 : Int), v9 = .int .i64 x9_2 ∧ Aside0 (backhaullaw17_GradeAll.l0 kq l0 a1 l2 t259 t260 x9_2 = some r) ∧ Aside0 (kq ≤ kj3) ∧ Aside0 (Below w.heap.size w w'))
        case atStart => exact ⟨(0), (by first | rfl | (simp; done) | (simp [*]; done)), H', ⟨Nat.le_refl _⟩, ⟨by repeat (first | (with_reducible first | exact HB.out | apply below_alloc | apply pw_below_drewN | apply below_drew1) | exact HB.out)⟩⟩
        case round =>
          clear H'
          try clear c2
          try clear p2
          try clear c5
          try clear c5b0
          try clear c5b1
          try clear c6
          try clear c7
          try clear c8
          try clear p2
          obtain ⟨x9_2, rfl, HA, HK2, HB⟩ := hrel
          cases gk with
          | zero => exact absurd HA.out (by simp [backhaullaw17_GradeAll.l0])
          | succ k2 =>
            have H := HA.out
            clear HA
            simp only [backhaullaw17_GradeAll.l0] at H
            have HC10 := Aside0.mk H
            clear H
            go_upto_region 5 with (fail)
            go_cut [35] (fun v35 wc => ∃ (kq : Nat) (x35_9 : Bool), v35 = .bool x35_9 ∧ Aside0 (backhaullaw17_GradeAll.j2 kq l0 a1 l2 t259 t260 x9_2 x35_9 = some r) ∧ Aside0 (kq ≤ k2) ∧ Aside0 (Below w.heap.size w wc))
            case first =>
              have H := HC10.out
              clear HC10
              by_cases c11 : x9_2 < 4
              · rw [if_pos c11] at H
                have c11b0 : decide (x9_2 < 4) = true := decide_eq_true c11
                clear c11
                (first | rw [c11b0] | (simp only [i64_w, i32_w]; rw [c11b0]) | skip)
                have H' := Aside0.mk H
                clear H
                go_wp2
                go_meet
                case rel => exact ⟨_, ((t260 == 0)), (by first | rfl | (simp; done) | (simp [*]; done)), H', ⟨by have := HJ3.out; have := HK2.out; first | omega | exact Nat.le_refl _⟩, ⟨by repeat (first | (with_reducible first | exact HB.out | apply below_alloc | apply pw_below_drewN | apply below_drew1) | exact HB.out)⟩⟩
              · rw [if_neg c11] at H
                have c11b0 : decide (x9_2 < 4) = false := decide_eq_false c11
                clear c11
                (first | rw [c11b0] | (simp only [i64_w, i32_w]; rw [c11b0]) | skip)
                have H' := Aside0.mk H
                clear H
                go_wp2
                go_meet
                case rel => exact ⟨_, (false), (by first | rfl | (simp; done) | (simp [*]; done)), H', ⟨by have := HJ3.out; have := HK2.out; first | omega | exact Nat.le_refl _⟩, ⟨by repeat (first | (with_reducible first | exact HB.out | apply below_alloc | apply pw_below_drewN | apply below_drew1) | exact HB.out)⟩⟩
            case rest =>
              clear HC10
              try clear c1
              try clear c2
              try clear p2
              try clear c5
              try clear c5b0
              try clear c5b1
              try clear c6
              try clear c7
              try clear c8
              try clear c11
              try clear c11b0
              try clear p2
              obtain ⟨kq, x35_9, rfl, HA, HJ9, HB⟩ := hcut
              cases kq with
              | zero => exact absurd HA.out (by simp [backhaullaw17_GradeAll.j2])
              | succ kj9 =>
                have H := HA.out
                clear HA
                simp only [backhaullaw17_GradeAll.j2] at H
                by_cases c12 : x35_9 = true
                · subst c12
                  have H1 : ((grade_Span.f kj9 l0 x9_2).bind fun bt261 => (if bt261.2.2 = 0 then (if a1 ≥ bt261.1 then (if ((decide (a1 ≤ bt261.2.1)) != (x9_2 == t259)) = true then (some false) else (backhaullaw17_GradeAll.l0 kj9 l0 a1 l2 t259 t260 (wrap64 (x9_2 + 1)))) else (if (false != (x9_2 == t259)) = true then (some false) else (backhaullaw17_GradeAll.l0 kj9 l0 a1 l2 t259 t260 (wrap64 (x9_2 + 1))))) else (some false))) = some r := by rw [if_pos rfl] at H; exact H
                  clear H
                  have H := H1
                  clear H1
                  replace H := Option.bind_eq_some_iff.mp H
                  obtain ⟨⟨t261, t262, t263⟩, A130, H⟩ := H
                  replace H : (if t263 = 0 then (if a1 ≥ t261 then (if ((decide (a1 ≤ t262)) != (x9_2 == t259)) = true then (some false) else (backhaullaw17_GradeAll.l0 kj9 l0 a1 l2 t259 t260 (wrap64 (x9_2 + 1)))) else (if (false != (x9_2 == t259)) = true then (some false) else (backhaullaw17_GradeAll.l0 kj9 l0 a1 l2 t259 t260 (wrap64 (x9_2 + 1))))) else (some false)) = some r := H
                  have A13 := Aside0.mk A130
                  clear A130
                  by_cases c14 : t263 = 0
                  · rw [if_pos c14] at H
                    have c14b0 : (t263 == 0) = true := beq_iff_eq.mpr c14
                    have c14b1 : (t263 != 0) = false := bne_eq_false_iff_eq.mpr c14
                    clear c14
                    by_cases c15 : a1 ≥ t261
                    · rw [if_pos c15] at H
                      have c15b0 : decide (t261 ≤ a1) = true := decide_eq_true c15
                      clear c15
                      by_cases c16 : ((decide (a1 ≤ t262)) != (x9_2 == t259)) = true
                      · rw [if_pos c16] at H
                        have c16b0 : ((decide (a1 ≤ t262)) != (x9_2 == t259)) = true := c16
                        (try (have c16b1 : decide ((decide (a1 ≤ t262)) = (x9_2 == t259)) = false := by simpa using c16))
                        (try (have c16b2 : ((decide (a1 ≤ t262)) == (x9_2 == t259)) = false := by simpa using c16))
                        (try (have c16b3 : ¬ ((decide (a1 ≤ t262)) = (x9_2 == t259)) := by simpa using c16))
                        clear c16
                        exact absurd ((Option.some.inj H).trans hr) (by decide)
                      · rw [if_neg c16] at H
                        have c16b0 : ((decide (a1 ≤ t262)) != (x9_2 == t259)) = false := by simpa using c16
                        (try (have c16b1 : decide ((decide (a1 ≤ t262)) = (x9_2 == t259)) = true := by simpa using c16))
                        (try (have c16b2 : ((decide (a1 ≤ t262)) == (x9_2 == t259)) = true := by simpa using c16))
                        clear c16
                        have H' := Aside0.mk H
                        clear H
                        go_wp2_with (first | ((with_reducible refine gate_callee (f := 10) rfl ?_); refine goesL_ (some 41) rfl rfl Try.func10 (by kernel_rfl) rfl #[.slice A0 l0.length c0, .int .i64 x9_2] rfl (by (try simp only [List.map_toArray, List.map_cons, List.map_nil]); first | done | rfl | (simp only [List.length_drop, List.length_take]; rfl)) ?_; (with_reducible refine (grade_Span.calls kj9 _ _ l0 x9_2 t261 t262 t263 _ ?side1 ?side2 A13.out).mono ?_); (case side1 => repeat (first | exact (Kd.C_below HR0.out HB.out) | (with_reducible refine Kd.C_alloc ?_ _) | (with_reducible refine Kd.C_drewN ?_ _) | (with_reducible refine Kd.C_drew ?_))); (case side2 => exact HC0.out); rintro e w' ⟨rfl, ⟨nd, rfl⟩⟩; refine ⟨_, rfl, ?_⟩))
                        go_roundg kj9
                        case measure => have := HJ3.out; have := HK2.out; have := HJ9.out; omega
                        case rel => exact ⟨(wrap64 (x9_2 + 1)), (by first | rfl | (simp; done) | (simp [*]; done)), H', ⟨by have := HJ3.out; have := HK2.out; have := HJ9.out; omega⟩, ⟨by repeat (first | (with_reducible first | exact HB.out | apply below_alloc | apply pw_below_drewN | apply below_drew1) | exact HB.out)⟩⟩
                    · rw [if_neg c15] at H
                      have c15b0 : decide (t261 ≤ a1) = false := decide_eq_false c15
                      clear c15
                      by_cases c17 : (false != (x9_2 == t259)) = true
                      · rw [if_pos c17] at H
                        have c17b0 : (false != (x9_2 == t259)) = true := c17
                        (try (have c17b1 : decide (false = (x9_2 == t259)) = false := by simpa using c17))
                        (try (have c17b2 : (false == (x9_2 == t259)) = false := by simpa using c17))
                        (try (have c17b3 : ¬ (false = (x9_2 == t259)) := by simpa using c17))
                        clear c17
                        exact absurd ((Option.some.inj H).trans hr) (by decide)
                      · rw [if_neg c17] at H
                        have c17b0 : (false != (x9_2 == t259)) = false := by simpa using c17
                        (try (have c17b1 : decide (false = (x9_2 == t259)) = true := by simpa using c17))
                        (try (have c17b2 : (false == (x9_2 == t259)) = true := by simpa using c17))
                        clear c17
                        have H' := Aside0.mk H
                        clear H
                        go_wp2_with (first | ((with_reducible refine gate_callee (f := 10) rfl ?_); refine goesL_ (some 41) rfl rfl Try.func10 (by kernel_rfl) rfl #[.slice A0 l0.length c0, .int .i64 x9_2] rfl (by (try simp only [List.map_toArray, List.map_cons, List.map_nil]); first | done | rfl | (simp only [List.length_drop, List.length_take]; rfl)) ?_; (with_reducible refine (grade_Span.calls kj9 _ _ l0 x9_2 t261 t262 t263 _ ?side1 ?side2 A13.out).mono ?_); (case side1 => repeat (first | exact (Kd.C_below HR0.out HB.out) | (with_reducible refine Kd.C_alloc ?_ _) | (with_reducible refine Kd.C_drewN ?_ _) | (with_reducible refine Kd.C_drew ?_))); (case side2 => exact HC0.out); rintro e w' ⟨rfl, ⟨nd, rfl⟩⟩; refine ⟨_, rfl, ?_⟩))
                        go_roundg kj9
                        case measure => have := HJ3.out; have := HK2.out; have := HJ9.out; omega
                        case rel => exact ⟨(wrap64 (x9_2 + 1)), (by first | rfl | (simp; done) | (simp [*]; done)), H', ⟨by have := HJ3.out; have := HK2.out; have := HJ9.out; omega⟩, ⟨by repeat (first | (with_reducible first | exact HB.out | apply below_alloc | apply pw_below_drewN | apply below_drew1) | exact HB.out)⟩⟩
                  · rw [if_neg c14] at H
                    have c14b0 : (t263 == 0) = false := beq_eq_false_iff_ne.mpr c14
                    have c14b1 : (t263 != 0) = true := bne_iff_ne.mpr c14
                    exact absurd ((Option.some.inj H).trans hr) (by decide)
                · replace c12 := Bool.eq_false_iff.mpr c12
                  subst c12
                  have H1 : ((grade_Count.f kj9 l2 l0).bind fun bt264 => (if bt264.2.2.2.2 = 0 then (if 0 ≤ (IntKind.u64.wrap ((l2.length : Int))) then (if (wrap64 ((wrap64 ((wrap64 (bt264.1 + bt264.2.1)) + bt264.2.2.1)) + bt264.2.2.2.1)) = (shl .i64 1 (IntKind.u64.wrap ((l2.length : Int)))) then ((quiz_Check.f kj9 l2).bind fun t270 => (if t270 = 0 then ((backhaullaw17_awake.f kj9).bind fun t271 => (some t271)) else (some false))) else (some false)) else (none)) else (if bt264.1 = 0 then (if bt264.2.1 = 0 then (if bt264.2.2.1 = 0 then (if bt264.2.2.2.1 = 0 then ((backhaullaw17_awake.f kj9).bind fun t272 => (some t272)) else (some false)) else (some false)) else (some false)) else (some false)))) = some r := by rw [if_neg (show ¬ (false = true) by decide)] at H; exact H
                  clear H
                  have H := H1
                  clear H1
                  replace H := Option.bind_eq_some_iff.mp H
                  obtain ⟨⟨t264, t265, t266, t267, t268⟩, A180, H⟩ := H
                  replace H : (if t268 = 0 then (if 0 ≤ (IntKind.u64.wrap ((l2.length : Int))) then (if (wrap64 ((wrap64 ((wrap64 (t264 + t265)) + t266)) + t267)) = (shl .i64 1 (IntKind.u64.wrap ((l2.length : Int)))) then ((quiz_Check.f kj9 l2).bind fun t270 => (if t270 = 0 then ((backhaullaw17_awake.f kj9).bind fun t271 => (some t271)) else (some false))) else (some false)) else (none)) else (if t264 = 0 then (if t265 = 0 then (if t266 = 0 then (if t267 = 0 then ((backhaullaw17_awake.f kj9).bind fun t272 => (some t272)) else (some false)) else (some false)) else (some false)) else (some false))) = some r := H
                  have A18 := Aside0.mk A180
                  clear A180
                  by_cases c19 : t268 = 0
                  · rw [if_pos c19] at H
                    have c19b0 : (t268 == 0) = true := beq_iff_eq.mpr c19
                    have c19b1 : (t268 != 0) = false := bne_eq_false_iff_eq.mpr c19
                    clear c19
                    obtain ⟨ji20, hji20⟩ : ∃ j_ : Int, (IntKind.u64.wrap ((l2.length : Int))) = j_ := ⟨_, rfl⟩
                    replace H : (if 0 ≤ (ji20) then (if (wrap64 ((wrap64 ((wrap64 (t264 + t265)) + t266)) + t267)) = (shl .i64 1 (ji20)) then ((quiz_Check.f kj9 l2).bind fun t270 => (if t270 = 0 then ((backhaullaw17_awake.f kj9).bind fun t271 => (some t271)) else (some false))) else (some false)) else (none)) = some r := by first | (rw [hji20] at H; exact H) | (simp only [hji20] at H ⊢; exact H)
                    (try rw [hji20] at A18)
                    by_cases c21 : 0 ≤ (ji20)
                    · rw [if_pos c21] at H
                      have c21b0 := eq_true c21
                      have c21b1 : decide (0 ≤ (ji20)) = true := decide_eq_true c21
                      clear c21
                      obtain ⟨ji22, hji22⟩ : ∃ j_ : Int, (shl .i64 1 (ji20)) = j_ := ⟨_, rfl⟩
                      replace H : (if (wrap64 ((wrap64 ((wrap64 (t264 + t265)) + t266)) + t267)) = (ji22) then ((quiz_Check.f kj9 l2).bind fun t270 => (if t270 = 0 then ((backhaullaw17_awake.f kj9).bind fun t271 => (some t271)) else (some false))) else (some false)) = some r := by first | (rw [hji22] at H; exact H) | (simp only [hji22] at H ⊢; exact H)
                      (try rw [hji22] at A18)
                      have hji22_ : (IntKind.i64.wrap (1 * 2 ^ min (ji20).toNat 64)) = ji22 := hji22
                      have hji22z : (ji20) ≤ 64 → (IntKind.i64.wrap (1 * 2 ^ (ji20).toNat)) = ji22 := shl_small hji22
                      have hji22u : (IntKind.i64.wrap (2 ^ min (ji20).toNat 64)) = ji22 := by have h_ := hji22_; rw [Int.one_mul] at h_; exact h_
                      have hji22v : (ji20) ≤ 64 → (IntKind.i64.wrap (2 ^ (ji20).toNat)) = ji22 := fun hle_ => by have h_ := hji22z hle_; rw [Int.one_mul] at h_; exact h_
                      have hji22y : (wrap64 (1 * 2 ^ min (ji20).toNat 64)) = ji22 := (i64_w _).symm.trans hji22_
                      have hji22x : (ji20) ≤ 64 → (wrap64 (1 * 2 ^ (ji20).toNat)) = ji22 := fun h_ => (i64_w _).symm.trans (hji22z h_)
                      by_cases c23 : (wrap64 ((wrap64 ((wrap64 (t264 + t265)) + t266)) + t267)) = (ji22)
                      · rw [if_pos c23] at H
                        have c23b0 : ((wrap64 ((wrap64 ((wrap64 (t264 + t265)) + t266)) + t267)) == (ji22)) = true := beq_iff_eq.mpr c23
                        have c23b1 : ((wrap64 ((wrap64 ((wrap64 (t264 + t265)) + t266)) + t267)) != (ji22)) = false := bne_eq_false_iff_eq.mpr c23
                        clear c23
                        replace H := Option.bind_eq_some_iff.mp H
                        obtain ⟨t270, A240, H⟩ := H
                        replace H : (if t270 = 0 then ((backhaullaw17_awake.f kj9).bind fun t271 => (some t271)) else (some false)) = some r := H
                        have A24 := Aside0.mk A240
                        clear A240
                        by_cases c25 : t270 = 0
                        · rw [if_pos c25] at H
                          have c25b0 : (t270 == 0) = true := beq_iff_eq.mpr c25
                          have c25b1 : (t270 != 0) = false := bne_eq_false_iff_eq.mpr c25
                          clear c25
                          replace H := Option.bind_eq_some_iff.mp H
                          obtain ⟨t271, A260, H⟩ := H
                          replace H : (some t271) = some r := H
                          have A26 := Aside0.mk A260
                          clear A260
                          obtain rfl := Option.some.inj H
                          go_wp2_with (first | ((with_reducible refine gate_callee (f := 14) rfl ?_); refine goesL_ (some 64) rfl rfl Try.func14 (by kernel_rfl) rfl #[.slice A2 l2.length c2, .slice A0 l0.length c0] rfl (by (try simp only [List.map_toArray, List.map_cons, List.map_nil]); first | done | rfl | (simp only [List.length_drop, List.length_take]; rfl)) ?_; (with_reducible refine (grade_Count.calls kj9 _ _ l2 _ _ l0 t264 t265 t266 t267 t268 _ ?side1 ?side2 ?side3 ?side4 A18.out).mono ?_); (case side1 => repeat (first | exact (Kd.C_below HR2.out HB.out) | (with_reducible refine Kd.C_alloc ?_ _) | (with_reducible refine Kd.C_drewN ?_ _) | (with_reducible refine Kd.C_drew ?_))); (case side2 => exact HC2.out); (case side3 => repeat (first | exact (Kd.C_below HR0.out HB.out) | (with_reducible refine Kd.C_alloc ?_ _) | (with_reducible refine Kd.C_drewN ?_ _) | (with_reducible refine Kd.C_drew ?_))); (case side4 => exact HC0.out); rintro e w27 ⟨rfl, hb⟩; refine ⟨_, rfl, ?_⟩; have n0_ := Aside0.mk (below_step (by repeat (first | (with_reducible first | exact HB.out | apply below_alloc | apply pw_below_drewN | apply below_drew1) | exact HB.out)) hb); clear HB; have HB := n0_; clear n0_; (try clear hb); (try clear hb2); (try clear hk); (try clear hi)) | ((with_reducible refine gate_dst (N := 13) rfl ?_); (try (refine gate_guard (by rfl) ?_; dsimp only)); refine box_event ?hg (N := 13) ?hd (cs := #[.int .i64 0, .int .i64 0, .int .i64 0, .int .i64 0]) (t := 36) ?hr ?_; (case hd => rfl); (case hg => rfl); (case hr => first | (go_simp; done) | (go_simp; rfl)); intro gb269 hg w28 hbox hb; have n0_ := Aside0.mk (below_step (by repeat (first | (with_reducible first | exact HB.out | apply below_alloc | apply pw_below_drewN | apply below_drew1) | exact HB.out)) hb); have n1_ := Aside0.mk (hbox); have n2_ := Aside0.mk ((by rw [hg]; exact (below_size (by repeat (first | (with_reducible first | exact HB.out | apply below_alloc | apply pw_below_drewN | apply below_drew1) | exact HB.out))) : w.heap.size ≤ gb269)); have n3_ := Aside0.mk ((by rw [hg]; exact (below_size (by repeat (first | (with_reducible first | exact HB.out | apply below_alloc | apply pw_below_drewN | apply below_drew1) | exact HB.out))) : w.heap.size ≤ gb269)); clear HB; have HB := n0_; have BK269 := n1_; have GW269 := n2_; have GE269 := n3_; clear n0_ n1_ n2_ n3_; clear hb hbox hg; have hcz29_0 : w28.cell? ⟨gb269, 0, none⟩ = some (.int .i64 0) := (blk_cell BK269.out 0).trans rfl; have hcz29_1 : w28.cell? ⟨gb269, 1, none⟩ = some (.int .i64 0) := (blk_cell BK269.out 1).trans rfl; have hcz29_2 : w28.cell? ⟨gb269, 2, none⟩ = some (.int .i64 0) := (blk_cell BK269.out 2).trans rfl; have hcz29_3 : w28.cell? ⟨gb269, 3, none⟩ = some (.int .i64 0) := (blk_cell BK269.out 3).trans rfl; have hfz29_0 := blk_frozen BK269.out 0; have hfz29_1 := blk_frozen BK269.out 1; have hfz29_2 := blk_frozen BK269.out 2; have hfz29_3 := blk_frozen BK269.out 3) | (go_at_call 17; (with_reducible refine (quiz_Check.calls kj9 _ _ l2 t270 _ ?side1 ?side2 A24.out).mono ?_); (case side1 => exact Kd.C_below HR2.out (by repeat (first | (with_reducible first | exact HB.out | apply below_alloc | apply pw_below_drewN | apply below_drew1 | refine below_set ?_ GE269.out) | exact HB.out))); (case side2 => exact HC2.out); rintro e w' ⟨rfl, ⟨nd, rfl⟩⟩) | (go_at_call 7; (with_reducible refine (backhaullaw17_awake.calls kj9  t271 _ A26.out).mono ?_); rintro e w30 ⟨rfl, hb⟩; have n0_ := Aside0.mk (blk_below (g := gb269) (o := .cells #[.int .i64 t264, .int .i64 t265, .int .i64 t266, .int .i64 t267] 36 (0, 0)) (by (with_reducible repeat (first | refine blk_drewN ?_ _ | refine blk_drew ?_ | refine blk_alloc ?_ _)); refine blk_put (cs := #[.int .i64 t264, .int .i64 t265, .int .i64 t266, .int .i64 0]) ?_ 3 _ rfl; (with_reducible repeat (first | refine blk_drewN ?_ _ | refine blk_drew ?_ | refine blk_alloc ?_ _)); refine blk_put (cs := #[.int .i64 t264, .int .i64 t265, .int .i64 0, .int .i64 0]) ?_ 2 _ rfl; (with_reducible repeat (first | refine blk_drewN ?_ _ | refine blk_drew ?_ | refine blk_alloc ?_ _)); refine blk_put (cs := #[.int .i64 t264, .int .i64 0, .int .i64 0, .int .i64 0]) ?_ 1 _ rfl; (with_reducible repeat (first | refine blk_drewN ?_ _ | refine blk_drew ?_ | refine blk_alloc ?_ _)); refine blk_put (cs := #[.int .i64 0, .int .i64 0, .int .i64 0, .int .i64 0]) ?_ 0 _ rfl; (with_reducible repeat (first | refine blk_drewN ?_ _ | refine blk_drew ?_ | refine blk_alloc ?_ _)); exact BK269.out) hb); have n1_ := Aside0.mk (below_step (by repeat (first | (with_reducible first | exact HB.out | apply below_alloc | apply pw_below_drewN | apply below_drew1 | refine below_set ?_ GE269.out) | exact HB.out)) hb); clear BK269; clear HB; have BK269 := n0_; have HB := n1_; clear n0_ n1_; (try clear hb); (try clear hb2); (try clear hk); (try clear hi)))
                          go_ret
                          exact ⟨by first | rfl | (simp [errW_none, errW_some] <;> rfl) | (simp only [← hji20, ← hji22]; first | rfl | (simp [errW_none, errW_some] <;> rfl)) | (simp [*, errW_none, errW_some] <;> rfl), by repeat (first | (with_reducible first | exact HB.out | apply below_alloc | apply pw_below_drewN | apply below_drew1 | refine below_set ?_ GE269.out) | exact HB.out)⟩
                        · rw [if_neg c25] at H
                          have c25b0 : (t270 == 0) = false := beq_eq_false_iff_ne.mpr c25
                          have c25b1 : (t270 != 0) = true := bne_iff_ne.mpr c25
                          exact absurd ((Option.some.inj H).trans hr) (by decide)
                      · rw [if_neg c23] at H
                        have c23b0 : ((wrap64 ((wrap64 ((wrap64 (t264 + t265)) + t266)) + t267)) == (ji22)) = false := beq_eq_false_iff_ne.mpr c23
                        have c23b1 : ((wrap64 ((wrap64 ((wrap64 (t264 + t265)) + t266)) + t267)) != (ji22)) = true := bne_iff_ne.mpr c23
                        exact absurd ((Option.some.inj H).trans hr) (by decide)
                    · rw [if_neg c21] at H
                      exact absurd H (by simp)
                  · rw [if_neg c19] at H
                    have c19b0 : (t268 == 0) = false := beq_eq_false_iff_ne.mpr c19
                    have c19b1 : (t268 != 0) = true := bne_iff_ne.mpr c19
                    by_cases c31 : t264 = 0
                    · rw [if_pos c31] at H
                      have c31b0 : (t264 == 0) = true := beq_iff_eq.mpr c31
                      have c31b1 : (t264 != 0) = false := bne_eq_false_iff_eq.mpr c31
                      clear c31
                      by_cases c32 : t265 = 0
                      · rw [if_pos c32] at H
                        have c32b0 : (t265 == 0) = true := beq_iff_eq.mpr c32
                        have c32b1 : (t265 != 0) = false := bne_eq_false_iff_eq.mpr c32
                        clear c32
                        by_cases c33 : t266 = 0
                        · rw [if_pos c33] at H
                          have c33b0 : (t266 == 0) = true := beq_iff_eq.mpr c33
                          have c33b1 : (t266 != 0) = false := bne_eq_false_iff_eq.mpr c33
                          clear c33
                          by_cases c34 : t267 = 0
                          · rw [if_pos c34] at H
                            have c34b0 : (t267 == 0) = true := beq_iff_eq.mpr c34
                            have c34b1 : (t267 != 0) = false := bne_eq_false_iff_eq.mpr c34
                            clear c34
                            replace H := Option.bind_eq_some_iff.mp H
                            obtain ⟨t272, A350, H⟩ := H
                            replace H : (some t272) = some r := H
                            have A35 := Aside0.mk A350
                            clear A350
                            obtain rfl := Option.some.inj H
                            go_wp2_with (first | ((with_reducible refine gate_callee (f := 14) rfl ?_); refine goesL_ (some 64) rfl rfl Try.func14 (by kernel_rfl) rfl #[.slice A2 l2.length c2, .slice A0 l0.length c0] rfl (by (try simp only [List.map_toArray, List.map_cons, List.map_nil]); first | done | rfl | (simp only [List.length_drop, List.length_take]; rfl)) ?_; (with_reducible refine (grade_Count.calls kj9 _ _ l2 _ _ l0 t264 t265 t266 t267 t268 _ ?side1 ?side2 ?side3 ?side4 A18.out).mono ?_); (case side1 => repeat (first | exact (Kd.C_below HR2.out HB.out) | (with_reducible refine Kd.C_alloc ?_ _) | (with_reducible refine Kd.C_drewN ?_ _) | (with_reducible refine Kd.C_drew ?_))); (case side2 => exact HC2.out); (case side3 => repeat (first | exact (Kd.C_below HR0.out HB.out) | (with_reducible refine Kd.C_alloc ?_ _) | (with_reducible refine Kd.C_drewN ?_ _) | (with_reducible refine Kd.C_drew ?_))); (case side4 => exact HC0.out); rintro e w36 ⟨rfl, hb⟩; refine ⟨_, rfl, ?_⟩; have n0_ := Aside0.mk (below_step (by repeat (first | (with_reducible first | exact HB.out | apply below_alloc | apply pw_below_drewN | apply below_drew1) | exact HB.out)) hb); clear HB; have HB := n0_; clear n0_; (try clear hb); (try clear hb2); (try clear hk); (try clear hi)) | ((with_reducible refine gate_dst (N := 13) rfl ?_); (try (refine gate_guard (by rfl) ?_; dsimp only)); refine box_event ?hg (N := 13) ?hd (cs := #[.int .i64 0, .int .i64 0, .int .i64 0, .int .i64 0]) (t := 36) ?hr ?_; (case hd => rfl); (case hg => rfl); (case hr => first | (go_simp; done) | (go_simp; rfl)); intro gb269 hg w37 hbox hb; have n0_ := Aside0.mk (below_step (by repeat (first | (with_reducible first | exact HB.out | apply below_alloc | apply pw_below_drewN | apply below_drew1) | exact HB.out)) hb); have n1_ := Aside0.mk (hbox); have n2_ := Aside0.mk ((by rw [hg]; exact (below_size (by repeat (first | (with_reducible first | exact HB.out | apply below_alloc | apply pw_below_drewN | apply below_drew1) | exact HB.out))) : w.heap.size ≤ gb269)); have n3_ := Aside0.mk ((by rw [hg]; exact (below_size (by repeat (first | (with_reducible first | exact HB.out | apply below_alloc | apply pw_below_drewN | apply below_drew1) | exact HB.out))) : w.heap.size ≤ gb269)); clear HB; have HB := n0_; have BK269 := n1_; have GW269 := n2_; have GE269 := n3_; clear n0_ n1_ n2_ n3_; clear hb hbox hg; have hcz38_0 : w37.cell? ⟨gb269, 0, none⟩ = some (.int .i64 0) := (blk_cell BK269.out 0).trans rfl; have hcz38_1 : w37.cell? ⟨gb269, 1, none⟩ = some (.int .i64 0) := (blk_cell BK269.out 1).trans rfl; have hcz38_2 : w37.cell? ⟨gb269, 2, none⟩ = some (.int .i64 0) := (blk_cell BK269.out 2).trans rfl; have hcz38_3 : w37.cell? ⟨gb269, 3, none⟩ = some (.int .i64 0) := (blk_cell BK269.out 3).trans rfl; have hfz38_0 := blk_frozen BK269.out 0; have hfz38_1 := blk_frozen BK269.out 1; have hfz38_2 := blk_frozen BK269.out 2; have hfz38_3 := blk_frozen BK269.out 3) | (go_at_call 7; (with_reducible refine (backhaullaw17_awake.calls kj9  t272 _ A35.out).mono ?_); rintro e w39 ⟨rfl, hb⟩; have n0_ := Aside0.mk (blk_below (g := gb269) (o := .cells #[.int .i64 t264, .int .i64 t265, .int .i64 t266, .int .i64 t267] 36 (0, 0)) (by (with_reducible repeat (first | refine blk_drewN ?_ _ | refine blk_drew ?_ | refine blk_alloc ?_ _)); refine blk_put (cs := #[.int .i64 t264, .int .i64 t265, .int .i64 t266, .int .i64 0]) ?_ 3 _ rfl; (with_reducible repeat (first | refine blk_drewN ?_ _ | refine blk_drew ?_ | refine blk_alloc ?_ _)); refine blk_put (cs := #[.int .i64 t264, .int .i64 t265, .int .i64 0, .int .i64 0]) ?_ 2 _ rfl; (with_reducible repeat (first | refine blk_drewN ?_ _ | refine blk_drew ?_ | refine blk_alloc ?_ _)); refine blk_put (cs := #[.int .i64 t264, .int .i64 0, .int .i64 0, .int .i64 0]) ?_ 1 _ rfl; (with_reducible repeat (first | refine blk_drewN ?_ _ | refine blk_drew ?_ | refine blk_alloc ?_ _)); refine blk_put (cs := #[.int .i64 0, .int .i64 0, .int .i64 0, .int .i64 0]) ?_ 0 _ rfl; (with_reducible repeat (first | refine blk_drewN ?_ _ | refine blk_drew ?_ | refine blk_alloc ?_ _)); exact BK269.out) hb); have n1_ := Aside0.mk (below_step (by repeat (first | (with_reducible first | exact HB.out | apply below_alloc | apply pw_below_drewN | apply below_drew1 | refine below_set ?_ GE269.out) | exact HB.out)) hb); clear BK269; clear HB; have BK269 := n0_; have HB := n1_; clear n0_ n1_; (try clear hb); (try clear hb2); (try clear hk); (try clear hi)))
                            go_ret
                            exact ⟨by first | rfl | (simp [errW_none, errW_some] <;> rfl) | (simp [*, errW_none, errW_some] <;> rfl), by repeat (first | (with_reducible first | exact HB.out | apply below_alloc | apply pw_below_drewN | apply below_drew1 | refine below_set ?_ GE269.out) | exact HB.out)⟩
                          · rw [if_neg c34] at H
                            have c34b0 : (t267 == 0) = false := beq_eq_false_iff_ne.mpr c34
                            have c34b1 : (t267 != 0) = true := bne_iff_ne.mpr c34
                            exact absurd ((Option.some.inj H).trans hr) (by decide)
                        · rw [if_neg c33] at H
                          have c33b0 : (t266 == 0) = false := beq_eq_false_iff_ne.mpr c33
                          have c33b1 : (t266 != 0) = true := bne_iff_ne.mpr c33
                          exact absurd ((Option.some.inj H).trans hr) (by decide)
                      · rw [if_neg c32] at H
                        have c32b0 : (t265 == 0) = false := beq_eq_false_iff_ne.mpr c32
                        have c32b1 : (t265 != 0) = true := bne_iff_ne.mpr c32
                        exact absurd ((Option.some.inj H).trans hr) (by decide)
                    · rw [if_neg c31] at H
                      have c31b0 : (t264 == 0) = false := beq_eq_false_iff_ne.mpr c31
                      have c31b1 : (t264 != 0) = true := bne_iff_ne.mpr c31
                      exact absurd ((Option.some.inj H).trans hr) (by decide)

/-- THE ONE PURE STATEMENT of backhaullaw17_GradeAll: yours. -/
def backhaullaw17_GradeAll.Pure : Prop := ∀ (l0 : List Int) (a1 : Int) (l2 : List Int), l0.length ≤ maxLen → l0.length * 8 ≤ 140737488351232 → (∀ x ∈ l0, (Lit.int .i64 x).wf = true) → (Lit.int .i64 a1).wf = true → l2.length ≤ maxLen → l2.length * 8 ≤ 140737488351232 → (∀ x ∈ l2, (Lit.int .i64 x).wf = true) → ∃ k, backhaullaw17_GradeAll.f k l0 a1 l2 = some true
theorem backhaullaw17_GradeAll.walk (P : backhaullaw17_GradeAll.Pure) (a0 : Option Addr) (len0 cap0 : Nat) (z0 : List Int) (a1 : Int) (a2 : Option Addr) (len2 cap2 : Nat) (z2 : List Int) (w : World) (w0 : (a0 = none ∧ len0 = 0 ∧ cap0 = 0 ∧ z0 = []) ∨ ∃ x, a0 = some x ∧ len0 ≤ cap0 ∧ cap0 ≤ maxLen ∧ z0.length = cap0 ∧ (∀ i, i < z0.length → w.cell? (x.add i) = some (.int .i64 (z0.getD i 0))) ∧ ∀ n ∈ z0, (Lit.int .i64 n).wf = true) (y0 : len0 * 8 ≤ 140737488351232) (w1 : (Lit.int .i64 a1).wf = true) (w2 : (a2 = none ∧ len2 = 0 ∧ cap2 = 0 ∧ z2 = []) ∨ ∃ x, a2 = some x ∧ len2 ≤ cap2 ∧ cap2 ≤ maxLen ∧ z2.length = cap2 ∧ (∀ i, i < z2.length → w.cell? (x.add i) = some (.int .i64 (z2.getD i 0))) ∧ ∀ n ∈ z2, (Lit.int .i64 n).wf = true) (y2 : len2 * 8 ≤ 140737488351232) :
    Calls Try.prog 6 #[.slice a0 len0 cap0, .int .i64 a1, .slice a2 len2 cap2] w fun e w' => e = .returned (.bool true) ∧ Below w.heap.size w w' := by
  obtain ⟨l0, rfl, hr0, hm0, hw0, hc0⟩ := ReadsInt.ofRowC w0
  obtain ⟨l2, rfl, hr2, hm2, hw2, hc2⟩ := ReadsInt.ofRowC w2
  obtain ⟨k, h⟩ := P l0 a1 l2 hm0 y0 hw0 w1 hm2 y2 hw2
  refine (backhaullaw17_GradeAll.calls_t k _ _ l0 a1 _ _ l2 true w (Kd.C_of_reads (d := (0 : Int)) (h1 := fun _ => rfl) hr0) hc0 (Kd.C_of_reads (d := (0 : Int)) (h1 := fun _ => rfl) hr2) hc2 h rfl).mono ?_
  rintro e w' ⟨rfl, hd⟩
  exact ⟨rfl, hd⟩

end Go.Proofs.Ytokoipmbhohoiaa.PGrade
