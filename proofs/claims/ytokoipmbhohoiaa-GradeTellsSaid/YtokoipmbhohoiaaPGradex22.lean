-- PRINTED by printx.py (the kit's print, with contracts that were written by hand in the place of what it does not print). Not trusted: Lean checks it.
import Derived.Test.YtokoipmbhohoiaaPGradex0
import Derived.Test.YtokoipmbhohoiaaPGradex4
import Derived.Test.YtokoipmbhohoiaaPGradex8
import Derived.Test.YtokoipmbhohoiaaPGradex9
import Derived.Test.YtokoipmbhohoiaaPGradex17
import Derived.Test.YtokoipmbhohoiaaPGradex18
import Derived.Test.YtokoipmbhohoiaaPGradex20
import Derived.Test.YtokoipmbhohoiaaPGradex21
namespace Go.Proofs.Ytokoipmbhohoiaa.PGrade
open Go.RowKit Go.Proofs.YtokoipmbhohoiaaW.PrintWords Go.Proofs.YtokoipmbhohoiaaW.PrintLast Go.Proofs.YtokoipmbhohoiaaW.PrintMore
attribute [local go_sem] max2_int min2_int max_two min_two max_three min_three max_four min_four   -- for this text's walks alone
set_option linter.unusedVariables false
set_option linter.unusedSimpArgs false

/-! ### backhaullaw17_GradeTells: function 3 -/
def backhaullaw17_GradeTells.f (k : Nat) (l0 : List Int) (a1 : Int) (a2 : Int) : Option (Bool) := if (l0.length : Int) > 100 then ((backhaullaw17_awake.f k).bind fun t194 => (some t194)) else ((grade_Of.f k l0 a1).bind fun bt195 => ((backhaulref17_Of.f k l0 a1).bind fun bt197 => ((grade_Span.f k l0 a2).bind fun bt199 => ((backhaulref17_Span.f k l0 a2).bind fun bt202 => ((grade_Check.f k l0).bind fun t205 => ((backhaulref17_Check.f l0).bind fun t206 => (if t205 = t206 then (if bt195.1 = bt197.1 then (if bt195.2 = bt197.2 then (if bt199.1 = bt202.1 then (if bt199.2.1 = bt202.2.1 then (if bt199.2.2 = bt202.2.2 then ((backhaullaw17_awake.f k).bind fun t207 => (some t207)) else (some false)) else (some false)) else (some false)) else (some false)) else (some false)) else (some false))))))))
theorem backhaullaw17_GradeTells.mono : ∀ a0 a1 a2 k, LeO (backhaullaw17_GradeTells.f k a0 a1 a2) (backhaullaw17_GradeTells.f (k + 1) a0 a1 a2) := by
  intro a0 a1 a2 k
  unfold backhaullaw17_GradeTells.f
  repeat' first
      | (with_reducible exact backhaullaw17_awake.mono _)
      | (with_reducible exact backhaulref17_Of.mono _ _ _)
      | (with_reducible exact backhaulref17_Span.mono _ _ _)
      | (with_reducible exact grade_Check.mono _ _)
      | (with_reducible exact grade_Of.mono _ _ _)
      | (with_reducible exact grade_Span.mono _ _ _)
      | (with_reducible exact LeO.refl _)
      | (with_reducible exact LeO.none _)
      | (with_reducible refine LeO.ite ?_ ?_)
      | (with_reducible refine LeO.bind ?_ (fun _ => ?_))
      | exact backhaullaw17_awake.mono _
      | exact backhaulref17_Of.mono _ _ _
      | exact backhaulref17_Span.mono _ _ _
      | exact grade_Check.mono _ _
      | exact grade_Of.mono _ _ _
      | exact grade_Span.mono _ _ _
      | exact LeO.none _
      | refine LeO.ite ?_ ?_
      | refine LeO.bind ?_ (fun _ => ?_)
set_option maxHeartbeats 8000000 in
set_option maxRecDepth 100000 in
theorem backhaullaw17_GradeTells.calls_t (k : Nat) (A0 : Option Addr) (c0 : Nat) (l0 : List Int) (a1 : Int) (a2 : Int) (r : Bool) (w : World) (hr0 : Kd.C (Kd.int .i64) w A0 l0.length l0) (hc0 : l0.length ≤ c0) (h : backhaullaw17_GradeTells.f k l0 a1 a2 = some r) (hr : r = true) :
    Calls Try.prog 3 #[.slice A0 l0.length c0, .int .i64 a1, .int .i64 a2] w fun e w' => e = .returned (.bool r) ∧ Below w.heap.size w w' := by
  have HR0 := Aside0.mk hr0
  have HC0 := Aside0.mk hc0
  clear hr0 hc0
  have HB := Aside0.mk (Below.refl w.heap.size w)
  have H : (if (l0.length : Int) > 100 then ((backhaullaw17_awake.f k).bind fun t194 => (some t194)) else ((grade_Of.f k l0 a1).bind fun bt195 => ((backhaulref17_Of.f k l0 a1).bind fun bt197 => ((grade_Span.f k l0 a2).bind fun bt199 => ((backhaulref17_Span.f k l0 a2).bind fun bt202 => ((grade_Check.f k l0).bind fun t205 => ((backhaulref17_Check.f l0).bind fun t206 => (if t205 = t206 then (if bt195.1 = bt197.1 then (if bt195.2 = bt197.2 then (if bt199.1 = bt202.1 then (if bt199.2.1 = bt202.2.1 then (if bt199.2.2 = bt202.2.2 then ((backhaullaw17_awake.f k).bind fun t207 => (some t207)) else (some false)) else (some false)) else (some false)) else (some false)) else (some false)) else (some false))))))))) = some r := h
  clear h
  by_cases c4 : (l0.length : Int) > 100
  · rw [if_pos c4] at H
    have c4b0 : decide (100 < (l0.length : Int)) = true := decide_eq_true c4
    have c4b1 : decide (100 < l0.length) = true := decide_eq_true (by omega)
    clear c4
    replace H := Option.bind_eq_some_iff.mp H
    obtain ⟨t194, A50, H⟩ := H
    replace H : (some t194) = some r := H
    have A5 := Aside0.mk A50
    clear A50
    obtain rfl := Option.some.inj H
    go_enter Try.func3, Try.ntmps3
    go_wp2_with (first | ((with_reducible refine gate_callee (f := 7) rfl ?_); refine goesL_ (some 20) rfl rfl Try.func7 (by kernel_rfl) rfl #[] rfl (by (try simp only [List.map_toArray, List.map_cons, List.map_nil]); first | done | rfl | (simp only [List.length_drop, List.length_take]; rfl)) ?_; (with_reducible refine (backhaullaw17_awake.calls k  t194 _ A5.out).mono ?_); rintro e w6 ⟨rfl, hb⟩; refine ⟨_, rfl, ?_⟩; have n0_ := Aside0.mk (below_step (by repeat (first | (with_reducible first | exact HB.out | apply below_alloc | apply pw_below_drewN | apply below_drew1) | exact HB.out)) hb); clear HB; have HB := n0_; clear n0_; (try clear hb); (try clear hb2); (try clear hk); (try clear hi)))
    go_ret
    exact ⟨by first | rfl | (simp [errW_none, errW_some] <;> rfl) | (simp [*, errW_none, errW_some] <;> rfl), by repeat (first | (with_reducible first | exact HB.out | apply below_alloc | apply pw_below_drewN | apply below_drew1) | exact HB.out)⟩
  · rw [if_neg c4] at H
    have c4b0 : decide (100 < (l0.length : Int)) = false := decide_eq_false c4
    have c4b1 : decide (100 < l0.length) = false := decide_eq_false (by omega)
    clear c4
    replace H := Option.bind_eq_some_iff.mp H
    obtain ⟨⟨t195, t196⟩, A70, H⟩ := H
    replace H : ((backhaulref17_Of.f k l0 a1).bind fun bt197 => ((grade_Span.f k l0 a2).bind fun bt199 => ((backhaulref17_Span.f k l0 a2).bind fun bt202 => ((grade_Check.f k l0).bind fun t205 => ((backhaulref17_Check.f l0).bind fun t206 => (if t205 = t206 then (if t195 = bt197.1 then (if t196 = bt197.2 then (if bt199.1 = bt202.1 then (if bt199.2.1 = bt202.2.1 then (if bt199.2.2 = bt202.2.2 then ((backhaullaw17_awake.f k).bind fun t207 => (some t207)) else (some false)) else (some false)) else (some false)) else (some false)) else (some false)) else (some false))))))) = some r := H
    have A7 := Aside0.mk A70
    clear A70
    replace H := Option.bind_eq_some_iff.mp H
    obtain ⟨⟨t197, t198⟩, A80, H⟩ := H
    replace H : ((grade_Span.f k l0 a2).bind fun bt199 => ((backhaulref17_Span.f k l0 a2).bind fun bt202 => ((grade_Check.f k l0).bind fun t205 => ((backhaulref17_Check.f l0).bind fun t206 => (if t205 = t206 then (if t195 = t197 then (if t196 = t198 then (if bt199.1 = bt202.1 then (if bt199.2.1 = bt202.2.1 then (if bt199.2.2 = bt202.2.2 then ((backhaullaw17_awake.f k).bind fun t207 => (some t207)) else (some false)) else (some false)) else (some false)) else (some false)) else (some false)) else (some false)))))) = some r := H
    have A8 := Aside0.mk A80
    clear A80
    replace H := Option.bind_eq_some_iff.mp H
    obtain ⟨⟨t199, t200, t201⟩, A90, H⟩ := H
    replace H : ((backhaulref17_Span.f k l0 a2).bind fun bt202 => ((grade_Check.f k l0).bind fun t205 => ((backhaulref17_Check.f l0).bind fun t206 => (if t205 = t206 then (if t195 = t197 then (if t196 = t198 then (if t199 = bt202.1 then (if t200 = bt202.2.1 then (if t201 = bt202.2.2 then ((backhaullaw17_awake.f k).bind fun t207 => (some t207)) else (some false)) else (some false)) else (some false)) else (some false)) else (some false)) else (some false))))) = some r := H
    have A9 := Aside0.mk A90
    clear A90
    replace H := Option.bind_eq_some_iff.mp H
    obtain ⟨⟨t202, t203, t204⟩, A100, H⟩ := H
    replace H : ((grade_Check.f k l0).bind fun t205 => ((backhaulref17_Check.f l0).bind fun t206 => (if t205 = t206 then (if t195 = t197 then (if t196 = t198 then (if t199 = t202 then (if t200 = t203 then (if t201 = t204 then ((backhaullaw17_awake.f k).bind fun t207 => (some t207)) else (some false)) else (some false)) else (some false)) else (some false)) else (some false)) else (some false)))) = some r := H
    have A10 := Aside0.mk A100
    clear A100
    replace H := Option.bind_eq_some_iff.mp H
    obtain ⟨t205, A110, H⟩ := H
    replace H : ((backhaulref17_Check.f l0).bind fun t206 => (if t205 = t206 then (if t195 = t197 then (if t196 = t198 then (if t199 = t202 then (if t200 = t203 then (if t201 = t204 then ((backhaullaw17_awake.f k).bind fun t207 => (some t207)) else (some false)) else (some false)) else (some false)) else (some false)) else (some false)) else (some false))) = some r := H
    have A11 := Aside0.mk A110
    clear A110
    replace H := Option.bind_eq_some_iff.mp H
    obtain ⟨t206, A120, H⟩ := H
    replace H : (if t205 = t206 then (if t195 = t197 then (if t196 = t198 then (if t199 = t202 then (if t200 = t203 then (if t201 = t204 then ((backhaullaw17_awake.f k).bind fun t207 => (some t207)) else (some false)) else (some false)) else (some false)) else (some false)) else (some false)) else (some false)) = some r := H
    have A12 := Aside0.mk A120
    clear A120
    by_cases c13 : t205 = t206
    · rw [if_pos c13] at H
      have c13b0 : (t205 == t206) = true := beq_iff_eq.mpr c13
      have c13b1 : (t205 != t206) = false := bne_eq_false_iff_eq.mpr c13
      clear c13
      by_cases c14 : t195 = t197
      · rw [if_pos c14] at H
        have c14b0 : (t195 == t197) = true := beq_iff_eq.mpr c14
        have c14b1 : (t195 != t197) = false := bne_eq_false_iff_eq.mpr c14
        clear c14
        by_cases c15 : t196 = t198
        · rw [if_pos c15] at H
          have c15b0 : (t196 == t198) = true := beq_iff_eq.mpr c15
          have c15b1 : (t196 != t198) = false := bne_eq_false_iff_eq.mpr c15
          clear c15
          by_cases c16 : t199 = t202
          · rw [if_pos c16] at H
            have c16b0 : (t199 == t202) = true := beq_iff_eq.mpr c16
            have c16b1 : (t199 != t202) = false := bne_eq_false_iff_eq.mpr c16
            clear c16
            by_cases c17 : t200 = t203
            · rw [if_pos c17] at H
              have c17b0 : (t200 == t203) = true := beq_iff_eq.mpr c17
              have c17b1 : (t200 != t203) = false := bne_eq_false_iff_eq.mpr c17
              clear c17
              by_cases c18 : t201 = t204
              · rw [if_pos c18] at H
                have c18b0 : (t201 == t204) = true := beq_iff_eq.mpr c18
                have c18b1 : (t201 != t204) = false := bne_eq_false_iff_eq.mpr c18
                clear c18
                replace H := Option.bind_eq_some_iff.mp H
                obtain ⟨t207, A190, H⟩ := H
                replace H : (some t207) = some r := H
                have A19 := Aside0.mk A190
                clear A190
                obtain rfl := Option.some.inj H
                go_enter Try.func3, Try.ntmps3
                go_wp2_with (first | ((with_reducible refine gate_callee (f := 8) rfl ?_); refine goesL_ (some 24) rfl rfl Try.func8 (by kernel_rfl) rfl #[.slice A0 l0.length c0, .int .i64 a1] rfl (by (try simp only [List.map_toArray, List.map_cons, List.map_nil]); first | done | rfl | (simp only [List.length_drop, List.length_take]; rfl)) ?_; (with_reducible refine (grade_Of.calls k _ _ l0 a1 t195 t196 _ ?side1 ?side2 A7.out).mono ?_); (case side1 => repeat (first | exact HR0.out | (with_reducible refine Kd.C_alloc ?_ _) | (with_reducible refine Kd.C_drewN ?_ _) | (with_reducible refine Kd.C_drew ?_))); (case side2 => exact HC0.out); rintro e w' ⟨rfl, ⟨nd, rfl⟩⟩; refine ⟨_, rfl, ?_⟩) | ((with_reducible refine gate_callee (f := 9) rfl ?_); refine goesL_ (some 30) rfl rfl Try.func9 (by kernel_rfl) rfl #[.slice A0 l0.length c0, .int .i64 a1] rfl (by (try simp only [List.map_toArray, List.map_cons, List.map_nil]); first | done | rfl | (simp only [List.length_drop, List.length_take]; rfl)) ?_; (with_reducible refine (backhaulref17_Of.calls k _ _ l0 a1 t197 t198 _ ?side1 ?side2 A8.out).mono ?_); (case side1 => repeat (first | exact HR0.out | (with_reducible refine Kd.C_alloc ?_ _) | (with_reducible refine Kd.C_drewN ?_ _) | (with_reducible refine Kd.C_drew ?_))); (case side2 => exact HC0.out); rintro e w' ⟨rfl, ⟨nd, rfl⟩⟩; refine ⟨_, rfl, ?_⟩) | ((with_reducible refine gate_callee (f := 10) rfl ?_); refine goesL_ (some 36) rfl rfl Try.func10 (by kernel_rfl) rfl #[.slice A0 l0.length c0, .int .i64 a2] rfl (by (try simp only [List.map_toArray, List.map_cons, List.map_nil]); first | done | rfl | (simp only [List.length_drop, List.length_take]; rfl)) ?_; (with_reducible refine (grade_Span.calls k _ _ l0 a2 t199 t200 t201 _ ?side1 ?side2 A9.out).mono ?_); (case side1 => repeat (first | exact HR0.out | (with_reducible refine Kd.C_alloc ?_ _) | (with_reducible refine Kd.C_drewN ?_ _) | (with_reducible refine Kd.C_drew ?_))); (case side2 => exact HC0.out); rintro e w' ⟨rfl, ⟨nd, rfl⟩⟩; refine ⟨_, rfl, ?_⟩) | ((with_reducible refine gate_callee (f := 11) rfl ?_); refine goesL_ (some 43) rfl rfl Try.func11 (by kernel_rfl) rfl #[.slice A0 l0.length c0, .int .i64 a2] rfl (by (try simp only [List.map_toArray, List.map_cons, List.map_nil]); first | done | rfl | (simp only [List.length_drop, List.length_take]; rfl)) ?_; (with_reducible refine (backhaulref17_Span.calls k _ _ l0 a2 t202 t203 t204 _ ?side1 ?side2 A10.out).mono ?_); (case side1 => repeat (first | exact HR0.out | (with_reducible refine Kd.C_alloc ?_ _) | (with_reducible refine Kd.C_drewN ?_ _) | (with_reducible refine Kd.C_drew ?_))); (case side2 => exact HC0.out); rintro e w' ⟨rfl, ⟨nd, rfl⟩⟩; refine ⟨_, rfl, ?_⟩) | ((with_reducible refine gate_callee (f := 12) rfl ?_); refine goesL_ (some 48) rfl rfl Try.func12 (by kernel_rfl) rfl #[.slice A0 l0.length c0] rfl (by (try simp only [List.map_toArray, List.map_cons, List.map_nil]); first | done | rfl | (simp only [List.length_drop, List.length_take]; rfl)) ?_; (with_reducible refine (grade_Check.calls k _ _ l0 t205 _ ?side1 ?side2 A11.out).mono ?_); (case side1 => repeat (first | exact HR0.out | (with_reducible refine Kd.C_alloc ?_ _) | (with_reducible refine Kd.C_drewN ?_ _) | (with_reducible refine Kd.C_drew ?_))); (case side2 => exact HC0.out); rintro e w' ⟨rfl, ⟨nd, rfl⟩⟩; refine ⟨_, rfl, ?_⟩) | ((with_reducible refine gate_callee (f := 13) rfl ?_); refine goesL_ (some 50) rfl rfl Try.func13 (by kernel_rfl) rfl #[.slice A0 l0.length c0] rfl (by (try simp only [List.map_toArray, List.map_cons, List.map_nil]); first | done | rfl | (simp only [List.length_drop, List.length_take]; rfl)) ?_; (with_reducible refine (backhaulref17_Check.calls _ _ l0 t206 _ ?side1 ?side2 A12.out).mono ?_); (case side1 => repeat (first | exact HR0.out | (with_reducible refine Kd.C_alloc ?_ _) | (with_reducible refine Kd.C_drewN ?_ _) | (with_reducible refine Kd.C_drew ?_))); (case side2 => exact HC0.out); rintro e w' ⟨rfl, ⟨nd, rfl⟩⟩; refine ⟨_, rfl, ?_⟩) | (go_at_call 7; (with_reducible refine (backhaullaw17_awake.calls k  t207 _ A19.out).mono ?_); rintro e w20 ⟨rfl, hb⟩; have n0_ := Aside0.mk (below_step (by repeat (first | (with_reducible first | exact HB.out | apply below_alloc | apply pw_below_drewN | apply below_drew1) | exact HB.out)) hb); clear HB; have HB := n0_; clear n0_; (try clear hb); (try clear hb2); (try clear hk); (try clear hi)))
                go_ret
                exact ⟨by first | rfl | (simp [errW_none, errW_some] <;> rfl) | (simp [*, errW_none, errW_some] <;> rfl), by repeat (first | (with_reducible first | exact HB.out | apply below_alloc | apply pw_below_drewN | apply below_drew1) | exact HB.out)⟩
              · rw [if_neg c18] at H
                have c18b0 : (t201 == t204) = false := beq_eq_false_iff_ne.mpr c18
                have c18b1 : (t201 != t204) = true := bne_iff_ne.mpr c18
                exact absurd ((Option.some.inj H).trans hr) (by decide)
            · rw [if_neg c17] at H
              have c17b0 : (t200 == t203) = false := beq_eq_false_iff_ne.mpr c17
              have c17b1 : (t200 != t203) = true := bne_iff_ne.mpr c17
              exact absurd ((Option.some.inj H).trans hr) (by decide)
          · rw [if_neg c16] at H
            have c16b0 : (t199 == t202) = false := beq_eq_false_iff_ne.mpr c16
            have c16b1 : (t199 != t202) = true := bne_iff_ne.mpr c16
            exact absurd ((Option.some.inj H).trans hr) (by decide)
        · rw [if_neg c15] at H
          have c15b0 : (t196 == t198) = false := beq_eq_false_iff_ne.mpr c15
          have c15b1 : (t196 != t198) = true := bne_iff_ne.mpr c15
          exact absurd ((Option.some.inj H).trans hr) (by decide)
      · rw [if_neg c14] at H
        have c14b0 : (t195 == t197) = false := beq_eq_false_iff_ne.mpr c14
        have c14b1 : (t195 != t197) = true := bne_iff_ne.mpr c14
        exact absurd ((Option.some.inj H).trans hr) (by decide)
    · rw [if_neg c13] at H
      have c13b0 : (t205 == t206) = false := beq_eq_false_iff_ne.mpr c13
      have c13b1 : (t205 != t206) = true := bne_iff_ne.mpr c13
      exact absurd ((Option.some.inj H).trans hr) (by decide)

/-- THE ONE PURE STATEMENT of backhaullaw17_GradeTells: yours. -/
def backhaullaw17_GradeTells.Pure : Prop := ∀ (l0 : List Int) (a1 : Int) (a2 : Int), l0.length ≤ maxLen → l0.length * 8 ≤ 140737488351232 → (∀ x ∈ l0, (Lit.int .i64 x).wf = true) → (Lit.int .i64 a1).wf = true → (Lit.int .i64 a2).wf = true → ∃ k, backhaullaw17_GradeTells.f k l0 a1 a2 = some true
theorem backhaullaw17_GradeTells.walk (P : backhaullaw17_GradeTells.Pure) (a0 : Option Addr) (len0 cap0 : Nat) (z0 : List Int) (a1 : Int) (a2 : Int) (w : World) (w0 : (a0 = none ∧ len0 = 0 ∧ cap0 = 0 ∧ z0 = []) ∨ ∃ x, a0 = some x ∧ len0 ≤ cap0 ∧ cap0 ≤ maxLen ∧ z0.length = cap0 ∧ (∀ i, i < z0.length → w.cell? (x.add i) = some (.int .i64 (z0.getD i 0))) ∧ ∀ n ∈ z0, (Lit.int .i64 n).wf = true) (y0 : len0 * 8 ≤ 140737488351232) (w1 : (Lit.int .i64 a1).wf = true) (w2 : (Lit.int .i64 a2).wf = true) :
    Calls Try.prog 3 #[.slice a0 len0 cap0, .int .i64 a1, .int .i64 a2] w fun e w' => e = .returned (.bool true) ∧ Below w.heap.size w w' := by
  obtain ⟨l0, rfl, hr0, hm0, hw0, hc0⟩ := ReadsInt.ofRowC w0
  obtain ⟨k, h⟩ := P l0 a1 a2 hm0 y0 hw0 w1 w2
  refine (backhaullaw17_GradeTells.calls_t k _ _ l0 a1 a2 true w (Kd.C_of_reads (d := (0 : Int)) (h1 := fun _ => rfl) hr0) hc0 h rfl).mono ?_
  rintro e w' ⟨rfl, hd⟩
  exact ⟨rfl, hd⟩

end Go.Proofs.Ytokoipmbhohoiaa.PGrade
