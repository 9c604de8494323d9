-- PRINTED by printx.py (the kit's print, with contracts that were written by hand in the place of what it does not print). Not trusted: Lean checks it.
import Derived.Test.YtlgkimmjoclaaaaPLifex0
import Derived.Test.YtlgkimmjoclaaaaPLifex1
import Derived.Test.YtlgkimmjoclaaaaPLifex3
import Derived.Test.YtlgkimmjoclaaaaPLifex5
import Derived.Test.YtlgkimmjoclaaaaPLifex17
import Derived.Test.YtlgkimmjoclaaaaPLifex19
namespace Go.Proofs.Ytlgkimmjoclaaaa.PLife
open Go.RowKit Go.Proofs.YtlgkimmjoclaaaaW.PrintWords Go.Proofs.YtlgkimmjoclaaaaW.PrintLast Go.Proofs.YtlgkimmjoclaaaaW.PrintMore
attribute [local go_sem] max2_int min2_int max_two min_two max_three min_three max_four min_four   -- for this text's walks alone
set_option linter.unusedVariables false
set_option linter.unusedSimpArgs false

attribute [local go_sem high] eqA50
/-! ### backhaullaw24_LifeNodes: function 10 -/
mutual
def backhaullaw24_LifeNodes.j0 : Nat → List (S52) → List (S52) → Bool → Int → Int → Option (Bool)
 | 0, _, _, _, _, _ => none
 | k + 1, x1, x2, x23, x322000, x322001 => if x23 = true then ((backhaullaw24_awake.f k).bind fun t322 => (some t322)) else ((life_Run.f k x322000 x322001 x1).bind fun bt323 => ((life_Check.f x322000 x322001).bind fun t328 => (if t328 = 0 then ((life_Check.f bt323.1 bt323.2.1).bind fun t330 => (if t330 = 0 then (if bt323.2.2.1 < 0 then (backhaullaw24_LifeNodes.j1 k x1 x2 bt323.2.2.2 true x322000 x322001 bt323.1 bt323.2.1) else (if bt323.2.2.1 > (x1.length : Int) then (backhaullaw24_LifeNodes.j1 k x1 x2 bt323.2.2.2 true x322000 x322001 bt323.1 bt323.2.1) else (backhaullaw24_LifeNodes.j1 k x1 x2 bt323.2.2.2 ((bt323.2.2.2 == 0) != (bt323.2.2.1 == (x1.length : Int))) x322000 x322001 bt323.1 bt323.2.1))) else (backhaullaw24_LifeNodes.j1 k x1 x2 bt323.2.2.2 true x322000 x322001 bt323.1 bt323.2.1))) else (if bt323.2.2.2 = 33 then ((backhaullaw24_awake.f k).bind fun t329 => (some t329)) else (some false)))))
def backhaullaw24_LifeNodes.j1 : Nat → List (S52) → List (S52) → Int → Bool → Int → Int → Int → Int → Option (Bool)
 | 0, _, _, _, _, _, _, _, _ => none
 | k + 1, x1, x2, x9, x61, x322000, x322001, x328000, x328001 => if x61 = true then (some false) else (if x9 = 0 then ((life_Run.f k x328000 x328001 x2).bind fun bt332 => ((some (([] : List (S52)) : List (S52))).bind fun y337 => (if y337.length + x1.length < 8796093022208 then ((some (y337 ++ x1 : List (S52))).bind fun y340 => (if y340.length + x2.length < 8796093022208 then ((life_Run.f k x322000 x322001 (y340 ++ x2)).bind fun bt346 => (if (bt332.1 == bt346.1 && (bt332.2.1 == bt346.2.1)) = true then (if bt346.2.2.1 = (wrap64 ((x1.length : Int) + bt332.2.2.1)) then (if bt332.2.2.2 = bt346.2.2.2 then ((life_Terminal.f x328000 x328001).bind fun t351 => (if t351 = true then (if bt332.2.2.1 = 0 then ((backhaullaw24_awake.f k).bind fun t352 => (some t352)) else (some false)) else ((backhaullaw24_awake.f k).bind fun t353 => (some t353)))) else (some false)) else (some false)) else (some false))) else (none))) else (none)))) else ((backhaullaw24_awake.f k).bind fun t331 => (some t331)))
end
def backhaullaw24_LifeNodes.f (k : Nat) (a0_0 : Int) (a0_1 : Int) (l1 : List (S52)) (l2 : List (S52)) : Option (Bool) := if (l1.length : Int) > 500 then (backhaullaw24_LifeNodes.j0 k l1 l2 true a0_0 a0_1) else (backhaullaw24_LifeNodes.j0 k l1 l2 (decide ((l2.length : Int) > 500)) a0_0 a0_1)
theorem backhaullaw24_LifeNodes.mono_l : ∀ k, (∀ y0 y1 y2 y3 y4, LeO (backhaullaw24_LifeNodes.j0 k y0 y1 y2 y3 y4) (backhaullaw24_LifeNodes.j0 (k + 1) y0 y1 y2 y3 y4)) ∧ (∀ y0 y1 y2 y3 y4 y5 y6 y7, LeO (backhaullaw24_LifeNodes.j1 k y0 y1 y2 y3 y4 y5 y6 y7) (backhaullaw24_LifeNodes.j1 (k + 1) y0 y1 y2 y3 y4 y5 y6 y7))
 | 0 => ⟨fun _ _ _ _ _ r h => by simp [backhaullaw24_LifeNodes.j0] at h, fun _ _ _ _ _ _ _ _ r h => by simp [backhaullaw24_LifeNodes.j1] at h⟩
 | k + 1 => by
  obtain ⟨ih0, ih1⟩ := backhaullaw24_LifeNodes.mono_l k
  refine ⟨?_, ?_⟩
  ·intro y0 y1 y2 y3 y4
   unfold backhaullaw24_LifeNodes.j0
   repeat' first
   | (with_reducible exact ih0 _ _ _ _ _)
   | (with_reducible exact ih1 _ _ _ _ _ _ _ _)
   | (with_reducible exact backhaullaw24_awake.mono _)
   | (with_reducible exact life_Run.mono _ _ _ _)
   | (with_reducible exact LeO.refl _)
   | (with_reducible exact LeO.none _)
   | (with_reducible refine LeO.ite ?_ ?_)
   | (with_reducible refine LeO.bind ?_ (fun _ => ?_))
   | exact ih0 _ _ _ _ _
   | exact ih1 _ _ _ _ _ _ _ _
   | exact backhaullaw24_awake.mono _
   | exact life_Run.mono _ _ _ _
   | exact LeO.none _
   | refine LeO.ite ?_ ?_
   | refine LeO.bind ?_ (fun _ => ?_)
  ·intro y0 y1 y2 y3 y4 y5 y6 y7
   unfold backhaullaw24_LifeNodes.j1
   repeat' first
   | (with_reducible exact ih0 _ _ _ _ _)
   | (with_reducible exact ih1 _ _ _ _ _ _ _ _)
   | (with_reducible exact backhaullaw24_awake.mono _)
   | (with_reducible exact life_Run.mono _ _ _ _)
   | (with_reducible exact LeO.refl _)
   | (with_reducible exact LeO.none _)
   | (with_reducible refine LeO.ite ?_ ?_)
   | (with_reducible refine LeO.bind ?_ (fun _ => ?_))
   | exact ih0 _ _ _ _ _
   | exact ih1 _ _ _ _ _ _ _ _
   | exact backhaullaw24_awake.mono _
   | exact life_Run.mono _ _ _ _
   | exact LeO.none _
   | refine LeO.ite ?_ ?_
   | refine LeO.bind ?_ (fun _ => ?_)
theorem backhaullaw24_LifeNodes.mono : ∀ a0 a1 a2 a3 k, LeO (backhaullaw24_LifeNodes.f k a0 a1 a2 a3) (backhaullaw24_LifeNodes.f (k + 1) a0 a1 a2 a3) := by
 intro a0 a1 a2 a3 k
 obtain ⟨ih0, ih1⟩ := backhaullaw24_LifeNodes.mono_l k
 unfold backhaullaw24_LifeNodes.f
 repeat' first
   | (with_reducible exact ih0 _ _ _ _ _)
   | (with_reducible exact ih1 _ _ _ _ _ _ _ _)
   | (with_reducible exact backhaullaw24_awake.mono _)
   | (with_reducible exact life_Run.mono _ _ _ _)
   | (with_reducible exact LeO.refl _)
   | (with_reducible exact LeO.none _)
   | (with_reducible refine LeO.ite ?_ ?_)
   | (with_reducible refine LeO.bind ?_ (fun _ => ?_))
   | exact ih0 _ _ _ _ _
   | exact ih1 _ _ _ _ _ _ _ _
   | exact backhaullaw24_awake.mono _
   | exact life_Run.mono _ _ _ _
   | exact LeO.none _
   | refine LeO.ite ?_ ?_
   | refine LeO.bind ?_ (fun _ => ?_)
def backhaullaw24_LifeNodes.T11 : Bool × List (List Nat × List Nat) := (true, [([], []), ([], []), ([], []), ([1, 2], [1, 2]), ([], []), ([3, 4, 3], [3, 4]), ([0, 5, 5], [0, 5]), ([6], [6]), ([7], [7]), ([7], [7]), ([7], [7]), ([], []), ([11, 8, 6, 0, 1, 2, 3, 4, 5, 6, 7, 8, 11], [8, 11]), ([9, 12, 0, 1, 2, 3, 4, 5, 6, 7, 8, 9, 11, 12], [9]), ([10, 13, 0, 1, 2, 3, 4, 5, 6, 7, 8, 9, 10, 11, 12, 13], [10])])
def backhaullaw24_LifeNodes.B11 : List Nat := [0, 0, 0, 6, 0, 30, 63, 127, 255, 255, 255, 0, 2559, 7167, 16383]
theorem backhaullaw24_LifeNodes.tab11 : rtab .any (opsOf Try.f10 11) = backhaullaw24_LifeNodes.T11 := by kernel_rfl
theorem backhaullaw24_LifeNodes.bits11 : waitsOk backhaullaw24_LifeNodes.T11.2 backhaullaw24_LifeNodes.B11 = true := by kernel_rfl
set_option maxHeartbeats 8000000 in
set_option maxRecDepth 100000 in
theorem backhaullaw24_LifeNodes.calls_t (k : Nat) (a0_0 : Int) (a0_1 : Int) (A1 : Option Addr) (c1 : Nat) (l1 : List (S52)) (A2 : Option Addr) (c2 : Nat) (l2 : List (S52)) (r : Bool) (w : World) (hr1 : Kd.C k52 w A1 l1.length l1) (hc1 : l1.length ≤ c1) (hr2 : Kd.C k52 w A2 l2.length l2) (hc2 : l2.length ≤ c2) (h : backhaullaw24_LifeNodes.f k a0_0 a0_1 l1 l2 = some r) (hr : r = true) :
  Calls Try.prog 10 #[.agg #[.int .i64 a0_0, .int .i64 a0_1], .slice A1 l1.length c1, .slice A2 l2.length c2] w fun e w' => e = .returned (.bool r) ∧ Below w.heap.size w w' := by
 have hu50 := Try.underlying50
 have HR1 := Aside0.mk hr1
 have HC1 := Aside0.mk hc1
 clear hr1 hc1
 have HR2 := Aside0.mk hr2
 have HC2 := Aside0.mk hc2
 clear hr2 hc2
 have HB := Aside0.mk (Below.refl w.heap.size w)
 have H : (if (l1.length : Int) > 500 then (backhaullaw24_LifeNodes.j0 k l1 l2 true a0_0 a0_1) else (backhaullaw24_LifeNodes.j0 k l1 l2 (decide ((l2.length : Int) > 500)) a0_0 a0_1)) = some r := h
 clear h
 have HC4 := Aside0.mk H
 clear H
 go_enter Try.func10, Try.ntmps10
 go_upto_region 1 with (first | ((with_reducible refine gate_dst (N := 3) rfl ?_); (try (refine gate_guard (by rfl) ?_; dsimp only)); refine box_event ?hg (N := 3) ?hd (cs := #[.int .i64 a0_0, .int .i64 a0_1]) (t := 50) ?hr ?_; (case hd => rfl); (case hg => rfl); (case hr => first | (go_simp; done) | (go_simp; rfl)); intro gb321 hg w5 hbox hb; have n0_ := Aside0.mk (below_step (by repeat (first | exact HB.out | apply below_alloc | apply pw_below_drewN | apply below_drew1)) hb); have n1_ := Aside0.mk (hbox); have n2_ := Aside0.mk ((by rw [hg]; exact (below_size (by repeat (first | exact HB.out | apply below_alloc | apply pw_below_drewN | apply below_drew1))) : w.heap.size ≤ gb321)); have n3_ := Aside0.mk ((by rw [hg]; exact (below_size (by repeat (first | exact HB.out | apply below_alloc | apply pw_below_drewN | apply below_drew1))) : w.heap.size ≤ gb321)); clear HB; have HB := n0_; have BK321 := n1_; have GW321 := n2_; have GE321 := n3_; clear n0_ n1_ n2_ n3_; clear hb hbox hg))
 (try simp only [Act.put, List.setIfInBounds_toArray, List.set_cons_zero, List.set_cons_succ])
 go_cut [23] (fun v23 wc => ∃ (kq : Nat) (x23_3 : Bool), v23 = .bool x23_3 ∧ Aside0 (backhaullaw24_LifeNodes.j0 kq l1 l2 x23_3 a0_0 a0_1 = some r) ∧ Aside0 (kq ≤ k) ∧ Aside0 (wc.heap[gb321]? = some (.cells #[.int .i64 a0_0, .int .i64 a0_1] 50 (0, 0))) ∧ Aside0 (Below w.heap.size w wc))
 case first =>
  have H := HC4.out
  clear HC4
  by_cases c6 : (l1.length : Int) > 500
  ·rw [if_pos c6] at H
   have c6b0 : decide (500 < (l1.length : Int)) = true := decide_eq_true c6
   have c6b1 : decide (500 < l1.length) = true := decide_eq_true (by omega)
   clear c6
   (first | rw [c6b0] | (simp only [i64_w, i32_w]; rw [c6b0]) | skip)
   have H' := Aside0.mk H; clear H
   go_wp2
   go_meet
   case rel => exact ⟨_, (true), (by first | rfl | (simp; done) | (simp [*]; done)), H', ⟨by first | omega | exact Nat.le_refl _⟩, ⟨by (with_reducible repeat (first | refine blk_drewN ?_ _ | refine blk_drew ?_ | refine blk_alloc ?_ _)); exact BK321.out⟩, ⟨by repeat (first | (with_reducible first | exact HB.out | apply below_alloc | apply pw_below_drewN | apply below_drew1 | refine below_set ?_ GE321.out) | exact HB.out)⟩⟩
  ·rw [if_neg c6] at H
   have c6b0 : decide (500 < (l1.length : Int)) = false := decide_eq_false c6
   have c6b1 : decide (500 < l1.length) = false := decide_eq_false (by omega)
   clear c6
   (first | rw [c6b0] | (simp only [i64_w, i32_w]; rw [c6b0]) | skip)
   have H' := Aside0.mk H; clear H
   go_wp2
   go_meet
   case rel => exact ⟨_, (decide ((l2.length : Int) > 500)), (by first | rfl | (simp; done) | (simp [*]; done)), H', ⟨by first | omega | exact Nat.le_refl _⟩, ⟨by (with_reducible repeat (first | refine blk_drewN ?_ _ | refine blk_drew ?_ | refine blk_alloc ?_ _)); exact BK321.out⟩, ⟨by repeat (first | (with_reducible first | exact HB.out | apply below_alloc | apply pw_below_drewN | apply below_drew1 | refine below_set ?_ GE321.out) | exact HB.out)⟩⟩
 case rest =>
  clear HC4
  try clear c1
  try clear c2
  try clear p2
  try clear c6
  try clear c6b0
  try clear c6b1
  obtain ⟨kq, x23_3, rfl, HA, HJ3, BK321, HB⟩ := hcut
  cases kq with
  | zero => exact absurd HA.out (by simp [backhaullaw24_LifeNodes.j0])
  | succ kj3 =>
   have H := HA.out
   clear HA
   simp only [backhaullaw24_LifeNodes.j0] at H
   by_cases c7 : x23_3 = true
   ·subst c7
    have H1 : ((backhaullaw24_awake.f kj3).bind fun t322 => (some t322)) = some r := by rw [if_pos rfl] at H; exact H
    clear H; have H := H1; clear H1; replace H := Option.bind_eq_some_iff.mp H; obtain ⟨t322, A80, H⟩ := H
    replace H : (some t322) = some r := H
    have A8 := Aside0.mk A80; clear A80
    obtain rfl := Option.some.inj H
    go_wp2_with (first | ((with_reducible refine gate_callee (f := 36) rfl ?_); refine goesL_ (some 24) rfl rfl Try.func36 (by kernel_rfl) rfl #[] rfl (by (try simp only [List.map_toArray, List.map_cons, List.map_nil]); first | done | rfl) ?_; (with_reducible refine (backhaullaw24_awake.calls kj3  t322 _ A8.out).mono ?_); rintro e w9 ⟨rfl, hb⟩; refine ⟨_, rfl, ?_⟩; have n0_ := Aside0.mk (blk_below (g := gb321) (o := .cells #[.int .i64 a0_0, .int .i64 a0_1] 50 (0, 0)) (by (with_reducible repeat (first | refine blk_drewN ?_ _ | refine blk_drew ?_ | refine blk_alloc ?_ _)); exact BK321.out) hb); have n1_ := Aside0.mk (below_step (by repeat (first | (with_reducible first | exact HB.out | apply below_alloc | apply pw_below_drewN | apply below_drew1 | refine below_set ?_ GE321.out) | exact HB.out)) hb); clear BK321; clear HB; have BK321 := n0_; have HB := n1_; clear n0_ n1_; (try clear hb); (try clear hb2); (try clear hk); (try clear hi)))
    go_ret
    exact ⟨by first | rfl | (simp [errW_none, errW_some] <;> rfl) | (simp [*, errW_none, errW_some] <;> rfl), by repeat (first | (with_reducible first | exact HB.out | apply below_alloc | apply pw_below_drewN | apply below_drew1 | refine below_set ?_ GE321.out) | exact HB.out)⟩
   ·replace c7 := Bool.eq_false_iff.mpr c7
    subst c7
    have H1 : ((life_Run.f kj3 a0_0 a0_1 l1).bind fun bt323 => ((life_Check.f a0_0 a0_1).bind fun t328 => (if t328 = 0 then ((life_Check.f bt323.1 bt323.2.1).bind fun t330 => (if t330 = 0 then (if bt323.2.2.1 < 0 then (backhaullaw24_LifeNodes.j1 kj3 l1 l2 bt323.2.2.2 true a0_0 a0_1 bt323.1 bt323.2.1) else (if bt323.2.2.1 > (l1.length : Int) then (backhaullaw24_LifeNodes.j1 kj3 l1 l2 bt323.2.2.2 true a0_0 a0_1 bt323.1 bt323.2.1) else (backhaullaw24_LifeNodes.j1 kj3 l1 l2 bt323.2.2.2 ((bt323.2.2.2 == 0) != (bt323.2.2.1 == (l1.length : Int))) a0_0 a0_1 bt323.1 bt323.2.1))) else (backhaullaw24_LifeNodes.j1 kj3 l1 l2 bt323.2.2.2 true a0_0 a0_1 bt323.1 bt323.2.1))) else (if bt323.2.2.2 = 33 then ((backhaullaw24_awake.f kj3).bind fun t329 => (some t329)) else (some false))))) = some r := by rw [if_neg (show ¬ (false = true) by decide)] at H; exact H
    clear H; have H := H1; clear H1; replace H := Option.bind_eq_some_iff.mp H
    obtain ⟨⟨t323, t324, t325, t326⟩, A100, H⟩ := H
    replace H : ((life_Check.f a0_0 a0_1).bind fun t328 => (if t328 = 0 then ((life_Check.f t323 t324).bind fun t330 => (if t330 = 0 then (if t325 < 0 then (backhaullaw24_LifeNodes.j1 kj3 l1 l2 t326 true a0_0 a0_1 t323 t324) else (if t325 > (l1.length : Int) then (backhaullaw24_LifeNodes.j1 kj3 l1 l2 t326 true a0_0 a0_1 t323 t324) else (backhaullaw24_LifeNodes.j1 kj3 l1 l2 t326 ((t326 == 0) != (t325 == (l1.length : Int))) a0_0 a0_1 t323 t324))) else (backhaullaw24_LifeNodes.j1 kj3 l1 l2 t326 true a0_0 a0_1 t323 t324))) else (if t326 = 33 then ((backhaullaw24_awake.f kj3).bind fun t329 => (some t329)) else (some false)))) = some r := H
    have A10 := Aside0.mk A100; clear A100; replace H := Option.bind_eq_some_iff.mp H; obtain ⟨t328, A110, H⟩ := H
    replace H : (if t328 = 0 then ((life_Check.f t323 t324).bind fun t330 => (if t330 = 0 then (if t325 < 0 then (backhaullaw24_LifeNodes.j1 kj3 l1 l2 t326 true a0_0 a0_1 t323 t324) else (if t325 > (l1.length : Int) then (backhaullaw24_LifeNodes.j1 kj3 l1 l2 t326 true a0_0 a0_1 t323 t324) else (backhaullaw24_LifeNodes.j1 kj3 l1 l2 t326 ((t326 == 0) != (t325 == (l1.length : Int))) a0_0 a0_1 t323 t324))) else (backhaullaw24_LifeNodes.j1 kj3 l1 l2 t326 true a0_0 a0_1 t323 t324))) else (if t326 = 33 then ((backhaullaw24_awake.f kj3).bind fun t329 => (some t329)) else (some false))) = some r := H
    have A11 := Aside0.mk A110; clear A110
    by_cases c12 : t328 = 0
    ·rw [if_pos c12] at H
     have c12b0 : (t328 == 0) = true := beq_iff_eq.mpr c12
     have c12b1 : (t328 != 0) = false := bne_eq_false_iff_eq.mpr c12
     clear c12; have HC13 := Aside0.mk H; clear H
     have hcz14_0 : wc.cell? ⟨gb321, 0, none⟩ = some (.int .i64 a0_0) := (blk_cell BK321.out 0).trans rfl
     have hcz14_1 : wc.cell? ⟨gb321, 1, none⟩ = some (.int .i64 a0_1) := (blk_cell BK321.out 1).trans rfl
     have hfz14_0 := blk_frozen BK321.out 0
     have hfz14_1 := blk_frozen BK321.out 1
     go_upto_region 6 with (first | ((with_reducible refine gate_callee (f := 37) rfl ?_); refine goesL_ (some 28) rfl rfl Try.func37 (by kernel_rfl) rfl #[.agg #[.int .i64 a0_0, .int .i64 a0_1], .slice A1 l1.length c1] rfl (by (try simp only [List.map_toArray, List.map_cons, List.map_nil]); first | done | rfl) ?_; (with_reducible refine (life_Run.calls kj3 a0_0 a0_1 _ _ l1 t323 t324 t325 t326 _ ?side1 ?side2 A10.out).mono ?_); (case side1 => repeat (first | exact (Kd.C_below HR1.out HB.out) | (with_reducible refine Kd.C_alloc ?_ _) | (with_reducible refine Kd.C_drewN ?_ _) | (with_reducible refine Kd.C_drew ?_))); (case side2 => exact HC1.out); rintro e w15 ⟨rfl, hb⟩; refine ⟨_, rfl, ?_⟩; have n0_ := Aside0.mk (blk_below (g := gb321) (o := .cells #[.int .i64 a0_0, .int .i64 a0_1] 50 (0, 0)) (by (with_reducible repeat (first | refine blk_drewN ?_ _ | refine blk_drew ?_ | refine blk_alloc ?_ _)); exact BK321.out) hb); have n1_ := Aside0.mk (below_step (by repeat (first | (with_reducible first | exact HB.out | apply below_alloc | apply pw_below_drewN | apply below_drew1 | refine below_set ?_ GE321.out) | exact HB.out)) hb); clear BK321; clear HB; have BK321 := n0_; have HB := n1_; clear n0_ n1_; (try clear hb); (try clear hb2); (try clear hk); (try clear hi)) | ((with_reducible refine gate_dst (N := 7) rfl ?_); (try (refine gate_guard (by rfl) ?_; dsimp only)); refine box_event ?hg (N := 7) ?hd (cs := #[.int .i64 0, .int .i64 0]) (t := 50) ?hr ?_; (case hd => rfl); (case hg => rfl); (case hr => first | (go_simp; done) | (go_simp; rfl)); intro gb327 hg w16 hbox hb; have n0_ := Aside0.mk (blk_below (g := gb321) (o := .cells #[.int .i64 a0_0, .int .i64 a0_1] 50 (0, 0)) (by (with_reducible repeat (first | refine blk_drewN ?_ _ | refine blk_drew ?_ | refine blk_alloc ?_ _)); exact BK321.out) hb); have n1_ := Aside0.mk (below_step (by repeat (first | (with_reducible first | exact HB.out | apply below_alloc | apply pw_below_drewN | apply below_drew1 | refine below_set ?_ GE321.out) | exact HB.out)) hb); have n2_ := Aside0.mk (hbox); have n3_ := Aside0.mk ((by rw [hg]; exact (below_size (by repeat (first | (with_reducible first | exact HB.out | apply below_alloc | apply pw_below_drewN | apply below_drew1 | refine below_set ?_ GE321.out) | exact HB.out))) : w.heap.size ≤ gb327)); have n4_ := Aside0.mk ((by rw [hg]; exact (below_size (by repeat (first | (with_reducible first | exact HB.out | apply below_alloc | apply pw_below_drewN | apply below_drew1 | refine below_set ?_ GE321.out) | exact HB.out))) : w.heap.size ≤ gb327)); have n5_ := Aside0.mk ((by rw [hg]; exact Nat.ne_of_lt (blk_lt (g := gb321) (o := .cells #[.int .i64 a0_0, .int .i64 a0_1] 50 (0, 0)) (by (with_reducible repeat (first | refine blk_drewN ?_ _ | refine blk_drew ?_ | refine blk_alloc ?_ _)); exact BK321.out)) : gb321 ≠ gb327)); have n6_ := Aside0.mk ((by rw [hg]; exact Nat.ne_of_gt (blk_lt (g := gb321) (o := .cells #[.int .i64 a0_0, .int .i64 a0_1] 50 (0, 0)) (by (with_reducible repeat (first | refine blk_drewN ?_ _ | refine blk_drew ?_ | refine blk_alloc ?_ _)); exact BK321.out)) : gb327 ≠ gb321)); clear BK321; clear HB; have BK321 := n0_; have HB := n1_; have BK327 := n2_; have GW327 := n3_; have GE327 := n4_; have NB321_327 := n5_; have NB327_321 := n6_; clear n0_ n1_ n2_ n3_ n4_ n5_ n6_; clear hb hbox hg; have hnb17 := NB327_321.out; have hnc17 := NB321_327.out; have hcz18_0 : w16.cell? ⟨gb327, 0, none⟩ = some (.int .i64 0) := (blk_cell BK327.out 0).trans rfl; have hcz18_1 : w16.cell? ⟨gb327, 1, none⟩ = some (.int .i64 0) := (blk_cell BK327.out 1).trans rfl; have hfz18_0 := blk_frozen BK327.out 0; have hfz18_1 := blk_frozen BK327.out 1; have hcz19_0 : w16.cell? ⟨gb321, 0, none⟩ = some (.int .i64 a0_0) := (blk_cell BK321.out 0).trans rfl; have hcz19_1 : w16.cell? ⟨gb321, 1, none⟩ = some (.int .i64 a0_1) := (blk_cell BK321.out 1).trans rfl; have hfz19_0 := blk_frozen BK321.out 0; have hfz19_1 := blk_frozen BK321.out 1) | ((with_reducible refine gate_callee (f := 28) rfl ?_); refine goesL_ (some 33) rfl rfl Try.func28 (by kernel_rfl) rfl #[.agg #[.int .i64 a0_0, .int .i64 a0_1]] rfl (by (try simp only [List.map_toArray, List.map_cons, List.map_nil]); first | done | rfl) ?_; (with_reducible refine (life_Check.calls a0_0 a0_1 t328 _ A11.out).mono ?_); rintro e w20 ⟨rfl, hb⟩; refine ⟨_, rfl, ?_⟩; have n0_ := Aside0.mk (blk_below (g := gb321) (o := .cells #[.int .i64 a0_0, .int .i64 a0_1] 50 (0, 0)) (by (with_reducible repeat (first | refine blk_drewN ?_ _ | refine blk_drew ?_ | refine blk_alloc ?_ _)); refine blk_far ?_ NB321_327.out _; (with_reducible repeat (first | refine blk_drewN ?_ _ | refine blk_drew ?_ | refine blk_alloc ?_ _)); refine blk_far ?_ NB321_327.out _; (with_reducible repeat (first | refine blk_drewN ?_ _ | refine blk_drew ?_ | refine blk_alloc ?_ _)); exact BK321.out) hb); have n1_ := Aside0.mk (blk_below (g := gb327) (o := .cells #[.int .i64 t323, .int .i64 t324] 50 (0, 0)) (by (with_reducible repeat (first | refine blk_drewN ?_ _ | refine blk_drew ?_ | refine blk_alloc ?_ _)); refine blk_put (cs := #[.int .i64 t323, .int .i64 0]) ?_ 1 _ rfl; (with_reducible repeat (first | refine blk_drewN ?_ _ | refine blk_drew ?_ | refine blk_alloc ?_ _)); refine blk_put (cs := #[.int .i64 0, .int .i64 0]) ?_ 0 _ rfl; (with_reducible repeat (first | refine blk_drewN ?_ _ | refine blk_drew ?_ | refine blk_alloc ?_ _)); exact BK327.out) hb); have n2_ := Aside0.mk (below_step (by repeat (first | (with_reducible first | exact HB.out | apply below_alloc | apply pw_below_drewN | apply below_drew1 | refine below_set ?_ GE321.out | refine below_set ?_ GE327.out) | exact HB.out)) hb); clear BK321; clear BK327; clear HB; have BK321 := n0_; have BK327 := n1_; have HB := n2_; clear n0_ n1_ n2_; (try clear hb); (try clear hb2); (try clear hk); (try clear hi)))
     (try simp only [Act.put, List.setIfInBounds_toArray, List.set_cons_zero, List.set_cons_succ])
     go_cut [61] (fun v61 wc => ∃ (kq : Nat) (x61_12 : Bool), v61 = .bool x61_12 ∧ Aside0 (backhaullaw24_LifeNodes.j1 kq l1 l2 t326 x61_12 a0_0 a0_1 t323 t324 = some r) ∧ Aside0 (kq ≤ kj3) ∧ Aside0 (wc.heap[gb321]? = some (.cells #[.int .i64 a0_0, .int .i64 a0_1] 50 (0, 0))) ∧ Aside0 (wc.heap[gb327]? = some (.cells #[.int .i64 t323, .int .i64 t324] 50 (0, 0))) ∧ Aside0 (Below w.heap.size w wc))
     case first =>
      have H := HC13.out
      clear HC13; replace H := Option.bind_eq_some_iff.mp H; obtain ⟨t330, A210, H⟩ := H
      replace H : (if t330 = 0 then (if t325 < 0 then (backhaullaw24_LifeNodes.j1 kj3 l1 l2 t326 true a0_0 a0_1 t323 t324) else (if t325 > (l1.length : Int) then (backhaullaw24_LifeNodes.j1 kj3 l1 l2 t326 true a0_0 a0_1 t323 t324) else (backhaullaw24_LifeNodes.j1 kj3 l1 l2 t326 ((t326 == 0) != (t325 == (l1.length : Int))) a0_0 a0_1 t323 t324))) else (backhaullaw24_LifeNodes.j1 kj3 l1 l2 t326 true a0_0 a0_1 t323 t324)) = some r := H
      have A21 := Aside0.mk A210; clear A210
      by_cases c22 : t330 = 0
      ·rw [if_pos c22] at H
       have c22b0 : (t330 == 0) = true := beq_iff_eq.mpr c22
       have c22b1 : (t330 != 0) = false := bne_eq_false_iff_eq.mpr c22
       clear c22
       (first | rw [c22b0] | (simp only [i64_w, i32_w]; rw [c22b0]) | skip)
       by_cases c23 : t325 < 0
       ·rw [if_pos c23] at H
        have c23b0 : decide (t325 < 0) = true := decide_eq_true c23
        clear c23; have H' := Aside0.mk H; clear H
        have hnb24 := NB327_321.out
        have hnc24 := NB321_327.out
        have hcz25_0 : w20.cell? ⟨gb327, 0, none⟩ = some (.int .i64 t323) := (blk_cell BK327.out 0).trans rfl
        have hcz25_1 : w20.cell? ⟨gb327, 1, none⟩ = some (.int .i64 t324) := (blk_cell BK327.out 1).trans rfl
        have hfz25_0 := blk_frozen BK327.out 0
        have hfz25_1 := blk_frozen BK327.out 1
        go_wp2_with (first | ((with_reducible refine gate_callee (f := 28) rfl ?_); refine goesL_ (some 41) rfl rfl Try.func28 (by kernel_rfl) rfl #[.agg #[.int .i64 t323, .int .i64 t324]] rfl (by (try simp only [List.map_toArray, List.map_cons, List.map_nil]); first | done | rfl) ?_; (with_reducible refine (life_Check.calls t323 t324 t330 _ A21.out).mono ?_); rintro e w26 ⟨rfl, hb⟩; refine ⟨_, rfl, ?_⟩; have n0_ := Aside0.mk (blk_below (g := gb321) (o := .cells #[.int .i64 a0_0, .int .i64 a0_1] 50 (0, 0)) (by (with_reducible repeat (first | refine blk_drewN ?_ _ | refine blk_drew ?_ | refine blk_alloc ?_ _)); exact BK321.out) hb); have n1_ := Aside0.mk (blk_below (g := gb327) (o := .cells #[.int .i64 t323, .int .i64 t324] 50 (0, 0)) (by (with_reducible repeat (first | refine blk_drewN ?_ _ | refine blk_drew ?_ | refine blk_alloc ?_ _)); exact BK327.out) hb); have n2_ := Aside0.mk (below_step (by repeat (first | (with_reducible first | exact HB.out | apply below_alloc | apply pw_below_drewN | apply below_drew1 | refine below_set ?_ GE321.out | refine below_set ?_ GE327.out) | exact HB.out)) hb); clear BK321; clear BK327; clear HB; have BK321 := n0_; have BK327 := n1_; have HB := n2_; clear n0_ n1_ n2_; (try clear hb); (try clear hb2); (try clear hk); (try clear hi)))
        go_meet
        case rel => exact ⟨_, (true), (by first | rfl | (simp; done) | (simp [*]; done)), H', ⟨by have := HJ3.out; first | omega | exact Nat.le_refl _⟩, ⟨by (with_reducible repeat (first | refine blk_drewN ?_ _ | refine blk_drew ?_ | refine blk_alloc ?_ _)); exact BK321.out⟩, ⟨by (with_reducible repeat (first | refine blk_drewN ?_ _ | refine blk_drew ?_ | refine blk_alloc ?_ _)); exact BK327.out⟩, ⟨by repeat (first | (with_reducible first | exact HB.out | apply below_alloc | apply pw_below_drewN | apply below_drew1 | refine below_set ?_ GE321.out | refine below_set ?_ GE327.out) | exact HB.out)⟩⟩
       ·rw [if_neg c23] at H
        have c23b0 : decide (t325 < 0) = false := decide_eq_false c23
        clear c23
        by_cases c27 : t325 > (l1.length : Int)
        ·rw [if_pos c27] at H
         have c27b0 : decide ((l1.length : Int) < t325) = true := decide_eq_true c27
         clear c27; have H' := Aside0.mk H; clear H
         have hnb28 := NB327_321.out
         have hnc28 := NB321_327.out
         have hcz29_0 : w20.cell? ⟨gb327, 0, none⟩ = some (.int .i64 t323) := (blk_cell BK327.out 0).trans rfl
         have hcz29_1 : w20.cell? ⟨gb327, 1, none⟩ = some (.int .i64 t324) := (blk_cell BK327.out 1).trans rfl
         have hfz29_0 := blk_frozen BK327.out 0
         have hfz29_1 := blk_frozen BK327.out 1
         go_wp2_with (first | ((with_reducible refine gate_callee (f := 28) rfl ?_); refine goesL_ (some 41) rfl rfl Try.func28 (by kernel_rfl) rfl #[.agg #[.int .i64 t323, .int .i64 t324]] rfl (by (try simp only [List.map_toArray, List.map_cons, List.map_nil]); first | done | rfl) ?_; (with_reducible refine (life_Check.calls t323 t324 t330 _ A21.out).mono ?_); rintro e w30 ⟨rfl, hb⟩; refine ⟨_, rfl, ?_⟩; have n0_ := Aside0.mk (blk_below (g := gb321) (o := .cells #[.int .i64 a0_0, .int .i64 a0_1] 50 (0, 0)) (by (with_reducible repeat (first | refine blk_drewN ?_ _ | refine blk_drew ?_ | refine blk_alloc ?_ _)); exact BK321.out) hb); have n1_ := Aside0.mk (blk_below (g := gb327) (o := .cells #[.int .i64 t323, .int .i64 t324] 50 (0, 0)) (by (with_reducible repeat (first | refine blk_drewN ?_ _ | refine blk_drew ?_ | refine blk_alloc ?_ _)); exact BK327.out) hb); have n2_ := Aside0.mk (below_step (by repeat (first | (with_reducible first | exact HB.out | apply below_alloc | apply pw_below_drewN | apply below_drew1 | refine below_set ?_ GE321.out | refine below_set ?_ GE327.out) | exact HB.out)) hb); clear BK321; clear BK327; clear HB; have BK321 := n0_; have BK327 := n1_; have HB := n2_; clear n0_ n1_ n2_; (try clear hb); (try clear hb2); (try clear hk); (try clear hi)))
         go_meet
         case rel => exact ⟨_, (true), (by first | rfl | (simp; done) | (simp [*]; done)), H', ⟨by have := HJ3.out; first | omega | exact Nat.le_refl _⟩, ⟨by (with_reducible repeat (first | refine blk_drewN ?_ _ | refine blk_drew ?_ | refine blk_alloc ?_ _)); exact BK321.out⟩, ⟨by (with_reducible repeat (first | refine blk_drewN ?_ _ | refine blk_drew ?_ | refine blk_alloc ?_ _)); exact BK327.out⟩, ⟨by repeat (first | (with_reducible first | exact HB.out | apply below_alloc | apply pw_below_drewN | apply below_drew1 | refine below_set ?_ GE321.out | refine below_set ?_ GE327.out) | exact HB.out)⟩⟩
        ·rw [if_neg c27] at H
         have c27b0 : decide ((l1.length : Int) < t325) = false := decide_eq_false c27
         clear c27; have H' := Aside0.mk H; clear H
         have hnb31 := NB327_321.out
         have hnc31 := NB321_327.out
         have hcz32_0 : w20.cell? ⟨gb327, 0, none⟩ = some (.int .i64 t323) := (blk_cell BK327.out 0).trans rfl
         have hcz32_1 : w20.cell? ⟨gb327, 1, none⟩ = some (.int .i64 t324) := (blk_cell BK327.out 1).trans rfl
         have hfz32_0 := blk_frozen BK327.out 0
         have hfz32_1 := blk_frozen BK327.out 1
         go_wp2_with (first | ((with_reducible refine gate_callee (f := 28) rfl ?_); refine goesL_ (some 41) rfl rfl Try.func28 (by kernel_rfl) rfl #[.agg #[.int .i64 t323, .int .i64 t324]] rfl (by (try simp only [List.map_toArray, List.map_cons, List.map_nil]); first | done | rfl) ?_; (with_reducible refine (life_Check.calls t323 t324 t330 _ A21.out).mono ?_); rintro e w33 ⟨rfl, hb⟩; refine ⟨_, rfl, ?_⟩; have n0_ := Aside0.mk (blk_below (g := gb321) (o := .cells #[.int .i64 a0_0, .int .i64 a0_1] 50 (0, 0)) (by (with_reducible repeat (first | refine blk_drewN ?_ _ | refine blk_drew ?_ | refine blk_alloc ?_ _)); exact BK321.out) hb); have n1_ := Aside0.mk (blk_below (g := gb327) (o := .cells #[.int .i64 t323, .int .i64 t324] 50 (0, 0)) (by (with_reducible repeat (first | refine blk_drewN ?_ _ | refine blk_drew ?_ | refine blk_alloc ?_ _)); exact BK327.out) hb); have n2_ := Aside0.mk (below_step (by repeat (first | (with_reducible first | exact HB.out | apply below_alloc | apply pw_below_drewN | apply below_drew1 | refine below_set ?_ GE321.out | refine below_set ?_ GE327.out) | exact HB.out)) hb); clear BK321; clear BK327; clear HB; have BK321 := n0_; have BK327 := n1_; have HB := n2_; clear n0_ n1_ n2_; (try clear hb); (try clear hb2); (try clear hk); (try clear hi)))
         go_meet
         case rel => exact ⟨_, (((t326 == 0) != (t325 == (l1.length : Int)))), (by first | rfl | (simp; done) | (simp [*]; done)), H', ⟨by have := HJ3.out; first | omega | exact Nat.le_refl _⟩, ⟨by (with_reducible repeat (first | refine blk_drewN ?_ _ | refine blk_drew ?_ | refine blk_alloc ?_ _)); exact BK321.out⟩, ⟨by (with_reducible repeat (first | refine blk_drewN ?_ _ | refine blk_drew ?_ | refine blk_alloc ?_ _)); exact BK327.out⟩, ⟨by repeat (first | (with_reducible first | exact HB.out | apply below_alloc | apply pw_below_drewN | apply below_drew1 | refine below_set ?_ GE321.out | refine below_set ?_ GE327.out) | exact HB.out)⟩⟩
      ·rw [if_neg c22] at H
       have c22b0 : (t330 == 0) = false := beq_eq_false_iff_ne.mpr c22
       have c22b1 : (t330 != 0) = true := bne_iff_ne.mpr c22
       (first | rw [c22b0] | (simp only [i64_w, i32_w]; rw [c22b0]) | skip)
       have H' := Aside0.mk H; clear H
       have hnb34 := NB327_321.out
       have hnc34 := NB321_327.out
       have hcz35_0 : w20.cell? ⟨gb327, 0, none⟩ = some (.int .i64 t323) := (blk_cell BK327.out 0).trans rfl
       have hcz35_1 : w20.cell? ⟨gb327, 1, none⟩ = some (.int .i64 t324) := (blk_cell BK327.out 1).trans rfl
       have hfz35_0 := blk_frozen BK327.out 0
       have hfz35_1 := blk_frozen BK327.out 1
       go_wp2_with (first | ((with_reducible refine gate_callee (f := 28) rfl ?_); refine goesL_ (some 41) rfl rfl Try.func28 (by kernel_rfl) rfl #[.agg #[.int .i64 t323, .int .i64 t324]] rfl (by (try simp only [List.map_toArray, List.map_cons, List.map_nil]); first | done | rfl) ?_; (with_reducible refine (life_Check.calls t323 t324 t330 _ A21.out).mono ?_); rintro e w36 ⟨rfl, hb⟩; refine ⟨_, rfl, ?_⟩; have n0_ := Aside0.mk (blk_below (g := gb321) (o := .cells #[.int .i64 a0_0, .int .i64 a0_1] 50 (0, 0)) (by (with_reducible repeat (first | refine blk_drewN ?_ _ | refine blk_drew ?_ | refine blk_alloc ?_ _)); exact BK321.out) hb); have n1_ := Aside0.mk (blk_below (g := gb327) (o := .cells #[.int .i64 t323, .int .i64 t324] 50 (0, 0)) (by (with_reducible repeat (first | refine blk_drewN ?_ _ | refine blk_drew ?_ | refine blk_alloc ?_ _)); exact BK327.out) hb); have n2_ := Aside0.mk (below_step (by repeat (first | (with_reducible first | exact HB.out | apply below_alloc | apply pw_below_drewN | apply below_drew1 | refine below_set ?_ GE321.out | refine below_set ?_ GE327.out) | exact HB.out)) hb); clear BK321; clear BK327; clear HB; have BK321 := n0_; have BK327 := n1_; have HB := n2_; clear n0_ n1_ n2_; (try clear hb); (try clear hb2); (try clear hk); (try clear hi)))
       go_meet
       case rel => exact ⟨_, (true), (by first | rfl | (simp; done) | (simp [*]; done)), H', ⟨by have := HJ3.out; first | omega | exact Nat.le_refl _⟩, ⟨by (with_reducible repeat (first | refine blk_drewN ?_ _ | refine blk_drew ?_ | refine blk_alloc ?_ _)); exact BK321.out⟩, ⟨by (with_reducible repeat (first | refine blk_drewN ?_ _ | refine blk_drew ?_ | refine blk_alloc ?_ _)); exact BK327.out⟩, ⟨by repeat (first | (with_reducible first | exact HB.out | apply below_alloc | apply pw_below_drewN | apply below_drew1 | refine below_set ?_ GE321.out | refine below_set ?_ GE327.out) | exact HB.out)⟩⟩
     case rest =>
      clear HC13
      try clear c1
      try clear c2
      try clear p2
      try clear c3
      try clear c6
      try clear c6b0
      try clear c6b1
      try clear c7
      try clear c10
      try clear c12
      try clear c12b0
      try clear c12b1
      try clear c17
      try clear c22
      try clear c22b0
      try clear c22b1
      try clear c23
      try clear c23b0
      try clear c24
      try clear c27
      try clear c27b0
      try clear c28
      try clear c31
      try clear c34
      try clear c36
      try clear hcz14_0
      try clear hcz14_1
      try clear hcz18_0
      try clear hcz18_1
      try clear hcz19_0
      try clear hcz19_1
      try clear hcz25_0
      try clear hcz25_1
      try clear hcz29_0
      try clear hcz29_1
      try clear hcz32_0
      try clear hcz32_1
      try clear hcz35_0
      try clear hcz35_1
      try clear hfz14_0
      try clear hfz14_1
      try clear hfz18_0
      try clear hfz18_1
      try clear hfz19_0
      try clear hfz19_1
      try clear hfz25_0
      try clear hfz25_1
      try clear hfz29_0
      try clear hfz29_1
      try clear hfz32_0
      try clear hfz32_1
      try clear hfz35_0
      try clear hfz35_1
      try clear p2
      obtain ⟨kq, x61_12, rfl, HA, HJ12, BK321, BK327, HB⟩ := hcut
      cases kq with
      | zero => exact absurd HA.out (by simp [backhaullaw24_LifeNodes.j1])
      | succ kj12 =>
       have H := HA.out
       clear HA
       simp only [backhaullaw24_LifeNodes.j1] at H
       by_cases c37 : x61_12 = true
       ·subst c37
        have H1 : (some false) = some r := by rw [if_pos rfl] at H; exact H
        clear H; have H := H1; clear H1
        exact absurd ((Option.some.inj H).trans hr) (by decide)
       ·replace c37 := Bool.eq_false_iff.mpr c37
        subst c37
        have H1 : (if t326 = 0 then ((life_Run.f kj12 t323 t324 l2).bind fun bt332 => ((some (([] : List (S52)) : List (S52))).bind fun y337 => (if y337.length + l1.length < 8796093022208 then ((some (y337 ++ l1 : List (S52))).bind fun y340 => (if y340.length + l2.length < 8796093022208 then ((life_Run.f kj12 a0_0 a0_1 (y340 ++ l2)).bind fun bt346 => (if (bt332.1 == bt346.1 && (bt332.2.1 == bt346.2.1)) = true then (if bt346.2.2.1 = (wrap64 ((l1.length : Int) + bt332.2.2.1)) then (if bt332.2.2.2 = bt346.2.2.2 then ((life_Terminal.f t323 t324).bind fun t351 => (if t351 = true then (if bt332.2.2.1 = 0 then ((backhaullaw24_awake.f kj12).bind fun t352 => (some t352)) else (some false)) else ((backhaullaw24_awake.f kj12).bind fun t353 => (some t353)))) else (some false)) else (some false)) else (some false))) else (none))) else (none)))) else ((backhaullaw24_awake.f kj12).bind fun t331 => (some t331))) = some r := by rw [if_neg (show ¬ (false = true) by decide)] at H; exact H
        clear H; have H := H1; clear H1
        by_cases c38 : t326 = 0
        ·rw [if_pos c38] at H
         have c38b0 : (t326 == 0) = true := beq_iff_eq.mpr c38
         have c38b1 : (t326 != 0) = false := bne_eq_false_iff_eq.mpr c38
         clear c38; replace H := Option.bind_eq_some_iff.mp H
         obtain ⟨⟨t332, t333, t334, t335⟩, A390, H⟩ := H
         replace H : ((some (([] : List (S52)) : List (S52))).bind fun y337 => (if y337.length + l1.length < 8796093022208 then ((some (y337 ++ l1 : List (S52))).bind fun y340 => (if y340.length + l2.length < 8796093022208 then ((life_Run.f kj12 a0_0 a0_1 (y340 ++ l2)).bind fun bt346 => (if (t332 == bt346.1 && (t333 == bt346.2.1)) = true then (if bt346.2.2.1 = (wrap64 ((l1.length : Int) + t334)) then (if t335 = bt346.2.2.2 then ((life_Terminal.f t323 t324).bind fun t351 => (if t351 = true then (if t334 = 0 then ((backhaullaw24_awake.f kj12).bind fun t352 => (some t352)) else (some false)) else ((backhaullaw24_awake.f kj12).bind fun t353 => (some t353)))) else (some false)) else (some false)) else (some false))) else (none))) else (none))) = some r := H
         have A39 := Aside0.mk A390; clear A390
         obtain ⟨y337, hy337⟩ : ∃ y_ : List (S52), y_ = (([] : List (S52))) := ⟨_, rfl⟩
         replace H : (if y337.length + l1.length < 8796093022208 then ((some (y337 ++ l1 : List (S52))).bind fun y340 => (if y340.length + l2.length < 8796093022208 then ((life_Run.f kj12 a0_0 a0_1 (y340 ++ l2)).bind fun bt346 => (if (t332 == bt346.1 && (t333 == bt346.2.1)) = true then (if bt346.2.2.1 = (wrap64 ((l1.length : Int) + t334)) then (if t335 = bt346.2.2.2 then ((life_Terminal.f t323 t324).bind fun t351 => (if t351 = true then (if t334 = 0 then ((backhaullaw24_awake.f kj12).bind fun t352 => (some t352)) else (some false)) else ((backhaullaw24_awake.f kj12).bind fun t353 => (some t353)))) else (some false)) else (some false)) else (some false))) else (none))) else (none)) = some r := by first | (rw [hy337]; with_reducible exact H) | (have H2_ := (Option.bind_some _ _).symm.trans H; rw [hy337]; with_reducible exact H2_) | (have H2_ := (Option.bind_some _ _).symm.trans H; with_reducible exact H2_) | with_reducible exact H | (rw [hy337]; exact H) | exact H
         have Ny337 := Aside0.mk hy337; clear hy337
         by_cases c40 : y337.length + l1.length < 8796093022208
         ·rw [if_pos c40] at H
          have LMc40 := Aside0.mk c40; clear c40
          obtain ⟨y340, hy340⟩ : ∃ y_ : List (S52), y_ = (y337 ++ l1) := ⟨_, rfl⟩
          replace H : (if y340.length + l2.length < 8796093022208 then ((life_Run.f kj12 a0_0 a0_1 (y340 ++ l2)).bind fun bt346 => (if (t332 == bt346.1 && (t333 == bt346.2.1)) = true then (if bt346.2.2.1 = (wrap64 ((l1.length : Int) + t334)) then (if t335 = bt346.2.2.2 then ((life_Terminal.f t323 t324).bind fun t351 => (if t351 = true then (if t334 = 0 then ((backhaullaw24_awake.f kj12).bind fun t352 => (some t352)) else (some false)) else ((backhaullaw24_awake.f kj12).bind fun t353 => (some t353)))) else (some false)) else (some false)) else (some false))) else (none)) = some r := by first | (rw [hy340]; with_reducible exact H) | (have H2_ := (Option.bind_some _ _).symm.trans H; rw [hy340]; with_reducible exact H2_) | (have H2_ := (Option.bind_some _ _).symm.trans H; with_reducible exact H2_) | with_reducible exact H | (rw [hy340]; exact H) | exact H
          have Ny340 := Aside0.mk hy340; clear hy340
          by_cases c41 : y340.length + l2.length < 8796093022208
          ·rw [if_pos c41] at H
           have LMc41 := Aside0.mk c41; clear c41
           obtain ⟨y343, hy343⟩ : ∃ y_ : List (S52), y_ = (y340 ++ l2) := ⟨_, rfl⟩
           replace H : ((life_Run.f kj12 a0_0 a0_1 y343).bind fun bt346 => (if (t332 == bt346.1 && (t333 == bt346.2.1)) = true then (if bt346.2.2.1 = (wrap64 ((l1.length : Int) + t334)) then (if t335 = bt346.2.2.2 then ((life_Terminal.f t323 t324).bind fun t351 => (if t351 = true then (if t334 = 0 then ((backhaullaw24_awake.f kj12).bind fun t352 => (some t352)) else (some false)) else ((backhaullaw24_awake.f kj12).bind fun t353 => (some t353)))) else (some false)) else (some false)) else (some false))) = some r := by first | (rw [hy343]; with_reducible exact H) | (have H2_ := (Option.bind_some _ _).symm.trans H; rw [hy343]; with_reducible exact H2_) | (have H2_ := (Option.bind_some _ _).symm.trans H; with_reducible exact H2_) | with_reducible exact H | (rw [hy343]; exact H) | exact H
           have Ny343 := Aside0.mk hy343; clear hy343; replace H := Option.bind_eq_some_iff.mp H
           obtain ⟨⟨t346, t347, t348, t349⟩, A420, H⟩ := H
           replace H : (if (t332 == t346 && (t333 == t347)) = true then (if t348 = (wrap64 ((l1.length : Int) + t334)) then (if t335 = t349 then ((life_Terminal.f t323 t324).bind fun t351 => (if t351 = true then (if t334 = 0 then ((backhaullaw24_awake.f kj12).bind fun t352 => (some t352)) else (some false)) else ((backhaullaw24_awake.f kj12).bind fun t353 => (some t353)))) else (some false)) else (some false)) else (some false)) = some r := H
           have A42 := Aside0.mk A420; clear A420
           by_cases c43 : (t332 == t346 && (t333 == t347)) = true
           ·rw [if_pos c43] at H
            have c43b0 : (t332 == t346 && (t333 == t347)) = true := c43
            (try (have c43b1 : decide (t332 = t346 && (t333 == t347)) = true := by simpa using c43))
            (try (have c43b2 : (t332 == t346 && (t333 == t347)) = true := by simpa using c43))
            clear c43
            by_cases c44 : t348 = (wrap64 ((l1.length : Int) + t334))
            ·rw [if_pos c44] at H
             have c44b0 : (t348 == (wrap64 ((l1.length : Int) + t334))) = true := beq_iff_eq.mpr c44
             have c44b1 : (t348 != (wrap64 ((l1.length : Int) + t334))) = false := bne_eq_false_iff_eq.mpr c44
             clear c44
             by_cases c45 : t335 = t349
             ·rw [if_pos c45] at H
              have c45b0 : (t335 == t349) = true := beq_iff_eq.mpr c45
              have c45b1 : (t335 != t349) = false := bne_eq_false_iff_eq.mpr c45
              clear c45; replace H := Option.bind_eq_some_iff.mp H; obtain ⟨t351, A460, H⟩ := H
              replace H : (if t351 = true then (if t334 = 0 then ((backhaullaw24_awake.f kj12).bind fun t352 => (some t352)) else (some false)) else ((backhaullaw24_awake.f kj12).bind fun t353 => (some t353))) = some r := H
              have A46 := Aside0.mk A460; clear A460
              by_cases c47 : t351 = true
              ·subst c47
               have H1 : (if t334 = 0 then ((backhaullaw24_awake.f kj12).bind fun t352 => (some t352)) else (some false)) = some r := by rw [if_pos rfl] at H; exact H
               clear H; have H := H1; clear H1
               by_cases c48 : t334 = 0
               ·rw [if_pos c48] at H
                have c48b0 : (t334 == 0) = true := beq_iff_eq.mpr c48
                have c48b1 : (t334 != 0) = false := bne_eq_false_iff_eq.mpr c48
                clear c48; replace H := Option.bind_eq_some_iff.mp H; obtain ⟨t352, A490, H⟩ := H
                replace H : (some t352) = some r := H
                have A49 := Aside0.mk A490; clear A490
                obtain rfl := Option.some.inj H
                have hnb50 := NB327_321.out
                have hnc50 := NB321_327.out
                have hcz51_0 : wc.cell? ⟨gb327, 0, none⟩ = some (.int .i64 t323) := (blk_cell BK327.out 0).trans rfl
                have hcz51_1 : wc.cell? ⟨gb327, 1, none⟩ = some (.int .i64 t324) := (blk_cell BK327.out 1).trans rfl
                have hfz51_0 := blk_frozen BK327.out 0
                have hfz51_1 := blk_frozen BK327.out 1
                try go_wp2_with (first | ((with_reducible refine gate_callee (f := 37) rfl ?_); refine goesL_ (some 68) rfl rfl Try.func37 (by kernel_rfl) rfl #[.agg #[.int .i64 t323, .int .i64 t324], .slice A2 l2.length c2] rfl (by (try simp only [List.map_toArray, List.map_cons, List.map_nil]); first | done | rfl) ?_; (with_reducible refine (life_Run.calls kj12 t323 t324 _ _ l2 t332 t333 t334 t335 _ ?side1 ?side2 A39.out).mono ?_); (case side1 => repeat (first | exact (Kd.C_below HR2.out HB.out) | (with_reducible refine Kd.C_alloc ?_ _) | (with_reducible refine Kd.C_drewN ?_ _) | (with_reducible refine Kd.C_drew ?_))); (case side2 => exact HC2.out); rintro e w52 ⟨rfl, hb⟩; refine ⟨_, rfl, ?_⟩; have n0_ := Aside0.mk (blk_below (g := gb321) (o := .cells #[.int .i64 a0_0, .int .i64 a0_1] 50 (0, 0)) (by (with_reducible repeat (first | refine blk_drewN ?_ _ | refine blk_drew ?_ | refine blk_alloc ?_ _)); exact BK321.out) hb); have n1_ := Aside0.mk (blk_below (g := gb327) (o := .cells #[.int .i64 t323, .int .i64 t324] 50 (0, 0)) (by (with_reducible repeat (first | refine blk_drewN ?_ _ | refine blk_drew ?_ | refine blk_alloc ?_ _)); exact BK327.out) hb); have n2_ := Aside0.mk (below_step (by repeat (first | (with_reducible first | exact HB.out | apply below_alloc | apply pw_below_drewN | apply below_drew1 | refine below_set ?_ GE321.out | refine below_set ?_ GE327.out) | exact HB.out)) hb); clear BK321; clear BK327; clear HB; have BK321 := n0_; have BK327 := n1_; have HB := n2_; clear n0_ n1_ n2_; (try clear hb); (try clear hb2); (try clear hk); (try clear hi)) | ((with_reducible refine gate_dst (N := 10) rfl ?_); (try (refine gate_guard (by rfl) ?_; dsimp only)); refine box_event ?hg (N := 10) ?hd (cs := #[.int .i64 0, .int .i64 0]) (t := 50) ?hr ?_; (case hd => rfl); (case hg => rfl); (case hr => first | (go_simp; done) | (go_simp; rfl)); intro gb336 hg w53 hbox hb; have n0_ := Aside0.mk (blk_below (g := gb321) (o := .cells #[.int .i64 a0_0, .int .i64 a0_1] 50 (0, 0)) (by (with_reducible repeat (first | refine blk_drewN ?_ _ | refine blk_drew ?_ | refine blk_alloc ?_ _)); exact BK321.out) hb); have n1_ := Aside0.mk (blk_below (g := gb327) (o := .cells #[.int .i64 t323, .int .i64 t324] 50 (0, 0)) (by (with_reducible repeat (first | refine blk_drewN ?_ _ | refine blk_drew ?_ | refine blk_alloc ?_ _)); exact BK327.out) hb); have n2_ := Aside0.mk (below_step (by repeat (first | (with_reducible first | exact HB.out | apply below_alloc | apply pw_below_drewN | apply below_drew1 | refine below_set ?_ GE321.out | refine below_set ?_ GE327.out) | exact HB.out)) hb); have n3_ := Aside0.mk (hbox); have n4_ := Aside0.mk ((by rw [hg]; exact (below_size (by repeat (first | (with_reducible first | exact HB.out | apply below_alloc | apply pw_below_drewN | apply below_drew1 | refine below_set ?_ GE321.out | refine below_set ?_ GE327.out) | exact HB.out))) : w.heap.size ≤ gb336)); have n5_ := Aside0.mk ((by rw [hg]; exact (below_size (by repeat (first | (with_reducible first | exact HB.out | apply below_alloc | apply pw_below_drewN | apply below_drew1 | refine below_set ?_ GE321.out | refine below_set ?_ GE327.out) | exact HB.out))) : w.heap.size ≤ gb336)); have n6_ := Aside0.mk ((by rw [hg]; exact Nat.ne_of_lt (blk_lt (g := gb321) (o := .cells #[.int .i64 a0_0, .int .i64 a0_1] 50 (0, 0)) (by (with_reducible repeat (first | refine blk_drewN ?_ _ | refine blk_drew ?_ | refine blk_alloc ?_ _)); exact BK321.out)) : gb321 ≠ gb336)); have n7_ := Aside0.mk ((by rw [hg]; exact Nat.ne_of_gt (blk_lt (g := gb321) (o := .cells #[.int .i64 a0_0, .int .i64 a0_1] 50 (0, 0)) (by (with_reducible repeat (first | refine blk_drewN ?_ _ | refine blk_drew ?_ | refine blk_alloc ?_ _)); exact BK321.out)) : gb336 ≠ gb321)); have n8_ := Aside0.mk ((by rw [hg]; exact Nat.ne_of_lt (blk_lt (g := gb327) (o := .cells #[.int .i64 t323, .int .i64 t324] 50 (0, 0)) (by (with_reducible repeat (first | refine blk_drewN ?_ _ | refine blk_drew ?_ | refine blk_alloc ?_ _)); exact BK327.out)) : gb327 ≠ gb336)); have n9_ := Aside0.mk ((by rw [hg]; exact Nat.ne_of_gt (blk_lt (g := gb327) (o := .cells #[.int .i64 t323, .int .i64 t324] 50 (0, 0)) (by (with_reducible repeat (first | refine blk_drewN ?_ _ | refine blk_drew ?_ | refine blk_alloc ?_ _)); exact BK327.out)) : gb336 ≠ gb327)); clear BK321; clear BK327; clear HB; have BK321 := n0_; have BK327 := n1_; have HB := n2_; have BK336 := n3_; have GW336 := n4_; have GE336 := n5_; have NB321_336 := n6_; have NB336_321 := n7_; have NB327_336 := n8_; have NB336_327 := n9_; clear n0_ n1_ n2_ n3_ n4_ n5_ n6_ n7_ n8_ n9_; clear hb hbox hg; have hnb54 := NB336_321.out; have hnc54 := NB321_336.out; have hnb55 := NB336_327.out; have hnc55 := NB327_336.out; have hcz56_0 : w53.cell? ⟨gb336, 0, none⟩ = some (.int .i64 0) := (blk_cell BK336.out 0).trans rfl; have hcz56_1 : w53.cell? ⟨gb336, 1, none⟩ = some (.int .i64 0) := (blk_cell BK336.out 1).trans rfl; have hfz56_0 := blk_frozen BK336.out 0; have hfz56_1 := blk_frozen BK336.out 1))
                have n0_ : Aside0 (((w53.setCell ⟨gb336, 0, none⟩ (.int .i64 t332)).setCell ⟨gb336, 1, none⟩ (.int .i64 t333)).heap[gb321]? = some (.cells #[.int .i64 a0_0, .int .i64 a0_1] 50 (0, 0))) := ⟨by (with_reducible repeat (first | refine blk_drewN ?_ _ | refine blk_drew ?_ | refine blk_alloc ?_ _)); refine blk_far ?_ NB321_336.out _; (with_reducible repeat (first | refine blk_drewN ?_ _ | refine blk_drew ?_ | refine blk_alloc ?_ _)); refine blk_far ?_ NB321_336.out _; (with_reducible repeat (first | refine blk_drewN ?_ _ | refine blk_drew ?_ | refine blk_alloc ?_ _)); exact BK321.out⟩
                have n1_ : Aside0 (((w53.setCell ⟨gb336, 0, none⟩ (.int .i64 t332)).setCell ⟨gb336, 1, none⟩ (.int .i64 t333)).heap[gb327]? = some (.cells #[.int .i64 t323, .int .i64 t324] 50 (0, 0))) := ⟨by (with_reducible repeat (first | refine blk_drewN ?_ _ | refine blk_drew ?_ | refine blk_alloc ?_ _)); refine blk_far ?_ NB327_336.out _; (with_reducible repeat (first | refine blk_drewN ?_ _ | refine blk_drew ?_ | refine blk_alloc ?_ _)); refine blk_far ?_ NB327_336.out _; (with_reducible repeat (first | refine blk_drewN ?_ _ | refine blk_drew ?_ | refine blk_alloc ?_ _)); exact BK327.out⟩
                have n2_ : Aside0 (((w53.setCell ⟨gb336, 0, none⟩ (.int .i64 t332)).setCell ⟨gb336, 1, none⟩ (.int .i64 t333)).heap[gb336]? = some (.cells #[.int .i64 t332, .int .i64 t333] 50 (0, 0))) := ⟨by (with_reducible repeat (first | refine blk_drewN ?_ _ | refine blk_drew ?_ | refine blk_alloc ?_ _)); refine blk_put (cs := #[.int .i64 t332, .int .i64 0]) ?_ 1 _ rfl; (with_reducible repeat (first | refine blk_drewN ?_ _ | refine blk_drew ?_ | refine blk_alloc ?_ _)); refine blk_put (cs := #[.int .i64 0, .int .i64 0]) ?_ 0 _ rfl; (with_reducible repeat (first | refine blk_drewN ?_ _ | refine blk_drew ?_ | refine blk_alloc ?_ _)); exact BK336.out⟩
                have n3_ : Aside0 (Below w.heap.size w ((w53.setCell ⟨gb336, 0, none⟩ (.int .i64 t332)).setCell ⟨gb336, 1, none⟩ (.int .i64 t333))) := ⟨by repeat (first | (with_reducible first | exact HB.out | apply below_alloc | apply pw_below_drewN | apply below_drew1 | refine below_set ?_ GE321.out | refine below_set ?_ GE327.out | refine below_set ?_ GE336.out) | exact HB.out)⟩
                (try clear BK321)
                (try clear BK327)
                (try clear BK336)
                (try clear HB)
                generalize ((w53.setCell ⟨gb336, 0, none⟩ (.int .i64 t332)).setCell ⟨gb336, 1, none⟩ (.int .i64 t333)) = w57 at n0_ n1_ n2_ n3_ ⊢
                have BK321 := n0_; have BK327 := n1_; have BK336 := n2_; have HB := n3_; clear n0_ n1_ n2_ n3_
                have n0_ := Aside0.mk (blk_drew BK321.out)
                have n1_ := Aside0.mk (blk_drew BK327.out)
                have n2_ := Aside0.mk (blk_drew BK336.out)
                have n3_ := Aside0.mk (below_drew1 HB.out)
                clear BK321; clear BK327; clear BK336; clear HB; have BK321 := n0_; have BK327 := n1_; have BK336 := n2_; have HB := n3_; clear n0_ n1_ n2_ n3_
                refine start_ (n := 15) (S := fun w' => w'.cell? ⟨gb321, 0, none⟩ = some (.int .i64 a0_0) ∧ w'.cell? ⟨gb321, 1, none⟩ = some (.int .i64 a0_1)) (ds := []) #[false, false, false, false, false, false, false, false, false, false, false, false, false, false, false] (by kernel_rfl) rfl rfl ⟨(blk_cell BK321.out 0).trans rfl, (blk_cell BK321.out 1).trans rfl⟩ (fun hHeld => ?_); refine with_tabW backhaullaw24_LifeNodes.tab11 backhaullaw24_LifeNodes.bits11 (fun HT_ HW_ => ?_)
                generalize w57.drew = w58 at BK321 BK327 BK336 HB hHeld ⊢
                refine pure_ (i := 2) (N := some 75) (v := ?_) (a' := ?_) #[false, false, true, false, false, false, false, false, false, false, false, false, false, false, false] rfl rfl (any_of HT_.out (by kernel_rfl)) (fun _ _ _ h => h) (Or.inl ⟨by rfl, ?_⟩) ?_ ?_
                rotate_left
                ·intro w'
                 go_simp
                 with_reducible rfl
                rotate_left
                ·simp only [Act.put, List.setIfInBounds_toArray, List.set_cons_zero, List.set_cons_succ, i64_w, i32_w]
                 rfl
                refine pure_ (i := 4) (N := some 77) (v := ?_) (a' := ?_) #[false, false, true, false, true, false, false, false, false, false, false, false, false, false, false] rfl rfl (any_of HT_.out (by kernel_rfl)) (fun _ _ _ h => h) (Or.inl ⟨by rfl, ?_⟩) ?_ ?_
                rotate_left
                ·intro w'
                 go_simp
                 with_reducible rfl
                rotate_left
                ·simp only [Act.put, List.setIfInBounds_toArray, List.set_cons_zero, List.set_cons_succ, i64_w, i32_w]
                 rfl
                refine take_ (i := 0) (N := some 73) (v := ?_) (a' := ?_) #[true, false, true, false, true, false, false, false, false, false, false, false, false, false, false] rfl rfl (take_ofW HT_.out HW_.out (by kernel_rfl)) (fun _ _ _ h => h) (Or.inl ⟨by rfl, ?_⟩) hHeld ?_ ?_
                rotate_left
                ·rintro w' ⟨s0, s1⟩
                 go_simp
                 with_reducible rfl
                rotate_left
                ·simp only [Act.put, List.setIfInBounds_toArray, List.set_cons_zero, List.set_cons_succ, i64_w, i32_w]
                 rfl
                refine join_ (σ := Value × Value × Value × Nat) 3 #[true, true, true, true, true, true, true, true, true, true, true, true, false, false, false] (fun s_ => [(74, s_.1), (76, s_.2.1), (78, s_.2.2.1), (79, .tuple #[.agg #[.int .i64 t346, .int .i64 t347], .int .i64 t348, .int .i64 t349]), (13, .pointer (some ⟨s_.2.2.2, 0, none⟩)), (72, .tuple #[.agg #[.int .i64 t346, .int .i64 t347], .int .i64 t348, .int .i64 t349]), (80, .agg #[.int .i64 t346, .int .i64 t347]), (81, .int .i64 t348), (82, .int .i64 t349)]) (fun s_ w' => (w'.cell? ⟨gb321, 0, none⟩ = some (.int .i64 a0_0) ∧ w'.cell? ⟨gb321, 1, none⟩ = some (.int .i64 a0_1)) ∧ (Kd.R k52 52 w' w.heap.size (fun _ => True) s_.2.2.1 y343) ∧ (w'.heap[gb321]? = some (.cells #[.int .i64 a0_0, .int .i64 a0_1] 50 (0, 0))) ∧ (w'.heap[gb327]? = some (.cells #[.int .i64 t323, .int .i64 t324] 50 (0, 0))) ∧ (w'.heap[gb336]? = some (.cells #[.int .i64 t332, .int .i64 t333] 50 (0, 0))) ∧ (w'.heap[s_.2.2.2]? = some (.cells #[.int .i64 0, .int .i64 0] 50 (0, 0))) ∧ (w.heap.size ≤ s_.2.2.2) ∧ (w.heap.size ≤ s_.2.2.2) ∧ (gb321 ≠ s_.2.2.2) ∧ (s_.2.2.2 ≠ gb321) ∧ (gb327 ≠ s_.2.2.2) ∧ (s_.2.2.2 ≠ gb327) ∧ (gb336 ≠ s_.2.2.2) ∧ (s_.2.2.2 ≠ gb336) ∧ (Below w.heap.size w w')) ?_ ?_
                rotate_left
                ·intro hJ1_3_5_6_11
                 refine join_ (σ := Value × Value × Value) 4 #[true, true, true, true, true, true, true, true, true, true, true, false, false, false, false] (fun s_ => [(74, s_.1), (76, s_.2.1), (78, s_.2.2), (79, .tuple #[.agg #[.int .i64 t346, .int .i64 t347], .int .i64 t348, .int .i64 t349]), (72, .tuple #[.agg #[.int .i64 t346, .int .i64 t347], .int .i64 t348, .int .i64 t349]), (80, .agg #[.int .i64 t346, .int .i64 t347]), (81, .int .i64 t348), (82, .int .i64 t349)]) (fun s_ w' => (w'.cell? ⟨gb321, 0, none⟩ = some (.int .i64 a0_0) ∧ w'.cell? ⟨gb321, 1, none⟩ = some (.int .i64 a0_1)) ∧ (Kd.R k52 52 w' w.heap.size (fun _ => True) s_.2.2 y343) ∧ (w'.heap[gb321]? = some (.cells #[.int .i64 a0_0, .int .i64 a0_1] 50 (0, 0))) ∧ (w'.heap[gb327]? = some (.cells #[.int .i64 t323, .int .i64 t324] 50 (0, 0))) ∧ (w'.heap[gb336]? = some (.cells #[.int .i64 t332, .int .i64 t333] 50 (0, 0))) ∧ (Below w.heap.size w w')) ?_ ?_
                 rotate_left
                 ·intro hJ1_3_5_6
                  refine join_ (σ := Value × Value × Value × Nat) 8 #[true, true, true, true, true, true, false, false, false, false, false, true, false, false, false] (fun s_ => [(74, s_.1), (76, s_.2.1), (78, s_.2.2.1), (13, .pointer (some ⟨s_.2.2.2, 0, none⟩))]) (fun s_ w' => (w'.cell? ⟨gb321, 0, none⟩ = some (.int .i64 a0_0) ∧ w'.cell? ⟨gb321, 1, none⟩ = some (.int .i64 a0_1)) ∧ (Kd.R k52 52 w' w.heap.size (fun _ => True) s_.2.2.1 y343) ∧ (w'.heap[gb321]? = some (.cells #[.int .i64 a0_0, .int .i64 a0_1] 50 (0, 0))) ∧ (w'.heap[gb327]? = some (.cells #[.int .i64 t323, .int .i64 t324] 50 (0, 0))) ∧ (w'.heap[gb336]? = some (.cells #[.int .i64 t332, .int .i64 t333] 50 (0, 0))) ∧ (w'.heap[s_.2.2.2]? = some (.cells #[.int .i64 0, .int .i64 0] 50 (0, 0))) ∧ (w.heap.size ≤ s_.2.2.2) ∧ (w.heap.size ≤ s_.2.2.2) ∧ (gb321 ≠ s_.2.2.2) ∧ (s_.2.2.2 ≠ gb321) ∧ (gb327 ≠ s_.2.2.2) ∧ (s_.2.2.2 ≠ gb327) ∧ (gb336 ≠ s_.2.2.2) ∧ (s_.2.2.2 ≠ gb336) ∧ (Below w.heap.size w w')) ?_ ?_
                  rotate_left
                  ·intro hJ1_3_5_11
                   refine join_ (σ := Value × Value × Value) 9 #[true, true, true, true, true, true, false, false, false, false, false, false, false, false, false] (fun s_ => [(74, s_.1), (76, s_.2.1), (78, s_.2.2)]) (fun s_ w' => (w'.cell? ⟨gb321, 0, none⟩ = some (.int .i64 a0_0) ∧ w'.cell? ⟨gb321, 1, none⟩ = some (.int .i64 a0_1)) ∧ (Kd.R k52 52 w' w.heap.size (fun _ => True) s_.2.2 y343) ∧ (w'.heap[gb321]? = some (.cells #[.int .i64 a0_0, .int .i64 a0_1] 50 (0, 0))) ∧ (w'.heap[gb327]? = some (.cells #[.int .i64 t323, .int .i64 t324] 50 (0, 0))) ∧ (w'.heap[gb336]? = some (.cells #[.int .i64 t332, .int .i64 t333] 50 (0, 0))) ∧ (Below w.heap.size w w')) ?_ ?_
                   rotate_left
                   ·intro hJ1_3_5
                    refine join_ (σ := Value × Value × Nat) 9 #[true, true, true, true, true, false, false, false, false, false, false, true, false, false, false] (fun s_ => [(74, s_.1), (76, s_.2.1), (13, .pointer (some ⟨s_.2.2, 0, none⟩))]) (fun s_ w' => (w'.cell? ⟨gb321, 0, none⟩ = some (.int .i64 a0_0) ∧ w'.cell? ⟨gb321, 1, none⟩ = some (.int .i64 a0_1)) ∧ (Kd.R k52 52 w' w.heap.size (fun _ => True) s_.2.1 y340) ∧ (w'.heap[gb321]? = some (.cells #[.int .i64 a0_0, .int .i64 a0_1] 50 (0, 0))) ∧ (w'.heap[gb327]? = some (.cells #[.int .i64 t323, .int .i64 t324] 50 (0, 0))) ∧ (w'.heap[gb336]? = some (.cells #[.int .i64 t332, .int .i64 t333] 50 (0, 0))) ∧ (w'.heap[s_.2.2]? = some (.cells #[.int .i64 0, .int .i64 0] 50 (0, 0))) ∧ (w.heap.size ≤ s_.2.2) ∧ (w.heap.size ≤ s_.2.2) ∧ (gb321 ≠ s_.2.2) ∧ (s_.2.2 ≠ gb321) ∧ (gb327 ≠ s_.2.2) ∧ (s_.2.2 ≠ gb327) ∧ (gb336 ≠ s_.2.2) ∧ (s_.2.2 ≠ gb336) ∧ (Below w.heap.size w w')) ?_ ?_
                    rotate_left
                    ·intro hJ1_3_11
                     refine join_ (σ := Value × Value) 10 #[true, true, true, true, true, false, false, false, false, false, false, false, false, false, false] (fun s_ => [(74, s_.1), (76, s_.2)]) (fun s_ w' => (w'.cell? ⟨gb321, 0, none⟩ = some (.int .i64 a0_0) ∧ w'.cell? ⟨gb321, 1, none⟩ = some (.int .i64 a0_1)) ∧ (Kd.R k52 52 w' w.heap.size (fun _ => True) s_.2 y340) ∧ (w'.heap[gb321]? = some (.cells #[.int .i64 a0_0, .int .i64 a0_1] 50 (0, 0))) ∧ (w'.heap[gb327]? = some (.cells #[.int .i64 t323, .int .i64 t324] 50 (0, 0))) ∧ (w'.heap[gb336]? = some (.cells #[.int .i64 t332, .int .i64 t333] 50 (0, 0))) ∧ (Below w.heap.size w w')) ?_ ?_
                     rotate_left
                     ·intro hJ1_3
                      refine join_ (σ := Value × Nat) 10 #[true, true, true, false, true, false, false, false, false, false, false, true, false, false, false] (fun s_ => [(74, s_.1), (13, .pointer (some ⟨s_.2, 0, none⟩))]) (fun s_ w' => (w'.cell? ⟨gb321, 0, none⟩ = some (.int .i64 a0_0) ∧ w'.cell? ⟨gb321, 1, none⟩ = some (.int .i64 a0_1)) ∧ (Kd.R k52 52 w' w.heap.size (fun _ => True) s_.1 y337) ∧ (w'.heap[gb321]? = some (.cells #[.int .i64 a0_0, .int .i64 a0_1] 50 (0, 0))) ∧ (w'.heap[gb327]? = some (.cells #[.int .i64 t323, .int .i64 t324] 50 (0, 0))) ∧ (w'.heap[gb336]? = some (.cells #[.int .i64 t332, .int .i64 t333] 50 (0, 0))) ∧ (w'.heap[s_.2]? = some (.cells #[.int .i64 0, .int .i64 0] 50 (0, 0))) ∧ (w.heap.size ≤ s_.2) ∧ (w.heap.size ≤ s_.2) ∧ (gb321 ≠ s_.2) ∧ (s_.2 ≠ gb321) ∧ (gb327 ≠ s_.2) ∧ (s_.2 ≠ gb327) ∧ (gb336 ≠ s_.2) ∧ (s_.2 ≠ gb336) ∧ (Below w.heap.size w w')) ?_ ?_
                      rotate_left
                      ·intro hJ1_11
                       refine join_ (σ := Value) 11 #[true, true, true, false, true, false, false, false, false, false, false, false, false, false, false] (fun s_ => [(74, s_)]) (fun s_ w' => (w'.cell? ⟨gb321, 0, none⟩ = some (.int .i64 a0_0) ∧ w'.cell? ⟨gb321, 1, none⟩ = some (.int .i64 a0_1)) ∧ (Kd.R k52 52 w' w.heap.size (fun _ => True) s_ y337) ∧ (w'.heap[gb321]? = some (.cells #[.int .i64 a0_0, .int .i64 a0_1] 50 (0, 0))) ∧ (w'.heap[gb327]? = some (.cells #[.int .i64 t323, .int .i64 t324] 50 (0, 0))) ∧ (w'.heap[gb336]? = some (.cells #[.int .i64 t332, .int .i64 t333] 50 (0, 0))) ∧ (Below w.heap.size w w')) ?_ ?_
                       rotate_left
                       ·intro hJ1
                        refine join_ (σ := Nat) 11 #[true, false, true, false, true, false, false, false, false, false, false, true, false, false, false] (fun s_ => [(13, .pointer (some ⟨s_, 0, none⟩))]) (fun s_ w' => (w'.cell? ⟨gb321, 0, none⟩ = some (.int .i64 a0_0) ∧ w'.cell? ⟨gb321, 1, none⟩ = some (.int .i64 a0_1)) ∧ (w'.heap[gb321]? = some (.cells #[.int .i64 a0_0, .int .i64 a0_1] 50 (0, 0))) ∧ (w'.heap[gb327]? = some (.cells #[.int .i64 t323, .int .i64 t324] 50 (0, 0))) ∧ (w'.heap[gb336]? = some (.cells #[.int .i64 t332, .int .i64 t333] 50 (0, 0))) ∧ (w'.heap[s_]? = some (.cells #[.int .i64 0, .int .i64 0] 50 (0, 0))) ∧ (w.heap.size ≤ s_) ∧ (w.heap.size ≤ s_) ∧ (gb321 ≠ s_) ∧ (s_ ≠ gb321) ∧ (gb327 ≠ s_) ∧ (s_ ≠ gb327) ∧ (gb336 ≠ s_) ∧ (s_ ≠ gb336) ∧ (Below w.heap.size w w')) ?_ ?_
                        rotate_left
                        ·intro hJ11
                         refine two_ (i := 1) (j := 11) (Ni := some 74) (Nj := some 13) #[true, true, true, false, true, false, false, false, false, false, false, false, false, false, false] #[true, false, true, false, true, false, false, false, false, false, false, true, false, false, false] rfl rfl rfl rfl (two_of HT_.out (by kernel_rfl)) (by decide) (by decide) (fun K hK => ?_) (fun K hK => ?_)
                         ·skip
                          refine Kd.R_lit_step k52 _ 52 ?hg (N := 74) ?hd (xs := ([] : List (S52))) (inner := []) (ok := fun _ => True) (okp := fun _ => True) ?hr ?hp (fun _ hk => hk) trivial (Below.refl _ _) (Nat.le_refl _) (by simp) ?_; (case hd => rfl); (case hg => rfl); (case hr => first | (go_simp; done) | (go_simp; rfl)); (case hp => exact (Reps.none _ _))
                          intro v338 w59 ho60 hb hg_ hnew_
                          clear hg_ hnew_
                          (first | rw [← Ny337.out] at ho60 | (simp only [Int.reduceToNat] at ho60; rw [← Ny337.out] at ho60))
                          have n0_ := Aside0.mk (Kd.R_lower ho60 (below_size (by repeat (first | (with_reducible first | exact HB.out | apply below_alloc | apply pw_below_drewN | apply below_drew1 | refine below_set ?_ GE321.out | refine below_set ?_ GE327.out | refine below_set ?_ GE336.out) | exact HB.out))))
                          have n1_ := Aside0.mk (blk_below (g := gb321) (o := .cells #[.int .i64 a0_0, .int .i64 a0_1] 50 (0, 0)) (by (with_reducible repeat (first | refine blk_drewN ?_ _ | refine blk_drew ?_ | refine blk_alloc ?_ _)); exact BK321.out) hb)
                          have n2_ := Aside0.mk (blk_below (g := gb327) (o := .cells #[.int .i64 t323, .int .i64 t324] 50 (0, 0)) (by (with_reducible repeat (first | refine blk_drewN ?_ _ | refine blk_drew ?_ | refine blk_alloc ?_ _)); exact BK327.out) hb)
                          have n3_ := Aside0.mk (blk_below (g := gb336) (o := .cells #[.int .i64 t332, .int .i64 t333] 50 (0, 0)) (by (with_reducible repeat (first | refine blk_drewN ?_ _ | refine blk_drew ?_ | refine blk_alloc ?_ _)); exact BK336.out) hb)
                          have n4_ := Aside0.mk (below_step (by repeat (first | (with_reducible first | exact HB.out | apply below_alloc | apply pw_below_drewN | apply below_drew1 | refine below_set ?_ GE321.out | refine below_set ?_ GE327.out | refine below_set ?_ GE336.out) | exact HB.out)) hb)
                          clear BK321; clear BK327; clear BK336; clear HB; have HO339 := n0_; have BK321 := n1_; have BK327 := n2_; have BK336 := n3_; have HB := n4_; clear n0_ n1_ n2_ n3_ n4_; clear hb ho60
                          refine hK.out _ _ ⟨(blk_cell BK321.out 0).trans rfl, (blk_cell BK321.out 1).trans rfl⟩ (fun hHeld => ?_)
                          clear hK K
                          refine norm_ (a' := ?_) ?_ ?_
                          rotate_left
                          ·show Act.put _ (some 74) _ = _
                           simp only [Act.put, List.setIfInBounds_toArray, List.set_cons_zero, List.set_cons_succ, i64_w, i32_w]
                           rfl
                          exact norm_ (by first | (simp only [putAll, Act.put, List.setIfInBounds_toArray, List.set_cons_zero, List.set_cons_succ]; done) | (simp only [putAll, Act.put, List.setIfInBounds_toArray, List.set_cons_zero, List.set_cons_succ]; rfl)) (hJ1 (v338) _ ⟨hHeld, (by (with_reducible repeat (first | apply Kd.R_alloc | apply Kd.R_drewN | apply Kd.R_drew)); exact HO339.out), (by (with_reducible repeat (first | refine blk_drewN ?_ _ | refine blk_drew ?_ | refine blk_alloc ?_ _)); exact BK321.out), (by (with_reducible repeat (first | refine blk_drewN ?_ _ | refine blk_drew ?_ | refine blk_alloc ?_ _)); exact BK327.out), (by (with_reducible repeat (first | refine blk_drewN ?_ _ | refine blk_drew ?_ | refine blk_alloc ?_ _)); exact BK336.out), (by repeat (first | (with_reducible first | exact HB.out | apply below_alloc | apply pw_below_drewN | apply below_drew1 | refine below_set ?_ GE321.out | refine below_set ?_ GE327.out | refine below_set ?_ GE336.out) | exact HB.out))⟩)
                         ·skip
                          refine box_step ?hg (N := 13) ?hd (cs := #[.int .i64 0, .int .i64 0]) (t := 50) ?hr ?_; (case hd => rfl); (case hg => rfl); (case hr => first | (go_simp; done) | (go_simp; rfl))
                          intro gb350 hg w59 hbox hb
                          have n0_ := Aside0.mk (blk_below (g := gb321) (o := .cells #[.int .i64 a0_0, .int .i64 a0_1] 50 (0, 0)) (by (with_reducible repeat (first | refine blk_drewN ?_ _ | refine blk_drew ?_ | refine blk_alloc ?_ _)); exact BK321.out) hb)
                          have n1_ := Aside0.mk (blk_below (g := gb327) (o := .cells #[.int .i64 t323, .int .i64 t324] 50 (0, 0)) (by (with_reducible repeat (first | refine blk_drewN ?_ _ | refine blk_drew ?_ | refine blk_alloc ?_ _)); exact BK327.out) hb)
                          have n2_ := Aside0.mk (blk_below (g := gb336) (o := .cells #[.int .i64 t332, .int .i64 t333] 50 (0, 0)) (by (with_reducible repeat (first | refine blk_drewN ?_ _ | refine blk_drew ?_ | refine blk_alloc ?_ _)); exact BK336.out) hb)
                          have n3_ := Aside0.mk (below_step (by repeat (first | (with_reducible first | exact HB.out | apply below_alloc | apply pw_below_drewN | apply below_drew1 | refine below_set ?_ GE321.out | refine below_set ?_ GE327.out | refine below_set ?_ GE336.out) | exact HB.out)) hb)
                          have n4_ := Aside0.mk (hbox)
                          have n5_ := Aside0.mk ((by rw [hg]; exact (below_size (by repeat (first | (with_reducible first | exact HB.out | apply below_alloc | apply pw_below_drewN | apply below_drew1 | refine below_set ?_ GE321.out | refine below_set ?_ GE327.out | refine below_set ?_ GE336.out) | exact HB.out))) : w.heap.size ≤ gb350))
                          have n6_ := Aside0.mk ((by rw [hg]; exact (below_size (by repeat (first | (with_reducible first | exact HB.out | apply below_alloc | apply pw_below_drewN | apply below_drew1 | refine below_set ?_ GE321.out | refine below_set ?_ GE327.out | refine below_set ?_ GE336.out) | exact HB.out))) : w.heap.size ≤ gb350))
                          have n7_ := Aside0.mk ((by rw [hg]; exact Nat.ne_of_lt (blk_lt (g := gb321) (o := .cells #[.int .i64 a0_0, .int .i64 a0_1] 50 (0, 0)) (by (with_reducible repeat (first | refine blk_drewN ?_ _ | refine blk_drew ?_ | refine blk_alloc ?_ _)); exact BK321.out)) : gb321 ≠ gb350))
                          have n8_ := Aside0.mk ((by rw [hg]; exact Nat.ne_of_gt (blk_lt (g := gb321) (o := .cells #[.int .i64 a0_0, .int .i64 a0_1] 50 (0, 0)) (by (with_reducible repeat (first | refine blk_drewN ?_ _ | refine blk_drew ?_ | refine blk_alloc ?_ _)); exact BK321.out)) : gb350 ≠ gb321))
                          have n9_ := Aside0.mk ((by rw [hg]; exact Nat.ne_of_lt (blk_lt (g := gb327) (o := .cells #[.int .i64 t323, .int .i64 t324] 50 (0, 0)) (by (with_reducible repeat (first | refine blk_drewN ?_ _ | refine blk_drew ?_ | refine blk_alloc ?_ _)); exact BK327.out)) : gb327 ≠ gb350))
                          have n10_ := Aside0.mk ((by rw [hg]; exact Nat.ne_of_gt (blk_lt (g := gb327) (o := .cells #[.int .i64 t323, .int .i64 t324] 50 (0, 0)) (by (with_reducible repeat (first | refine blk_drewN ?_ _ | refine blk_drew ?_ | refine blk_alloc ?_ _)); exact BK327.out)) : gb350 ≠ gb327))
                          have n11_ := Aside0.mk ((by rw [hg]; exact Nat.ne_of_lt (blk_lt (g := gb336) (o := .cells #[.int .i64 t332, .int .i64 t333] 50 (0, 0)) (by (with_reducible repeat (first | refine blk_drewN ?_ _ | refine blk_drew ?_ | refine blk_alloc ?_ _)); exact BK336.out)) : gb336 ≠ gb350))
                          have n12_ := Aside0.mk ((by rw [hg]; exact Nat.ne_of_gt (blk_lt (g := gb336) (o := .cells #[.int .i64 t332, .int .i64 t333] 50 (0, 0)) (by (with_reducible repeat (first | refine blk_drewN ?_ _ | refine blk_drew ?_ | refine blk_alloc ?_ _)); exact BK336.out)) : gb350 ≠ gb336))
                          clear BK321; clear BK327; clear BK336; clear HB; have BK321 := n0_; have BK327 := n1_; have BK336 := n2_; have HB := n3_; have BK350 := n4_; have GW350 := n5_; have GE350 := n6_; have NB321_350 := n7_; have NB350_321 := n8_; have NB327_350 := n9_; have NB350_327 := n10_; have NB336_350 := n11_; have NB350_336 := n12_; clear n0_ n1_ n2_ n3_ n4_ n5_ n6_ n7_ n8_ n9_ n10_ n11_ n12_; clear hb hbox hg
                          refine hK.out _ _ ⟨(blk_cell BK321.out 0).trans rfl, (blk_cell BK321.out 1).trans rfl⟩ (fun hHeld => ?_)
                          clear hK K
                          refine norm_ (a' := ?_) ?_ ?_
                          rotate_left
                          ·show Act.put _ (some 13) _ = _
                           simp only [Act.put, List.setIfInBounds_toArray, List.set_cons_zero, List.set_cons_succ, i64_w, i32_w]
                           rfl
                          exact norm_ (by first | (simp only [putAll, Act.put, List.setIfInBounds_toArray, List.set_cons_zero, List.set_cons_succ]; done) | (simp only [putAll, Act.put, List.setIfInBounds_toArray, List.set_cons_zero, List.set_cons_succ]; rfl)) (hJ11 (gb350) _ ⟨hHeld, (by (with_reducible repeat (first | refine blk_drewN ?_ _ | refine blk_drew ?_ | refine blk_alloc ?_ _)); exact BK321.out), (by (with_reducible repeat (first | refine blk_drewN ?_ _ | refine blk_drew ?_ | refine blk_alloc ?_ _)); exact BK327.out), (by (with_reducible repeat (first | refine blk_drewN ?_ _ | refine blk_drew ?_ | refine blk_alloc ?_ _)); exact BK336.out), (by (with_reducible repeat (first | refine blk_drewN ?_ _ | refine blk_drew ?_ | refine blk_alloc ?_ _)); exact BK350.out), GW350.out, GE350.out, NB321_350.out, NB350_321.out, NB327_350.out, NB350_327.out, NB336_350.out, NB350_336.out, (by repeat (first | (with_reducible first | exact HB.out | apply below_alloc | apply pw_below_drewN | apply below_drew1 | refine below_set ?_ GE321.out | refine below_set ?_ GE327.out | refine below_set ?_ GE336.out | refine below_set ?_ GE350.out) | exact HB.out))⟩)
                        ·skip
                         rintro gb350 w60 ⟨hS_, h0_, h1_, h2_, h3_, h4_, h5_, h6_, h7_, h8_, h9_, h10_, h11_, h12_⟩
                         have n0_ : Aside0 (w60.heap[gb321]? = some (.cells #[.int .i64 a0_0, .int .i64 a0_1] 50 (0, 0))) := ⟨h0_⟩
                         have n1_ : Aside0 (w60.heap[gb327]? = some (.cells #[.int .i64 t323, .int .i64 t324] 50 (0, 0))) := ⟨h1_⟩
                         have n2_ : Aside0 (w60.heap[gb336]? = some (.cells #[.int .i64 t332, .int .i64 t333] 50 (0, 0))) := ⟨h2_⟩
                         have n3_ : Aside0 (w60.heap[gb350]? = some (.cells #[.int .i64 0, .int .i64 0] 50 (0, 0))) := ⟨h3_⟩
                         have n4_ : Aside0 (w.heap.size ≤ gb350) := ⟨h4_⟩
                         have n5_ : Aside0 (w.heap.size ≤ gb350) := ⟨h5_⟩
                         have n6_ : Aside0 (gb321 ≠ gb350) := ⟨h6_⟩
                         have n7_ : Aside0 (gb350 ≠ gb321) := ⟨h7_⟩
                         have n8_ : Aside0 (gb327 ≠ gb350) := ⟨h8_⟩
                         have n9_ : Aside0 (gb350 ≠ gb327) := ⟨h9_⟩
                         have n10_ : Aside0 (gb336 ≠ gb350) := ⟨h10_⟩
                         have n11_ : Aside0 (gb350 ≠ gb336) := ⟨h11_⟩
                         have n12_ : Aside0 (Below w.heap.size w w60) := ⟨h12_⟩
                         clear BK321; clear BK327; clear BK336; clear HB; clear h0_ h1_ h2_ h3_ h4_ h5_ h6_ h7_ h8_ h9_ h10_ h11_ h12_; have BK321 := n0_; have BK327 := n1_; have BK336 := n2_; have BK350 := n3_; have GW350 := n4_; have GE350 := n5_; have NB321_350 := n6_; have NB350_321 := n7_; have NB327_350 := n8_; have NB350_327 := n9_; have NB336_350 := n10_; have NB350_336 := n11_; have HB := n12_; clear n0_ n1_ n2_ n3_ n4_ n5_ n6_ n7_ n8_ n9_ n10_ n11_ n12_
                         have hHeld : w60.cell? ⟨gb321, 0, none⟩ = some (.int .i64 a0_0) ∧ w60.cell? ⟨gb321, 1, none⟩ = some (.int .i64 a0_1) := hS_
                         refine norm_ (a' := ?_) ?_ ?_
                         rotate_left
                         ·simp only [putAll, Act.put, List.setIfInBounds_toArray, List.set_cons_zero, List.set_cons_succ]
                          rfl
                         refine one_ (i := 1) (N := some 74) #[true, true, true, false, true, false, false, false, false, false, false, true, false, false, false] rfl rfl (one_of HT_.out (by kernel_rfl)) (by decide) (fun K hK => ?_)
                         refine Kd.R_lit_step k52 _ 52 ?hg (N := 74) ?hd (xs := ([] : List (S52))) (inner := []) (ok := fun _ => True) (okp := fun _ => True) ?hr ?hp (fun _ hk => hk) trivial (Below.refl _ _) (Nat.le_refl _) (by simp) ?_; (case hd => rfl); (case hg => rfl); (case hr => first | (go_simp; done) | (go_simp; rfl)); (case hp => exact (Reps.none _ _))
                         intro v338 w61 ho62 hb hg_ hnew_
                         clear hg_ hnew_
                         (first | rw [← Ny337.out] at ho62 | (simp only [Int.reduceToNat] at ho62; rw [← Ny337.out] at ho62))
                         have n0_ := Aside0.mk (Kd.R_lower ho62 (below_size (by repeat (first | (with_reducible first | exact HB.out | apply below_alloc | apply pw_below_drewN | apply below_drew1 | refine below_set ?_ GE321.out | refine below_set ?_ GE327.out | refine below_set ?_ GE336.out | refine below_set ?_ GE350.out) | exact HB.out))))
                         have n1_ := Aside0.mk (blk_below (g := gb321) (o := .cells #[.int .i64 a0_0, .int .i64 a0_1] 50 (0, 0)) (by (with_reducible repeat (first | refine blk_drewN ?_ _ | refine blk_drew ?_ | refine blk_alloc ?_ _)); exact BK321.out) hb)
                         have n2_ := Aside0.mk (blk_below (g := gb327) (o := .cells #[.int .i64 t323, .int .i64 t324] 50 (0, 0)) (by (with_reducible repeat (first | refine blk_drewN ?_ _ | refine blk_drew ?_ | refine blk_alloc ?_ _)); exact BK327.out) hb)
                         have n3_ := Aside0.mk (blk_below (g := gb336) (o := .cells #[.int .i64 t332, .int .i64 t333] 50 (0, 0)) (by (with_reducible repeat (first | refine blk_drewN ?_ _ | refine blk_drew ?_ | refine blk_alloc ?_ _)); exact BK336.out) hb)
                         have n4_ := Aside0.mk (blk_below (g := gb350) (o := .cells #[.int .i64 0, .int .i64 0] 50 (0, 0)) (by (with_reducible repeat (first | refine blk_drewN ?_ _ | refine blk_drew ?_ | refine blk_alloc ?_ _)); exact BK350.out) hb)
                         have n5_ := Aside0.mk (below_step (by repeat (first | (with_reducible first | exact HB.out | apply below_alloc | apply pw_below_drewN | apply below_drew1 | refine below_set ?_ GE321.out | refine below_set ?_ GE327.out | refine below_set ?_ GE336.out | refine below_set ?_ GE350.out) | exact HB.out)) hb)
                         clear BK321; clear BK327; clear BK336; clear BK350; clear HB; have HO339 := n0_; have BK321 := n1_; have BK327 := n2_; have BK336 := n3_; have BK350 := n4_; have HB := n5_; clear n0_ n1_ n2_ n3_ n4_ n5_; clear hb ho62
                         refine hK.out _ _ ⟨(blk_cell BK321.out 0).trans rfl, (blk_cell BK321.out 1).trans rfl⟩ (fun hHeld => ?_)
                         clear hK K
                         refine norm_ (a' := ?_) ?_ ?_
                         rotate_left
                         ·show Act.put _ (some 74) _ = _
                          simp only [Act.put, List.setIfInBounds_toArray, List.set_cons_zero, List.set_cons_succ, i64_w, i32_w]
                          rfl
                         exact norm_ (by first | (simp only [putAll, Act.put, List.setIfInBounds_toArray, List.set_cons_zero, List.set_cons_succ]; done) | (simp only [putAll, Act.put, List.setIfInBounds_toArray, List.set_cons_zero, List.set_cons_succ]; rfl)) (hJ1_11 (v338, gb350) _ ⟨hHeld, (by (with_reducible repeat (first | apply Kd.R_alloc | apply Kd.R_drewN | apply Kd.R_drew)); exact HO339.out), (by (with_reducible repeat (first | refine blk_drewN ?_ _ | refine blk_drew ?_ | refine blk_alloc ?_ _)); exact BK321.out), (by (with_reducible repeat (first | refine blk_drewN ?_ _ | refine blk_drew ?_ | refine blk_alloc ?_ _)); exact BK327.out), (by (with_reducible repeat (first | refine blk_drewN ?_ _ | refine blk_drew ?_ | refine blk_alloc ?_ _)); exact BK336.out), (by (with_reducible repeat (first | refine blk_drewN ?_ _ | refine blk_drew ?_ | refine blk_alloc ?_ _)); exact BK350.out), GW350.out, GE350.out, NB321_350.out, NB350_321.out, NB327_350.out, NB350_327.out, NB336_350.out, NB350_336.out, (by repeat (first | (with_reducible first | exact HB.out | apply below_alloc | apply pw_below_drewN | apply below_drew1 | refine below_set ?_ GE321.out | refine below_set ?_ GE327.out | refine below_set ?_ GE336.out | refine below_set ?_ GE350.out) | exact HB.out))⟩)
                       ·skip
                        rintro v338 w61 ⟨hS_, h0_, h1_, h2_, h3_, h4_⟩
                        have n0_ : Aside0 (Kd.R k52 52 w61 w.heap.size (fun _ => True) v338 y337) := ⟨h0_⟩
                        have n1_ : Aside0 (w61.heap[gb321]? = some (.cells #[.int .i64 a0_0, .int .i64 a0_1] 50 (0, 0))) := ⟨h1_⟩
                        have n2_ : Aside0 (w61.heap[gb327]? = some (.cells #[.int .i64 t323, .int .i64 t324] 50 (0, 0))) := ⟨h2_⟩
                        have n3_ : Aside0 (w61.heap[gb336]? = some (.cells #[.int .i64 t332, .int .i64 t333] 50 (0, 0))) := ⟨h3_⟩
                        have n4_ : Aside0 (Below w.heap.size w w61) := ⟨h4_⟩
                        clear BK321; clear BK327; clear BK336; clear HB; clear h0_ h1_ h2_ h3_ h4_; have HO339 := n0_; have BK321 := n1_; have BK327 := n2_; have BK336 := n3_; have HB := n4_; clear n0_ n1_ n2_ n3_ n4_
                        have hHeld : w61.cell? ⟨gb321, 0, none⟩ = some (.int .i64 a0_0) ∧ w61.cell? ⟨gb321, 1, none⟩ = some (.int .i64 a0_1) := hS_
                        refine norm_ (a' := ?_) ?_ ?_
                        rotate_left
                        ·simp only [putAll, Act.put, List.setIfInBounds_toArray, List.set_cons_zero, List.set_cons_succ]
                         rfl
                        refine two_ (i := 3) (j := 11) (Ni := some 76) (Nj := some 13) #[true, true, true, true, true, false, false, false, false, false, false, false, false, false, false] #[true, true, true, false, true, false, false, false, false, false, false, true, false, false, false] rfl rfl rfl rfl (two_of HT_.out (by kernel_rfl)) (by decide) (by decide) (fun K hK => ?_) (fun K hK => ?_)
                        ·skip
                         refine Kd.R_append_rows_step k52 (w0 := w) w.heap.size (by rfl) (.tmp 74) (.tmp 75) 64 52 (.agg #[(.int .i64 0), (.int .i64 0)]) 16 rfl Try.underlying64 info52 rfl (by decide) (by omega) v338 y337 l1 _ _ _ (fun _ => True) (fun _ => False) rfl rfl ?aO ?aR (fun _ _ h => h) (fun _ h => h.elim) ?aF ?aB ?aS ?aL ?_
                         (case aR => repeat (first | exact (Kd.C_below HR1.out HB.out) | (with_reducible refine Kd.C_alloc ?_ _) | (with_reducible refine Kd.C_drewN ?_ _) | (with_reducible refine Kd.C_drew ?_)))
                         (case aB => exact (by repeat (first | (with_reducible first | exact HB.out | apply below_alloc | apply pw_below_drewN | apply below_drew1 | refine below_set ?_ GE321.out | refine below_set ?_ GE327.out | refine below_set ?_ GE336.out) | exact HB.out)))
                         (case aF => exact (fun _ _ => trivial))
                         (case aO => exact (by (with_reducible repeat (first | apply Kd.R_alloc | apply Kd.R_drewN | apply Kd.R_drew)); exact HO339.out))
                         (case aS => exact (below_size (by repeat (first | (with_reducible first | exact HB.out | apply below_alloc | apply pw_below_drewN | apply below_drew1 | refine below_set ?_ GE321.out | refine below_set ?_ GE327.out | refine below_set ?_ GE336.out) | exact HB.out))))
                         (case aL => have := LMc40.out; omega)
                         intro v341 w62 ho hb hg hat
                         rw [← Ny340.out] at ho
                         have n0_ := Aside0.mk (blk_grown (g := gb321) (o := .cells #[.int .i64 a0_0, .int .i64 a0_1] 50 (0, 0)) (by (with_reducible repeat (first | refine blk_drewN ?_ _ | refine blk_drew ?_ | refine blk_alloc ?_ _)); exact BK321.out) hg (Kd.R_ne HO339.out BK321.out (by decide)))
                         have n1_ := Aside0.mk (blk_grown (g := gb327) (o := .cells #[.int .i64 t323, .int .i64 t324] 50 (0, 0)) (by (with_reducible repeat (first | refine blk_drewN ?_ _ | refine blk_drew ?_ | refine blk_alloc ?_ _)); exact BK327.out) hg (Kd.R_ne HO339.out BK327.out (by decide)))
                         have n2_ := Aside0.mk (blk_grown (g := gb336) (o := .cells #[.int .i64 t332, .int .i64 t333] 50 (0, 0)) (by (with_reducible repeat (first | refine blk_drewN ?_ _ | refine blk_drew ?_ | refine blk_alloc ?_ _)); exact BK336.out) hg (Kd.R_ne HO339.out BK336.out (by decide)))
                         have n3_ := Aside0.mk (hb)
                         have n4_ := Aside0.mk (ho)
                         clear BK321; clear BK327; clear BK336; clear HB; clear HO339; have BK321 := n0_; have BK327 := n1_; have BK336 := n2_; have HB := n3_; have HO342 := n4_; clear n0_ n1_ n2_ n3_ n4_; clear ho hb hg hat
                         refine hK.out _ _ ⟨(blk_cell BK321.out 0).trans rfl, (blk_cell BK321.out 1).trans rfl⟩ (fun hHeld => ?_)
                         clear hK K
                         refine norm_ (a' := ?_) ?_ ?_
                         rotate_left
                         ·show Act.put _ (some 76) _ = _
                          simp only [Act.put, List.setIfInBounds_toArray, List.set_cons_zero, List.set_cons_succ, i64_w, i32_w]
                          rfl
                         exact norm_ (by first | (simp only [putAll, Act.put, List.setIfInBounds_toArray, List.set_cons_zero, List.set_cons_succ]; done) | (simp only [putAll, Act.put, List.setIfInBounds_toArray, List.set_cons_zero, List.set_cons_succ]; rfl)) (hJ1_3 (v338, v341) _ ⟨hHeld, (by (with_reducible repeat (first | apply Kd.R_alloc | apply Kd.R_drewN | apply Kd.R_drew)); exact HO342.out), (by (with_reducible repeat (first | refine blk_drewN ?_ _ | refine blk_drew ?_ | refine blk_alloc ?_ _)); exact BK321.out), (by (with_reducible repeat (first | refine blk_drewN ?_ _ | refine blk_drew ?_ | refine blk_alloc ?_ _)); exact BK327.out), (by (with_reducible repeat (first | refine blk_drewN ?_ _ | refine blk_drew ?_ | refine blk_alloc ?_ _)); exact BK336.out), (by repeat (first | (with_reducible first | exact HB.out | apply below_alloc | apply pw_below_drewN | apply below_drew1 | refine below_set ?_ GE321.out | refine below_set ?_ GE327.out | refine below_set ?_ GE336.out) | exact HB.out))⟩)
                        ·skip
                         refine box_step ?hg (N := 13) ?hd (cs := #[.int .i64 0, .int .i64 0]) (t := 50) ?hr ?_; (case hd => rfl); (case hg => rfl); (case hr => first | (go_simp; done) | (go_simp; rfl))
                         intro gb350 hg w62 hbox hb
                         have n0_ := Aside0.mk (Kd.R_below (by (with_reducible repeat (first | apply Kd.R_alloc | apply Kd.R_drewN | apply Kd.R_drew)); exact HO339.out) hb)
                         have n1_ := Aside0.mk (blk_below (g := gb321) (o := .cells #[.int .i64 a0_0, .int .i64 a0_1] 50 (0, 0)) (by (with_reducible repeat (first | refine blk_drewN ?_ _ | refine blk_drew ?_ | refine blk_alloc ?_ _)); exact BK321.out) hb)
                         have n2_ := Aside0.mk (blk_below (g := gb327) (o := .cells #[.int .i64 t323, .int .i64 t324] 50 (0, 0)) (by (with_reducible repeat (first | refine blk_drewN ?_ _ | refine blk_drew ?_ | refine blk_alloc ?_ _)); exact BK327.out) hb)
                         have n3_ := Aside0.mk (blk_below (g := gb336) (o := .cells #[.int .i64 t332, .int .i64 t333] 50 (0, 0)) (by (with_reducible repeat (first | refine blk_drewN ?_ _ | refine blk_drew ?_ | refine blk_alloc ?_ _)); exact BK336.out) hb)
                         have n4_ := Aside0.mk (below_step (by repeat (first | (with_reducible first | exact HB.out | apply below_alloc | apply pw_below_drewN | apply below_drew1 | refine below_set ?_ GE321.out | refine below_set ?_ GE327.out | refine below_set ?_ GE336.out) | exact HB.out)) hb)
                         have n5_ := Aside0.mk (hbox)
                         have n6_ := Aside0.mk ((by rw [hg]; exact (below_size (by repeat (first | (with_reducible first | exact HB.out | apply below_alloc | apply pw_below_drewN | apply below_drew1 | refine below_set ?_ GE321.out | refine below_set ?_ GE327.out | refine below_set ?_ GE336.out) | exact HB.out))) : w.heap.size ≤ gb350))
                         have n7_ := Aside0.mk ((by rw [hg]; exact (below_size (by repeat (first | (with_reducible first | exact HB.out | apply below_alloc | apply pw_below_drewN | apply below_drew1 | refine below_set ?_ GE321.out | refine below_set ?_ GE327.out | refine below_set ?_ GE336.out) | exact HB.out))) : w.heap.size ≤ gb350))
                         have n8_ := Aside0.mk ((by rw [hg]; exact Nat.ne_of_lt (blk_lt (g := gb321) (o := .cells #[.int .i64 a0_0, .int .i64 a0_1] 50 (0, 0)) (by (with_reducible repeat (first | refine blk_drewN ?_ _ | refine blk_drew ?_ | refine blk_alloc ?_ _)); exact BK321.out)) : gb321 ≠ gb350))
                         have n9_ := Aside0.mk ((by rw [hg]; exact Nat.ne_of_gt (blk_lt (g := gb321) (o := .cells #[.int .i64 a0_0, .int .i64 a0_1] 50 (0, 0)) (by (with_reducible repeat (first | refine blk_drewN ?_ _ | refine blk_drew ?_ | refine blk_alloc ?_ _)); exact BK321.out)) : gb350 ≠ gb321))
                         have n10_ := Aside0.mk ((by rw [hg]; exact Nat.ne_of_lt (blk_lt (g := gb327) (o := .cells #[.int .i64 t323, .int .i64 t324] 50 (0, 0)) (by (with_reducible repeat (first | refine blk_drewN ?_ _ | refine blk_drew ?_ | refine blk_alloc ?_ _)); exact BK327.out)) : gb327 ≠ gb350))
                         have n11_ := Aside0.mk ((by rw [hg]; exact Nat.ne_of_gt (blk_lt (g := gb327) (o := .cells #[.int .i64 t323, .int .i64 t324] 50 (0, 0)) (by (with_reducible repeat (first | refine blk_drewN ?_ _ | refine blk_drew ?_ | refine blk_alloc ?_ _)); exact BK327.out)) : gb350 ≠ gb327))
                         have n12_ := Aside0.mk ((by rw [hg]; exact Nat.ne_of_lt (blk_lt (g := gb336) (o := .cells #[.int .i64 t332, .int .i64 t333] 50 (0, 0)) (by (with_reducible repeat (first | refine blk_drewN ?_ _ | refine blk_drew ?_ | refine blk_alloc ?_ _)); exact BK336.out)) : gb336 ≠ gb350))
                         have n13_ := Aside0.mk ((by rw [hg]; exact Nat.ne_of_gt (blk_lt (g := gb336) (o := .cells #[.int .i64 t332, .int .i64 t333] 50 (0, 0)) (by (with_reducible repeat (first | refine blk_drewN ?_ _ | refine blk_drew ?_ | refine blk_alloc ?_ _)); exact BK336.out)) : gb350 ≠ gb336))
                         clear HO339; clear BK321; clear BK327; clear BK336; clear HB; have HO339 := n0_; have BK321 := n1_; have BK327 := n2_; have BK336 := n3_; have HB := n4_; have BK350 := n5_; have GW350 := n6_; have GE350 := n7_; have NB321_350 := n8_; have NB350_321 := n9_; have NB327_350 := n10_; have NB350_327 := n11_; have NB336_350 := n12_; have NB350_336 := n13_; clear n0_ n1_ n2_ n3_ n4_ n5_ n6_ n7_ n8_ n9_ n10_ n11_ n12_ n13_; clear hb hbox hg
                         refine hK.out _ _ ⟨(blk_cell BK321.out 0).trans rfl, (blk_cell BK321.out 1).trans rfl⟩ (fun hHeld => ?_)
                         clear hK K
                         refine norm_ (a' := ?_) ?_ ?_
                         rotate_left
                         ·show Act.put _ (some 13) _ = _
                          simp only [Act.put, List.setIfInBounds_toArray, List.set_cons_zero, List.set_cons_succ, i64_w, i32_w]
                          rfl
                         exact norm_ (by first | (simp only [putAll, Act.put, List.setIfInBounds_toArray, List.set_cons_zero, List.set_cons_succ]; done) | (simp only [putAll, Act.put, List.setIfInBounds_toArray, List.set_cons_zero, List.set_cons_succ]; rfl)) (hJ1_11 (v338, gb350) _ ⟨hHeld, (by (with_reducible repeat (first | apply Kd.R_alloc | apply Kd.R_drewN | apply Kd.R_drew)); exact HO339.out), (by (with_reducible repeat (first | refine blk_drewN ?_ _ | refine blk_drew ?_ | refine blk_alloc ?_ _)); exact BK321.out), (by (with_reducible repeat (first | refine blk_drewN ?_ _ | refine blk_drew ?_ | refine blk_alloc ?_ _)); exact BK327.out), (by (with_reducible repeat (first | refine blk_drewN ?_ _ | refine blk_drew ?_ | refine blk_alloc ?_ _)); exact BK336.out), (by (with_reducible repeat (first | refine blk_drewN ?_ _ | refine blk_drew ?_ | refine blk_alloc ?_ _)); exact BK350.out), GW350.out, GE350.out, NB321_350.out, NB350_321.out, NB327_350.out, NB350_327.out, NB336_350.out, NB350_336.out, (by repeat (first | (with_reducible first | exact HB.out | apply below_alloc | apply pw_below_drewN | apply below_drew1 | refine below_set ?_ GE321.out | refine below_set ?_ GE327.out | refine below_set ?_ GE336.out | refine below_set ?_ GE350.out) | exact HB.out))⟩)
                      ·skip
                       rintro ⟨v338, gb350⟩ w62 ⟨hS_, h0_, h1_, h2_, h3_, h4_, h5_, h6_, h7_, h8_, h9_, h10_, h11_, h12_, h13_⟩
                       have n0_ : Aside0 (Kd.R k52 52 w62 w.heap.size (fun _ => True) v338 y337) := ⟨h0_⟩
                       have n1_ : Aside0 (w62.heap[gb321]? = some (.cells #[.int .i64 a0_0, .int .i64 a0_1] 50 (0, 0))) := ⟨h1_⟩
                       have n2_ : Aside0 (w62.heap[gb327]? = some (.cells #[.int .i64 t323, .int .i64 t324] 50 (0, 0))) := ⟨h2_⟩
                       have n3_ : Aside0 (w62.heap[gb336]? = some (.cells #[.int .i64 t332, .int .i64 t333] 50 (0, 0))) := ⟨h3_⟩
                       have n4_ : Aside0 (w62.heap[gb350]? = some (.cells #[.int .i64 0, .int .i64 0] 50 (0, 0))) := ⟨h4_⟩
                       have n5_ : Aside0 (w.heap.size ≤ gb350) := ⟨h5_⟩
                       have n6_ : Aside0 (w.heap.size ≤ gb350) := ⟨h6_⟩
                       have n7_ : Aside0 (gb321 ≠ gb350) := ⟨h7_⟩
                       have n8_ : Aside0 (gb350 ≠ gb321) := ⟨h8_⟩
                       have n9_ : Aside0 (gb327 ≠ gb350) := ⟨h9_⟩
                       have n10_ : Aside0 (gb350 ≠ gb327) := ⟨h10_⟩
                       have n11_ : Aside0 (gb336 ≠ gb350) := ⟨h11_⟩
                       have n12_ : Aside0 (gb350 ≠ gb336) := ⟨h12_⟩
                       have n13_ : Aside0 (Below w.heap.size w w62) := ⟨h13_⟩
                       clear BK321; clear BK327; clear BK336; clear HB; clear h0_ h1_ h2_ h3_ h4_ h5_ h6_ h7_ h8_ h9_ h10_ h11_ h12_ h13_; have HO339 := n0_; have BK321 := n1_; have BK327 := n2_; have BK336 := n3_; have BK350 := n4_; have GW350 := n5_; have GE350 := n6_; have NB321_350 := n7_; have NB350_321 := n8_; have NB327_350 := n9_; have NB350_327 := n10_; have NB336_350 := n11_; have NB350_336 := n12_; have HB := n13_; clear n0_ n1_ n2_ n3_ n4_ n5_ n6_ n7_ n8_ n9_ n10_ n11_ n12_ n13_
                       have hHeld : w62.cell? ⟨gb321, 0, none⟩ = some (.int .i64 a0_0) ∧ w62.cell? ⟨gb321, 1, none⟩ = some (.int .i64 a0_1) := hS_
                       refine norm_ (a' := ?_) ?_ ?_
                       rotate_left
                       ·simp only [putAll, Act.put, List.setIfInBounds_toArray, List.set_cons_zero, List.set_cons_succ]
                        rfl
                       refine one_ (i := 3) (N := some 76) #[true, true, true, true, true, false, false, false, false, false, false, true, false, false, false] rfl rfl (one_of HT_.out (by kernel_rfl)) (by decide) (fun K hK => ?_)
                       refine Kd.R_append_rows_step k52 (w0 := w) w.heap.size (by rfl) (.tmp 74) (.tmp 75) 64 52 (.agg #[(.int .i64 0), (.int .i64 0)]) 16 rfl Try.underlying64 info52 rfl (by decide) (by omega) v338 y337 l1 _ _ _ (fun _ => True) (fun _ => False) rfl rfl ?aO ?aR (fun _ _ h => h) (fun _ h => h.elim) ?aF ?aB ?aS ?aL ?_
                       (case aR => repeat (first | exact (Kd.C_below HR1.out HB.out) | (with_reducible refine Kd.C_alloc ?_ _) | (with_reducible refine Kd.C_drewN ?_ _) | (with_reducible refine Kd.C_drew ?_)))
                       (case aB => exact (by repeat (first | (with_reducible first | exact HB.out | apply below_alloc | apply pw_below_drewN | apply below_drew1 | refine below_set ?_ GE321.out | refine below_set ?_ GE327.out | refine below_set ?_ GE336.out | refine below_set ?_ GE350.out) | exact HB.out)))
                       (case aF => exact (fun _ _ => trivial))
                       (case aO => exact (by (with_reducible repeat (first | apply Kd.R_alloc | apply Kd.R_drewN | apply Kd.R_drew)); exact HO339.out))
                       (case aS => exact (below_size (by repeat (first | (with_reducible first | exact HB.out | apply below_alloc | apply pw_below_drewN | apply below_drew1 | refine below_set ?_ GE321.out | refine below_set ?_ GE327.out | refine below_set ?_ GE336.out | refine below_set ?_ GE350.out) | exact HB.out))))
                       (case aL => have := LMc40.out; omega)
                       intro v341 w63 ho hb hg hat
                       rw [← Ny340.out] at ho
                       have n0_ := Aside0.mk (blk_grown (g := gb321) (o := .cells #[.int .i64 a0_0, .int .i64 a0_1] 50 (0, 0)) (by (with_reducible repeat (first | refine blk_drewN ?_ _ | refine blk_drew ?_ | refine blk_alloc ?_ _)); exact BK321.out) hg (Kd.R_ne HO339.out BK321.out (by decide)))
                       have n1_ := Aside0.mk (blk_grown (g := gb327) (o := .cells #[.int .i64 t323, .int .i64 t324] 50 (0, 0)) (by (with_reducible repeat (first | refine blk_drewN ?_ _ | refine blk_drew ?_ | refine blk_alloc ?_ _)); exact BK327.out) hg (Kd.R_ne HO339.out BK327.out (by decide)))
                       have n2_ := Aside0.mk (blk_grown (g := gb336) (o := .cells #[.int .i64 t332, .int .i64 t333] 50 (0, 0)) (by (with_reducible repeat (first | refine blk_drewN ?_ _ | refine blk_drew ?_ | refine blk_alloc ?_ _)); exact BK336.out) hg (Kd.R_ne HO339.out BK336.out (by decide)))
                       have n3_ := Aside0.mk (blk_grown (g := gb350) (o := .cells #[.int .i64 0, .int .i64 0] 50 (0, 0)) (by (with_reducible repeat (first | refine blk_drewN ?_ _ | refine blk_drew ?_ | refine blk_alloc ?_ _)); exact BK350.out) hg (Kd.R_ne HO339.out BK350.out (by decide)))
                       have n4_ := Aside0.mk (hb)
                       have n5_ := Aside0.mk (ho)
                       clear BK321; clear BK327; clear BK336; clear BK350; clear HB; clear HO339; have BK321 := n0_; have BK327 := n1_; have BK336 := n2_; have BK350 := n3_; have HB := n4_; have HO342 := n5_; clear n0_ n1_ n2_ n3_ n4_ n5_; clear ho hb hg hat
                       refine hK.out _ _ ⟨(blk_cell BK321.out 0).trans rfl, (blk_cell BK321.out 1).trans rfl⟩ (fun hHeld => ?_)
                       clear hK K
                       refine norm_ (a' := ?_) ?_ ?_
                       rotate_left
                       ·show Act.put _ (some 76) _ = _
                        simp only [Act.put, List.setIfInBounds_toArray, List.set_cons_zero, List.set_cons_succ, i64_w, i32_w]
                        rfl
                       exact norm_ (by first | (simp only [putAll, Act.put, List.setIfInBounds_toArray, List.set_cons_zero, List.set_cons_succ]; done) | (simp only [putAll, Act.put, List.setIfInBounds_toArray, List.set_cons_zero, List.set_cons_succ]; rfl)) (hJ1_3_11 (v338, v341, gb350) _ ⟨hHeld, (by (with_reducible repeat (first | apply Kd.R_alloc | apply Kd.R_drewN | apply Kd.R_drew)); exact HO342.out), (by (with_reducible repeat (first | refine blk_drewN ?_ _ | refine blk_drew ?_ | refine blk_alloc ?_ _)); exact BK321.out), (by (with_reducible repeat (first | refine blk_drewN ?_ _ | refine blk_drew ?_ | refine blk_alloc ?_ _)); exact BK327.out), (by (with_reducible repeat (first | refine blk_drewN ?_ _ | refine blk_drew ?_ | refine blk_alloc ?_ _)); exact BK336.out), (by (with_reducible repeat (first | refine blk_drewN ?_ _ | refine blk_drew ?_ | refine blk_alloc ?_ _)); exact BK350.out), GW350.out, GE350.out, NB321_350.out, NB350_321.out, NB327_350.out, NB350_327.out, NB336_350.out, NB350_336.out, (by repeat (first | (with_reducible first | exact HB.out | apply below_alloc | apply pw_below_drewN | apply below_drew1 | refine below_set ?_ GE321.out | refine below_set ?_ GE327.out | refine below_set ?_ GE336.out | refine below_set ?_ GE350.out) | exact HB.out))⟩)
                     ·skip
                      rintro ⟨v338, v341⟩ w62 ⟨hS_, h0_, h1_, h2_, h3_, h4_⟩
                      have n0_ : Aside0 (Kd.R k52 52 w62 w.heap.size (fun _ => True) v341 y340) := ⟨h0_⟩
                      have n1_ : Aside0 (w62.heap[gb321]? = some (.cells #[.int .i64 a0_0, .int .i64 a0_1] 50 (0, 0))) := ⟨h1_⟩
                      have n2_ : Aside0 (w62.heap[gb327]? = some (.cells #[.int .i64 t323, .int .i64 t324] 50 (0, 0))) := ⟨h2_⟩
                      have n3_ : Aside0 (w62.heap[gb336]? = some (.cells #[.int .i64 t332, .int .i64 t333] 50 (0, 0))) := ⟨h3_⟩
                      have n4_ : Aside0 (Below w.heap.size w w62) := ⟨h4_⟩
                      clear BK321; clear BK327; clear BK336; clear HB; clear h0_ h1_ h2_ h3_ h4_; have HO342 := n0_; have BK321 := n1_; have BK327 := n2_; have BK336 := n3_; have HB := n4_; clear n0_ n1_ n2_ n3_ n4_
                      have hHeld : w62.cell? ⟨gb321, 0, none⟩ = some (.int .i64 a0_0) ∧ w62.cell? ⟨gb321, 1, none⟩ = some (.int .i64 a0_1) := hS_
                      refine norm_ (a' := ?_) ?_ ?_
                      rotate_left
                      ·simp only [putAll, Act.put, List.setIfInBounds_toArray, List.set_cons_zero, List.set_cons_succ]
                       rfl
                      refine two_ (i := 5) (j := 11) (Ni := some 78) (Nj := some 13) #[true, true, true, true, true, true, false, false, false, false, false, false, false, false, false] #[true, true, true, true, true, false, false, false, false, false, false, true, false, false, false] rfl rfl rfl rfl (two_of HT_.out (by kernel_rfl)) (by decide) (by decide) (fun K hK => ?_) (fun K hK => ?_)
                      ·skip
                       refine Kd.R_append_rows_step k52 (w0 := w) w.heap.size (by rfl) (.tmp 76) (.tmp 77) 64 52 (.agg #[(.int .i64 0), (.int .i64 0)]) 16 rfl Try.underlying64 info52 rfl (by decide) (by omega) v341 y340 l2 _ _ _ (fun _ => True) (fun _ => False) rfl rfl ?aO ?aR (fun _ _ h => h) (fun _ h => h.elim) ?aF ?aB ?aS ?aL ?_
                       (case aR => repeat (first | exact (Kd.C_below HR2.out HB.out) | (with_reducible refine Kd.C_alloc ?_ _) | (with_reducible refine Kd.C_drewN ?_ _) | (with_reducible refine Kd.C_drew ?_)))
                       (case aB => exact (by repeat (first | (with_reducible first | exact HB.out | apply below_alloc | apply pw_below_drewN | apply below_drew1 | refine below_set ?_ GE321.out | refine below_set ?_ GE327.out | refine below_set ?_ GE336.out) | exact HB.out)))
                       (case aF => exact (fun _ _ => trivial))
                       (case aO => exact (by (with_reducible repeat (first | apply Kd.R_alloc | apply Kd.R_drewN | apply Kd.R_drew)); exact HO342.out))
                       (case aS => exact (below_size (by repeat (first | (with_reducible first | exact HB.out | apply below_alloc | apply pw_below_drewN | apply below_drew1 | refine below_set ?_ GE321.out | refine below_set ?_ GE327.out | refine below_set ?_ GE336.out) | exact HB.out))))
                       (case aL => have := LMc41.out; omega)
                       intro v344 w63 ho hb hg hat
                       rw [← Ny343.out] at ho
                       have n0_ := Aside0.mk (blk_grown (g := gb321) (o := .cells #[.int .i64 a0_0, .int .i64 a0_1] 50 (0, 0)) (by (with_reducible repeat (first | refine blk_drewN ?_ _ | refine blk_drew ?_ | refine blk_alloc ?_ _)); exact BK321.out) hg (Kd.R_ne HO342.out BK321.out (by decide)))
                       have n1_ := Aside0.mk (blk_grown (g := gb327) (o := .cells #[.int .i64 t323, .int .i64 t324] 50 (0, 0)) (by (with_reducible repeat (first | refine blk_drewN ?_ _ | refine blk_drew ?_ | refine blk_alloc ?_ _)); exact BK327.out) hg (Kd.R_ne HO342.out BK327.out (by decide)))
                       have n2_ := Aside0.mk (blk_grown (g := gb336) (o := .cells #[.int .i64 t332, .int .i64 t333] 50 (0, 0)) (by (with_reducible repeat (first | refine blk_drewN ?_ _ | refine blk_drew ?_ | refine blk_alloc ?_ _)); exact BK336.out) hg (Kd.R_ne HO342.out BK336.out (by decide)))
                       have n3_ := Aside0.mk (hb)
                       have n4_ := Aside0.mk (ho)
                       clear BK321; clear BK327; clear BK336; clear HB; clear HO342; have BK321 := n0_; have BK327 := n1_; have BK336 := n2_; have HB := n3_; have HO345 := n4_; clear n0_ n1_ n2_ n3_ n4_; clear ho hb hg hat
                       refine hK.out _ _ ⟨(blk_cell BK321.out 0).trans rfl, (blk_cell BK321.out 1).trans rfl⟩ (fun hHeld => ?_)
                       clear hK K
                       refine norm_ (a' := ?_) ?_ ?_
                       rotate_left
                       ·show Act.put _ (some 78) _ = _
                        simp only [Act.put, List.setIfInBounds_toArray, List.set_cons_zero, List.set_cons_succ, i64_w, i32_w]
                        rfl
                       exact norm_ (by first | (simp only [putAll, Act.put, List.setIfInBounds_toArray, List.set_cons_zero, List.set_cons_succ]; done) | (simp only [putAll, Act.put, List.setIfInBounds_toArray, List.set_cons_zero, List.set_cons_succ]; rfl)) (hJ1_3_5 (v338, v341, v344) _ ⟨hHeld, (by (with_reducible repeat (first | apply Kd.R_alloc | apply Kd.R_drewN | apply Kd.R_drew)); exact HO345.out), (by (with_reducible repeat (first | refine blk_drewN ?_ _ | refine blk_drew ?_ | refine blk_alloc ?_ _)); exact BK321.out), (by (with_reducible repeat (first | refine blk_drewN ?_ _ | refine blk_drew ?_ | refine blk_alloc ?_ _)); exact BK327.out), (by (with_reducible repeat (first | refine blk_drewN ?_ _ | refine blk_drew ?_ | refine blk_alloc ?_ _)); exact BK336.out), (by repeat (first | (with_reducible first | exact HB.out | apply below_alloc | apply pw_below_drewN | apply below_drew1 | refine below_set ?_ GE321.out | refine below_set ?_ GE327.out | refine below_set ?_ GE336.out) | exact HB.out))⟩)
                      ·skip
                       refine box_step ?hg (N := 13) ?hd (cs := #[.int .i64 0, .int .i64 0]) (t := 50) ?hr ?_; (case hd => rfl); (case hg => rfl); (case hr => first | (go_simp; done) | (go_simp; rfl))
                       intro gb350 hg w63 hbox hb
                       have n0_ := Aside0.mk (Kd.R_below (by (with_reducible repeat (first | apply Kd.R_alloc | apply Kd.R_drewN | apply Kd.R_drew)); exact HO342.out) hb)
                       have n1_ := Aside0.mk (blk_below (g := gb321) (o := .cells #[.int .i64 a0_0, .int .i64 a0_1] 50 (0, 0)) (by (with_reducible repeat (first | refine blk_drewN ?_ _ | refine blk_drew ?_ | refine blk_alloc ?_ _)); exact BK321.out) hb)
                       have n2_ := Aside0.mk (blk_below (g := gb327) (o := .cells #[.int .i64 t323, .int .i64 t324] 50 (0, 0)) (by (with_reducible repeat (first | refine blk_drewN ?_ _ | refine blk_drew ?_ | refine blk_alloc ?_ _)); exact BK327.out) hb)
                       have n3_ := Aside0.mk (blk_below (g := gb336) (o := .cells #[.int .i64 t332, .int .i64 t333] 50 (0, 0)) (by (with_reducible repeat (first | refine blk_drewN ?_ _ | refine blk_drew ?_ | refine blk_alloc ?_ _)); exact BK336.out) hb)
                       have n4_ := Aside0.mk (below_step (by repeat (first | (with_reducible first | exact HB.out | apply below_alloc | apply pw_below_drewN | apply below_drew1 | refine below_set ?_ GE321.out | refine below_set ?_ GE327.out | refine below_set ?_ GE336.out) | exact HB.out)) hb)
                       have n5_ := Aside0.mk (hbox)
                       have n6_ := Aside0.mk ((by rw [hg]; exact (below_size (by repeat (first | (with_reducible first | exact HB.out | apply below_alloc | apply pw_below_drewN | apply below_drew1 | refine below_set ?_ GE321.out | refine below_set ?_ GE327.out | refine below_set ?_ GE336.out) | exact HB.out))) : w.heap.size ≤ gb350))
                       have n7_ := Aside0.mk ((by rw [hg]; exact (below_size (by repeat (first | (with_reducible first | exact HB.out | apply below_alloc | apply pw_below_drewN | apply below_drew1 | refine below_set ?_ GE321.out | refine below_set ?_ GE327.out | refine below_set ?_ GE336.out) | exact HB.out))) : w.heap.size ≤ gb350))
                       have n8_ := Aside0.mk ((by rw [hg]; exact Nat.ne_of_lt (blk_lt (g := gb321) (o := .cells #[.int .i64 a0_0, .int .i64 a0_1] 50 (0, 0)) (by (with_reducible repeat (first | refine blk_drewN ?_ _ | refine blk_drew ?_ | refine blk_alloc ?_ _)); exact BK321.out)) : gb321 ≠ gb350))
                       have n9_ := Aside0.mk ((by rw [hg]; exact Nat.ne_of_gt (blk_lt (g := gb321) (o := .cells #[.int .i64 a0_0, .int .i64 a0_1] 50 (0, 0)) (by (with_reducible repeat (first | refine blk_drewN ?_ _ | refine blk_drew ?_ | refine blk_alloc ?_ _)); exact BK321.out)) : gb350 ≠ gb321))
                       have n10_ := Aside0.mk ((by rw [hg]; exact Nat.ne_of_lt (blk_lt (g := gb327) (o := .cells #[.int .i64 t323, .int .i64 t324] 50 (0, 0)) (by (with_reducible repeat (first | refine blk_drewN ?_ _ | refine blk_drew ?_ | refine blk_alloc ?_ _)); exact BK327.out)) : gb327 ≠ gb350))
                       have n11_ := Aside0.mk ((by rw [hg]; exact Nat.ne_of_gt (blk_lt (g := gb327) (o := .cells #[.int .i64 t323, .int .i64 t324] 50 (0, 0)) (by (with_reducible repeat (first | refine blk_drewN ?_ _ | refine blk_drew ?_ | refine blk_alloc ?_ _)); exact BK327.out)) : gb350 ≠ gb327))
                       have n12_ := Aside0.mk ((by rw [hg]; exact Nat.ne_of_lt (blk_lt (g := gb336) (o := .cells #[.int .i64 t332, .int .i64 t333] 50 (0, 0)) (by (with_reducible repeat (first | refine blk_drewN ?_ _ | refine blk_drew ?_ | refine blk_alloc ?_ _)); exact BK336.out)) : gb336 ≠ gb350))
                       have n13_ := Aside0.mk ((by rw [hg]; exact Nat.ne_of_gt (blk_lt (g := gb336) (o := .cells #[.int .i64 t332, .int .i64 t333] 50 (0, 0)) (by (with_reducible repeat (first | refine blk_drewN ?_ _ | refine blk_drew ?_ | refine blk_alloc ?_ _)); exact BK336.out)) : gb350 ≠ gb336))
                       clear HO342; clear BK321; clear BK327; clear BK336; clear HB; have HO342 := n0_; have BK321 := n1_; have BK327 := n2_; have BK336 := n3_; have HB := n4_; have BK350 := n5_; have GW350 := n6_; have GE350 := n7_; have NB321_350 := n8_; have NB350_321 := n9_; have NB327_350 := n10_; have NB350_327 := n11_; have NB336_350 := n12_; have NB350_336 := n13_; clear n0_ n1_ n2_ n3_ n4_ n5_ n6_ n7_ n8_ n9_ n10_ n11_ n12_ n13_; clear hb hbox hg
                       refine hK.out _ _ ⟨(blk_cell BK321.out 0).trans rfl, (blk_cell BK321.out 1).trans rfl⟩ (fun hHeld => ?_)
                       clear hK K
                       refine norm_ (a' := ?_) ?_ ?_
                       rotate_left
                       ·show Act.put _ (some 13) _ = _
                        simp only [Act.put, List.setIfInBounds_toArray, List.set_cons_zero, List.set_cons_succ, i64_w, i32_w]
                        rfl
                       exact norm_ (by first | (simp only [putAll, Act.put, List.setIfInBounds_toArray, List.set_cons_zero, List.set_cons_succ]; done) | (simp only [putAll, Act.put, List.setIfInBounds_toArray, List.set_cons_zero, List.set_cons_succ]; rfl)) (hJ1_3_11 (v338, v341, gb350) _ ⟨hHeld, (by (with_reducible repeat (first | apply Kd.R_alloc | apply Kd.R_drewN | apply Kd.R_drew)); exact HO342.out), (by (with_reducible repeat (first | refine blk_drewN ?_ _ | refine blk_drew ?_ | refine blk_alloc ?_ _)); exact BK321.out), (by (with_reducible repeat (first | refine blk_drewN ?_ _ | refine blk_drew ?_ | refine blk_alloc ?_ _)); exact BK327.out), (by (with_reducible repeat (first | refine blk_drewN ?_ _ | refine blk_drew ?_ | refine blk_alloc ?_ _)); exact BK336.out), (by (with_reducible repeat (first | refine blk_drewN ?_ _ | refine blk_drew ?_ | refine blk_alloc ?_ _)); exact BK350.out), GW350.out, GE350.out, NB321_350.out, NB350_321.out, NB327_350.out, NB350_327.out, NB336_350.out, NB350_336.out, (by repeat (first | (with_reducible first | exact HB.out | apply below_alloc | apply pw_below_drewN | apply below_drew1 | refine below_set ?_ GE321.out | refine below_set ?_ GE327.out | refine below_set ?_ GE336.out | refine below_set ?_ GE350.out) | exact HB.out))⟩)
                    ·skip
                     rintro ⟨v338, v341, gb350⟩ w63 ⟨hS_, h0_, h1_, h2_, h3_, h4_, h5_, h6_, h7_, h8_, h9_, h10_, h11_, h12_, h13_⟩
                     have n0_ : Aside0 (Kd.R k52 52 w63 w.heap.size (fun _ => True) v341 y340) := ⟨h0_⟩
                     have n1_ : Aside0 (w63.heap[gb321]? = some (.cells #[.int .i64 a0_0, .int .i64 a0_1] 50 (0, 0))) := ⟨h1_⟩
                     have n2_ : Aside0 (w63.heap[gb327]? = some (.cells #[.int .i64 t323, .int .i64 t324] 50 (0, 0))) := ⟨h2_⟩
                     have n3_ : Aside0 (w63.heap[gb336]? = some (.cells #[.int .i64 t332, .int .i64 t333] 50 (0, 0))) := ⟨h3_⟩
                     have n4_ : Aside0 (w63.heap[gb350]? = some (.cells #[.int .i64 0, .int .i64 0] 50 (0, 0))) := ⟨h4_⟩
                     have n5_ : Aside0 (w.heap.size ≤ gb350) := ⟨h5_⟩
                     have n6_ : Aside0 (w.heap.size ≤ gb350) := ⟨h6_⟩
                     have n7_ : Aside0 (gb321 ≠ gb350) := ⟨h7_⟩
                     have n8_ : Aside0 (gb350 ≠ gb321) := ⟨h8_⟩
                     have n9_ : Aside0 (gb327 ≠ gb350) := ⟨h9_⟩
                     have n10_ : Aside0 (gb350 ≠ gb327) := ⟨h10_⟩
                     have n11_ : Aside0 (gb336 ≠ gb350) := ⟨h11_⟩
                     have n12_ : Aside0 (gb350 ≠ gb336) := ⟨h12_⟩
                     have n13_ : Aside0 (Below w.heap.size w w63) := ⟨h13_⟩
                     clear BK321; clear BK327; clear BK336; clear HB; clear h0_ h1_ h2_ h3_ h4_ h5_ h6_ h7_ h8_ h9_ h10_ h11_ h12_ h13_; have HO342 := n0_; have BK321 := n1_; have BK327 := n2_; have BK336 := n3_; have BK350 := n4_; have GW350 := n5_; have GE350 := n6_; have NB321_350 := n7_; have NB350_321 := n8_; have NB327_350 := n9_; have NB350_327 := n10_; have NB336_350 := n11_; have NB350_336 := n12_; have HB := n13_; clear n0_ n1_ n2_ n3_ n4_ n5_ n6_ n7_ n8_ n9_ n10_ n11_ n12_ n13_
                     have hHeld : w63.cell? ⟨gb321, 0, none⟩ = some (.int .i64 a0_0) ∧ w63.cell? ⟨gb321, 1, none⟩ = some (.int .i64 a0_1) := hS_
                     refine norm_ (a' := ?_) ?_ ?_
                     rotate_left
                     ·simp only [putAll, Act.put, List.setIfInBounds_toArray, List.set_cons_zero, List.set_cons_succ]
                      rfl
                     refine one_ (i := 5) (N := some 78) #[true, true, true, true, true, true, false, false, false, false, false, true, false, false, false] rfl rfl (one_of HT_.out (by kernel_rfl)) (by decide) (fun K hK => ?_)
                     refine Kd.R_append_rows_step k52 (w0 := w) w.heap.size (by rfl) (.tmp 76) (.tmp 77) 64 52 (.agg #[(.int .i64 0), (.int .i64 0)]) 16 rfl Try.underlying64 info52 rfl (by decide) (by omega) v341 y340 l2 _ _ _ (fun _ => True) (fun _ => False) rfl rfl ?aO ?aR (fun _ _ h => h) (fun _ h => h.elim) ?aF ?aB ?aS ?aL ?_
                     (case aR => repeat (first | exact (Kd.C_below HR2.out HB.out) | (with_reducible refine Kd.C_alloc ?_ _) | (with_reducible refine Kd.C_drewN ?_ _) | (with_reducible refine Kd.C_drew ?_)))
                     (case aB => exact (by repeat (first | (with_reducible first | exact HB.out | apply below_alloc | apply pw_below_drewN | apply below_drew1 | refine below_set ?_ GE321.out | refine below_set ?_ GE327.out | refine below_set ?_ GE336.out | refine below_set ?_ GE350.out) | exact HB.out)))
                     (case aF => exact (fun _ _ => trivial))
                     (case aO => exact (by (with_reducible repeat (first | apply Kd.R_alloc | apply Kd.R_drewN | apply Kd.R_drew)); exact HO342.out))
                     (case aS => exact (below_size (by repeat (first | (with_reducible first | exact HB.out | apply below_alloc | apply pw_below_drewN | apply below_drew1 | refine below_set ?_ GE321.out | refine below_set ?_ GE327.out | refine below_set ?_ GE336.out | refine below_set ?_ GE350.out) | exact HB.out))))
                     (case aL => have := LMc41.out; omega)
                     intro v344 w64 ho hb hg hat
                     rw [← Ny343.out] at ho
                     have n0_ := Aside0.mk (blk_grown (g := gb321) (o := .cells #[.int .i64 a0_0, .int .i64 a0_1] 50 (0, 0)) (by (with_reducible repeat (first | refine blk_drewN ?_ _ | refine blk_drew ?_ | refine blk_alloc ?_ _)); exact BK321.out) hg (Kd.R_ne HO342.out BK321.out (by decide)))
                     have n1_ := Aside0.mk (blk_grown (g := gb327) (o := .cells #[.int .i64 t323, .int .i64 t324] 50 (0, 0)) (by (with_reducible repeat (first | refine blk_drewN ?_ _ | refine blk_drew ?_ | refine blk_alloc ?_ _)); exact BK327.out) hg (Kd.R_ne HO342.out BK327.out (by decide)))
                     have n2_ := Aside0.mk (blk_grown (g := gb336) (o := .cells #[.int .i64 t332, .int .i64 t333] 50 (0, 0)) (by (with_reducible repeat (first | refine blk_drewN ?_ _ | refine blk_drew ?_ | refine blk_alloc ?_ _)); exact BK336.out) hg (Kd.R_ne HO342.out BK336.out (by decide)))
                     have n3_ := Aside0.mk (blk_grown (g := gb350) (o := .cells #[.int .i64 0, .int .i64 0] 50 (0, 0)) (by (with_reducible repeat (first | refine blk_drewN ?_ _ | refine blk_drew ?_ | refine blk_alloc ?_ _)); exact BK350.out) hg (Kd.R_ne HO342.out BK350.out (by decide)))
                     have n4_ := Aside0.mk (hb)
                     have n5_ := Aside0.mk (ho)
                     clear BK321; clear BK327; clear BK336; clear BK350; clear HB; clear HO342; have BK321 := n0_; have BK327 := n1_; have BK336 := n2_; have BK350 := n3_; have HB := n4_; have HO345 := n5_; clear n0_ n1_ n2_ n3_ n4_ n5_; clear ho hb hg hat
                     refine hK.out _ _ ⟨(blk_cell BK321.out 0).trans rfl, (blk_cell BK321.out 1).trans rfl⟩ (fun hHeld => ?_)
                     clear hK K
                     refine norm_ (a' := ?_) ?_ ?_
                     rotate_left
                     ·show Act.put _ (some 78) _ = _
                      simp only [Act.put, List.setIfInBounds_toArray, List.set_cons_zero, List.set_cons_succ, i64_w, i32_w]
                      rfl
                     exact norm_ (by first | (simp only [putAll, Act.put, List.setIfInBounds_toArray, List.set_cons_zero, List.set_cons_succ]; done) | (simp only [putAll, Act.put, List.setIfInBounds_toArray, List.set_cons_zero, List.set_cons_succ]; rfl)) (hJ1_3_5_11 (v338, v341, v344, gb350) _ ⟨hHeld, (by (with_reducible repeat (first | apply Kd.R_alloc | apply Kd.R_drewN | apply Kd.R_drew)); exact HO345.out), (by (with_reducible repeat (first | refine blk_drewN ?_ _ | refine blk_drew ?_ | refine blk_alloc ?_ _)); exact BK321.out), (by (with_reducible repeat (first | refine blk_drewN ?_ _ | refine blk_drew ?_ | refine blk_alloc ?_ _)); exact BK327.out), (by (with_reducible repeat (first | refine blk_drewN ?_ _ | refine blk_drew ?_ | refine blk_alloc ?_ _)); exact BK336.out), (by (with_reducible repeat (first | refine blk_drewN ?_ _ | refine blk_drew ?_ | refine blk_alloc ?_ _)); exact BK350.out), GW350.out, GE350.out, NB321_350.out, NB350_321.out, NB327_350.out, NB350_327.out, NB336_350.out, NB350_336.out, (by repeat (first | (with_reducible first | exact HB.out | apply below_alloc | apply pw_below_drewN | apply below_drew1 | refine below_set ?_ GE321.out | refine below_set ?_ GE327.out | refine below_set ?_ GE336.out | refine below_set ?_ GE350.out) | exact HB.out))⟩)
                   ·skip
                    rintro ⟨v338, v341, v344⟩ w63 ⟨hS_, h0_, h1_, h2_, h3_, h4_⟩
                    have n0_ : Aside0 (Kd.R k52 52 w63 w.heap.size (fun _ => True) v344 y343) := ⟨h0_⟩
                    have n1_ : Aside0 (w63.heap[gb321]? = some (.cells #[.int .i64 a0_0, .int .i64 a0_1] 50 (0, 0))) := ⟨h1_⟩
                    have n2_ : Aside0 (w63.heap[gb327]? = some (.cells #[.int .i64 t323, .int .i64 t324] 50 (0, 0))) := ⟨h2_⟩
                    have n3_ : Aside0 (w63.heap[gb336]? = some (.cells #[.int .i64 t332, .int .i64 t333] 50 (0, 0))) := ⟨h3_⟩
                    have n4_ : Aside0 (Below w.heap.size w w63) := ⟨h4_⟩
                    clear BK321; clear BK327; clear BK336; clear HB; clear h0_ h1_ h2_ h3_ h4_; have HO345 := n0_; have BK321 := n1_; have BK327 := n2_; have BK336 := n3_; have HB := n4_; clear n0_ n1_ n2_ n3_ n4_
                    have hHeld : w63.cell? ⟨gb321, 0, none⟩ = some (.int .i64 a0_0) ∧ w63.cell? ⟨gb321, 1, none⟩ = some (.int .i64 a0_1) := hS_
                    obtain ⟨Ao64, co64, eo64⟩ := Kd.R_slice HO345.out
                    (first | subst eo64 | (injection eo64 with f1_ f2_ f3_; have f4_ := f1_.symm; have f5_ := f3_.symm; clear f1_ f2_ f3_; subst f4_; subst f5_))
                    refine norm_ (a' := ?_) ?_ ?_
                    rotate_left
                    ·simp only [putAll, Act.put, List.setIfInBounds_toArray, List.set_cons_zero, List.set_cons_succ]
                     rfl
                    refine two_ (i := 6) (j := 11) (Ni := some 79) (Nj := some 13) #[true, true, true, true, true, true, true, false, false, false, false, false, false, false, false] #[true, true, true, true, true, true, false, false, false, false, false, true, false, false, false] rfl rfl rfl rfl (two_of HT_.out (by kernel_rfl)) (by decide) (by decide) (fun K hK => ?_) (fun K hK => ?_)
                    ·skip
                     refine goes_ Try.func37 (by kernel_rfl) rfl #[.agg #[.int .i64 a0_0, .int .i64 a0_1], .slice Ao64 y343.length co64] (by rfl) rfl rfl (by (try simp only [List.map_toArray, List.map_cons, List.map_nil]); first | done | rfl) ?_
                     with_reducible refine (life_Run.calls kj12 a0_0 a0_1 _ _ y343 t346 t347 t348 t349 _ ?side1 ?side2 A42.out).mono ?_
                     (case side1 => repeat (first | exact (Kd.R_reads' HO345.out).2.2 | (with_reducible refine Kd.C_alloc ?_ _) | (with_reducible refine Kd.C_drewN ?_ _) | (with_reducible refine Kd.C_drew ?_)))
                     (case side2 => exact (Kd.R_reads' HO345.out).2.1)
                     rintro e w65 ⟨rfl, hb⟩
                     refine ⟨_, rfl, ?_⟩
                     have n0_ := Aside0.mk (Kd.R_below (by (with_reducible repeat (first | apply Kd.R_alloc | apply Kd.R_drewN | apply Kd.R_drew)); exact HO345.out) hb)
                     have n1_ := Aside0.mk (blk_below (g := gb321) (o := .cells #[.int .i64 a0_0, .int .i64 a0_1] 50 (0, 0)) (by (with_reducible repeat (first | refine blk_drewN ?_ _ | refine blk_drew ?_ | refine blk_alloc ?_ _)); exact BK321.out) hb)
                     have n2_ := Aside0.mk (blk_below (g := gb327) (o := .cells #[.int .i64 t323, .int .i64 t324] 50 (0, 0)) (by (with_reducible repeat (first | refine blk_drewN ?_ _ | refine blk_drew ?_ | refine blk_alloc ?_ _)); exact BK327.out) hb)
                     have n3_ := Aside0.mk (blk_below (g := gb336) (o := .cells #[.int .i64 t332, .int .i64 t333] 50 (0, 0)) (by (with_reducible repeat (first | refine blk_drewN ?_ _ | refine blk_drew ?_ | refine blk_alloc ?_ _)); exact BK336.out) hb)
                     have n4_ := Aside0.mk (below_step (by repeat (first | (with_reducible first | exact HB.out | apply below_alloc | apply pw_below_drewN | apply below_drew1 | refine below_set ?_ GE321.out | refine below_set ?_ GE327.out | refine below_set ?_ GE336.out) | exact HB.out)) hb)
                     clear HO345; clear BK321; clear BK327; clear BK336; clear HB; have HO345 := n0_; have BK321 := n1_; have BK327 := n2_; have BK336 := n3_; have HB := n4_; clear n0_ n1_ n2_ n3_ n4_
                     (try clear hb)
                     (try clear hb2)
                     (try clear hk)
                     (try clear hi)
                     refine hK.out _ _ ⟨(blk_cell BK321.out 0).trans rfl, (blk_cell BK321.out 1).trans rfl⟩ (fun hHeld => ?_)
                     clear hK K
                     refine norm_ (a' := ?_) ?_ ?_
                     rotate_left
                     ·show Act.put _ (some 79) _ = _
                      simp only [Act.put, List.setIfInBounds_toArray, List.set_cons_zero, List.set_cons_succ, i64_w, i32_w]
                      rfl
                     refine pure_ (i := 7) (N := some 72) (v := ?_) (a' := ?_) #[true, true, true, true, true, true, true, true, false, false, false, false, false, false, false] rfl rfl (any_of HT_.out (by kernel_rfl)) (fun _ _ _ h => h) (Or.inl ⟨by rfl, ?_⟩) ?_ ?_
                     rotate_left
                     ·intro w'
                      go_simp
                      with_reducible rfl
                     rotate_left
                     ·simp only [Act.put, List.setIfInBounds_toArray, List.set_cons_zero, List.set_cons_succ, i64_w, i32_w]
                      rfl
                     refine pure_ (i := 8) (N := some 80) (v := ?_) (a' := ?_) #[true, true, true, true, true, true, true, true, true, false, false, false, false, false, false] rfl rfl (any_of HT_.out (by kernel_rfl)) (fun _ _ _ h => h) (Or.inl ⟨by rfl, ?_⟩) ?_ ?_
                     rotate_left
                     ·intro w'
                      go_simp
                      with_reducible rfl
                     rotate_left
                     ·simp only [Act.put, List.setIfInBounds_toArray, List.set_cons_zero, List.set_cons_succ, i64_w, i32_w]
                      rfl
                     refine pure_ (i := 9) (N := some 81) (v := ?_) (a' := ?_) #[true, true, true, true, true, true, true, true, true, true, false, false, false, false, false] rfl rfl (any_of HT_.out (by kernel_rfl)) (fun _ _ _ h => h) (Or.inl ⟨by rfl, ?_⟩) ?_ ?_
                     rotate_left
                     ·intro w'
                      go_simp
                      with_reducible rfl
                     rotate_left
                     ·simp only [Act.put, List.setIfInBounds_toArray, List.set_cons_zero, List.set_cons_succ, i64_w, i32_w]
                      rfl
                     refine pure_ (i := 10) (N := some 82) (v := ?_) (a' := ?_) #[true, true, true, true, true, true, true, true, true, true, true, false, false, false, false] rfl rfl (any_of HT_.out (by kernel_rfl)) (fun _ _ _ h => h) (Or.inl ⟨by rfl, ?_⟩) ?_ ?_
                     rotate_left
                     ·intro w'
                      go_simp
                      with_reducible rfl
                     rotate_left
                     ·simp only [Act.put, List.setIfInBounds_toArray, List.set_cons_zero, List.set_cons_succ, i64_w, i32_w]
                      rfl
                     exact norm_ (by first | (simp only [putAll, Act.put, List.setIfInBounds_toArray, List.set_cons_zero, List.set_cons_succ]; done) | (simp only [putAll, Act.put, List.setIfInBounds_toArray, List.set_cons_zero, List.set_cons_succ]; rfl)) (hJ1_3_5_6 (v338, v341, .slice Ao64 y343.length co64) _ ⟨hHeld, (by (with_reducible repeat (first | apply Kd.R_alloc | apply Kd.R_drewN | apply Kd.R_drew)); exact HO345.out), (by (with_reducible repeat (first | refine blk_drewN ?_ _ | refine blk_drew ?_ | refine blk_alloc ?_ _)); exact BK321.out), (by (with_reducible repeat (first | refine blk_drewN ?_ _ | refine blk_drew ?_ | refine blk_alloc ?_ _)); exact BK327.out), (by (with_reducible repeat (first | refine blk_drewN ?_ _ | refine blk_drew ?_ | refine blk_alloc ?_ _)); exact BK336.out), (by repeat (first | (with_reducible first | exact HB.out | apply below_alloc | apply pw_below_drewN | apply below_drew1 | refine below_set ?_ GE321.out | refine below_set ?_ GE327.out | refine below_set ?_ GE336.out) | exact HB.out))⟩)
                    ·skip
                     refine box_step ?hg (N := 13) ?hd (cs := #[.int .i64 0, .int .i64 0]) (t := 50) ?hr ?_; (case hd => rfl); (case hg => rfl); (case hr => first | (go_simp; done) | (go_simp; rfl))
                     intro gb350 hg w64 hbox hb
                     have n0_ := Aside0.mk (Kd.R_below (by (with_reducible repeat (first | apply Kd.R_alloc | apply Kd.R_drewN | apply Kd.R_drew)); exact HO345.out) hb)
                     have n1_ := Aside0.mk (blk_below (g := gb321) (o := .cells #[.int .i64 a0_0, .int .i64 a0_1] 50 (0, 0)) (by (with_reducible repeat (first | refine blk_drewN ?_ _ | refine blk_drew ?_ | refine blk_alloc ?_ _)); exact BK321.out) hb)
                     have n2_ := Aside0.mk (blk_below (g := gb327) (o := .cells #[.int .i64 t323, .int .i64 t324] 50 (0, 0)) (by (with_reducible repeat (first | refine blk_drewN ?_ _ | refine blk_drew ?_ | refine blk_alloc ?_ _)); exact BK327.out) hb)
                     have n3_ := Aside0.mk (blk_below (g := gb336) (o := .cells #[.int .i64 t332, .int .i64 t333] 50 (0, 0)) (by (with_reducible repeat (first | refine blk_drewN ?_ _ | refine blk_drew ?_ | refine blk_alloc ?_ _)); exact BK336.out) hb)
                     have n4_ := Aside0.mk (below_step (by repeat (first | (with_reducible first | exact HB.out | apply below_alloc | apply pw_below_drewN | apply below_drew1 | refine below_set ?_ GE321.out | refine below_set ?_ GE327.out | refine below_set ?_ GE336.out) | exact HB.out)) hb)
                     have n5_ := Aside0.mk (hbox)
                     have n6_ := Aside0.mk ((by rw [hg]; exact (below_size (by repeat (first | (with_reducible first | exact HB.out | apply below_alloc | apply pw_below_drewN | apply below_drew1 | refine below_set ?_ GE321.out | refine below_set ?_ GE327.out | refine below_set ?_ GE336.out) | exact HB.out))) : w.heap.size ≤ gb350))
                     have n7_ := Aside0.mk ((by rw [hg]; exact (below_size (by repeat (first | (with_reducible first | exact HB.out | apply below_alloc | apply pw_below_drewN | apply below_drew1 | refine below_set ?_ GE321.out | refine below_set ?_ GE327.out | refine below_set ?_ GE336.out) | exact HB.out))) : w.heap.size ≤ gb350))
                     have n8_ := Aside0.mk ((by rw [hg]; exact Nat.ne_of_lt (blk_lt (g := gb321) (o := .cells #[.int .i64 a0_0, .int .i64 a0_1] 50 (0, 0)) (by (with_reducible repeat (first | refine blk_drewN ?_ _ | refine blk_drew ?_ | refine blk_alloc ?_ _)); exact BK321.out)) : gb321 ≠ gb350))
                     have n9_ := Aside0.mk ((by rw [hg]; exact Nat.ne_of_gt (blk_lt (g := gb321) (o := .cells #[.int .i64 a0_0, .int .i64 a0_1] 50 (0, 0)) (by (with_reducible repeat (first | refine blk_drewN ?_ _ | refine blk_drew ?_ | refine blk_alloc ?_ _)); exact BK321.out)) : gb350 ≠ gb321))
                     have n10_ := Aside0.mk ((by rw [hg]; exact Nat.ne_of_lt (blk_lt (g := gb327) (o := .cells #[.int .i64 t323, .int .i64 t324] 50 (0, 0)) (by (with_reducible repeat (first | refine blk_drewN ?_ _ | refine blk_drew ?_ | refine blk_alloc ?_ _)); exact BK327.out)) : gb327 ≠ gb350))
                     have n11_ := Aside0.mk ((by rw [hg]; exact Nat.ne_of_gt (blk_lt (g := gb327) (o := .cells #[.int .i64 t323, .int .i64 t324] 50 (0, 0)) (by (with_reducible repeat (first | refine blk_drewN ?_ _ | refine blk_drew ?_ | refine blk_alloc ?_ _)); exact BK327.out)) : gb350 ≠ gb327))
                     have n12_ := Aside0.mk ((by rw [hg]; exact Nat.ne_of_lt (blk_lt (g := gb336) (o := .cells #[.int .i64 t332, .int .i64 t333] 50 (0, 0)) (by (with_reducible repeat (first | refine blk_drewN ?_ _ | refine blk_drew ?_ | refine blk_alloc ?_ _)); exact BK336.out)) : gb336 ≠ gb350))
                     have n13_ := Aside0.mk ((by rw [hg]; exact Nat.ne_of_gt (blk_lt (g := gb336) (o := .cells #[.int .i64 t332, .int .i64 t333] 50 (0, 0)) (by (with_reducible repeat (first | refine blk_drewN ?_ _ | refine blk_drew ?_ | refine blk_alloc ?_ _)); exact BK336.out)) : gb350 ≠ gb336))
                     clear HO345; clear BK321; clear BK327; clear BK336; clear HB; have HO345 := n0_; have BK321 := n1_; have BK327 := n2_; have BK336 := n3_; have HB := n4_; have BK350 := n5_; have GW350 := n6_; have GE350 := n7_; have NB321_350 := n8_; have NB350_321 := n9_; have NB327_350 := n10_; have NB350_327 := n11_; have NB336_350 := n12_; have NB350_336 := n13_; clear n0_ n1_ n2_ n3_ n4_ n5_ n6_ n7_ n8_ n9_ n10_ n11_ n12_ n13_; clear hb hbox hg
                     refine hK.out _ _ ⟨(blk_cell BK321.out 0).trans rfl, (blk_cell BK321.out 1).trans rfl⟩ (fun hHeld => ?_)
                     clear hK K
                     refine norm_ (a' := ?_) ?_ ?_
                     rotate_left
                     ·show Act.put _ (some 13) _ = _
                      simp only [Act.put, List.setIfInBounds_toArray, List.set_cons_zero, List.set_cons_succ, i64_w, i32_w]
                      rfl
                     exact norm_ (by first | (simp only [putAll, Act.put, List.setIfInBounds_toArray, List.set_cons_zero, List.set_cons_succ]; done) | (simp only [putAll, Act.put, List.setIfInBounds_toArray, List.set_cons_zero, List.set_cons_succ]; rfl)) (hJ1_3_5_11 (v338, v341, .slice Ao64 y343.length co64, gb350) _ ⟨hHeld, (by (with_reducible repeat (first | apply Kd.R_alloc | apply Kd.R_drewN | apply Kd.R_drew)); exact HO345.out), (by (with_reducible repeat (first | refine blk_drewN ?_ _ | refine blk_drew ?_ | refine blk_alloc ?_ _)); exact BK321.out), (by (with_reducible repeat (first | refine blk_drewN ?_ _ | refine blk_drew ?_ | refine blk_alloc ?_ _)); exact BK327.out), (by (with_reducible repeat (first | refine blk_drewN ?_ _ | refine blk_drew ?_ | refine blk_alloc ?_ _)); exact BK336.out), (by (with_reducible repeat (first | refine blk_drewN ?_ _ | refine blk_drew ?_ | refine blk_alloc ?_ _)); exact BK350.out), GW350.out, GE350.out, NB321_350.out, NB350_321.out, NB327_350.out, NB350_327.out, NB336_350.out, NB350_336.out, (by repeat (first | (with_reducible first | exact HB.out | apply below_alloc | apply pw_below_drewN | apply below_drew1 | refine below_set ?_ GE321.out | refine below_set ?_ GE327.out | refine below_set ?_ GE336.out | refine below_set ?_ GE350.out) | exact HB.out))⟩)
                  ·skip
                   rintro ⟨v338, v341, v344, gb350⟩ w64 ⟨hS_, h0_, h1_, h2_, h3_, h4_, h5_, h6_, h7_, h8_, h9_, h10_, h11_, h12_, h13_⟩
                   have n0_ : Aside0 (Kd.R k52 52 w64 w.heap.size (fun _ => True) v344 y343) := ⟨h0_⟩
                   have n1_ : Aside0 (w64.heap[gb321]? = some (.cells #[.int .i64 a0_0, .int .i64 a0_1] 50 (0, 0))) := ⟨h1_⟩
                   have n2_ : Aside0 (w64.heap[gb327]? = some (.cells #[.int .i64 t323, .int .i64 t324] 50 (0, 0))) := ⟨h2_⟩
                   have n3_ : Aside0 (w64.heap[gb336]? = some (.cells #[.int .i64 t332, .int .i64 t333] 50 (0, 0))) := ⟨h3_⟩
                   have n4_ : Aside0 (w64.heap[gb350]? = some (.cells #[.int .i64 0, .int .i64 0] 50 (0, 0))) := ⟨h4_⟩
                   have n5_ : Aside0 (w.heap.size ≤ gb350) := ⟨h5_⟩
                   have n6_ : Aside0 (w.heap.size ≤ gb350) := ⟨h6_⟩
                   have n7_ : Aside0 (gb321 ≠ gb350) := ⟨h7_⟩
                   have n8_ : Aside0 (gb350 ≠ gb321) := ⟨h8_⟩
                   have n9_ : Aside0 (gb327 ≠ gb350) := ⟨h9_⟩
                   have n10_ : Aside0 (gb350 ≠ gb327) := ⟨h10_⟩
                   have n11_ : Aside0 (gb336 ≠ gb350) := ⟨h11_⟩
                   have n12_ : Aside0 (gb350 ≠ gb336) := ⟨h12_⟩
                   have n13_ : Aside0 (Below w.heap.size w w64) := ⟨h13_⟩
                   clear BK321; clear BK327; clear BK336; clear HB; clear h0_ h1_ h2_ h3_ h4_ h5_ h6_ h7_ h8_ h9_ h10_ h11_ h12_ h13_; have HO345 := n0_; have BK321 := n1_; have BK327 := n2_; have BK336 := n3_; have BK350 := n4_; have GW350 := n5_; have GE350 := n6_; have NB321_350 := n7_; have NB350_321 := n8_; have NB327_350 := n9_; have NB350_327 := n10_; have NB336_350 := n11_; have NB350_336 := n12_; have HB := n13_; clear n0_ n1_ n2_ n3_ n4_ n5_ n6_ n7_ n8_ n9_ n10_ n11_ n12_ n13_
                   have hHeld : w64.cell? ⟨gb321, 0, none⟩ = some (.int .i64 a0_0) ∧ w64.cell? ⟨gb321, 1, none⟩ = some (.int .i64 a0_1) := hS_
                   obtain ⟨Ao65, co65, eo65⟩ := Kd.R_slice HO345.out
                   (first | subst eo65 | (injection eo65 with f1_ f2_ f3_; have f4_ := f1_.symm; have f5_ := f3_.symm; clear f1_ f2_ f3_; subst f4_; subst f5_))
                   refine norm_ (a' := ?_) ?_ ?_
                   rotate_left
                   ·simp only [putAll, Act.put, List.setIfInBounds_toArray, List.set_cons_zero, List.set_cons_succ]
                    rfl
                   refine one_ (i := 6) (N := some 79) #[true, true, true, true, true, true, true, false, false, false, false, true, false, false, false] rfl rfl (one_of HT_.out (by kernel_rfl)) (by decide) (fun K hK => ?_)
                   refine goes_ Try.func37 (by kernel_rfl) rfl #[.agg #[.int .i64 a0_0, .int .i64 a0_1], .slice Ao65 y343.length co65] (by rfl) rfl rfl (by (try simp only [List.map_toArray, List.map_cons, List.map_nil]); first | done | rfl) ?_
                   with_reducible refine (life_Run.calls kj12 a0_0 a0_1 _ _ y343 t346 t347 t348 t349 _ ?side1 ?side2 A42.out).mono ?_
                   (case side1 => repeat (first | exact (Kd.R_reads' HO345.out).2.2 | (with_reducible refine Kd.C_alloc ?_ _) | (with_reducible refine Kd.C_drewN ?_ _) | (with_reducible refine Kd.C_drew ?_)))
                   (case side2 => exact (Kd.R_reads' HO345.out).2.1)
                   rintro e w66 ⟨rfl, hb⟩
                   refine ⟨_, rfl, ?_⟩
                   have n0_ := Aside0.mk (Kd.R_below (by (with_reducible repeat (first | apply Kd.R_alloc | apply Kd.R_drewN | apply Kd.R_drew)); exact HO345.out) hb)
                   have n1_ := Aside0.mk (blk_below (g := gb321) (o := .cells #[.int .i64 a0_0, .int .i64 a0_1] 50 (0, 0)) (by (with_reducible repeat (first | refine blk_drewN ?_ _ | refine blk_drew ?_ | refine blk_alloc ?_ _)); exact BK321.out) hb)
                   have n2_ := Aside0.mk (blk_below (g := gb327) (o := .cells #[.int .i64 t323, .int .i64 t324] 50 (0, 0)) (by (with_reducible repeat (first | refine blk_drewN ?_ _ | refine blk_drew ?_ | refine blk_alloc ?_ _)); exact BK327.out) hb)
                   have n3_ := Aside0.mk (blk_below (g := gb336) (o := .cells #[.int .i64 t332, .int .i64 t333] 50 (0, 0)) (by (with_reducible repeat (first | refine blk_drewN ?_ _ | refine blk_drew ?_ | refine blk_alloc ?_ _)); exact BK336.out) hb)
                   have n4_ := Aside0.mk (blk_below (g := gb350) (o := .cells #[.int .i64 0, .int .i64 0] 50 (0, 0)) (by (with_reducible repeat (first | refine blk_drewN ?_ _ | refine blk_drew ?_ | refine blk_alloc ?_ _)); exact BK350.out) hb)
                   have n5_ := Aside0.mk (below_step (by repeat (first | (with_reducible first | exact HB.out | apply below_alloc | apply pw_below_drewN | apply below_drew1 | refine below_set ?_ GE321.out | refine below_set ?_ GE327.out | refine below_set ?_ GE336.out | refine below_set ?_ GE350.out) | exact HB.out)) hb)
                   clear HO345; clear BK321; clear BK327; clear BK336; clear BK350; clear HB; have HO345 := n0_; have BK321 := n1_; have BK327 := n2_; have BK336 := n3_; have BK350 := n4_; have HB := n5_; clear n0_ n1_ n2_ n3_ n4_ n5_
                   (try clear hb)
                   (try clear hb2)
                   (try clear hk)
                   (try clear hi)
                   refine hK.out _ _ ⟨(blk_cell BK321.out 0).trans rfl, (blk_cell BK321.out 1).trans rfl⟩ (fun hHeld => ?_)
                   clear hK K
                   refine norm_ (a' := ?_) ?_ ?_
                   rotate_left
                   ·show Act.put _ (some 79) _ = _
                    simp only [Act.put, List.setIfInBounds_toArray, List.set_cons_zero, List.set_cons_succ, i64_w, i32_w]
                    rfl
                   refine pure_ (i := 7) (N := some 72) (v := ?_) (a' := ?_) #[true, true, true, true, true, true, true, true, false, false, false, true, false, false, false] rfl rfl (any_of HT_.out (by kernel_rfl)) (fun _ _ _ h => h) (Or.inl ⟨by rfl, ?_⟩) ?_ ?_
                   rotate_left
                   ·intro w'
                    go_simp
                    with_reducible rfl
                   rotate_left
                   ·simp only [Act.put, List.setIfInBounds_toArray, List.set_cons_zero, List.set_cons_succ, i64_w, i32_w]
                    rfl
                   refine pure_ (i := 8) (N := some 80) (v := ?_) (a' := ?_) #[true, true, true, true, true, true, true, true, true, false, false, true, false, false, false] rfl rfl (any_of HT_.out (by kernel_rfl)) (fun _ _ _ h => h) (Or.inl ⟨by rfl, ?_⟩) ?_ ?_
                   rotate_left
                   ·intro w'
                    go_simp
                    with_reducible rfl
                   rotate_left
                   ·simp only [Act.put, List.setIfInBounds_toArray, List.set_cons_zero, List.set_cons_succ, i64_w, i32_w]
                    rfl
                   refine pure_ (i := 9) (N := some 81) (v := ?_) (a' := ?_) #[true, true, true, true, true, true, true, true, true, true, false, true, false, false, false] rfl rfl (any_of HT_.out (by kernel_rfl)) (fun _ _ _ h => h) (Or.inl ⟨by rfl, ?_⟩) ?_ ?_
                   rotate_left
                   ·intro w'
                    go_simp
                    with_reducible rfl
                   rotate_left
                   ·simp only [Act.put, List.setIfInBounds_toArray, List.set_cons_zero, List.set_cons_succ, i64_w, i32_w]
                    rfl
                   refine pure_ (i := 10) (N := some 82) (v := ?_) (a' := ?_) #[true, true, true, true, true, true, true, true, true, true, true, true, false, false, false] rfl rfl (any_of HT_.out (by kernel_rfl)) (fun _ _ _ h => h) (Or.inl ⟨by rfl, ?_⟩) ?_ ?_
                   rotate_left
                   ·intro w'
                    go_simp
                    with_reducible rfl
                   rotate_left
                   ·simp only [Act.put, List.setIfInBounds_toArray, List.set_cons_zero, List.set_cons_succ, i64_w, i32_w]
                    rfl
                   exact norm_ (by first | (simp only [putAll, Act.put, List.setIfInBounds_toArray, List.set_cons_zero, List.set_cons_succ]; done) | (simp only [putAll, Act.put, List.setIfInBounds_toArray, List.set_cons_zero, List.set_cons_succ]; rfl)) (hJ1_3_5_6_11 (v338, v341, .slice Ao65 y343.length co65, gb350) _ ⟨hHeld, (by (with_reducible repeat (first | apply Kd.R_alloc | apply Kd.R_drewN | apply Kd.R_drew)); exact HO345.out), (by (with_reducible repeat (first | refine blk_drewN ?_ _ | refine blk_drew ?_ | refine blk_alloc ?_ _)); exact BK321.out), (by (with_reducible repeat (first | refine blk_drewN ?_ _ | refine blk_drew ?_ | refine blk_alloc ?_ _)); exact BK327.out), (by (with_reducible repeat (first | refine blk_drewN ?_ _ | refine blk_drew ?_ | refine blk_alloc ?_ _)); exact BK336.out), (by (with_reducible repeat (first | refine blk_drewN ?_ _ | refine blk_drew ?_ | refine blk_alloc ?_ _)); exact BK350.out), GW350.out, GE350.out, NB321_350.out, NB350_321.out, NB327_350.out, NB350_327.out, NB336_350.out, NB350_336.out, (by repeat (first | (with_reducible first | exact HB.out | apply below_alloc | apply pw_below_drewN | apply below_drew1 | refine below_set ?_ GE321.out | refine below_set ?_ GE327.out | refine below_set ?_ GE336.out | refine below_set ?_ GE350.out) | exact HB.out))⟩)
                 ·skip
                  rintro ⟨v338, v341, v344⟩ w65 ⟨hS_, h0_, h1_, h2_, h3_, h4_⟩
                  have n0_ : Aside0 (Kd.R k52 52 w65 w.heap.size (fun _ => True) v344 y343) := ⟨h0_⟩
                  have n1_ : Aside0 (w65.heap[gb321]? = some (.cells #[.int .i64 a0_0, .int .i64 a0_1] 50 (0, 0))) := ⟨h1_⟩
                  have n2_ : Aside0 (w65.heap[gb327]? = some (.cells #[.int .i64 t323, .int .i64 t324] 50 (0, 0))) := ⟨h2_⟩
                  have n3_ : Aside0 (w65.heap[gb336]? = some (.cells #[.int .i64 t332, .int .i64 t333] 50 (0, 0))) := ⟨h3_⟩
                  have n4_ : Aside0 (Below w.heap.size w w65) := ⟨h4_⟩
                  clear BK321; clear BK327; clear BK336; clear HB; clear h0_ h1_ h2_ h3_ h4_; have HO345 := n0_; have BK321 := n1_; have BK327 := n2_; have BK336 := n3_; have HB := n4_; clear n0_ n1_ n2_ n3_ n4_
                  have hHeld : w65.cell? ⟨gb321, 0, none⟩ = some (.int .i64 a0_0) ∧ w65.cell? ⟨gb321, 1, none⟩ = some (.int .i64 a0_1) := hS_
                  refine norm_ (a' := ?_) ?_ ?_
                  rotate_left
                  ·simp only [putAll, Act.put, List.setIfInBounds_toArray, List.set_cons_zero, List.set_cons_succ]
                   rfl
                  refine one_ (i := 11) (N := some 13) #[true, true, true, true, true, true, true, true, true, true, true, true, false, false, false] rfl rfl (one_of HT_.out (by kernel_rfl)) (by decide) (fun K hK => ?_)
                  refine box_step ?hg (N := 13) ?hd (cs := #[.int .i64 0, .int .i64 0]) (t := 50) ?hr ?_; (case hd => rfl); (case hg => rfl); (case hr => first | (go_simp; done) | (go_simp; rfl))
                  intro gb350 hg w66 hbox hb
                  have n0_ := Aside0.mk (Kd.R_below (by (with_reducible repeat (first | apply Kd.R_alloc | apply Kd.R_drewN | apply Kd.R_drew)); exact HO345.out) hb)
                  have n1_ := Aside0.mk (blk_below (g := gb321) (o := .cells #[.int .i64 a0_0, .int .i64 a0_1] 50 (0, 0)) (by (with_reducible repeat (first | refine blk_drewN ?_ _ | refine blk_drew ?_ | refine blk_alloc ?_ _)); exact BK321.out) hb)
                  have n2_ := Aside0.mk (blk_below (g := gb327) (o := .cells #[.int .i64 t323, .int .i64 t324] 50 (0, 0)) (by (with_reducible repeat (first | refine blk_drewN ?_ _ | refine blk_drew ?_ | refine blk_alloc ?_ _)); exact BK327.out) hb)
                  have n3_ := Aside0.mk (blk_below (g := gb336) (o := .cells #[.int .i64 t332, .int .i64 t333] 50 (0, 0)) (by (with_reducible repeat (first | refine blk_drewN ?_ _ | refine blk_drew ?_ | refine blk_alloc ?_ _)); exact BK336.out) hb)
                  have n4_ := Aside0.mk (below_step (by repeat (first | (with_reducible first | exact HB.out | apply below_alloc | apply pw_below_drewN | apply below_drew1 | refine below_set ?_ GE321.out | refine below_set ?_ GE327.out | refine below_set ?_ GE336.out) | exact HB.out)) hb)
                  have n5_ := Aside0.mk (hbox)
                  have n6_ := Aside0.mk ((by rw [hg]; exact (below_size (by repeat (first | (with_reducible first | exact HB.out | apply below_alloc | apply pw_below_drewN | apply below_drew1 | refine below_set ?_ GE321.out | refine below_set ?_ GE327.out | refine below_set ?_ GE336.out) | exact HB.out))) : w.heap.size ≤ gb350))
                  have n7_ := Aside0.mk ((by rw [hg]; exact (below_size (by repeat (first | (with_reducible first | exact HB.out | apply below_alloc | apply pw_below_drewN | apply below_drew1 | refine below_set ?_ GE321.out | refine below_set ?_ GE327.out | refine below_set ?_ GE336.out) | exact HB.out))) : w.heap.size ≤ gb350))
                  have n8_ := Aside0.mk ((by rw [hg]; exact Nat.ne_of_lt (blk_lt (g := gb321) (o := .cells #[.int .i64 a0_0, .int .i64 a0_1] 50 (0, 0)) (by (with_reducible repeat (first | refine blk_drewN ?_ _ | refine blk_drew ?_ | refine blk_alloc ?_ _)); exact BK321.out)) : gb321 ≠ gb350))
                  have n9_ := Aside0.mk ((by rw [hg]; exact Nat.ne_of_gt (blk_lt (g := gb321) (o := .cells #[.int .i64 a0_0, .int .i64 a0_1] 50 (0, 0)) (by (with_reducible repeat (first | refine blk_drewN ?_ _ | refine blk_drew ?_ | refine blk_alloc ?_ _)); exact BK321.out)) : gb350 ≠ gb321))
                  have n10_ := Aside0.mk ((by rw [hg]; exact Nat.ne_of_lt (blk_lt (g := gb327) (o := .cells #[.int .i64 t323, .int .i64 t324] 50 (0, 0)) (by (with_reducible repeat (first | refine blk_drewN ?_ _ | refine blk_drew ?_ | refine blk_alloc ?_ _)); exact BK327.out)) : gb327 ≠ gb350))
                  have n11_ := Aside0.mk ((by rw [hg]; exact Nat.ne_of_gt (blk_lt (g := gb327) (o := .cells #[.int .i64 t323, .int .i64 t324] 50 (0, 0)) (by (with_reducible repeat (first | refine blk_drewN ?_ _ | refine blk_drew ?_ | refine blk_alloc ?_ _)); exact BK327.out)) : gb350 ≠ gb327))
                  have n12_ := Aside0.mk ((by rw [hg]; exact Nat.ne_of_lt (blk_lt (g := gb336) (o := .cells #[.int .i64 t332, .int .i64 t333] 50 (0, 0)) (by (with_reducible repeat (first | refine blk_drewN ?_ _ | refine blk_drew ?_ | refine blk_alloc ?_ _)); exact BK336.out)) : gb336 ≠ gb350))
                  have n13_ := Aside0.mk ((by rw [hg]; exact Nat.ne_of_gt (blk_lt (g := gb336) (o := .cells #[.int .i64 t332, .int .i64 t333] 50 (0, 0)) (by (with_reducible repeat (first | refine blk_drewN ?_ _ | refine blk_drew ?_ | refine blk_alloc ?_ _)); exact BK336.out)) : gb350 ≠ gb336))
                  clear HO345; clear BK321; clear BK327; clear BK336; clear HB; have HO345 := n0_; have BK321 := n1_; have BK327 := n2_; have BK336 := n3_; have HB := n4_; have BK350 := n5_; have GW350 := n6_; have GE350 := n7_; have NB321_350 := n8_; have NB350_321 := n9_; have NB327_350 := n10_; have NB350_327 := n11_; have NB336_350 := n12_; have NB350_336 := n13_; clear n0_ n1_ n2_ n3_ n4_ n5_ n6_ n7_ n8_ n9_ n10_ n11_ n12_ n13_; clear hb hbox hg
                  refine hK.out _ _ ⟨(blk_cell BK321.out 0).trans rfl, (blk_cell BK321.out 1).trans rfl⟩ (fun hHeld => ?_)
                  clear hK K
                  refine norm_ (a' := ?_) ?_ ?_
                  rotate_left
                  ·show Act.put _ (some 13) _ = _
                   simp only [Act.put, List.setIfInBounds_toArray, List.set_cons_zero, List.set_cons_succ, i64_w, i32_w]
                   rfl
                  exact norm_ (by first | (simp only [putAll, Act.put, List.setIfInBounds_toArray, List.set_cons_zero, List.set_cons_succ]; done) | (simp only [putAll, Act.put, List.setIfInBounds_toArray, List.set_cons_zero, List.set_cons_succ]; rfl)) (hJ1_3_5_6_11 (v338, v341, v344, gb350) _ ⟨hHeld, (by (with_reducible repeat (first | apply Kd.R_alloc | apply Kd.R_drewN | apply Kd.R_drew)); exact HO345.out), (by (with_reducible repeat (first | refine blk_drewN ?_ _ | refine blk_drew ?_ | refine blk_alloc ?_ _)); exact BK321.out), (by (with_reducible repeat (first | refine blk_drewN ?_ _ | refine blk_drew ?_ | refine blk_alloc ?_ _)); exact BK327.out), (by (with_reducible repeat (first | refine blk_drewN ?_ _ | refine blk_drew ?_ | refine blk_alloc ?_ _)); exact BK336.out), (by (with_reducible repeat (first | refine blk_drewN ?_ _ | refine blk_drew ?_ | refine blk_alloc ?_ _)); exact BK350.out), GW350.out, GE350.out, NB321_350.out, NB350_321.out, NB327_350.out, NB350_327.out, NB336_350.out, NB350_336.out, (by repeat (first | (with_reducible first | exact HB.out | apply below_alloc | apply pw_below_drewN | apply below_drew1 | refine below_set ?_ GE321.out | refine below_set ?_ GE327.out | refine below_set ?_ GE336.out | refine below_set ?_ GE350.out) | exact HB.out))⟩)
                rintro ⟨v338, v341, v344, gb350⟩ w66 ⟨hS_, h0_, h1_, h2_, h3_, h4_, h5_, h6_, h7_, h8_, h9_, h10_, h11_, h12_, h13_⟩
                have n0_ : Aside0 (Kd.R k52 52 w66 w.heap.size (fun _ => True) v344 y343) := ⟨h0_⟩
                have n1_ : Aside0 (w66.heap[gb321]? = some (.cells #[.int .i64 a0_0, .int .i64 a0_1] 50 (0, 0))) := ⟨h1_⟩
                have n2_ : Aside0 (w66.heap[gb327]? = some (.cells #[.int .i64 t323, .int .i64 t324] 50 (0, 0))) := ⟨h2_⟩
                have n3_ : Aside0 (w66.heap[gb336]? = some (.cells #[.int .i64 t332, .int .i64 t333] 50 (0, 0))) := ⟨h3_⟩
                have n4_ : Aside0 (w66.heap[gb350]? = some (.cells #[.int .i64 0, .int .i64 0] 50 (0, 0))) := ⟨h4_⟩
                have n5_ : Aside0 (w.heap.size ≤ gb350) := ⟨h5_⟩
                have n6_ : Aside0 (w.heap.size ≤ gb350) := ⟨h6_⟩
                have n7_ : Aside0 (gb321 ≠ gb350) := ⟨h7_⟩
                have n8_ : Aside0 (gb350 ≠ gb321) := ⟨h8_⟩
                have n9_ : Aside0 (gb327 ≠ gb350) := ⟨h9_⟩
                have n10_ : Aside0 (gb350 ≠ gb327) := ⟨h10_⟩
                have n11_ : Aside0 (gb336 ≠ gb350) := ⟨h11_⟩
                have n12_ : Aside0 (gb350 ≠ gb336) := ⟨h12_⟩
                have n13_ : Aside0 (Below w.heap.size w w66) := ⟨h13_⟩
                clear BK321; clear BK327; clear BK336; clear HB; clear h0_ h1_ h2_ h3_ h4_ h5_ h6_ h7_ h8_ h9_ h10_ h11_ h12_ h13_; have HO345 := n0_; have BK321 := n1_; have BK327 := n2_; have BK336 := n3_; have BK350 := n4_; have GW350 := n5_; have GE350 := n6_; have NB321_350 := n7_; have NB350_321 := n8_; have NB327_350 := n9_; have NB350_327 := n10_; have NB336_350 := n11_; have NB350_336 := n12_; have HB := n13_; clear n0_ n1_ n2_ n3_ n4_ n5_ n6_ n7_ n8_ n9_ n10_ n11_ n12_ n13_
                have hHeld : w66.cell? ⟨gb321, 0, none⟩ = some (.int .i64 a0_0) ∧ w66.cell? ⟨gb321, 1, none⟩ = some (.int .i64 a0_1) := hS_
                refine norm_ (a' := ?_) ?_ ?_
                rotate_left
                ·simp only [putAll, Act.put, List.setIfInBounds_toArray, List.set_cons_zero, List.set_cons_succ]
                 rfl
                refine one_ (i := 12) (N := none) #[true, true, true, true, true, true, true, true, true, true, true, true, true, false, false] rfl rfl (one_of HT_.out (by kernel_rfl)) (by decide) (fun K hK => ?_)
                have hs67 : w66.cell? ⟨gb350, 0, none⟩ = some (.int .i64 0) := (blk_cell BK350.out 0).trans rfl
                have hfs67 := blk_frozen BK350.out 0
                have hns67_0 := NB321_350.out
                have hns67_1 := NB327_350.out
                have hns67_2 := NB336_350.out
                have hms67_0 := NB350_321.out
                have hms67_1 := NB350_327.out
                have hms67_2 := NB350_336.out
                have hs68 : w66.cell? ⟨gb350, 1, none⟩ = some (.int .i64 0) := (blk_cell BK350.out 1).trans rfl
                have hfs68 := blk_frozen BK350.out 1
                have hns68_0 := NB321_350.out
                have hns68_1 := NB327_350.out
                have hns68_2 := NB336_350.out
                have hms68_0 := NB350_321.out
                have hms68_1 := NB350_327.out
                have hms68_2 := NB350_336.out
                refine skip_ (w1 := ?_) (by rfl) rfl ?_ ?_
                rotate_left
                ·go_simp
                 rfl
                refine hK.out _ _ ⟨((cell_far (p := ⟨gb350, _, none⟩) NB321_350.out _).trans (((cell_far (p := ⟨gb350, _, none⟩) NB321_350.out _).trans (hHeld.1)))), ((cell_far (p := ⟨gb350, _, none⟩) NB321_350.out _).trans (((cell_far (p := ⟨gb350, _, none⟩) NB321_350.out _).trans (hHeld.2))))⟩ (fun hHeld => ?_)
                clear hK K
                refine pure_ (i := 13) (N := some 14) (v := ?_) (a' := ?_) #[true, true, true, true, true, true, true, true, true, true, true, true, true, true, false] rfl rfl (any_of HT_.out (by kernel_rfl)) (fun _ _ _ h => h) (Or.inl ⟨by rfl, ?_⟩) ?_ ?_
                rotate_left
                ·intro w'
                 go_simp
                 with_reducible rfl
                rotate_left
                ·simp only [Act.put, List.setIfInBounds_toArray, List.set_cons_zero, List.set_cons_succ, i64_w, i32_w]
                 rfl
                refine pure_ (i := 14) (N := some 15) (v := ?_) (a' := ?_) #[true, true, true, true, true, true, true, true, true, true, true, true, true, true, true] rfl rfl (any_of HT_.out (by kernel_rfl)) (fun _ _ _ h => h) (Or.inl ⟨by rfl, ?_⟩) ?_ ?_
                rotate_left
                ·intro w'
                 go_simp
                 with_reducible rfl
                rotate_left
                ·simp only [Act.put, List.setIfInBounds_toArray, List.set_cons_zero, List.set_cons_succ, i64_w, i32_w]
                 rfl
                refine done_ (done_of HT_.out (by kernel_rfl)) ?_
                have hnb69 := NB336_350.out
                have hnc69 := NB350_336.out
                have hcz70_0 : w66.cell? ⟨gb336, 0, none⟩ = some (.int .i64 t332) := (blk_cell BK336.out 0).trans rfl
                have hcz70_1 : w66.cell? ⟨gb336, 1, none⟩ = some (.int .i64 t333) := (blk_cell BK336.out 1).trans rfl
                have hfz70_0 := blk_frozen BK336.out 0
                have hfz70_1 := blk_frozen BK336.out 1
                have hnb71 := NB350_321.out
                have hnc71 := NB321_350.out
                have hnb72 := NB350_327.out
                have hnc72 := NB327_350.out
                have hcz73_0 : w66.cell? ⟨gb350, 0, none⟩ = some (.int .i64 0) := (blk_cell BK350.out 0).trans rfl
                have hcz73_1 : w66.cell? ⟨gb350, 1, none⟩ = some (.int .i64 0) := (blk_cell BK350.out 1).trans rfl
                have hfz73_0 := blk_frozen BK350.out 0
                have hfz73_1 := blk_frozen BK350.out 1
                have hcz74_0 : w66.cell? ⟨gb327, 0, none⟩ = some (.int .i64 t323) := (blk_cell BK327.out 0).trans rfl
                have hcz74_1 : w66.cell? ⟨gb327, 1, none⟩ = some (.int .i64 t324) := (blk_cell BK327.out 1).trans rfl
                have hfz74_0 := blk_frozen BK327.out 0
                have hfz74_1 := blk_frozen BK327.out 1
                try go_wp2_with (first | (go_at_call 30; (with_reducible refine (life_Terminal.calls t323 t324 true _ A46.out).mono ?_); rintro e w75 ⟨rfl, hb⟩; have n0_ := Aside0.mk (Kd.R_below (by (with_reducible repeat (first | apply Kd.R_alloc | apply Kd.R_drewN | apply Kd.R_drew)); exact (Kd.R_mono (Kd.R_far (p := ⟨gb350, 1, none⟩) (Kd.R_far (p := ⟨gb350, 0, none⟩) (Kd.R_types HO345.out BK350.out (by decide)) (fun _ hk => hk.2) (.int .i64 t346)) (fun _ hk => hk.2) (.int .i64 t347)) (fun _ h_ => h_.1))) hb); have n1_ := Aside0.mk (blk_below (g := gb321) (o := .cells #[.int .i64 a0_0, .int .i64 a0_1] 50 (0, 0)) (by (with_reducible repeat (first | refine blk_drewN ?_ _ | refine blk_drew ?_ | refine blk_alloc ?_ _)); refine blk_far ?_ NB321_350.out _; (with_reducible repeat (first | refine blk_drewN ?_ _ | refine blk_drew ?_ | refine blk_alloc ?_ _)); refine blk_far ?_ NB321_350.out _; (with_reducible repeat (first | refine blk_drewN ?_ _ | refine blk_drew ?_ | refine blk_alloc ?_ _)); exact BK321.out) hb); have n2_ := Aside0.mk (blk_below (g := gb327) (o := .cells #[.int .i64 t323, .int .i64 t324] 50 (0, 0)) (by (with_reducible repeat (first | refine blk_drewN ?_ _ | refine blk_drew ?_ | refine blk_alloc ?_ _)); refine blk_far ?_ NB327_350.out _; (with_reducible repeat (first | refine blk_drewN ?_ _ | refine blk_drew ?_ | refine blk_alloc ?_ _)); refine blk_far ?_ NB327_350.out _; (with_reducible repeat (first | refine blk_drewN ?_ _ | refine blk_drew ?_ | refine blk_alloc ?_ _)); exact BK327.out) hb); have n3_ := Aside0.mk (blk_below (g := gb336) (o := .cells #[.int .i64 t332, .int .i64 t333] 50 (0, 0)) (by (with_reducible repeat (first | refine blk_drewN ?_ _ | refine blk_drew ?_ | refine blk_alloc ?_ _)); refine blk_far ?_ NB336_350.out _; (with_reducible repeat (first | refine blk_drewN ?_ _ | refine blk_drew ?_ | refine blk_alloc ?_ _)); refine blk_far ?_ NB336_350.out _; (with_reducible repeat (first | refine blk_drewN ?_ _ | refine blk_drew ?_ | refine blk_alloc ?_ _)); exact BK336.out) hb); have n4_ := Aside0.mk (blk_below (g := gb350) (o := .cells #[.int .i64 t346, .int .i64 t347] 50 (0, 0)) (by (with_reducible repeat (first | refine blk_drewN ?_ _ | refine blk_drew ?_ | refine blk_alloc ?_ _)); refine blk_put (cs := #[.int .i64 t346, .int .i64 0]) ?_ 1 _ rfl; (with_reducible repeat (first | refine blk_drewN ?_ _ | refine blk_drew ?_ | refine blk_alloc ?_ _)); refine blk_put (cs := #[.int .i64 0, .int .i64 0]) ?_ 0 _ rfl; (with_reducible repeat (first | refine blk_drewN ?_ _ | refine blk_drew ?_ | refine blk_alloc ?_ _)); exact BK350.out) hb); have n5_ := Aside0.mk (below_step (by repeat (first | (with_reducible first | exact HB.out | apply below_alloc | apply pw_below_drewN | apply below_drew1 | refine below_set ?_ GE321.out | refine below_set ?_ GE327.out | refine below_set ?_ GE336.out | refine below_set ?_ GE350.out) | exact HB.out)) hb); clear HO345; clear BK321; clear BK327; clear BK336; clear BK350; clear HB; have HO345 := n0_; have BK321 := n1_; have BK327 := n2_; have BK336 := n3_; have BK350 := n4_; have HB := n5_; clear n0_ n1_ n2_ n3_ n4_ n5_; (try clear hb); (try clear hb2); (try clear hk); (try clear hi)) | (go_at_call 36; (with_reducible refine (backhaullaw24_awake.calls kj12  t352 _ A49.out).mono ?_); rintro e w76 ⟨rfl, hb⟩; have n0_ := Aside0.mk (Kd.R_below (by (with_reducible repeat (first | apply Kd.R_alloc | apply Kd.R_drewN | apply Kd.R_drew)); exact HO345.out) hb); have n1_ := Aside0.mk (blk_below (g := gb321) (o := .cells #[.int .i64 a0_0, .int .i64 a0_1] 50 (0, 0)) (by (with_reducible repeat (first | refine blk_drewN ?_ _ | refine blk_drew ?_ | refine blk_alloc ?_ _)); exact BK321.out) hb); have n2_ := Aside0.mk (blk_below (g := gb327) (o := .cells #[.int .i64 t323, .int .i64 t324] 50 (0, 0)) (by (with_reducible repeat (first | refine blk_drewN ?_ _ | refine blk_drew ?_ | refine blk_alloc ?_ _)); exact BK327.out) hb); have n3_ := Aside0.mk (blk_below (g := gb336) (o := .cells #[.int .i64 t332, .int .i64 t333] 50 (0, 0)) (by (with_reducible repeat (first | refine blk_drewN ?_ _ | refine blk_drew ?_ | refine blk_alloc ?_ _)); exact BK336.out) hb); have n4_ := Aside0.mk (blk_below (g := gb350) (o := .cells #[.int .i64 t346, .int .i64 t347] 50 (0, 0)) (by (with_reducible repeat (first | refine blk_drewN ?_ _ | refine blk_drew ?_ | refine blk_alloc ?_ _)); exact BK350.out) hb); have n5_ := Aside0.mk (below_step (by repeat (first | (with_reducible first | exact HB.out | apply below_alloc | apply pw_below_drewN | apply below_drew1 | refine below_set ?_ GE321.out | refine below_set ?_ GE327.out | refine below_set ?_ GE336.out | refine below_set ?_ GE350.out) | exact HB.out)) hb); clear HO345; clear BK321; clear BK327; clear BK336; clear BK350; clear HB; have HO345 := n0_; have BK321 := n1_; have BK327 := n2_; have BK336 := n3_; have BK350 := n4_; have HB := n5_; clear n0_ n1_ n2_ n3_ n4_ n5_; (try clear hb); (try clear hb2); (try clear hk); (try clear hi)))
                go_ret
                exact ⟨by first | rfl | (simp [errW_none, errW_some] <;> rfl) | (simp [*, errW_none, errW_some] <;> rfl), by repeat (first | (with_reducible first | exact HB.out | apply below_alloc | apply pw_below_drewN | apply below_drew1 | refine below_set ?_ GE321.out | refine below_set ?_ GE327.out | refine below_set ?_ GE336.out | refine below_set ?_ GE350.out) | exact HB.out)⟩
               ·rw [if_neg c48] at H
                have c48b0 : (t334 == 0) = false := beq_eq_false_iff_ne.mpr c48
                have c48b1 : (t334 != 0) = true := bne_iff_ne.mpr c48
                exact absurd ((Option.some.inj H).trans hr) (by decide)
              ·replace c47 := Bool.eq_false_iff.mpr c47
               subst c47
               have H1 : ((backhaullaw24_awake.f kj12).bind fun t353 => (some t353)) = some r := by rw [if_neg (show ¬ (false = true) by decide)] at H; exact H
               clear H; have H := H1; clear H1; replace H := Option.bind_eq_some_iff.mp H; obtain ⟨t353, A770, H⟩ := H
               replace H : (some t353) = some r := H
               have A77 := Aside0.mk A770; clear A770
               obtain rfl := Option.some.inj H
               have hnb78 := NB327_321.out
               have hnc78 := NB321_327.out
               have hcz79_0 : wc.cell? ⟨gb327, 0, none⟩ = some (.int .i64 t323) := (blk_cell BK327.out 0).trans rfl
               have hcz79_1 : wc.cell? ⟨gb327, 1, none⟩ = some (.int .i64 t324) := (blk_cell BK327.out 1).trans rfl
               have hfz79_0 := blk_frozen BK327.out 0
               have hfz79_1 := blk_frozen BK327.out 1
               try go_wp2_with (first | ((with_reducible refine gate_callee (f := 37) rfl ?_); refine goesL_ (some 68) rfl rfl Try.func37 (by kernel_rfl) rfl #[.agg #[.int .i64 t323, .int .i64 t324], .slice A2 l2.length c2] rfl (by (try simp only [List.map_toArray, List.map_cons, List.map_nil]); first | done | rfl) ?_; (with_reducible refine (life_Run.calls kj12 t323 t324 _ _ l2 t332 t333 t334 t335 _ ?side1 ?side2 A39.out).mono ?_); (case side1 => repeat (first | exact (Kd.C_below HR2.out HB.out) | (with_reducible refine Kd.C_alloc ?_ _) | (with_reducible refine Kd.C_drewN ?_ _) | (with_reducible refine Kd.C_drew ?_))); (case side2 => exact HC2.out); rintro e w80 ⟨rfl, hb⟩; refine ⟨_, rfl, ?_⟩; have n0_ := Aside0.mk (blk_below (g := gb321) (o := .cells #[.int .i64 a0_0, .int .i64 a0_1] 50 (0, 0)) (by (with_reducible repeat (first | refine blk_drewN ?_ _ | refine blk_drew ?_ | refine blk_alloc ?_ _)); exact BK321.out) hb); have n1_ := Aside0.mk (blk_below (g := gb327) (o := .cells #[.int .i64 t323, .int .i64 t324] 50 (0, 0)) (by (with_reducible repeat (first | refine blk_drewN ?_ _ | refine blk_drew ?_ | refine blk_alloc ?_ _)); exact BK327.out) hb); have n2_ := Aside0.mk (below_step (by repeat (first | (with_reducible first | exact HB.out | apply below_alloc | apply pw_below_drewN | apply below_drew1 | refine below_set ?_ GE321.out | refine below_set ?_ GE327.out) | exact HB.out)) hb); clear BK321; clear BK327; clear HB; have BK321 := n0_; have BK327 := n1_; have HB := n2_; clear n0_ n1_ n2_; (try clear hb); (try clear hb2); (try clear hk); (try clear hi)) | ((with_reducible refine gate_dst (N := 10) rfl ?_); (try (refine gate_guard (by rfl) ?_; dsimp only)); refine box_event ?hg (N := 10) ?hd (cs := #[.int .i64 0, .int .i64 0]) (t := 50) ?hr ?_; (case hd => rfl); (case hg => rfl); (case hr => first | (go_simp; done) | (go_simp; rfl)); intro gb336 hg w81 hbox hb; have n0_ := Aside0.mk (blk_below (g := gb321) (o := .cells #[.int .i64 a0_0, .int .i64 a0_1] 50 (0, 0)) (by (with_reducible repeat (first | refine blk_drewN ?_ _ | refine blk_drew ?_ | refine blk_alloc ?_ _)); exact BK321.out) hb); have n1_ := Aside0.mk (blk_below (g := gb327) (o := .cells #[.int .i64 t323, .int .i64 t324] 50 (0, 0)) (by (with_reducible repeat (first | refine blk_drewN ?_ _ | refine blk_drew ?_ | refine blk_alloc ?_ _)); exact BK327.out) hb); have n2_ := Aside0.mk (below_step (by repeat (first | (with_reducible first | exact HB.out | apply below_alloc | apply pw_below_drewN | apply below_drew1 | refine below_set ?_ GE321.out | refine below_set ?_ GE327.out) | exact HB.out)) hb); have n3_ := Aside0.mk (hbox); have n4_ := Aside0.mk ((by rw [hg]; exact (below_size (by repeat (first | (with_reducible first | exact HB.out | apply below_alloc | apply pw_below_drewN | apply below_drew1 | refine below_set ?_ GE321.out | refine below_set ?_ GE327.out) | exact HB.out))) : w.heap.size ≤ gb336)); have n5_ := Aside0.mk ((by rw [hg]; exact (below_size (by repeat (first | (with_reducible first | exact HB.out | apply below_alloc | apply pw_below_drewN | apply below_drew1 | refine below_set ?_ GE321.out | refine below_set ?_ GE327.out) | exact HB.out))) : w.heap.size ≤ gb336)); have n6_ := Aside0.mk ((by rw [hg]; exact Nat.ne_of_lt (blk_lt (g := gb321) (o := .cells #[.int .i64 a0_0, .int .i64 a0_1] 50 (0, 0)) (by (with_reducible repeat (first | refine blk_drewN ?_ _ | refine blk_drew ?_ | refine blk_alloc ?_ _)); exact BK321.out)) : gb321 ≠ gb336)); have n7_ := Aside0.mk ((by rw [hg]; exact Nat.ne_of_gt (blk_lt (g := gb321) (o := .cells #[.int .i64 a0_0, .int .i64 a0_1] 50 (0, 0)) (by (with_reducible repeat (first | refine blk_drewN ?_ _ | refine blk_drew ?_ | refine blk_alloc ?_ _)); exact BK321.out)) : gb336 ≠ gb321)); have n8_ := Aside0.mk ((by rw [hg]; exact Nat.ne_of_lt (blk_lt (g := gb327) (o := .cells #[.int .i64 t323, .int .i64 t324] 50 (0, 0)) (by (with_reducible repeat (first | refine blk_drewN ?_ _ | refine blk_drew ?_ | refine blk_alloc ?_ _)); exact BK327.out)) : gb327 ≠ gb336)); have n9_ := Aside0.mk ((by rw [hg]; exact Nat.ne_of_gt (blk_lt (g := gb327) (o := .cells #[.int .i64 t323, .int .i64 t324] 50 (0, 0)) (by (with_reducible repeat (first | refine blk_drewN ?_ _ | refine blk_drew ?_ | refine blk_alloc ?_ _)); exact BK327.out)) : gb336 ≠ gb327)); clear BK321; clear BK327; clear HB; have BK321 := n0_; have BK327 := n1_; have HB := n2_; have BK336 := n3_; have GW336 := n4_; have GE336 := n5_; have NB321_336 := n6_; have NB336_321 := n7_; have NB327_336 := n8_; have NB336_327 := n9_; clear n0_ n1_ n2_ n3_ n4_ n5_ n6_ n7_ n8_ n9_; clear hb hbox hg; have hnb82 := NB336_321.out; have hnc82 := NB321_336.out; have hnb83 := NB336_327.out; have hnc83 := NB327_336.out; have hcz84_0 : w81.cell? ⟨gb336, 0, none⟩ = some (.int .i64 0) := (blk_cell BK336.out 0).trans rfl; have hcz84_1 : w81.cell? ⟨gb336, 1, none⟩ = some (.int .i64 0) := (blk_cell BK336.out 1).trans rfl; have hfz84_0 := blk_frozen BK336.out 0; have hfz84_1 := blk_frozen BK336.out 1))
               have n0_ : Aside0 (((w81.setCell ⟨gb336, 0, none⟩ (.int .i64 t332)).setCell ⟨gb336, 1, none⟩ (.int .i64 t333)).heap[gb321]? = some (.cells #[.int .i64 a0_0, .int .i64 a0_1] 50 (0, 0))) := ⟨by (with_reducible repeat (first | refine blk_drewN ?_ _ | refine blk_drew ?_ | refine blk_alloc ?_ _)); refine blk_far ?_ NB321_336.out _; (with_reducible repeat (first | refine blk_drewN ?_ _ | refine blk_drew ?_ | refine blk_alloc ?_ _)); refine blk_far ?_ NB321_336.out _; (with_reducible repeat (first | refine blk_drewN ?_ _ | refine blk_drew ?_ | refine blk_alloc ?_ _)); exact BK321.out⟩
               have n1_ : Aside0 (((w81.setCell ⟨gb336, 0, none⟩ (.int .i64 t332)).setCell ⟨gb336, 1, none⟩ (.int .i64 t333)).heap[gb327]? = some (.cells #[.int .i64 t323, .int .i64 t324] 50 (0, 0))) := ⟨by (with_reducible repeat (first | refine blk_drewN ?_ _ | refine blk_drew ?_ | refine blk_alloc ?_ _)); refine blk_far ?_ NB327_336.out _; (with_reducible repeat (first | refine blk_drewN ?_ _ | refine blk_drew ?_ | refine blk_alloc ?_ _)); refine blk_far ?_ NB327_336.out _; (with_reducible repeat (first | refine blk_drewN ?_ _ | refine blk_drew ?_ | refine blk_alloc ?_ _)); exact BK327.out⟩
               have n2_ : Aside0 (((w81.setCell ⟨gb336, 0, none⟩ (.int .i64 t332)).setCell ⟨gb336, 1, none⟩ (.int .i64 t333)).heap[gb336]? = some (.cells #[.int .i64 t332, .int .i64 t333] 50 (0, 0))) := ⟨by (with_reducible repeat (first | refine blk_drewN ?_ _ | refine blk_drew ?_ | refine blk_alloc ?_ _)); refine blk_put (cs := #[.int .i64 t332, .int .i64 0]) ?_ 1 _ rfl; (with_reducible repeat (first | refine blk_drewN ?_ _ | refine blk_drew ?_ | refine blk_alloc ?_ _)); refine blk_put (cs := #[.int .i64 0, .int .i64 0]) ?_ 0 _ rfl; (with_reducible repeat (first | refine blk_drewN ?_ _ | refine blk_drew ?_ | refine blk_alloc ?_ _)); exact BK336.out⟩
               have n3_ : Aside0 (Below w.heap.size w ((w81.setCell ⟨gb336, 0, none⟩ (.int .i64 t332)).setCell ⟨gb336, 1, none⟩ (.int .i64 t333))) := ⟨by repeat (first | (with_reducible first | exact HB.out | apply below_alloc | apply pw_below_drewN | apply below_drew1 | refine below_set ?_ GE321.out | refine below_set ?_ GE327.out | refine below_set ?_ GE336.out) | exact HB.out)⟩
               (try clear BK321)
               (try clear BK327)
               (try clear BK336)
               (try clear HB)
               generalize ((w81.setCell ⟨gb336, 0, none⟩ (.int .i64 t332)).setCell ⟨gb336, 1, none⟩ (.int .i64 t333)) = w85 at n0_ n1_ n2_ n3_ ⊢
               have BK321 := n0_; have BK327 := n1_; have BK336 := n2_; have HB := n3_; clear n0_ n1_ n2_ n3_
               have n0_ := Aside0.mk (blk_drew BK321.out)
               have n1_ := Aside0.mk (blk_drew BK327.out)
               have n2_ := Aside0.mk (blk_drew BK336.out)
               have n3_ := Aside0.mk (below_drew1 HB.out)
               clear BK321; clear BK327; clear BK336; clear HB; have BK321 := n0_; have BK327 := n1_; have BK336 := n2_; have HB := n3_; clear n0_ n1_ n2_ n3_
               refine start_ (n := 15) (S := fun w' => w'.cell? ⟨gb321, 0, none⟩ = some (.int .i64 a0_0) ∧ w'.cell? ⟨gb321, 1, none⟩ = some (.int .i64 a0_1)) (ds := []) #[false, false, false, false, false, false, false, false, false, false, false, false, false, false, false] (by kernel_rfl) rfl rfl ⟨(blk_cell BK321.out 0).trans rfl, (blk_cell BK321.out 1).trans rfl⟩ (fun hHeld => ?_); refine with_tabW backhaullaw24_LifeNodes.tab11 backhaullaw24_LifeNodes.bits11 (fun HT_ HW_ => ?_)
               generalize w85.drew = w86 at BK321 BK327 BK336 HB hHeld ⊢
               refine pure_ (i := 2) (N := some 75) (v := ?_) (a' := ?_) #[false, false, true, false, false, false, false, false, false, false, false, false, false, false, false] rfl rfl (any_of HT_.out (by kernel_rfl)) (fun _ _ _ h => h) (Or.inl ⟨by rfl, ?_⟩) ?_ ?_
               rotate_left
               ·intro w'
                go_simp
                with_reducible rfl
               rotate_left
               ·simp only [Act.put, List.setIfInBounds_toArray, List.set_cons_zero, List.set_cons_succ, i64_w, i32_w]
                rfl
               refine pure_ (i := 4) (N := some 77) (v := ?_) (a' := ?_) #[false, false, true, false, true, false, false, false, false, false, false, false, false, false, false] rfl rfl (any_of HT_.out (by kernel_rfl)) (fun _ _ _ h => h) (Or.inl ⟨by rfl, ?_⟩) ?_ ?_
               rotate_left
               ·intro w'
                go_simp
                with_reducible rfl
               rotate_left
               ·simp only [Act.put, List.setIfInBounds_toArray, List.set_cons_zero, List.set_cons_succ, i64_w, i32_w]
                rfl
               refine take_ (i := 0) (N := some 73) (v := ?_) (a' := ?_) #[true, false, true, false, true, false, false, false, false, false, false, false, false, false, false] rfl rfl (take_ofW HT_.out HW_.out (by kernel_rfl)) (fun _ _ _ h => h) (Or.inl ⟨by rfl, ?_⟩) hHeld ?_ ?_
               rotate_left
               ·rintro w' ⟨s0, s1⟩
                go_simp
                with_reducible rfl
               rotate_left
               ·simp only [Act.put, List.setIfInBounds_toArray, List.set_cons_zero, List.set_cons_succ, i64_w, i32_w]
                rfl
               refine join_ (σ := Value × Value × Value × Nat) 3 #[true, true, true, true, true, true, true, true, true, true, true, true, false, false, false] (fun s_ => [(74, s_.1), (76, s_.2.1), (78, s_.2.2.1), (79, .tuple #[.agg #[.int .i64 t346, .int .i64 t347], .int .i64 t348, .int .i64 t349]), (13, .pointer (some ⟨s_.2.2.2, 0, none⟩)), (72, .tuple #[.agg #[.int .i64 t346, .int .i64 t347], .int .i64 t348, .int .i64 t349]), (80, .agg #[.int .i64 t346, .int .i64 t347]), (81, .int .i64 t348), (82, .int .i64 t349)]) (fun s_ w' => (w'.cell? ⟨gb321, 0, none⟩ = some (.int .i64 a0_0) ∧ w'.cell? ⟨gb321, 1, none⟩ = some (.int .i64 a0_1)) ∧ (Kd.R k52 52 w' w.heap.size (fun _ => True) s_.2.2.1 y343) ∧ (w'.heap[gb321]? = some (.cells #[.int .i64 a0_0, .int .i64 a0_1] 50 (0, 0))) ∧ (w'.heap[gb327]? = some (.cells #[.int .i64 t323, .int .i64 t324] 50 (0, 0))) ∧ (w'.heap[gb336]? = some (.cells #[.int .i64 t332, .int .i64 t333] 50 (0, 0))) ∧ (w'.heap[s_.2.2.2]? = some (.cells #[.int .i64 0, .int .i64 0] 50 (0, 0))) ∧ (w.heap.size ≤ s_.2.2.2) ∧ (w.heap.size ≤ s_.2.2.2) ∧ (gb321 ≠ s_.2.2.2) ∧ (s_.2.2.2 ≠ gb321) ∧ (gb327 ≠ s_.2.2.2) ∧ (s_.2.2.2 ≠ gb327) ∧ (gb336 ≠ s_.2.2.2) ∧ (s_.2.2.2 ≠ gb336) ∧ (Below w.heap.size w w')) ?_ ?_
               rotate_left
               ·intro hJ1_3_5_6_11
                refine join_ (σ := Value × Value × Value) 4 #[true, true, true, true, true, true, true, true, true, true, true, false, false, false, false] (fun s_ => [(74, s_.1), (76, s_.2.1), (78, s_.2.2), (79, .tuple #[.agg #[.int .i64 t346, .int .i64 t347], .int .i64 t348, .int .i64 t349]), (72, .tuple #[.agg #[.int .i64 t346, .int .i64 t347], .int .i64 t348, .int .i64 t349]), (80, .agg #[.int .i64 t346, .int .i64 t347]), (81, .int .i64 t348), (82, .int .i64 t349)]) (fun s_ w' => (w'.cell? ⟨gb321, 0, none⟩ = some (.int .i64 a0_0) ∧ w'.cell? ⟨gb321, 1, none⟩ = some (.int .i64 a0_1)) ∧ (Kd.R k52 52 w' w.heap.size (fun _ => True) s_.2.2 y343) ∧ (w'.heap[gb321]? = some (.cells #[.int .i64 a0_0, .int .i64 a0_1] 50 (0, 0))) ∧ (w'.heap[gb327]? = some (.cells #[.int .i64 t323, .int .i64 t324] 50 (0, 0))) ∧ (w'.heap[gb336]? = some (.cells #[.int .i64 t332, .int .i64 t333] 50 (0, 0))) ∧ (Below w.heap.size w w')) ?_ ?_
                rotate_left
                ·intro hJ1_3_5_6
                 refine join_ (σ := Value × Value × Value × Nat) 8 #[true, true, true, true, true, true, false, false, false, false, false, true, false, false, false] (fun s_ => [(74, s_.1), (76, s_.2.1), (78, s_.2.2.1), (13, .pointer (some ⟨s_.2.2.2, 0, none⟩))]) (fun s_ w' => (w'.cell? ⟨gb321, 0, none⟩ = some (.int .i64 a0_0) ∧ w'.cell? ⟨gb321, 1, none⟩ = some (.int .i64 a0_1)) ∧ (Kd.R k52 52 w' w.heap.size (fun _ => True) s_.2.2.1 y343) ∧ (w'.heap[gb321]? = some (.cells #[.int .i64 a0_0, .int .i64 a0_1] 50 (0, 0))) ∧ (w'.heap[gb327]? = some (.cells #[.int .i64 t323, .int .i64 t324] 50 (0, 0))) ∧ (w'.heap[gb336]? = some (.cells #[.int .i64 t332, .int .i64 t333] 50 (0, 0))) ∧ (w'.heap[s_.2.2.2]? = some (.cells #[.int .i64 0, .int .i64 0] 50 (0, 0))) ∧ (w.heap.size ≤ s_.2.2.2) ∧ (w.heap.size ≤ s_.2.2.2) ∧ (gb321 ≠ s_.2.2.2) ∧ (s_.2.2.2 ≠ gb321) ∧ (gb327 ≠ s_.2.2.2) ∧ (s_.2.2.2 ≠ gb327) ∧ (gb336 ≠ s_.2.2.2) ∧ (s_.2.2.2 ≠ gb336) ∧ (Below w.heap.size w w')) ?_ ?_
                 rotate_left
                 ·intro hJ1_3_5_11
                  refine join_ (σ := Value × Value × Value) 9 #[true, true, true, true, true, true, false, false, false, false, false, false, false, false, false] (fun s_ => [(74, s_.1), (76, s_.2.1), (78, s_.2.2)]) (fun s_ w' => (w'.cell? ⟨gb321, 0, none⟩ = some (.int .i64 a0_0) ∧ w'.cell? ⟨gb321, 1, none⟩ = some (.int .i64 a0_1)) ∧ (Kd.R k52 52 w' w.heap.size (fun _ => True) s_.2.2 y343) ∧ (w'.heap[gb321]? = some (.cells #[.int .i64 a0_0, .int .i64 a0_1] 50 (0, 0))) ∧ (w'.heap[gb327]? = some (.cells #[.int .i64 t323, .int .i64 t324] 50 (0, 0))) ∧ (w'.heap[gb336]? = some (.cells #[.int .i64 t332, .int .i64 t333] 50 (0, 0))) ∧ (Below w.heap.size w w')) ?_ ?_
                  rotate_left
                  ·intro hJ1_3_5
                   refine join_ (σ := Value × Value × Nat) 9 #[true, true, true, true, true, false, false, false, false, false, false, true, false, false, false] (fun s_ => [(74, s_.1), (76, s_.2.1), (13, .pointer (some ⟨s_.2.2, 0, none⟩))]) (fun s_ w' => (w'.cell? ⟨gb321, 0, none⟩ = some (.int .i64 a0_0) ∧ w'.cell? ⟨gb321, 1, none⟩ = some (.int .i64 a0_1)) ∧ (Kd.R k52 52 w' w.heap.size (fun _ => True) s_.2.1 y340) ∧ (w'.heap[gb321]? = some (.cells #[.int .i64 a0_0, .int .i64 a0_1] 50 (0, 0))) ∧ (w'.heap[gb327]? = some (.cells #[.int .i64 t323, .int .i64 t324] 50 (0, 0))) ∧ (w'.heap[gb336]? = some (.cells #[.int .i64 t332, .int .i64 t333] 50 (0, 0))) ∧ (w'.heap[s_.2.2]? = some (.cells #[.int .i64 0, .int .i64 0] 50 (0, 0))) ∧ (w.heap.size ≤ s_.2.2) ∧ (w.heap.size ≤ s_.2.2) ∧ (gb321 ≠ s_.2.2) ∧ (s_.2.2 ≠ gb321) ∧ (gb327 ≠ s_.2.2) ∧ (s_.2.2 ≠ gb327) ∧ (gb336 ≠ s_.2.2) ∧ (s_.2.2 ≠ gb336) ∧ (Below w.heap.size w w')) ?_ ?_
                   rotate_left
                   ·intro hJ1_3_11
                    refine join_ (σ := Value × Value) 10 #[true, true, true, true, true, false, false, false, false, false, false, false, false, false, false] (fun s_ => [(74, s_.1), (76, s_.2)]) (fun s_ w' => (w'.cell? ⟨gb321, 0, none⟩ = some (.int .i64 a0_0) ∧ w'.cell? ⟨gb321, 1, none⟩ = some (.int .i64 a0_1)) ∧ (Kd.R k52 52 w' w.heap.size (fun _ => True) s_.2 y340) ∧ (w'.heap[gb321]? = some (.cells #[.int .i64 a0_0, .int .i64 a0_1] 50 (0, 0))) ∧ (w'.heap[gb327]? = some (.cells #[.int .i64 t323, .int .i64 t324] 50 (0, 0))) ∧ (w'.heap[gb336]? = some (.cells #[.int .i64 t332, .int .i64 t333] 50 (0, 0))) ∧ (Below w.heap.size w w')) ?_ ?_
                    rotate_left
                    ·intro hJ1_3
                     refine join_ (σ := Value × Nat) 10 #[true, true, true, false, true, false, false, false, false, false, false, true, false, false, false] (fun s_ => [(74, s_.1), (13, .pointer (some ⟨s_.2, 0, none⟩))]) (fun s_ w' => (w'.cell? ⟨gb321, 0, none⟩ = some (.int .i64 a0_0) ∧ w'.cell? ⟨gb321, 1, none⟩ = some (.int .i64 a0_1)) ∧ (Kd.R k52 52 w' w.heap.size (fun _ => True) s_.1 y337) ∧ (w'.heap[gb321]? = some (.cells #[.int .i64 a0_0, .int .i64 a0_1] 50 (0, 0))) ∧ (w'.heap[gb327]? = some (.cells #[.int .i64 t323, .int .i64 t324] 50 (0, 0))) ∧ (w'.heap[gb336]? = some (.cells #[.int .i64 t332, .int .i64 t333] 50 (0, 0))) ∧ (w'.heap[s_.2]? = some (.cells #[.int .i64 0, .int .i64 0] 50 (0, 0))) ∧ (w.heap.size ≤ s_.2) ∧ (w.heap.size ≤ s_.2) ∧ (gb321 ≠ s_.2) ∧ (s_.2 ≠ gb321) ∧ (gb327 ≠ s_.2) ∧ (s_.2 ≠ gb327) ∧ (gb336 ≠ s_.2) ∧ (s_.2 ≠ gb336) ∧ (Below w.heap.size w w')) ?_ ?_
                     rotate_left
                     ·intro hJ1_11
                      refine join_ (σ := Value) 11 #[true, true, true, false, true, false, false, false, false, false, false, false, false, false, false] (fun s_ => [(74, s_)]) (fun s_ w' => (w'.cell? ⟨gb321, 0, none⟩ = some (.int .i64 a0_0) ∧ w'.cell? ⟨gb321, 1, none⟩ = some (.int .i64 a0_1)) ∧ (Kd.R k52 52 w' w.heap.size (fun _ => True) s_ y337) ∧ (w'.heap[gb321]? = some (.cells #[.int .i64 a0_0, .int .i64 a0_1] 50 (0, 0))) ∧ (w'.heap[gb327]? = some (.cells #[.int .i64 t323, .int .i64 t324] 50 (0, 0))) ∧ (w'.heap[gb336]? = some (.cells #[.int .i64 t332, .int .i64 t333] 50 (0, 0))) ∧ (Below w.heap.size w w')) ?_ ?_
                      rotate_left
                      ·intro hJ1
                       refine join_ (σ := Nat) 11 #[true, false, true, false, true, false, false, false, false, false, false, true, false, false, false] (fun s_ => [(13, .pointer (some ⟨s_, 0, none⟩))]) (fun s_ w' => (w'.cell? ⟨gb321, 0, none⟩ = some (.int .i64 a0_0) ∧ w'.cell? ⟨gb321, 1, none⟩ = some (.int .i64 a0_1)) ∧ (w'.heap[gb321]? = some (.cells #[.int .i64 a0_0, .int .i64 a0_1] 50 (0, 0))) ∧ (w'.heap[gb327]? = some (.cells #[.int .i64 t323, .int .i64 t324] 50 (0, 0))) ∧ (w'.heap[gb336]? = some (.cells #[.int .i64 t332, .int .i64 t333] 50 (0, 0))) ∧ (w'.heap[s_]? = some (.cells #[.int .i64 0, .int .i64 0] 50 (0, 0))) ∧ (w.heap.size ≤ s_) ∧ (w.heap.size ≤ s_) ∧ (gb321 ≠ s_) ∧ (s_ ≠ gb321) ∧ (gb327 ≠ s_) ∧ (s_ ≠ gb327) ∧ (gb336 ≠ s_) ∧ (s_ ≠ gb336) ∧ (Below w.heap.size w w')) ?_ ?_
                       rotate_left
                       ·intro hJ11
                        refine two_ (i := 1) (j := 11) (Ni := some 74) (Nj := some 13) #[true, true, true, false, true, false, false, false, false, false, false, false, false, false, false] #[true, false, true, false, true, false, false, false, false, false, false, true, false, false, false] rfl rfl rfl rfl (two_of HT_.out (by kernel_rfl)) (by decide) (by decide) (fun K hK => ?_) (fun K hK => ?_)
                        ·skip
                         refine Kd.R_lit_step k52 _ 52 ?hg (N := 74) ?hd (xs := ([] : List (S52))) (inner := []) (ok := fun _ => True) (okp := fun _ => True) ?hr ?hp (fun _ hk => hk) trivial (Below.refl _ _) (Nat.le_refl _) (by simp) ?_; (case hd => rfl); (case hg => rfl); (case hr => first | (go_simp; done) | (go_simp; rfl)); (case hp => exact (Reps.none _ _))
                         intro v338 w87 ho88 hb hg_ hnew_
                         clear hg_ hnew_
                         (first | rw [← Ny337.out] at ho88 | (simp only [Int.reduceToNat] at ho88; rw [← Ny337.out] at ho88))
                         have n0_ := Aside0.mk (Kd.R_lower ho88 (below_size (by repeat (first | (with_reducible first | exact HB.out | apply below_alloc | apply pw_below_drewN | apply below_drew1 | refine below_set ?_ GE321.out | refine below_set ?_ GE327.out | refine below_set ?_ GE336.out) | exact HB.out))))
                         have n1_ := Aside0.mk (blk_below (g := gb321) (o := .cells #[.int .i64 a0_0, .int .i64 a0_1] 50 (0, 0)) (by (with_reducible repeat (first | refine blk_drewN ?_ _ | refine blk_drew ?_ | refine blk_alloc ?_ _)); exact BK321.out) hb)
                         have n2_ := Aside0.mk (blk_below (g := gb327) (o := .cells #[.int .i64 t323, .int .i64 t324] 50 (0, 0)) (by (with_reducible repeat (first | refine blk_drewN ?_ _ | refine blk_drew ?_ | refine blk_alloc ?_ _)); exact BK327.out) hb)
                         have n3_ := Aside0.mk (blk_below (g := gb336) (o := .cells #[.int .i64 t332, .int .i64 t333] 50 (0, 0)) (by (with_reducible repeat (first | refine blk_drewN ?_ _ | refine blk_drew ?_ | refine blk_alloc ?_ _)); exact BK336.out) hb)
                         have n4_ := Aside0.mk (below_step (by repeat (first | (with_reducible first | exact HB.out | apply below_alloc | apply pw_below_drewN | apply below_drew1 | refine below_set ?_ GE321.out | refine below_set ?_ GE327.out | refine below_set ?_ GE336.out) | exact HB.out)) hb)
                         clear BK321; clear BK327; clear BK336; clear HB; have HO339 := n0_; have BK321 := n1_; have BK327 := n2_; have BK336 := n3_; have HB := n4_; clear n0_ n1_ n2_ n3_ n4_; clear hb ho88
                         refine hK.out _ _ ⟨(blk_cell BK321.out 0).trans rfl, (blk_cell BK321.out 1).trans rfl⟩ (fun hHeld => ?_)
                         clear hK K
                         refine norm_ (a' := ?_) ?_ ?_
                         rotate_left
                         ·show Act.put _ (some 74) _ = _
                          simp only [Act.put, List.setIfInBounds_toArray, List.set_cons_zero, List.set_cons_succ, i64_w, i32_w]
                          rfl
                         exact norm_ (by first | (simp only [putAll, Act.put, List.setIfInBounds_toArray, List.set_cons_zero, List.set_cons_succ]; done) | (simp only [putAll, Act.put, List.setIfInBounds_toArray, List.set_cons_zero, List.set_cons_succ]; rfl)) (hJ1 (v338) _ ⟨hHeld, (by (with_reducible repeat (first | apply Kd.R_alloc | apply Kd.R_drewN | apply Kd.R_drew)); exact HO339.out), (by (with_reducible repeat (first | refine blk_drewN ?_ _ | refine blk_drew ?_ | refine blk_alloc ?_ _)); exact BK321.out), (by (with_reducible repeat (first | refine blk_drewN ?_ _ | refine blk_drew ?_ | refine blk_alloc ?_ _)); exact BK327.out), (by (with_reducible repeat (first | refine blk_drewN ?_ _ | refine blk_drew ?_ | refine blk_alloc ?_ _)); exact BK336.out), (by repeat (first | (with_reducible first | exact HB.out | apply below_alloc | apply pw_below_drewN | apply below_drew1 | refine below_set ?_ GE321.out | refine below_set ?_ GE327.out | refine below_set ?_ GE336.out) | exact HB.out))⟩)
                        ·skip
                         refine box_step ?hg (N := 13) ?hd (cs := #[.int .i64 0, .int .i64 0]) (t := 50) ?hr ?_; (case hd => rfl); (case hg => rfl); (case hr => first | (go_simp; done) | (go_simp; rfl))
                         intro gb350 hg w87 hbox hb
                         have n0_ := Aside0.mk (blk_below (g := gb321) (o := .cells #[.int .i64 a0_0, .int .i64 a0_1] 50 (0, 0)) (by (with_reducible repeat (first | refine blk_drewN ?_ _ | refine blk_drew ?_ | refine blk_alloc ?_ _)); exact BK321.out) hb)
                         have n1_ := Aside0.mk (blk_below (g := gb327) (o := .cells #[.int .i64 t323, .int .i64 t324] 50 (0, 0)) (by (with_reducible repeat (first | refine blk_drewN ?_ _ | refine blk_drew ?_ | refine blk_alloc ?_ _)); exact BK327.out) hb)
                         have n2_ := Aside0.mk (blk_below (g := gb336) (o := .cells #[.int .i64 t332, .int .i64 t333] 50 (0, 0)) (by (with_reducible repeat (first | refine blk_drewN ?_ _ | refine blk_drew ?_ | refine blk_alloc ?_ _)); exact BK336.out) hb)
                         have n3_ := Aside0.mk (below_step (by repeat (first | (with_reducible first | exact HB.out | apply below_alloc | apply pw_below_drewN | apply below_drew1 | refine below_set ?_ GE321.out | refine below_set ?_ GE327.out | refine below_set ?_ GE336.out) | exact HB.out)) hb)
                         have n4_ := Aside0.mk (hbox)
                         have n5_ := Aside0.mk ((by rw [hg]; exact (below_size (by repeat (first | (with_reducible first | exact HB.out | apply below_alloc | apply pw_below_drewN | apply below_drew1 | refine below_set ?_ GE321.out | refine below_set ?_ GE327.out | refine below_set ?_ GE336.out) | exact HB.out))) : w.heap.size ≤ gb350))
                         have n6_ := Aside0.mk ((by rw [hg]; exact (below_size (by repeat (first | (with_reducible first | exact HB.out | apply below_alloc | apply pw_below_drewN | apply below_drew1 | refine below_set ?_ GE321.out | refine below_set ?_ GE327.out | refine below_set ?_ GE336.out) | exact HB.out))) : w.heap.size ≤ gb350))
                         have n7_ := Aside0.mk ((by rw [hg]; exact Nat.ne_of_lt (blk_lt (g := gb321) (o := .cells #[.int .i64 a0_0, .int .i64 a0_1] 50 (0, 0)) (by (with_reducible repeat (first | refine blk_drewN ?_ _ | refine blk_drew ?_ | refine blk_alloc ?_ _)); exact BK321.out)) : gb321 ≠ gb350))
                         have n8_ := Aside0.mk ((by rw [hg]; exact Nat.ne_of_gt (blk_lt (g := gb321) (o := .cells #[.int .i64 a0_0, .int .i64 a0_1] 50 (0, 0)) (by (with_reducible repeat (first | refine blk_drewN ?_ _ | refine blk_drew ?_ | refine blk_alloc ?_ _)); exact BK321.out)) : gb350 ≠ gb321))
                         have n9_ := Aside0.mk ((by rw [hg]; exact Nat.ne_of_lt (blk_lt (g := gb327) (o := .cells #[.int .i64 t323, .int .i64 t324] 50 (0, 0)) (by (with_reducible repeat (first | refine blk_drewN ?_ _ | refine blk_drew ?_ | refine blk_alloc ?_ _)); exact BK327.out)) : gb327 ≠ gb350))
                         have n10_ := Aside0.mk ((by rw [hg]; exact Nat.ne_of_gt (blk_lt (g := gb327) (o := .cells #[.int .i64 t323, .int .i64 t324] 50 (0, 0)) (by (with_reducible repeat (first | refine blk_drewN ?_ _ | refine blk_drew ?_ | refine blk_alloc ?_ _)); exact BK327.out)) : gb350 ≠ gb327))
                         have n11_ := Aside0.mk ((by rw [hg]; exact Nat.ne_of_lt (blk_lt (g := gb336) (o := .cells #[.int .i64 t332, .int .i64 t333] 50 (0, 0)) (by (with_reducible repeat (first | refine blk_drewN ?_ _ | refine blk_drew ?_ | refine blk_alloc ?_ _)); exact BK336.out)) : gb336 ≠ gb350))
                         have n12_ := Aside0.mk ((by rw [hg]; exact Nat.ne_of_gt (blk_lt (g := gb336) (o := .cells #[.int .i64 t332, .int .i64 t333] 50 (0, 0)) (by (with_reducible repeat (first | refine blk_drewN ?_ _ | refine blk_drew ?_ | refine blk_alloc ?_ _)); exact BK336.out)) : gb350 ≠ gb336))
                         clear BK321; clear BK327; clear BK336; clear HB; have BK321 := n0_; have BK327 := n1_; have BK336 := n2_; have HB := n3_; have BK350 := n4_; have GW350 := n5_; have GE350 := n6_; have NB321_350 := n7_; have NB350_321 := n8_; have NB327_350 := n9_; have NB350_327 := n10_; have NB336_350 := n11_; have NB350_336 := n12_; clear n0_ n1_ n2_ n3_ n4_ n5_ n6_ n7_ n8_ n9_ n10_ n11_ n12_; clear hb hbox hg
                         refine hK.out _ _ ⟨(blk_cell BK321.out 0).trans rfl, (blk_cell BK321.out 1).trans rfl⟩ (fun hHeld => ?_)
                         clear hK K
                         refine norm_ (a' := ?_) ?_ ?_
                         rotate_left
                         ·show Act.put _ (some 13) _ = _
                          simp only [Act.put, List.setIfInBounds_toArray, List.set_cons_zero, List.set_cons_succ, i64_w, i32_w]
                          rfl
                         exact norm_ (by first | (simp only [putAll, Act.put, List.setIfInBounds_toArray, List.set_cons_zero, List.set_cons_succ]; done) | (simp only [putAll, Act.put, List.setIfInBounds_toArray, List.set_cons_zero, List.set_cons_succ]; rfl)) (hJ11 (gb350) _ ⟨hHeld, (by (with_reducible repeat (first | refine blk_drewN ?_ _ | refine blk_drew ?_ | refine blk_alloc ?_ _)); exact BK321.out), (by (with_reducible repeat (first | refine blk_drewN ?_ _ | refine blk_drew ?_ | refine blk_alloc ?_ _)); exact BK327.out), (by (with_reducible repeat (first | refine blk_drewN ?_ _ | refine blk_drew ?_ | refine blk_alloc ?_ _)); exact BK336.out), (by (with_reducible repeat (first | refine blk_drewN ?_ _ | refine blk_drew ?_ | refine blk_alloc ?_ _)); exact BK350.out), GW350.out, GE350.out, NB321_350.out, NB350_321.out, NB327_350.out, NB350_327.out, NB336_350.out, NB350_336.out, (by repeat (first | (with_reducible first | exact HB.out | apply below_alloc | apply pw_below_drewN | apply below_drew1 | refine below_set ?_ GE321.out | refine below_set ?_ GE327.out | refine below_set ?_ GE336.out | refine below_set ?_ GE350.out) | exact HB.out))⟩)
                       ·skip
                        rintro gb350 w88 ⟨hS_, h0_, h1_, h2_, h3_, h4_, h5_, h6_, h7_, h8_, h9_, h10_, h11_, h12_⟩
                        have n0_ : Aside0 (w88.heap[gb321]? = some (.cells #[.int .i64 a0_0, .int .i64 a0_1] 50 (0, 0))) := ⟨h0_⟩
                        have n1_ : Aside0 (w88.heap[gb327]? = some (.cells #[.int .i64 t323, .int .i64 t324] 50 (0, 0))) := ⟨h1_⟩
                        have n2_ : Aside0 (w88.heap[gb336]? = some (.cells #[.int .i64 t332, .int .i64 t333] 50 (0, 0))) := ⟨h2_⟩
                        have n3_ : Aside0 (w88.heap[gb350]? = some (.cells #[.int .i64 0, .int .i64 0] 50 (0, 0))) := ⟨h3_⟩
                        have n4_ : Aside0 (w.heap.size ≤ gb350) := ⟨h4_⟩
                        have n5_ : Aside0 (w.heap.size ≤ gb350) := ⟨h5_⟩
                        have n6_ : Aside0 (gb321 ≠ gb350) := ⟨h6_⟩
                        have n7_ : Aside0 (gb350 ≠ gb321) := ⟨h7_⟩
                        have n8_ : Aside0 (gb327 ≠ gb350) := ⟨h8_⟩
                        have n9_ : Aside0 (gb350 ≠ gb327) := ⟨h9_⟩
                        have n10_ : Aside0 (gb336 ≠ gb350) := ⟨h10_⟩
                        have n11_ : Aside0 (gb350 ≠ gb336) := ⟨h11_⟩
                        have n12_ : Aside0 (Below w.heap.size w w88) := ⟨h12_⟩
                        clear BK321; clear BK327; clear BK336; clear HB; clear h0_ h1_ h2_ h3_ h4_ h5_ h6_ h7_ h8_ h9_ h10_ h11_ h12_; have BK321 := n0_; have BK327 := n1_; have BK336 := n2_; have BK350 := n3_; have GW350 := n4_; have GE350 := n5_; have NB321_350 := n6_; have NB350_321 := n7_; have NB327_350 := n8_; have NB350_327 := n9_; have NB336_350 := n10_; have NB350_336 := n11_; have HB := n12_; clear n0_ n1_ n2_ n3_ n4_ n5_ n6_ n7_ n8_ n9_ n10_ n11_ n12_
                        have hHeld : w88.cell? ⟨gb321, 0, none⟩ = some (.int .i64 a0_0) ∧ w88.cell? ⟨gb321, 1, none⟩ = some (.int .i64 a0_1) := hS_
                        refine norm_ (a' := ?_) ?_ ?_
                        rotate_left
                        ·simp only [putAll, Act.put, List.setIfInBounds_toArray, List.set_cons_zero, List.set_cons_succ]
                         rfl
                        refine one_ (i := 1) (N := some 74) #[true, true, true, false, true, false, false, false, false, false, false, true, false, false, false] rfl rfl (one_of HT_.out (by kernel_rfl)) (by decide) (fun K hK => ?_)
                        refine Kd.R_lit_step k52 _ 52 ?hg (N := 74) ?hd (xs := ([] : List (S52))) (inner := []) (ok := fun _ => True) (okp := fun _ => True) ?hr ?hp (fun _ hk => hk) trivial (Below.refl _ _) (Nat.le_refl _) (by simp) ?_; (case hd => rfl); (case hg => rfl); (case hr => first | (go_simp; done) | (go_simp; rfl)); (case hp => exact (Reps.none _ _))
                        intro v338 w89 ho90 hb hg_ hnew_
                        clear hg_ hnew_
                        (first | rw [← Ny337.out] at ho90 | (simp only [Int.reduceToNat] at ho90; rw [← Ny337.out] at ho90))
                        have n0_ := Aside0.mk (Kd.R_lower ho90 (below_size (by repeat (first | (with_reducible first | exact HB.out | apply below_alloc | apply pw_below_drewN | apply below_drew1 | refine below_set ?_ GE321.out | refine below_set ?_ GE327.out | refine below_set ?_ GE336.out | refine below_set ?_ GE350.out) | exact HB.out))))
                        have n1_ := Aside0.mk (blk_below (g := gb321) (o := .cells #[.int .i64 a0_0, .int .i64 a0_1] 50 (0, 0)) (by (with_reducible repeat (first | refine blk_drewN ?_ _ | refine blk_drew ?_ | refine blk_alloc ?_ _)); exact BK321.out) hb)
                        have n2_ := Aside0.mk (blk_below (g := gb327) (o := .cells #[.int .i64 t323, .int .i64 t324] 50 (0, 0)) (by (with_reducible repeat (first | refine blk_drewN ?_ _ | refine blk_drew ?_ | refine blk_alloc ?_ _)); exact BK327.out) hb)
                        have n3_ := Aside0.mk (blk_below (g := gb336) (o := .cells #[.int .i64 t332, .int .i64 t333] 50 (0, 0)) (by (with_reducible repeat (first | refine blk_drewN ?_ _ | refine blk_drew ?_ | refine blk_alloc ?_ _)); exact BK336.out) hb)
                        have n4_ := Aside0.mk (blk_below (g := gb350) (o := .cells #[.int .i64 0, .int .i64 0] 50 (0, 0)) (by (with_reducible repeat (first | refine blk_drewN ?_ _ | refine blk_drew ?_ | refine blk_alloc ?_ _)); exact BK350.out) hb)
                        have n5_ := Aside0.mk (below_step (by repeat (first | (with_reducible first | exact HB.out | apply below_alloc | apply pw_below_drewN | apply below_drew1 | refine below_set ?_ GE321.out | refine below_set ?_ GE327.out | refine below_set ?_ GE336.out | refine below_set ?_ GE350.out) | exact HB.out)) hb)
                        clear BK321; clear BK327; clear BK336; clear BK350; clear HB; have HO339 := n0_; have BK321 := n1_; have BK327 := n2_; have BK336 := n3_; have BK350 := n4_; have HB := n5_; clear n0_ n1_ n2_ n3_ n4_ n5_; clear hb ho90
                        refine hK.out _ _ ⟨(blk_cell BK321.out 0).trans rfl, (blk_cell BK321.out 1).trans rfl⟩ (fun hHeld => ?_)
                        clear hK K
                        refine norm_ (a' := ?_) ?_ ?_
                        rotate_left
                        ·show Act.put _ (some 74) _ = _
                         simp only [Act.put, List.setIfInBounds_toArray, List.set_cons_zero, List.set_cons_succ, i64_w, i32_w]
                         rfl
                        exact norm_ (by first | (simp only [putAll, Act.put, List.setIfInBounds_toArray, List.set_cons_zero, List.set_cons_succ]; done) | (simp only [putAll, Act.put, List.setIfInBounds_toArray, List.set_cons_zero, List.set_cons_succ]; rfl)) (hJ1_11 (v338, gb350) _ ⟨hHeld, (by (with_reducible repeat (first | apply Kd.R_alloc | apply Kd.R_drewN | apply Kd.R_drew)); exact HO339.out), (by (with_reducible repeat (first | refine blk_drewN ?_ _ | refine blk_drew ?_ | refine blk_alloc ?_ _)); exact BK321.out), (by (with_reducible repeat (first | refine blk_drewN ?_ _ | refine blk_drew ?_ | refine blk_alloc ?_ _)); exact BK327.out), (by (with_reducible repeat (first | refine blk_drewN ?_ _ | refine blk_drew ?_ | refine blk_alloc ?_ _)); exact BK336.out), (by (with_reducible repeat (first | refine blk_drewN ?_ _ | refine blk_drew ?_ | refine blk_alloc ?_ _)); exact BK350.out), GW350.out, GE350.out, NB321_350.out, NB350_321.out, NB327_350.out, NB350_327.out, NB336_350.out, NB350_336.out, (by repeat (first | (with_reducible first | exact HB.out | apply below_alloc | apply pw_below_drewN | apply below_drew1 | refine below_set ?_ GE321.out | refine below_set ?_ GE327.out | refine below_set ?_ GE336.out | refine below_set ?_ GE350.out) | exact HB.out))⟩)
                      ·skip
                       rintro v338 w89 ⟨hS_, h0_, h1_, h2_, h3_, h4_⟩
                       have n0_ : Aside0 (Kd.R k52 52 w89 w.heap.size (fun _ => True) v338 y337) := ⟨h0_⟩
                       have n1_ : Aside0 (w89.heap[gb321]? = some (.cells #[.int .i64 a0_0, .int .i64 a0_1] 50 (0, 0))) := ⟨h1_⟩
                       have n2_ : Aside0 (w89.heap[gb327]? = some (.cells #[.int .i64 t323, .int .i64 t324] 50 (0, 0))) := ⟨h2_⟩
                       have n3_ : Aside0 (w89.heap[gb336]? = some (.cells #[.int .i64 t332, .int .i64 t333] 50 (0, 0))) := ⟨h3_⟩
                       have n4_ : Aside0 (Below w.heap.size w w89) := ⟨h4_⟩
                       clear BK321; clear BK327; clear BK336; clear HB; clear h0_ h1_ h2_ h3_ h4_; have HO339 := n0_; have BK321 := n1_; have BK327 := n2_; have BK336 := n3_; have HB := n4_; clear n0_ n1_ n2_ n3_ n4_
                       have hHeld : w89.cell? ⟨gb321, 0, none⟩ = some (.int .i64 a0_0) ∧ w89.cell? ⟨gb321, 1, none⟩ = some (.int .i64 a0_1) := hS_
                       refine norm_ (a' := ?_) ?_ ?_
                       rotate_left
                       ·simp only [putAll, Act.put, List.setIfInBounds_toArray, List.set_cons_zero, List.set_cons_succ]
                        rfl
                       refine two_ (i := 3) (j := 11) (Ni := some 76) (Nj := some 13) #[true, true, true, true, true, false, false, false, false, false, false, false, false, false, false] #[true, true, true, false, true, false, false, false, false, false, false, true, false, false, false] rfl rfl rfl rfl (two_of HT_.out (by kernel_rfl)) (by decide) (by decide) (fun K hK => ?_) (fun K hK => ?_)
                       ·skip
                        refine Kd.R_append_rows_step k52 (w0 := w) w.heap.size (by rfl) (.tmp 74) (.tmp 75) 64 52 (.agg #[(.int .i64 0), (.int .i64 0)]) 16 rfl Try.underlying64 info52 rfl (by decide) (by omega) v338 y337 l1 _ _ _ (fun _ => True) (fun _ => False) rfl rfl ?aO ?aR (fun _ _ h => h) (fun _ h => h.elim) ?aF ?aB ?aS ?aL ?_
                        (case aR => repeat (first | exact (Kd.C_below HR1.out HB.out) | (with_reducible refine Kd.C_alloc ?_ _) | (with_reducible refine Kd.C_drewN ?_ _) | (with_reducible refine Kd.C_drew ?_)))
                        (case aB => exact (by repeat (first | (with_reducible first | exact HB.out | apply below_alloc | apply pw_below_drewN | apply below_drew1 | refine below_set ?_ GE321.out | refine below_set ?_ GE327.out | refine below_set ?_ GE336.out) | exact HB.out)))
                        (case aF => exact (fun _ _ => trivial))
                        (case aO => exact (by (with_reducible repeat (first | apply Kd.R_alloc | apply Kd.R_drewN | apply Kd.R_drew)); exact HO339.out))
                        (case aS => exact (below_size (by repeat (first | (with_reducible first | exact HB.out | apply below_alloc | apply pw_below_drewN | apply below_drew1 | refine below_set ?_ GE321.out | refine below_set ?_ GE327.out | refine below_set ?_ GE336.out) | exact HB.out))))
                        (case aL => have := LMc40.out; omega)
                        intro v341 w90 ho hb hg hat
                        rw [← Ny340.out] at ho
                        have n0_ := Aside0.mk (blk_grown (g := gb321) (o := .cells #[.int .i64 a0_0, .int .i64 a0_1] 50 (0, 0)) (by (with_reducible repeat (first | refine blk_drewN ?_ _ | refine blk_drew ?_ | refine blk_alloc ?_ _)); exact BK321.out) hg (Kd.R_ne HO339.out BK321.out (by decide)))
                        have n1_ := Aside0.mk (blk_grown (g := gb327) (o := .cells #[.int .i64 t323, .int .i64 t324] 50 (0, 0)) (by (with_reducible repeat (first | refine blk_drewN ?_ _ | refine blk_drew ?_ | refine blk_alloc ?_ _)); exact BK327.out) hg (Kd.R_ne HO339.out BK327.out (by decide)))
                        have n2_ := Aside0.mk (blk_grown (g := gb336) (o := .cells #[.int .i64 t332, .int .i64 t333] 50 (0, 0)) (by (with_reducible repeat (first | refine blk_drewN ?_ _ | refine blk_drew ?_ | refine blk_alloc ?_ _)); exact BK336.out) hg (Kd.R_ne HO339.out BK336.out (by decide)))
                        have n3_ := Aside0.mk (hb)
                        have n4_ := Aside0.mk (ho)
                        clear BK321; clear BK327; clear BK336; clear HB; clear HO339; have BK321 := n0_; have BK327 := n1_; have BK336 := n2_; have HB := n3_; have HO342 := n4_; clear n0_ n1_ n2_ n3_ n4_; clear ho hb hg hat
                        refine hK.out _ _ ⟨(blk_cell BK321.out 0).trans rfl, (blk_cell BK321.out 1).trans rfl⟩ (fun hHeld => ?_)
                        clear hK K
                        refine norm_ (a' := ?_) ?_ ?_
                        rotate_left
                        ·show Act.put _ (some 76) _ = _
                         simp only [Act.put, List.setIfInBounds_toArray, List.set_cons_zero, List.set_cons_succ, i64_w, i32_w]
                         rfl
                        exact norm_ (by first | (simp only [putAll, Act.put, List.setIfInBounds_toArray, List.set_cons_zero, List.set_cons_succ]; done) | (simp only [putAll, Act.put, List.setIfInBounds_toArray, List.set_cons_zero, List.set_cons_succ]; rfl)) (hJ1_3 (v338, v341) _ ⟨hHeld, (by (with_reducible repeat (first | apply Kd.R_alloc | apply Kd.R_drewN | apply Kd.R_drew)); exact HO342.out), (by (with_reducible repeat (first | refine blk_drewN ?_ _ | refine blk_drew ?_ | refine blk_alloc ?_ _)); exact BK321.out), (by (with_reducible repeat (first | refine blk_drewN ?_ _ | refine blk_drew ?_ | refine blk_alloc ?_ _)); exact BK327.out), (by (with_reducible repeat (first | refine blk_drewN ?_ _ | refine blk_drew ?_ | refine blk_alloc ?_ _)); exact BK336.out), (by repeat (first | (with_reducible first | exact HB.out | apply below_alloc | apply pw_below_drewN | apply below_drew1 | refine below_set ?_ GE321.out | refine below_set ?_ GE327.out | refine below_set ?_ GE336.out) | exact HB.out))⟩)
                       ·skip
                        refine box_step ?hg (N := 13) ?hd (cs := #[.int .i64 0, .int .i64 0]) (t := 50) ?hr ?_; (case hd => rfl); (case hg => rfl); (case hr => first | (go_simp; done) | (go_simp; rfl))
                        intro gb350 hg w90 hbox hb
                        have n0_ := Aside0.mk (Kd.R_below (by (with_reducible repeat (first | apply Kd.R_alloc | apply Kd.R_drewN | apply Kd.R_drew)); exact HO339.out) hb)
                        have n1_ := Aside0.mk (blk_below (g := gb321) (o := .cells #[.int .i64 a0_0, .int .i64 a0_1] 50 (0, 0)) (by (with_reducible repeat (first | refine blk_drewN ?_ _ | refine blk_drew ?_ | refine blk_alloc ?_ _)); exact BK321.out) hb)
                        have n2_ := Aside0.mk (blk_below (g := gb327) (o := .cells #[.int .i64 t323, .int .i64 t324] 50 (0, 0)) (by (with_reducible repeat (first | refine blk_drewN ?_ _ | refine blk_drew ?_ | refine blk_alloc ?_ _)); exact BK327.out) hb)
                        have n3_ := Aside0.mk (blk_below (g := gb336) (o := .cells #[.int .i64 t332, .int .i64 t333] 50 (0, 0)) (by (with_reducible repeat (first | refine blk_drewN ?_ _ | refine blk_drew ?_ | refine blk_alloc ?_ _)); exact BK336.out) hb)
                        have n4_ := Aside0.mk (below_step (by repeat (first | (with_reducible first | exact HB.out | apply below_alloc | apply pw_below_drewN | apply below_drew1 | refine below_set ?_ GE321.out | refine below_set ?_ GE327.out | refine below_set ?_ GE336.out) | exact HB.out)) hb)
                        have n5_ := Aside0.mk (hbox)
                        have n6_ := Aside0.mk ((by rw [hg]; exact (below_size (by repeat (first | (with_reducible first | exact HB.out | apply below_alloc | apply pw_below_drewN | apply below_drew1 | refine below_set ?_ GE321.out | refine below_set ?_ GE327.out | refine below_set ?_ GE336.out) | exact HB.out))) : w.heap.size ≤ gb350))
                        have n7_ := Aside0.mk ((by rw [hg]; exact (below_size (by repeat (first | (with_reducible first | exact HB.out | apply below_alloc | apply pw_below_drewN | apply below_drew1 | refine below_set ?_ GE321.out | refine below_set ?_ GE327.out | refine below_set ?_ GE336.out) | exact HB.out))) : w.heap.size ≤ gb350))
                        have n8_ := Aside0.mk ((by rw [hg]; exact Nat.ne_of_lt (blk_lt (g := gb321) (o := .cells #[.int .i64 a0_0, .int .i64 a0_1] 50 (0, 0)) (by (with_reducible repeat (first | refine blk_drewN ?_ _ | refine blk_drew ?_ | refine blk_alloc ?_ _)); exact BK321.out)) : gb321 ≠ gb350))
                        have n9_ := Aside0.mk ((by rw [hg]; exact Nat.ne_of_gt (blk_lt (g := gb321) (o := .cells #[.int .i64 a0_0, .int .i64 a0_1] 50 (0, 0)) (by (with_reducible repeat (first | refine blk_drewN ?_ _ | refine blk_drew ?_ | refine blk_alloc ?_ _)); exact BK321.out)) : gb350 ≠ gb321))
                        have n10_ := Aside0.mk ((by rw [hg]; exact Nat.ne_of_lt (blk_lt (g := gb327) (o := .cells #[.int .i64 t323, .int .i64 t324] 50 (0, 0)) (by (with_reducible repeat (first | refine blk_drewN ?_ _ | refine blk_drew ?_ | refine blk_alloc ?_ _)); exact BK327.out)) : gb327 ≠ gb350))
                        have n11_ := Aside0.mk ((by rw [hg]; exact Nat.ne_of_gt (blk_lt (g := gb327) (o := .cells #[.int .i64 t323, .int .i64 t324] 50 (0, 0)) (by (with_reducible repeat (first | refine blk_drewN ?_ _ | refine blk_drew ?_ | refine blk_alloc ?_ _)); exact BK327.out)) : gb350 ≠ gb327))
                        have n12_ := Aside0.mk ((by rw [hg]; exact Nat.ne_of_lt (blk_lt (g := gb336) (o := .cells #[.int .i64 t332, .int .i64 t333] 50 (0, 0)) (by (with_reducible repeat (first | refine blk_drewN ?_ _ | refine blk_drew ?_ | refine blk_alloc ?_ _)); exact BK336.out)) : gb336 ≠ gb350))
                        have n13_ := Aside0.mk ((by rw [hg]; exact Nat.ne_of_gt (blk_lt (g := gb336) (o := .cells #[.int .i64 t332, .int .i64 t333] 50 (0, 0)) (by (with_reducible repeat (first | refine blk_drewN ?_ _ | refine blk_drew ?_ | refine blk_alloc ?_ _)); exact BK336.out)) : gb350 ≠ gb336))
                        clear HO339; clear BK321; clear BK327; clear BK336; clear HB; have HO339 := n0_; have BK321 := n1_; have BK327 := n2_; have BK336 := n3_; have HB := n4_; have BK350 := n5_; have GW350 := n6_; have GE350 := n7_; have NB321_350 := n8_; have NB350_321 := n9_; have NB327_350 := n10_; have NB350_327 := n11_; have NB336_350 := n12_; have NB350_336 := n13_; clear n0_ n1_ n2_ n3_ n4_ n5_ n6_ n7_ n8_ n9_ n10_ n11_ n12_ n13_; clear hb hbox hg
                        refine hK.out _ _ ⟨(blk_cell BK321.out 0).trans rfl, (blk_cell BK321.out 1).trans rfl⟩ (fun hHeld => ?_)
                        clear hK K
                        refine norm_ (a' := ?_) ?_ ?_
                        rotate_left
                        ·show Act.put _ (some 13) _ = _
                         simp only [Act.put, List.setIfInBounds_toArray, List.set_cons_zero, List.set_cons_succ, i64_w, i32_w]
                         rfl
                        exact norm_ (by first | (simp only [putAll, Act.put, List.setIfInBounds_toArray, List.set_cons_zero, List.set_cons_succ]; done) | (simp only [putAll, Act.put, List.setIfInBounds_toArray, List.set_cons_zero, List.set_cons_succ]; rfl)) (hJ1_11 (v338, gb350) _ ⟨hHeld, (by (with_reducible repeat (first | apply Kd.R_alloc | apply Kd.R_drewN | apply Kd.R_drew)); exact HO339.out), (by (with_reducible repeat (first | refine blk_drewN ?_ _ | refine blk_drew ?_ | refine blk_alloc ?_ _)); exact BK321.out), (by (with_reducible repeat (first | refine blk_drewN ?_ _ | refine blk_drew ?_ | refine blk_alloc ?_ _)); exact BK327.out), (by (with_reducible repeat (first | refine blk_drewN ?_ _ | refine blk_drew ?_ | refine blk_alloc ?_ _)); exact BK336.out), (by (with_reducible repeat (first | refine blk_drewN ?_ _ | refine blk_drew ?_ | refine blk_alloc ?_ _)); exact BK350.out), GW350.out, GE350.out, NB321_350.out, NB350_321.out, NB327_350.out, NB350_327.out, NB336_350.out, NB350_336.out, (by repeat (first | (with_reducible first | exact HB.out | apply below_alloc | apply pw_below_drewN | apply below_drew1 | refine below_set ?_ GE321.out | refine below_set ?_ GE327.out | refine below_set ?_ GE336.out | refine below_set ?_ GE350.out) | exact HB.out))⟩)
                     ·skip
                      rintro ⟨v338, gb350⟩ w90 ⟨hS_, h0_, h1_, h2_, h3_, h4_, h5_, h6_, h7_, h8_, h9_, h10_, h11_, h12_, h13_⟩
                      have n0_ : Aside0 (Kd.R k52 52 w90 w.heap.size (fun _ => True) v338 y337) := ⟨h0_⟩
                      have n1_ : Aside0 (w90.heap[gb321]? = some (.cells #[.int .i64 a0_0, .int .i64 a0_1] 50 (0, 0))) := ⟨h1_⟩
                      have n2_ : Aside0 (w90.heap[gb327]? = some (.cells #[.int .i64 t323, .int .i64 t324] 50 (0, 0))) := ⟨h2_⟩
                      have n3_ : Aside0 (w90.heap[gb336]? = some (.cells #[.int .i64 t332, .int .i64 t333] 50 (0, 0))) := ⟨h3_⟩
                      have n4_ : Aside0 (w90.heap[gb350]? = some (.cells #[.int .i64 0, .int .i64 0] 50 (0, 0))) := ⟨h4_⟩
                      have n5_ : Aside0 (w.heap.size ≤ gb350) := ⟨h5_⟩
                      have n6_ : Aside0 (w.heap.size ≤ gb350) := ⟨h6_⟩
                      have n7_ : Aside0 (gb321 ≠ gb350) := ⟨h7_⟩
                      have n8_ : Aside0 (gb350 ≠ gb321) := ⟨h8_⟩
                      have n9_ : Aside0 (gb327 ≠ gb350) := ⟨h9_⟩
                      have n10_ : Aside0 (gb350 ≠ gb327) := ⟨h10_⟩
                      have n11_ : Aside0 (gb336 ≠ gb350) := ⟨h11_⟩
                      have n12_ : Aside0 (gb350 ≠ gb336) := ⟨h12_⟩
                      have n13_ : Aside0 (Below w.heap.size w w90) := ⟨h13_⟩
                      clear BK321; clear BK327; clear BK336; clear HB; clear h0_ h1_ h2_ h3_ h4_ h5_ h6_ h7_ h8_ h9_ h10_ h11_ h12_ h13_; have HO339 := n0_; have BK321 := n1_; have BK327 := n2_; have BK336 := n3_; have BK350 := n4_; have GW350 := n5_; have GE350 := n6_; have NB321_350 := n7_; have NB350_321 := n8_; have NB327_350 := n9_; have NB350_327 := n10_; have NB336_350 := n11_; have NB350_336 := n12_; have HB := n13_; clear n0_ n1_ n2_ n3_ n4_ n5_ n6_ n7_ n8_ n9_ n10_ n11_ n12_ n13_
                      have hHeld : w90.cell? ⟨gb321, 0, none⟩ = some (.int .i64 a0_0) ∧ w90.cell? ⟨gb321, 1, none⟩ = some (.int .i64 a0_1) := hS_
                      refine norm_ (a' := ?_) ?_ ?_
                      rotate_left
                      ·simp only [putAll, Act.put, List.setIfInBounds_toArray, List.set_cons_zero, List.set_cons_succ]
                       rfl
                      refine one_ (i := 3) (N := some 76) #[true, true, true, true, true, false, false, false, false, false, false, true, false, false, false] rfl rfl (one_of HT_.out (by kernel_rfl)) (by decide) (fun K hK => ?_)
                      refine Kd.R_append_rows_step k52 (w0 := w) w.heap.size (by rfl) (.tmp 74) (.tmp 75) 64 52 (.agg #[(.int .i64 0), (.int .i64 0)]) 16 rfl Try.underlying64 info52 rfl (by decide) (by omega) v338 y337 l1 _ _ _ (fun _ => True) (fun _ => False) rfl rfl ?aO ?aR (fun _ _ h => h) (fun _ h => h.elim) ?aF ?aB ?aS ?aL ?_
                      (case aR => repeat (first | exact (Kd.C_below HR1.out HB.out) | (with_reducible refine Kd.C_alloc ?_ _) | (with_reducible refine Kd.C_drewN ?_ _) | (with_reducible refine Kd.C_drew ?_)))
                      (case aB => exact (by repeat (first | (with_reducible first | exact HB.out | apply below_alloc | apply pw_below_drewN | apply below_drew1 | refine below_set ?_ GE321.out | refine below_set ?_ GE327.out | refine below_set ?_ GE336.out | refine below_set ?_ GE350.out) | exact HB.out)))
                      (case aF => exact (fun _ _ => trivial))
                      (case aO => exact (by (with_reducible repeat (first | apply Kd.R_alloc | apply Kd.R_drewN | apply Kd.R_drew)); exact HO339.out))
                      (case aS => exact (below_size (by repeat (first | (with_reducible first | exact HB.out | apply below_alloc | apply pw_below_drewN | apply below_drew1 | refine below_set ?_ GE321.out | refine below_set ?_ GE327.out | refine below_set ?_ GE336.out | refine below_set ?_ GE350.out) | exact HB.out))))
                      (case aL => have := LMc40.out; omega)
                      intro v341 w91 ho hb hg hat
                      rw [← Ny340.out] at ho
                      have n0_ := Aside0.mk (blk_grown (g := gb321) (o := .cells #[.int .i64 a0_0, .int .i64 a0_1] 50 (0, 0)) (by (with_reducible repeat (first | refine blk_drewN ?_ _ | refine blk_drew ?_ | refine blk_alloc ?_ _)); exact BK321.out) hg (Kd.R_ne HO339.out BK321.out (by decide)))
                      have n1_ := Aside0.mk (blk_grown (g := gb327) (o := .cells #[.int .i64 t323, .int .i64 t324] 50 (0, 0)) (by (with_reducible repeat (first | refine blk_drewN ?_ _ | refine blk_drew ?_ | refine blk_alloc ?_ _)); exact BK327.out) hg (Kd.R_ne HO339.out BK327.out (by decide)))
                      have n2_ := Aside0.mk (blk_grown (g := gb336) (o := .cells #[.int .i64 t332, .int .i64 t333] 50 (0, 0)) (by (with_reducible repeat (first | refine blk_drewN ?_ _ | refine blk_drew ?_ | refine blk_alloc ?_ _)); exact BK336.out) hg (Kd.R_ne HO339.out BK336.out (by decide)))
                      have n3_ := Aside0.mk (blk_grown (g := gb350) (o := .cells #[.int .i64 0, .int .i64 0] 50 (0, 0)) (by (with_reducible repeat (first | refine blk_drewN ?_ _ | refine blk_drew ?_ | refine blk_alloc ?_ _)); exact BK350.out) hg (Kd.R_ne HO339.out BK350.out (by decide)))
                      have n4_ := Aside0.mk (hb)
                      have n5_ := Aside0.mk (ho)
                      clear BK321; clear BK327; clear BK336; clear BK350; clear HB; clear HO339; have BK321 := n0_; have BK327 := n1_; have BK336 := n2_; have BK350 := n3_; have HB := n4_; have HO342 := n5_; clear n0_ n1_ n2_ n3_ n4_ n5_; clear ho hb hg hat
                      refine hK.out _ _ ⟨(blk_cell BK321.out 0).trans rfl, (blk_cell BK321.out 1).trans rfl⟩ (fun hHeld => ?_)
                      clear hK K
                      refine norm_ (a' := ?_) ?_ ?_
                      rotate_left
                      ·show Act.put _ (some 76) _ = _
                       simp only [Act.put, List.setIfInBounds_toArray, List.set_cons_zero, List.set_cons_succ, i64_w, i32_w]
                       rfl
                      exact norm_ (by first | (simp only [putAll, Act.put, List.setIfInBounds_toArray, List.set_cons_zero, List.set_cons_succ]; done) | (simp only [putAll, Act.put, List.setIfInBounds_toArray, List.set_cons_zero, List.set_cons_succ]; rfl)) (hJ1_3_11 (v338, v341, gb350) _ ⟨hHeld, (by (with_reducible repeat (first | apply Kd.R_alloc | apply Kd.R_drewN | apply Kd.R_drew)); exact HO342.out), (by (with_reducible repeat (first | refine blk_drewN ?_ _ | refine blk_drew ?_ | refine blk_alloc ?_ _)); exact BK321.out), (by (with_reducible repeat (first | refine blk_drewN ?_ _ | refine blk_drew ?_ | refine blk_alloc ?_ _)); exact BK327.out), (by (with_reducible repeat (first | refine blk_drewN ?_ _ | refine blk_drew ?_ | refine blk_alloc ?_ _)); exact BK336.out), (by (with_reducible repeat (first | refine blk_drewN ?_ _ | refine blk_drew ?_ | refine blk_alloc ?_ _)); exact BK350.out), GW350.out, GE350.out, NB321_350.out, NB350_321.out, NB327_350.out, NB350_327.out, NB336_350.out, NB350_336.out, (by repeat (first | (with_reducible first | exact HB.out | apply below_alloc | apply pw_below_drewN | apply below_drew1 | refine below_set ?_ GE321.out | refine below_set ?_ GE327.out | refine below_set ?_ GE336.out | refine below_set ?_ GE350.out) | exact HB.out))⟩)
                    ·skip
                     rintro ⟨v338, v341⟩ w90 ⟨hS_, h0_, h1_, h2_, h3_, h4_⟩
                     have n0_ : Aside0 (Kd.R k52 52 w90 w.heap.size (fun _ => True) v341 y340) := ⟨h0_⟩
                     have n1_ : Aside0 (w90.heap[gb321]? = some (.cells #[.int .i64 a0_0, .int .i64 a0_1] 50 (0, 0))) := ⟨h1_⟩
                     have n2_ : Aside0 (w90.heap[gb327]? = some (.cells #[.int .i64 t323, .int .i64 t324] 50 (0, 0))) := ⟨h2_⟩
                     have n3_ : Aside0 (w90.heap[gb336]? = some (.cells #[.int .i64 t332, .int .i64 t333] 50 (0, 0))) := ⟨h3_⟩
                     have n4_ : Aside0 (Below w.heap.size w w90) := ⟨h4_⟩
                     clear BK321; clear BK327; clear BK336; clear HB; clear h0_ h1_ h2_ h3_ h4_; have HO342 := n0_; have BK321 := n1_; have BK327 := n2_; have BK336 := n3_; have HB := n4_; clear n0_ n1_ n2_ n3_ n4_
                     have hHeld : w90.cell? ⟨gb321, 0, none⟩ = some (.int .i64 a0_0) ∧ w90.cell? ⟨gb321, 1, none⟩ = some (.int .i64 a0_1) := hS_
                     refine norm_ (a' := ?_) ?_ ?_
                     rotate_left
                     ·simp only [putAll, Act.put, List.setIfInBounds_toArray, List.set_cons_zero, List.set_cons_succ]
                      rfl
                     refine two_ (i := 5) (j := 11) (Ni := some 78) (Nj := some 13) #[true, true, true, true, true, true, false, false, false, false, false, false, false, false, false] #[true, true, true, true, true, false, false, false, false, false, false, true, false, false, false] rfl rfl rfl rfl (two_of HT_.out (by kernel_rfl)) (by decide) (by decide) (fun K hK => ?_) (fun K hK => ?_)
                     ·skip
                      refine Kd.R_append_rows_step k52 (w0 := w) w.heap.size (by rfl) (.tmp 76) (.tmp 77) 64 52 (.agg #[(.int .i64 0), (.int .i64 0)]) 16 rfl Try.underlying64 info52 rfl (by decide) (by omega) v341 y340 l2 _ _ _ (fun _ => True) (fun _ => False) rfl rfl ?aO ?aR (fun _ _ h => h) (fun _ h => h.elim) ?aF ?aB ?aS ?aL ?_
                      (case aR => repeat (first | exact (Kd.C_below HR2.out HB.out) | (with_reducible refine Kd.C_alloc ?_ _) | (with_reducible refine Kd.C_drewN ?_ _) | (with_reducible refine Kd.C_drew ?_)))
                      (case aB => exact (by repeat (first | (with_reducible first | exact HB.out | apply below_alloc | apply pw_below_drewN | apply below_drew1 | refine below_set ?_ GE321.out | refine below_set ?_ GE327.out | refine below_set ?_ GE336.out) | exact HB.out)))
                      (case aF => exact (fun _ _ => trivial))
                      (case aO => exact (by (with_reducible repeat (first | apply Kd.R_alloc | apply Kd.R_drewN | apply Kd.R_drew)); exact HO342.out))
                      (case aS => exact (below_size (by repeat (first | (with_reducible first | exact HB.out | apply below_alloc | apply pw_below_drewN | apply below_drew1 | refine below_set ?_ GE321.out | refine below_set ?_ GE327.out | refine below_set ?_ GE336.out) | exact HB.out))))
                      (case aL => have := LMc41.out; omega)
                      intro v344 w91 ho hb hg hat
                      rw [← Ny343.out] at ho
                      have n0_ := Aside0.mk (blk_grown (g := gb321) (o := .cells #[.int .i64 a0_0, .int .i64 a0_1] 50 (0, 0)) (by (with_reducible repeat (first | refine blk_drewN ?_ _ | refine blk_drew ?_ | refine blk_alloc ?_ _)); exact BK321.out) hg (Kd.R_ne HO342.out BK321.out (by decide)))
                      have n1_ := Aside0.mk (blk_grown (g := gb327) (o := .cells #[.int .i64 t323, .int .i64 t324] 50 (0, 0)) (by (with_reducible repeat (first | refine blk_drewN ?_ _ | refine blk_drew ?_ | refine blk_alloc ?_ _)); exact BK327.out) hg (Kd.R_ne HO342.out BK327.out (by decide)))
                      have n2_ := Aside0.mk (blk_grown (g := gb336) (o := .cells #[.int .i64 t332, .int .i64 t333] 50 (0, 0)) (by (with_reducible repeat (first | refine blk_drewN ?_ _ | refine blk_drew ?_ | refine blk_alloc ?_ _)); exact BK336.out) hg (Kd.R_ne HO342.out BK336.out (by decide)))
                      have n3_ := Aside0.mk (hb)
                      have n4_ := Aside0.mk (ho)
                      clear BK321; clear BK327; clear BK336; clear HB; clear HO342; have BK321 := n0_; have BK327 := n1_; have BK336 := n2_; have HB := n3_; have HO345 := n4_; clear n0_ n1_ n2_ n3_ n4_; clear ho hb hg hat
                      refine hK.out _ _ ⟨(blk_cell BK321.out 0).trans rfl, (blk_cell BK321.out 1).trans rfl⟩ (fun hHeld => ?_)
                      clear hK K
                      refine norm_ (a' := ?_) ?_ ?_
                      rotate_left
                      ·show Act.put _ (some 78) _ = _
                       simp only [Act.put, List.setIfInBounds_toArray, List.set_cons_zero, List.set_cons_succ, i64_w, i32_w]
                       rfl
                      exact norm_ (by first | (simp only [putAll, Act.put, List.setIfInBounds_toArray, List.set_cons_zero, List.set_cons_succ]; done) | (simp only [putAll, Act.put, List.setIfInBounds_toArray, List.set_cons_zero, List.set_cons_succ]; rfl)) (hJ1_3_5 (v338, v341, v344) _ ⟨hHeld, (by (with_reducible repeat (first | apply Kd.R_alloc | apply Kd.R_drewN | apply Kd.R_drew)); exact HO345.out), (by (with_reducible repeat (first | refine blk_drewN ?_ _ | refine blk_drew ?_ | refine blk_alloc ?_ _)); exact BK321.out), (by (with_reducible repeat (first | refine blk_drewN ?_ _ | refine blk_drew ?_ | refine blk_alloc ?_ _)); exact BK327.out), (by (with_reducible repeat (first | refine blk_drewN ?_ _ | refine blk_drew ?_ | refine blk_alloc ?_ _)); exact BK336.out), (by repeat (first | (with_reducible first | exact HB.out | apply below_alloc | apply pw_below_drewN | apply below_drew1 | refine below_set ?_ GE321.out | refine below_set ?_ GE327.out | refine below_set ?_ GE336.out) | exact HB.out))⟩)
                     ·skip
                      refine box_step ?hg (N := 13) ?hd (cs := #[.int .i64 0, .int .i64 0]) (t := 50) ?hr ?_; (case hd => rfl); (case hg => rfl); (case hr => first | (go_simp; done) | (go_simp; rfl))
                      intro gb350 hg w91 hbox hb
                      have n0_ := Aside0.mk (Kd.R_below (by (with_reducible repeat (first | apply Kd.R_alloc | apply Kd.R_drewN | apply Kd.R_drew)); exact HO342.out) hb)
                      have n1_ := Aside0.mk (blk_below (g := gb321) (o := .cells #[.int .i64 a0_0, .int .i64 a0_1] 50 (0, 0)) (by (with_reducible repeat (first | refine blk_drewN ?_ _ | refine blk_drew ?_ | refine blk_alloc ?_ _)); exact BK321.out) hb)
                      have n2_ := Aside0.mk (blk_below (g := gb327) (o := .cells #[.int .i64 t323, .int .i64 t324] 50 (0, 0)) (by (with_reducible repeat (first | refine blk_drewN ?_ _ | refine blk_drew ?_ | refine blk_alloc ?_ _)); exact BK327.out) hb)
                      have n3_ := Aside0.mk (blk_below (g := gb336) (o := .cells #[.int .i64 t332, .int .i64 t333] 50 (0, 0)) (by (with_reducible repeat (first | refine blk_drewN ?_ _ | refine blk_drew ?_ | refine blk_alloc ?_ _)); exact BK336.out) hb)
                      have n4_ := Aside0.mk (below_step (by repeat (first | (with_reducible first | exact HB.out | apply below_alloc | apply pw_below_drewN | apply below_drew1 | refine below_set ?_ GE321.out | refine below_set ?_ GE327.out | refine below_set ?_ GE336.out) | exact HB.out)) hb)
                      have n5_ := Aside0.mk (hbox)
                      have n6_ := Aside0.mk ((by rw [hg]; exact (below_size (by repeat (first | (with_reducible first | exact HB.out | apply below_alloc | apply pw_below_drewN | apply below_drew1 | refine below_set ?_ GE321.out | refine below_set ?_ GE327.out | refine below_set ?_ GE336.out) | exact HB.out))) : w.heap.size ≤ gb350))
                      have n7_ := Aside0.mk ((by rw [hg]; exact (below_size (by repeat (first | (with_reducible first | exact HB.out | apply below_alloc | apply pw_below_drewN | apply below_drew1 | refine below_set ?_ GE321.out | refine below_set ?_ GE327.out | refine below_set ?_ GE336.out) | exact HB.out))) : w.heap.size ≤ gb350))
                      have n8_ := Aside0.mk ((by rw [hg]; exact Nat.ne_of_lt (blk_lt (g := gb321) (o := .cells #[.int .i64 a0_0, .int .i64 a0_1] 50 (0, 0)) (by (with_reducible repeat (first | refine blk_drewN ?_ _ | refine blk_drew ?_ | refine blk_alloc ?_ _)); exact BK321.out)) : gb321 ≠ gb350))
                      have n9_ := Aside0.mk ((by rw [hg]; exact Nat.ne_of_gt (blk_lt (g := gb321) (o := .cells #[.int .i64 a0_0, .int .i64 a0_1] 50 (0, 0)) (by (with_reducible repeat (first | refine blk_drewN ?_ _ | refine blk_drew ?_ | refine blk_alloc ?_ _)); exact BK321.out)) : gb350 ≠ gb321))
                      have n10_ := Aside0.mk ((by rw [hg]; exact Nat.ne_of_lt (blk_lt (g := gb327) (o := .cells #[.int .i64 t323, .int .i64 t324] 50 (0, 0)) (by (with_reducible repeat (first | refine blk_drewN ?_ _ | refine blk_drew ?_ | refine blk_alloc ?_ _)); exact BK327.out)) : gb327 ≠ gb350))
                      have n11_ := Aside0.mk ((by rw [hg]; exact Nat.ne_of_gt (blk_lt (g := gb327) (o := .cells #[.int .i64 t323, .int .i64 t324] 50 (0, 0)) (by (with_reducible repeat (first | refine blk_drewN ?_ _ | refine blk_drew ?_ | refine blk_alloc ?_ _)); exact BK327.out)) : gb350 ≠ gb327))
                      have n12_ := Aside0.mk ((by rw [hg]; exact Nat.ne_of_lt (blk_lt (g := gb336) (o := .cells #[.int .i64 t332, .int .i64 t333] 50 (0, 0)) (by (with_reducible repeat (first | refine blk_drewN ?_ _ | refine blk_drew ?_ | refine blk_alloc ?_ _)); exact BK336.out)) : gb336 ≠ gb350))
                      have n13_ := Aside0.mk ((by rw [hg]; exact Nat.ne_of_gt (blk_lt (g := gb336) (o := .cells #[.int .i64 t332, .int .i64 t333] 50 (0, 0)) (by (with_reducible repeat (first | refine blk_drewN ?_ _ | refine blk_drew ?_ | refine blk_alloc ?_ _)); exact BK336.out)) : gb350 ≠ gb336))
                      clear HO342; clear BK321; clear BK327; clear BK336; clear HB; have HO342 := n0_; have BK321 := n1_; have BK327 := n2_; have BK336 := n3_; have HB := n4_; have BK350 := n5_; have GW350 := n6_; have GE350 := n7_; have NB321_350 := n8_; have NB350_321 := n9_; have NB327_350 := n10_; have NB350_327 := n11_; have NB336_350 := n12_; have NB350_336 := n13_; clear n0_ n1_ n2_ n3_ n4_ n5_ n6_ n7_ n8_ n9_ n10_ n11_ n12_ n13_; clear hb hbox hg
                      refine hK.out _ _ ⟨(blk_cell BK321.out 0).trans rfl, (blk_cell BK321.out 1).trans rfl⟩ (fun hHeld => ?_)
                      clear hK K
                      refine norm_ (a' := ?_) ?_ ?_
                      rotate_left
                      ·show Act.put _ (some 13) _ = _
                       simp only [Act.put, List.setIfInBounds_toArray, List.set_cons_zero, List.set_cons_succ, i64_w, i32_w]
                       rfl
                      exact norm_ (by first | (simp only [putAll, Act.put, List.setIfInBounds_toArray, List.set_cons_zero, List.set_cons_succ]; done) | (simp only [putAll, Act.put, List.setIfInBounds_toArray, List.set_cons_zero, List.set_cons_succ]; rfl)) (hJ1_3_11 (v338, v341, gb350) _ ⟨hHeld, (by (with_reducible repeat (first | apply Kd.R_alloc | apply Kd.R_drewN | apply Kd.R_drew)); exact HO342.out), (by (with_reducible repeat (first | refine blk_drewN ?_ _ | refine blk_drew ?_ | refine blk_alloc ?_ _)); exact BK321.out), (by (with_reducible repeat (first | refine blk_drewN ?_ _ | refine blk_drew ?_ | refine blk_alloc ?_ _)); exact BK327.out), (by (with_reducible repeat (first | refine blk_drewN ?_ _ | refine blk_drew ?_ | refine blk_alloc ?_ _)); exact BK336.out), (by (with_reducible repeat (first | refine blk_drewN ?_ _ | refine blk_drew ?_ | refine blk_alloc ?_ _)); exact BK350.out), GW350.out, GE350.out, NB321_350.out, NB350_321.out, NB327_350.out, NB350_327.out, NB336_350.out, NB350_336.out, (by repeat (first | (with_reducible first | exact HB.out | apply below_alloc | apply pw_below_drewN | apply below_drew1 | refine below_set ?_ GE321.out | refine below_set ?_ GE327.out | refine below_set ?_ GE336.out | refine below_set ?_ GE350.out) | exact HB.out))⟩)
                   ·skip
                    rintro ⟨v338, v341, gb350⟩ w91 ⟨hS_, h0_, h1_, h2_, h3_, h4_, h5_, h6_, h7_, h8_, h9_, h10_, h11_, h12_, h13_⟩
                    have n0_ : Aside0 (Kd.R k52 52 w91 w.heap.size (fun _ => True) v341 y340) := ⟨h0_⟩
                    have n1_ : Aside0 (w91.heap[gb321]? = some (.cells #[.int .i64 a0_0, .int .i64 a0_1] 50 (0, 0))) := ⟨h1_⟩
                    have n2_ : Aside0 (w91.heap[gb327]? = some (.cells #[.int .i64 t323, .int .i64 t324] 50 (0, 0))) := ⟨h2_⟩
                    have n3_ : Aside0 (w91.heap[gb336]? = some (.cells #[.int .i64 t332, .int .i64 t333] 50 (0, 0))) := ⟨h3_⟩
                    have n4_ : Aside0 (w91.heap[gb350]? = some (.cells #[.int .i64 0, .int .i64 0] 50 (0, 0))) := ⟨h4_⟩
                    have n5_ : Aside0 (w.heap.size ≤ gb350) := ⟨h5_⟩
                    have n6_ : Aside0 (w.heap.size ≤ gb350) := ⟨h6_⟩
                    have n7_ : Aside0 (gb321 ≠ gb350) := ⟨h7_⟩
                    have n8_ : Aside0 (gb350 ≠ gb321) := ⟨h8_⟩
                    have n9_ : Aside0 (gb327 ≠ gb350) := ⟨h9_⟩
                    have n10_ : Aside0 (gb350 ≠ gb327) := ⟨h10_⟩
                    have n11_ : Aside0 (gb336 ≠ gb350) := ⟨h11_⟩
                    have n12_ : Aside0 (gb350 ≠ gb336) := ⟨h12_⟩
                    have n13_ : Aside0 (Below w.heap.size w w91) := ⟨h13_⟩
                    clear BK321; clear BK327; clear BK336; clear HB; clear h0_ h1_ h2_ h3_ h4_ h5_ h6_ h7_ h8_ h9_ h10_ h11_ h12_ h13_; have HO342 := n0_; have BK321 := n1_; have BK327 := n2_; have BK336 := n3_; have BK350 := n4_; have GW350 := n5_; have GE350 := n6_; have NB321_350 := n7_; have NB350_321 := n8_; have NB327_350 := n9_; have NB350_327 := n10_; have NB336_350 := n11_; have NB350_336 := n12_; have HB := n13_; clear n0_ n1_ n2_ n3_ n4_ n5_ n6_ n7_ n8_ n9_ n10_ n11_ n12_ n13_
                    have hHeld : w91.cell? ⟨gb321, 0, none⟩ = some (.int .i64 a0_0) ∧ w91.cell? ⟨gb321, 1, none⟩ = some (.int .i64 a0_1) := hS_
                    refine norm_ (a' := ?_) ?_ ?_
                    rotate_left
                    ·simp only [putAll, Act.put, List.setIfInBounds_toArray, List.set_cons_zero, List.set_cons_succ]
                     rfl
                    refine one_ (i := 5) (N := some 78) #[true, true, true, true, true, true, false, false, false, false, false, true, false, false, false] rfl rfl (one_of HT_.out (by kernel_rfl)) (by decide) (fun K hK => ?_)
                    refine Kd.R_append_rows_step k52 (w0 := w) w.heap.size (by rfl) (.tmp 76) (.tmp 77) 64 52 (.agg #[(.int .i64 0), (.int .i64 0)]) 16 rfl Try.underlying64 info52 rfl (by decide) (by omega) v341 y340 l2 _ _ _ (fun _ => True) (fun _ => False) rfl rfl ?aO ?aR (fun _ _ h => h) (fun _ h => h.elim) ?aF ?aB ?aS ?aL ?_
                    (case aR => repeat (first | exact (Kd.C_below HR2.out HB.out) | (with_reducible refine Kd.C_alloc ?_ _) | (with_reducible refine Kd.C_drewN ?_ _) | (with_reducible refine Kd.C_drew ?_)))
                    (case aB => exact (by repeat (first | (with_reducible first | exact HB.out | apply below_alloc | apply pw_below_drewN | apply below_drew1 | refine below_set ?_ GE321.out | refine below_set ?_ GE327.out | refine below_set ?_ GE336.out | refine below_set ?_ GE350.out) | exact HB.out)))
                    (case aF => exact (fun _ _ => trivial))
                    (case aO => exact (by (with_reducible repeat (first | apply Kd.R_alloc | apply Kd.R_drewN | apply Kd.R_drew)); exact HO342.out))
                    (case aS => exact (below_size (by repeat (first | (with_reducible first | exact HB.out | apply below_alloc | apply pw_below_drewN | apply below_drew1 | refine below_set ?_ GE321.out | refine below_set ?_ GE327.out | refine below_set ?_ GE336.out | refine below_set ?_ GE350.out) | exact HB.out))))
                    (case aL => have := LMc41.out; omega)
                    intro v344 w92 ho hb hg hat
                    rw [← Ny343.out] at ho
                    have n0_ := Aside0.mk (blk_grown (g := gb321) (o := .cells #[.int .i64 a0_0, .int .i64 a0_1] 50 (0, 0)) (by (with_reducible repeat (first | refine blk_drewN ?_ _ | refine blk_drew ?_ | refine blk_alloc ?_ _)); exact BK321.out) hg (Kd.R_ne HO342.out BK321.out (by decide)))
                    have n1_ := Aside0.mk (blk_grown (g := gb327) (o := .cells #[.int .i64 t323, .int .i64 t324] 50 (0, 0)) (by (with_reducible repeat (first | refine blk_drewN ?_ _ | refine blk_drew ?_ | refine blk_alloc ?_ _)); exact BK327.out) hg (Kd.R_ne HO342.out BK327.out (by decide)))
                    have n2_ := Aside0.mk (blk_grown (g := gb336) (o := .cells #[.int .i64 t332, .int .i64 t333] 50 (0, 0)) (by (with_reducible repeat (first | refine blk_drewN ?_ _ | refine blk_drew ?_ | refine blk_alloc ?_ _)); exact BK336.out) hg (Kd.R_ne HO342.out BK336.out (by decide)))
                    have n3_ := Aside0.mk (blk_grown (g := gb350) (o := .cells #[.int .i64 0, .int .i64 0] 50 (0, 0)) (by (with_reducible repeat (first | refine blk_drewN ?_ _ | refine blk_drew ?_ | refine blk_alloc ?_ _)); exact BK350.out) hg (Kd.R_ne HO342.out BK350.out (by decide)))
                    have n4_ := Aside0.mk (hb)
                    have n5_ := Aside0.mk (ho)
                    clear BK321; clear BK327; clear BK336; clear BK350; clear HB; clear HO342; have BK321 := n0_; have BK327 := n1_; have BK336 := n2_; have BK350 := n3_; have HB := n4_; have HO345 := n5_; clear n0_ n1_ n2_ n3_ n4_ n5_; clear ho hb hg hat
                    refine hK.out _ _ ⟨(blk_cell BK321.out 0).trans rfl, (blk_cell BK321.out 1).trans rfl⟩ (fun hHeld => ?_)
                    clear hK K
                    refine norm_ (a' := ?_) ?_ ?_
                    rotate_left
                    ·show Act.put _ (some 78) _ = _
                     simp only [Act.put, List.setIfInBounds_toArray, List.set_cons_zero, List.set_cons_succ, i64_w, i32_w]
                     rfl
                    exact norm_ (by first | (simp only [putAll, Act.put, List.setIfInBounds_toArray, List.set_cons_zero, List.set_cons_succ]; done) | (simp only [putAll, Act.put, List.setIfInBounds_toArray, List.set_cons_zero, List.set_cons_succ]; rfl)) (hJ1_3_5_11 (v338, v341, v344, gb350) _ ⟨hHeld, (by (with_reducible repeat (first | apply Kd.R_alloc | apply Kd.R_drewN | apply Kd.R_drew)); exact HO345.out), (by (with_reducible repeat (first | refine blk_drewN ?_ _ | refine blk_drew ?_ | refine blk_alloc ?_ _)); exact BK321.out), (by (with_reducible repeat (first | refine blk_drewN ?_ _ | refine blk_drew ?_ | refine blk_alloc ?_ _)); exact BK327.out), (by (with_reducible repeat (first | refine blk_drewN ?_ _ | refine blk_drew ?_ | refine blk_alloc ?_ _)); exact BK336.out), (by (with_reducible repeat (first | refine blk_drewN ?_ _ | refine blk_drew ?_ | refine blk_alloc ?_ _)); exact BK350.out), GW350.out, GE350.out, NB321_350.out, NB350_321.out, NB327_350.out, NB350_327.out, NB336_350.out, NB350_336.out, (by repeat (first | (with_reducible first | exact HB.out | apply below_alloc | apply pw_below_drewN | apply below_drew1 | refine below_set ?_ GE321.out | refine below_set ?_ GE327.out | refine below_set ?_ GE336.out | refine below_set ?_ GE350.out) | exact HB.out))⟩)
                  ·skip
                   rintro ⟨v338, v341, v344⟩ w91 ⟨hS_, h0_, h1_, h2_, h3_, h4_⟩
                   have n0_ : Aside0 (Kd.R k52 52 w91 w.heap.size (fun _ => True) v344 y343) := ⟨h0_⟩
                   have n1_ : Aside0 (w91.heap[gb321]? = some (.cells #[.int .i64 a0_0, .int .i64 a0_1] 50 (0, 0))) := ⟨h1_⟩
                   have n2_ : Aside0 (w91.heap[gb327]? = some (.cells #[.int .i64 t323, .int .i64 t324] 50 (0, 0))) := ⟨h2_⟩
                   have n3_ : Aside0 (w91.heap[gb336]? = some (.cells #[.int .i64 t332, .int .i64 t333] 50 (0, 0))) := ⟨h3_⟩
                   have n4_ : Aside0 (Below w.heap.size w w91) := ⟨h4_⟩
                   clear BK321; clear BK327; clear BK336; clear HB; clear h0_ h1_ h2_ h3_ h4_; have HO345 := n0_; have BK321 := n1_; have BK327 := n2_; have BK336 := n3_; have HB := n4_; clear n0_ n1_ n2_ n3_ n4_
                   have hHeld : w91.cell? ⟨gb321, 0, none⟩ = some (.int .i64 a0_0) ∧ w91.cell? ⟨gb321, 1, none⟩ = some (.int .i64 a0_1) := hS_
                   obtain ⟨Ao92, co92, eo92⟩ := Kd.R_slice HO345.out
                   (first | subst eo92 | (injection eo92 with f1_ f2_ f3_; have f4_ := f1_.symm; have f5_ := f3_.symm; clear f1_ f2_ f3_; subst f4_; subst f5_))
                   refine norm_ (a' := ?_) ?_ ?_
                   rotate_left
                   ·simp only [putAll, Act.put, List.setIfInBounds_toArray, List.set_cons_zero, List.set_cons_succ]
                    rfl
                   refine two_ (i := 6) (j := 11) (Ni := some 79) (Nj := some 13) #[true, true, true, true, true, true, true, false, false, false, false, false, false, false, false] #[true, true, true, true, true, true, false, false, false, false, false, true, false, false, false] rfl rfl rfl rfl (two_of HT_.out (by kernel_rfl)) (by decide) (by decide) (fun K hK => ?_) (fun K hK => ?_)
                   ·skip
                    refine goes_ Try.func37 (by kernel_rfl) rfl #[.agg #[.int .i64 a0_0, .int .i64 a0_1], .slice Ao92 y343.length co92] (by rfl) rfl rfl (by (try simp only [List.map_toArray, List.map_cons, List.map_nil]); first | done | rfl) ?_
                    with_reducible refine (life_Run.calls kj12 a0_0 a0_1 _ _ y343 t346 t347 t348 t349 _ ?side1 ?side2 A42.out).mono ?_
                    (case side1 => repeat (first | exact (Kd.R_reads' HO345.out).2.2 | (with_reducible refine Kd.C_alloc ?_ _) | (with_reducible refine Kd.C_drewN ?_ _) | (with_reducible refine Kd.C_drew ?_)))
                    (case side2 => exact (Kd.R_reads' HO345.out).2.1)
                    rintro e w93 ⟨rfl, hb⟩
                    refine ⟨_, rfl, ?_⟩
                    have n0_ := Aside0.mk (Kd.R_below (by (with_reducible repeat (first | apply Kd.R_alloc | apply Kd.R_drewN | apply Kd.R_drew)); exact HO345.out) hb)
                    have n1_ := Aside0.mk (blk_below (g := gb321) (o := .cells #[.int .i64 a0_0, .int .i64 a0_1] 50 (0, 0)) (by (with_reducible repeat (first | refine blk_drewN ?_ _ | refine blk_drew ?_ | refine blk_alloc ?_ _)); exact BK321.out) hb)
                    have n2_ := Aside0.mk (blk_below (g := gb327) (o := .cells #[.int .i64 t323, .int .i64 t324] 50 (0, 0)) (by (with_reducible repeat (first | refine blk_drewN ?_ _ | refine blk_drew ?_ | refine blk_alloc ?_ _)); exact BK327.out) hb)
                    have n3_ := Aside0.mk (blk_below (g := gb336) (o := .cells #[.int .i64 t332, .int .i64 t333] 50 (0, 0)) (by (with_reducible repeat (first | refine blk_drewN ?_ _ | refine blk_drew ?_ | refine blk_alloc ?_ _)); exact BK336.out) hb)
                    have n4_ := Aside0.mk (below_step (by repeat (first | (with_reducible first | exact HB.out | apply below_alloc | apply pw_below_drewN | apply below_drew1 | refine below_set ?_ GE321.out | refine below_set ?_ GE327.out | refine below_set ?_ GE336.out) | exact HB.out)) hb)
                    clear HO345; clear BK321; clear BK327; clear BK336; clear HB; have HO345 := n0_; have BK321 := n1_; have BK327 := n2_; have BK336 := n3_; have HB := n4_; clear n0_ n1_ n2_ n3_ n4_
                    (try clear hb)
                    (try clear hb2)
                    (try clear hk)
                    (try clear hi)
                    refine hK.out _ _ ⟨(blk_cell BK321.out 0).trans rfl, (blk_cell BK321.out 1).trans rfl⟩ (fun hHeld => ?_)
                    clear hK K
                    refine norm_ (a' := ?_) ?_ ?_
                    rotate_left
                    ·show Act.put _ (some 79) _ = _
                     simp only [Act.put, List.setIfInBounds_toArray, List.set_cons_zero, List.set_cons_succ, i64_w, i32_w]
                     rfl
                    refine pure_ (i := 7) (N := some 72) (v := ?_) (a' := ?_) #[true, true, true, true, true, true, true, true, false, false, false, false, false, false, false] rfl rfl (any_of HT_.out (by kernel_rfl)) (fun _ _ _ h => h) (Or.inl ⟨by rfl, ?_⟩) ?_ ?_
                    rotate_left
                    ·intro w'
                     go_simp
                     with_reducible rfl
                    rotate_left
                    ·simp only [Act.put, List.setIfInBounds_toArray, List.set_cons_zero, List.set_cons_succ, i64_w, i32_w]
                     rfl
                    refine pure_ (i := 8) (N := some 80) (v := ?_) (a' := ?_) #[true, true, true, true, true, true, true, true, true, false, false, false, false, false, false] rfl rfl (any_of HT_.out (by kernel_rfl)) (fun _ _ _ h => h) (Or.inl ⟨by rfl, ?_⟩) ?_ ?_
                    rotate_left
                    ·intro w'
                     go_simp
                     with_reducible rfl
                    rotate_left
                    ·simp only [Act.put, List.setIfInBounds_toArray, List.set_cons_zero, List.set_cons_succ, i64_w, i32_w]
                     rfl
                    refine pure_ (i := 9) (N := some 81) (v := ?_) (a' := ?_) #[true, true, true, true, true, true, true, true, true, true, false, false, false, false, false] rfl rfl (any_of HT_.out (by kernel_rfl)) (fun _ _ _ h => h) (Or.inl ⟨by rfl, ?_⟩) ?_ ?_
                    rotate_left
                    ·intro w'
                     go_simp
                     with_reducible rfl
                    rotate_left
                    ·simp only [Act.put, List.setIfInBounds_toArray, List.set_cons_zero, List.set_cons_succ, i64_w, i32_w]
                     rfl
                    refine pure_ (i := 10) (N := some 82) (v := ?_) (a' := ?_) #[true, true, true, true, true, true, true, true, true, true, true, false, false, false, false] rfl rfl (any_of HT_.out (by kernel_rfl)) (fun _ _ _ h => h) (Or.inl ⟨by rfl, ?_⟩) ?_ ?_
                    rotate_left
                    ·intro w'
                     go_simp
                     with_reducible rfl
                    rotate_left
                    ·simp only [Act.put, List.setIfInBounds_toArray, List.set_cons_zero, List.set_cons_succ, i64_w, i32_w]
                     rfl
                    exact norm_ (by first | (simp only [putAll, Act.put, List.setIfInBounds_toArray, List.set_cons_zero, List.set_cons_succ]; done) | (simp only [putAll, Act.put, List.setIfInBounds_toArray, List.set_cons_zero, List.set_cons_succ]; rfl)) (hJ1_3_5_6 (v338, v341, .slice Ao92 y343.length co92) _ ⟨hHeld, (by (with_reducible repeat (first | apply Kd.R_alloc | apply Kd.R_drewN | apply Kd.R_drew)); exact HO345.out), (by (with_reducible repeat (first | refine blk_drewN ?_ _ | refine blk_drew ?_ | refine blk_alloc ?_ _)); exact BK321.out), (by (with_reducible repeat (first | refine blk_drewN ?_ _ | refine blk_drew ?_ | refine blk_alloc ?_ _)); exact BK327.out), (by (with_reducible repeat (first | refine blk_drewN ?_ _ | refine blk_drew ?_ | refine blk_alloc ?_ _)); exact BK336.out), (by repeat (first | (with_reducible first | exact HB.out | apply below_alloc | apply pw_below_drewN | apply below_drew1 | refine below_set ?_ GE321.out | refine below_set ?_ GE327.out | refine below_set ?_ GE336.out) | exact HB.out))⟩)
                   ·skip
                    refine box_step ?hg (N := 13) ?hd (cs := #[.int .i64 0, .int .i64 0]) (t := 50) ?hr ?_; (case hd => rfl); (case hg => rfl); (case hr => first | (go_simp; done) | (go_simp; rfl))
                    intro gb350 hg w92 hbox hb
                    have n0_ := Aside0.mk (Kd.R_below (by (with_reducible repeat (first | apply Kd.R_alloc | apply Kd.R_drewN | apply Kd.R_drew)); exact HO345.out) hb)
                    have n1_ := Aside0.mk (blk_below (g := gb321) (o := .cells #[.int .i64 a0_0, .int .i64 a0_1] 50 (0, 0)) (by (with_reducible repeat (first | refine blk_drewN ?_ _ | refine blk_drew ?_ | refine blk_alloc ?_ _)); exact BK321.out) hb)
                    have n2_ := Aside0.mk (blk_below (g := gb327) (o := .cells #[.int .i64 t323, .int .i64 t324] 50 (0, 0)) (by (with_reducible repeat (first | refine blk_drewN ?_ _ | refine blk_drew ?_ | refine blk_alloc ?_ _)); exact BK327.out) hb)
                    have n3_ := Aside0.mk (blk_below (g := gb336) (o := .cells #[.int .i64 t332, .int .i64 t333] 50 (0, 0)) (by (with_reducible repeat (first | refine blk_drewN ?_ _ | refine blk_drew ?_ | refine blk_alloc ?_ _)); exact BK336.out) hb)
                    have n4_ := Aside0.mk (below_step (by repeat (first | (with_reducible first | exact HB.out | apply below_alloc | apply pw_below_drewN | apply below_drew1 | refine below_set ?_ GE321.out | refine below_set ?_ GE327.out | refine below_set ?_ GE336.out) | exact HB.out)) hb)
                    have n5_ := Aside0.mk (hbox)
                    have n6_ := Aside0.mk ((by rw [hg]; exact (below_size (by repeat (first | (with_reducible first | exact HB.out | apply below_alloc | apply pw_below_drewN | apply below_drew1 | refine below_set ?_ GE321.out | refine below_set ?_ GE327.out | refine below_set ?_ GE336.out) | exact HB.out))) : w.heap.size ≤ gb350))
                    have n7_ := Aside0.mk ((by rw [hg]; exact (below_size (by repeat (first | (with_reducible first | exact HB.out | apply below_alloc | apply pw_below_drewN | apply below_drew1 | refine below_set ?_ GE321.out | refine below_set ?_ GE327.out | refine below_set ?_ GE336.out) | exact HB.out))) : w.heap.size ≤ gb350))
                    have n8_ := Aside0.mk ((by rw [hg]; exact Nat.ne_of_lt (blk_lt (g := gb321) (o := .cells #[.int .i64 a0_0, .int .i64 a0_1] 50 (0, 0)) (by (with_reducible repeat (first | refine blk_drewN ?_ _ | refine blk_drew ?_ | refine blk_alloc ?_ _)); exact BK321.out)) : gb321 ≠ gb350))
                    have n9_ := Aside0.mk ((by rw [hg]; exact Nat.ne_of_gt (blk_lt (g := gb321) (o := .cells #[.int .i64 a0_0, .int .i64 a0_1] 50 (0, 0)) (by (with_reducible repeat (first | refine blk_drewN ?_ _ | refine blk_drew ?_ | refine blk_alloc ?_ _)); exact BK321.out)) : gb350 ≠ gb321))
                    have n10_ := Aside0.mk ((by rw [hg]; exact Nat.ne_of_lt (blk_lt (g := gb327) (o := .cells #[.int .i64 t323, .int .i64 t324] 50 (0, 0)) (by (with_reducible repeat (first | refine blk_drewN ?_ _ | refine blk_drew ?_ | refine blk_alloc ?_ _)); exact BK327.out)) : gb327 ≠ gb350))
                    have n11_ := Aside0.mk ((by rw [hg]; exact Nat.ne_of_gt (blk_lt (g := gb327) (o := .cells #[.int .i64 t323, .int .i64 t324] 50 (0, 0)) (by (with_reducible repeat (first | refine blk_drewN ?_ _ | refine blk_drew ?_ | refine blk_alloc ?_ _)); exact BK327.out)) : gb350 ≠ gb327))
                    have n12_ := Aside0.mk ((by rw [hg]; exact Nat.ne_of_lt (blk_lt (g := gb336) (o := .cells #[.int .i64 t332, .int .i64 t333] 50 (0, 0)) (by (with_reducible repeat (first | refine blk_drewN ?_ _ | refine blk_drew ?_ | refine blk_alloc ?_ _)); exact BK336.out)) : gb336 ≠ gb350))
                    have n13_ := Aside0.mk ((by rw [hg]; exact Nat.ne_of_gt (blk_lt (g := gb336) (o := .cells #[.int .i64 t332, .int .i64 t333] 50 (0, 0)) (by (with_reducible repeat (first | refine blk_drewN ?_ _ | refine blk_drew ?_ | refine blk_alloc ?_ _)); exact BK336.out)) : gb350 ≠ gb336))
                    clear HO345; clear BK321; clear BK327; clear BK336; clear HB; have HO345 := n0_; have BK321 := n1_; have BK327 := n2_; have BK336 := n3_; have HB := n4_; have BK350 := n5_; have GW350 := n6_; have GE350 := n7_; have NB321_350 := n8_; have NB350_321 := n9_; have NB327_350 := n10_; have NB350_327 := n11_; have NB336_350 := n12_; have NB350_336 := n13_; clear n0_ n1_ n2_ n3_ n4_ n5_ n6_ n7_ n8_ n9_ n10_ n11_ n12_ n13_; clear hb hbox hg
                    refine hK.out _ _ ⟨(blk_cell BK321.out 0).trans rfl, (blk_cell BK321.out 1).trans rfl⟩ (fun hHeld => ?_)
                    clear hK K
                    refine norm_ (a' := ?_) ?_ ?_
                    rotate_left
                    ·show Act.put _ (some 13) _ = _
                     simp only [Act.put, List.setIfInBounds_toArray, List.set_cons_zero, List.set_cons_succ, i64_w, i32_w]
                     rfl
                    exact norm_ (by first | (simp only [putAll, Act.put, List.setIfInBounds_toArray, List.set_cons_zero, List.set_cons_succ]; done) | (simp only [putAll, Act.put, List.setIfInBounds_toArray, List.set_cons_zero, List.set_cons_succ]; rfl)) (hJ1_3_5_11 (v338, v341, .slice Ao92 y343.length co92, gb350) _ ⟨hHeld, (by (with_reducible repeat (first | apply Kd.R_alloc | apply Kd.R_drewN | apply Kd.R_drew)); exact HO345.out), (by (with_reducible repeat (first | refine blk_drewN ?_ _ | refine blk_drew ?_ | refine blk_alloc ?_ _)); exact BK321.out), (by (with_reducible repeat (first | refine blk_drewN ?_ _ | refine blk_drew ?_ | refine blk_alloc ?_ _)); exact BK327.out), (by (with_reducible repeat (first | refine blk_drewN ?_ _ | refine blk_drew ?_ | refine blk_alloc ?_ _)); exact BK336.out), (by (with_reducible repeat (first | refine blk_drewN ?_ _ | refine blk_drew ?_ | refine blk_alloc ?_ _)); exact BK350.out), GW350.out, GE350.out, NB321_350.out, NB350_321.out, NB327_350.out, NB350_327.out, NB336_350.out, NB350_336.out, (by repeat (first | (with_reducible first | exact HB.out | apply below_alloc | apply pw_below_drewN | apply below_drew1 | refine below_set ?_ GE321.out | refine below_set ?_ GE327.out | refine below_set ?_ GE336.out | refine below_set ?_ GE350.out) | exact HB.out))⟩)
                 ·skip
                  rintro ⟨v338, v341, v344, gb350⟩ w92 ⟨hS_, h0_, h1_, h2_, h3_, h4_, h5_, h6_, h7_, h8_, h9_, h10_, h11_, h12_, h13_⟩
                  have n0_ : Aside0 (Kd.R k52 52 w92 w.heap.size (fun _ => True) v344 y343) := ⟨h0_⟩
                  have n1_ : Aside0 (w92.heap[gb321]? = some (.cells #[.int .i64 a0_0, .int .i64 a0_1] 50 (0, 0))) := ⟨h1_⟩
                  have n2_ : Aside0 (w92.heap[gb327]? = some (.cells #[.int .i64 t323, .int .i64 t324] 50 (0, 0))) := ⟨h2_⟩
                  have n3_ : Aside0 (w92.heap[gb336]? = some (.cells #[.int .i64 t332, .int .i64 t333] 50 (0, 0))) := ⟨h3_⟩
                  have n4_ : Aside0 (w92.heap[gb350]? = some (.cells #[.int .i64 0, .int .i64 0] 50 (0, 0))) := ⟨h4_⟩
                  have n5_ : Aside0 (w.heap.size ≤ gb350) := ⟨h5_⟩
                  have n6_ : Aside0 (w.heap.size ≤ gb350) := ⟨h6_⟩
                  have n7_ : Aside0 (gb321 ≠ gb350) := ⟨h7_⟩
                  have n8_ : Aside0 (gb350 ≠ gb321) := ⟨h8_⟩
                  have n9_ : Aside0 (gb327 ≠ gb350) := ⟨h9_⟩
                  have n10_ : Aside0 (gb350 ≠ gb327) := ⟨h10_⟩
                  have n11_ : Aside0 (gb336 ≠ gb350) := ⟨h11_⟩
                  have n12_ : Aside0 (gb350 ≠ gb336) := ⟨h12_⟩
                  have n13_ : Aside0 (Below w.heap.size w w92) := ⟨h13_⟩
                  clear BK321; clear BK327; clear BK336; clear HB; clear h0_ h1_ h2_ h3_ h4_ h5_ h6_ h7_ h8_ h9_ h10_ h11_ h12_ h13_; have HO345 := n0_; have BK321 := n1_; have BK327 := n2_; have BK336 := n3_; have BK350 := n4_; have GW350 := n5_; have GE350 := n6_; have NB321_350 := n7_; have NB350_321 := n8_; have NB327_350 := n9_; have NB350_327 := n10_; have NB336_350 := n11_; have NB350_336 := n12_; have HB := n13_; clear n0_ n1_ n2_ n3_ n4_ n5_ n6_ n7_ n8_ n9_ n10_ n11_ n12_ n13_
                  have hHeld : w92.cell? ⟨gb321, 0, none⟩ = some (.int .i64 a0_0) ∧ w92.cell? ⟨gb321, 1, none⟩ = some (.int .i64 a0_1) := hS_
                  obtain ⟨Ao93, co93, eo93⟩ := Kd.R_slice HO345.out
                  (first | subst eo93 | (injection eo93 with f1_ f2_ f3_; have f4_ := f1_.symm; have f5_ := f3_.symm; clear f1_ f2_ f3_; subst f4_; subst f5_))
                  refine norm_ (a' := ?_) ?_ ?_
                  rotate_left
                  ·simp only [putAll, Act.put, List.setIfInBounds_toArray, List.set_cons_zero, List.set_cons_succ]
                   rfl
                  refine one_ (i := 6) (N := some 79) #[true, true, true, true, true, true, true, false, false, false, false, true, false, false, false] rfl rfl (one_of HT_.out (by kernel_rfl)) (by decide) (fun K hK => ?_)
                  refine goes_ Try.func37 (by kernel_rfl) rfl #[.agg #[.int .i64 a0_0, .int .i64 a0_1], .slice Ao93 y343.length co93] (by rfl) rfl rfl (by (try simp only [List.map_toArray, List.map_cons, List.map_nil]); first | done | rfl) ?_
                  with_reducible refine (life_Run.calls kj12 a0_0 a0_1 _ _ y343 t346 t347 t348 t349 _ ?side1 ?side2 A42.out).mono ?_
                  (case side1 => repeat (first | exact (Kd.R_reads' HO345.out).2.2 | (with_reducible refine Kd.C_alloc ?_ _) | (with_reducible refine Kd.C_drewN ?_ _) | (with_reducible refine Kd.C_drew ?_)))
                  (case side2 => exact (Kd.R_reads' HO345.out).2.1)
                  rintro e w94 ⟨rfl, hb⟩
                  refine ⟨_, rfl, ?_⟩
                  have n0_ := Aside0.mk (Kd.R_below (by (with_reducible repeat (first | apply Kd.R_alloc | apply Kd.R_drewN | apply Kd.R_drew)); exact HO345.out) hb)
                  have n1_ := Aside0.mk (blk_below (g := gb321) (o := .cells #[.int .i64 a0_0, .int .i64 a0_1] 50 (0, 0)) (by (with_reducible repeat (first | refine blk_drewN ?_ _ | refine blk_drew ?_ | refine blk_alloc ?_ _)); exact BK321.out) hb)
                  have n2_ := Aside0.mk (blk_below (g := gb327) (o := .cells #[.int .i64 t323, .int .i64 t324] 50 (0, 0)) (by (with_reducible repeat (first | refine blk_drewN ?_ _ | refine blk_drew ?_ | refine blk_alloc ?_ _)); exact BK327.out) hb)
                  have n3_ := Aside0.mk (blk_below (g := gb336) (o := .cells #[.int .i64 t332, .int .i64 t333] 50 (0, 0)) (by (with_reducible repeat (first | refine blk_drewN ?_ _ | refine blk_drew ?_ | refine blk_alloc ?_ _)); exact BK336.out) hb)
                  have n4_ := Aside0.mk (blk_below (g := gb350) (o := .cells #[.int .i64 0, .int .i64 0] 50 (0, 0)) (by (with_reducible repeat (first | refine blk_drewN ?_ _ | refine blk_drew ?_ | refine blk_alloc ?_ _)); exact BK350.out) hb)
                  have n5_ := Aside0.mk (below_step (by repeat (first | (with_reducible first | exact HB.out | apply below_alloc | apply pw_below_drewN | apply below_drew1 | refine below_set ?_ GE321.out | refine below_set ?_ GE327.out | refine below_set ?_ GE336.out | refine below_set ?_ GE350.out) | exact HB.out)) hb)
                  clear HO345; clear BK321; clear BK327; clear BK336; clear BK350; clear HB; have HO345 := n0_; have BK321 := n1_; have BK327 := n2_; have BK336 := n3_; have BK350 := n4_; have HB := n5_; clear n0_ n1_ n2_ n3_ n4_ n5_
                  (try clear hb)
                  (try clear hb2)
                  (try clear hk)
                  (try clear hi)
                  refine hK.out _ _ ⟨(blk_cell BK321.out 0).trans rfl, (blk_cell BK321.out 1).trans rfl⟩ (fun hHeld => ?_)
                  clear hK K
                  refine norm_ (a' := ?_) ?_ ?_
                  rotate_left
                  ·show Act.put _ (some 79) _ = _
                   simp only [Act.put, List.setIfInBounds_toArray, List.set_cons_zero, List.set_cons_succ, i64_w, i32_w]
                   rfl
                  refine pure_ (i := 7) (N := some 72) (v := ?_) (a' := ?_) #[true, true, true, true, true, true, true, true, false, false, false, true, false, false, false] rfl rfl (any_of HT_.out (by kernel_rfl)) (fun _ _ _ h => h) (Or.inl ⟨by rfl, ?_⟩) ?_ ?_
                  rotate_left
                  ·intro w'
                   go_simp
                   with_reducible rfl
                  rotate_left
                  ·simp only [Act.put, List.setIfInBounds_toArray, List.set_cons_zero, List.set_cons_succ, i64_w, i32_w]
                   rfl
                  refine pure_ (i := 8) (N := some 80) (v := ?_) (a' := ?_) #[true, true, true, true, true, true, true, true, true, false, false, true, false, false, false] rfl rfl (any_of HT_.out (by kernel_rfl)) (fun _ _ _ h => h) (Or.inl ⟨by rfl, ?_⟩) ?_ ?_
                  rotate_left
                  ·intro w'
                   go_simp
                   with_reducible rfl
                  rotate_left
                  ·simp only [Act.put, List.setIfInBounds_toArray, List.set_cons_zero, List.set_cons_succ, i64_w, i32_w]
                   rfl
                  refine pure_ (i := 9) (N := some 81) (v := ?_) (a' := ?_) #[true, true, true, true, true, true, true, true, true, true, false, true, false, false, false] rfl rfl (any_of HT_.out (by kernel_rfl)) (fun _ _ _ h => h) (Or.inl ⟨by rfl, ?_⟩) ?_ ?_
                  rotate_left
                  ·intro w'
                   go_simp
                   with_reducible rfl
                  rotate_left
                  ·simp only [Act.put, List.setIfInBounds_toArray, List.set_cons_zero, List.set_cons_succ, i64_w, i32_w]
                   rfl
                  refine pure_ (i := 10) (N := some 82) (v := ?_) (a' := ?_) #[true, true, true, true, true, true, true, true, true, true, true, true, false, false, false] rfl rfl (any_of HT_.out (by kernel_rfl)) (fun _ _ _ h => h) (Or.inl ⟨by rfl, ?_⟩) ?_ ?_
                  rotate_left
                  ·intro w'
                   go_simp
                   with_reducible rfl
                  rotate_left
                  ·simp only [Act.put, List.setIfInBounds_toArray, List.set_cons_zero, List.set_cons_succ, i64_w, i32_w]
                   rfl
                  exact norm_ (by first | (simp only [putAll, Act.put, List.setIfInBounds_toArray, List.set_cons_zero, List.set_cons_succ]; done) | (simp only [putAll, Act.put, List.setIfInBounds_toArray, List.set_cons_zero, List.set_cons_succ]; rfl)) (hJ1_3_5_6_11 (v338, v341, .slice Ao93 y343.length co93, gb350) _ ⟨hHeld, (by (with_reducible repeat (first | apply Kd.R_alloc | apply Kd.R_drewN | apply Kd.R_drew)); exact HO345.out), (by (with_reducible repeat (first | refine blk_drewN ?_ _ | refine blk_drew ?_ | refine blk_alloc ?_ _)); exact BK321.out), (by (with_reducible repeat (first | refine blk_drewN ?_ _ | refine blk_drew ?_ | refine blk_alloc ?_ _)); exact BK327.out), (by (with_reducible repeat (first | refine blk_drewN ?_ _ | refine blk_drew ?_ | refine blk_alloc ?_ _)); exact BK336.out), (by (with_reducible repeat (first | refine blk_drewN ?_ _ | refine blk_drew ?_ | refine blk_alloc ?_ _)); exact BK350.out), GW350.out, GE350.out, NB321_350.out, NB350_321.out, NB327_350.out, NB350_327.out, NB336_350.out, NB350_336.out, (by repeat (first | (with_reducible first | exact HB.out | apply below_alloc | apply pw_below_drewN | apply below_drew1 | refine below_set ?_ GE321.out | refine below_set ?_ GE327.out | refine below_set ?_ GE336.out | refine below_set ?_ GE350.out) | exact HB.out))⟩)
                ·skip
                 rintro ⟨v338, v341, v344⟩ w93 ⟨hS_, h0_, h1_, h2_, h3_, h4_⟩
                 have n0_ : Aside0 (Kd.R k52 52 w93 w.heap.size (fun _ => True) v344 y343) := ⟨h0_⟩
                 have n1_ : Aside0 (w93.heap[gb321]? = some (.cells #[.int .i64 a0_0, .int .i64 a0_1] 50 (0, 0))) := ⟨h1_⟩
                 have n2_ : Aside0 (w93.heap[gb327]? = some (.cells #[.int .i64 t323, .int .i64 t324] 50 (0, 0))) := ⟨h2_⟩
                 have n3_ : Aside0 (w93.heap[gb336]? = some (.cells #[.int .i64 t332, .int .i64 t333] 50 (0, 0))) := ⟨h3_⟩
                 have n4_ : Aside0 (Below w.heap.size w w93) := ⟨h4_⟩
                 clear BK321; clear BK327; clear BK336; clear HB; clear h0_ h1_ h2_ h3_ h4_; have HO345 := n0_; have BK321 := n1_; have BK327 := n2_; have BK336 := n3_; have HB := n4_; clear n0_ n1_ n2_ n3_ n4_
                 have hHeld : w93.cell? ⟨gb321, 0, none⟩ = some (.int .i64 a0_0) ∧ w93.cell? ⟨gb321, 1, none⟩ = some (.int .i64 a0_1) := hS_
                 refine norm_ (a' := ?_) ?_ ?_
                 rotate_left
                 ·simp only [putAll, Act.put, List.setIfInBounds_toArray, List.set_cons_zero, List.set_cons_succ]
                  rfl
                 refine one_ (i := 11) (N := some 13) #[true, true, true, true, true, true, true, true, true, true, true, true, false, false, false] rfl rfl (one_of HT_.out (by kernel_rfl)) (by decide) (fun K hK => ?_)
                 refine box_step ?hg (N := 13) ?hd (cs := #[.int .i64 0, .int .i64 0]) (t := 50) ?hr ?_; (case hd => rfl); (case hg => rfl); (case hr => first | (go_simp; done) | (go_simp; rfl))
                 intro gb350 hg w94 hbox hb
                 have n0_ := Aside0.mk (Kd.R_below (by (with_reducible repeat (first | apply Kd.R_alloc | apply Kd.R_drewN | apply Kd.R_drew)); exact HO345.out) hb)
                 have n1_ := Aside0.mk (blk_below (g := gb321) (o := .cells #[.int .i64 a0_0, .int .i64 a0_1] 50 (0, 0)) (by (with_reducible repeat (first | refine blk_drewN ?_ _ | refine blk_drew ?_ | refine blk_alloc ?_ _)); exact BK321.out) hb)
                 have n2_ := Aside0.mk (blk_below (g := gb327) (o := .cells #[.int .i64 t323, .int .i64 t324] 50 (0, 0)) (by (with_reducible repeat (first | refine blk_drewN ?_ _ | refine blk_drew ?_ | refine blk_alloc ?_ _)); exact BK327.out) hb)
                 have n3_ := Aside0.mk (blk_below (g := gb336) (o := .cells #[.int .i64 t332, .int .i64 t333] 50 (0, 0)) (by (with_reducible repeat (first | refine blk_drewN ?_ _ | refine blk_drew ?_ | refine blk_alloc ?_ _)); exact BK336.out) hb)
                 have n4_ := Aside0.mk (below_step (by repeat (first | (with_reducible first | exact HB.out | apply below_alloc | apply pw_below_drewN | apply below_drew1 | refine below_set ?_ GE321.out | refine below_set ?_ GE327.out | refine below_set ?_ GE336.out) | exact HB.out)) hb)
                 have n5_ := Aside0.mk (hbox)
                 have n6_ := Aside0.mk ((by rw [hg]; exact (below_size (by repeat (first | (with_reducible first | exact HB.out | apply below_alloc | apply pw_below_drewN | apply below_drew1 | refine below_set ?_ GE321.out | refine below_set ?_ GE327.out | refine below_set ?_ GE336.out) | exact HB.out))) : w.heap.size ≤ gb350))
                 have n7_ := Aside0.mk ((by rw [hg]; exact (below_size (by repeat (first | (with_reducible first | exact HB.out | apply below_alloc | apply pw_below_drewN | apply below_drew1 | refine below_set ?_ GE321.out | refine below_set ?_ GE327.out | refine below_set ?_ GE336.out) | exact HB.out))) : w.heap.size ≤ gb350))
                 have n8_ := Aside0.mk ((by rw [hg]; exact Nat.ne_of_lt (blk_lt (g := gb321) (o := .cells #[.int .i64 a0_0, .int .i64 a0_1] 50 (0, 0)) (by (with_reducible repeat (first | refine blk_drewN ?_ _ | refine blk_drew ?_ | refine blk_alloc ?_ _)); exact BK321.out)) : gb321 ≠ gb350))
                 have n9_ := Aside0.mk ((by rw [hg]; exact Nat.ne_of_gt (blk_lt (g := gb321) (o := .cells #[.int .i64 a0_0, .int .i64 a0_1] 50 (0, 0)) (by (with_reducible repeat (first | refine blk_drewN ?_ _ | refine blk_drew ?_ | refine blk_alloc ?_ _)); exact BK321.out)) : gb350 ≠ gb321))
                 have n10_ := Aside0.mk ((by rw [hg]; exact Nat.ne_of_lt (blk_lt (g := gb327) (o := .cells #[.int .i64 t323, .int .i64 t324] 50 (0, 0)) (by (with_reducible repeat (first | refine blk_drewN ?_ _ | refine blk_drew ?_ | refine blk_alloc ?_ _)); exact BK327.out)) : gb327 ≠ gb350))
                 have n11_ := Aside0.mk ((by rw [hg]; exact Nat.ne_of_gt (blk_lt (g := gb327) (o := .cells #[.int .i64 t323, .int .i64 t324] 50 (0, 0)) (by (with_reducible repeat (first | refine blk_drewN ?_ _ | refine blk_drew ?_ | refine blk_alloc ?_ _)); exact BK327.out)) : gb350 ≠ gb327))
                 have n12_ := Aside0.mk ((by rw [hg]; exact Nat.ne_of_lt (blk_lt (g := gb336) (o := .cells #[.int .i64 t332, .int .i64 t333] 50 (0, 0)) (by (with_reducible repeat (first | refine blk_drewN ?_ _ | refine blk_drew ?_ | refine blk_alloc ?_ _)); exact BK336.out)) : gb336 ≠ gb350))
                 have n13_ := Aside0.mk ((by rw [hg]; exact Nat.ne_of_gt (blk_lt (g := gb336) (o := .cells #[.int .i64 t332, .int .i64 t333] 50 (0, 0)) (by (with_reducible repeat (first | refine blk_drewN ?_ _ | refine blk_drew ?_ | refine blk_alloc ?_ _)); exact BK336.out)) : gb350 ≠ gb336))
                 clear HO345; clear BK321; clear BK327; clear BK336; clear HB; have HO345 := n0_; have BK321 := n1_; have BK327 := n2_; have BK336 := n3_; have HB := n4_; have BK350 := n5_; have GW350 := n6_; have GE350 := n7_; have NB321_350 := n8_; have NB350_321 := n9_; have NB327_350 := n10_; have NB350_327 := n11_; have NB336_350 := n12_; have NB350_336 := n13_; clear n0_ n1_ n2_ n3_ n4_ n5_ n6_ n7_ n8_ n9_ n10_ n11_ n12_ n13_; clear hb hbox hg
                 refine hK.out _ _ ⟨(blk_cell BK321.out 0).trans rfl, (blk_cell BK321.out 1).trans rfl⟩ (fun hHeld => ?_)
                 clear hK K
                 refine norm_ (a' := ?_) ?_ ?_
                 rotate_left
                 ·show Act.put _ (some 13) _ = _
                  simp only [Act.put, List.setIfInBounds_toArray, List.set_cons_zero, List.set_cons_succ, i64_w, i32_w]
                  rfl
                 exact norm_ (by first | (simp only [putAll, Act.put, List.setIfInBounds_toArray, List.set_cons_zero, List.set_cons_succ]; done) | (simp only [putAll, Act.put, List.setIfInBounds_toArray, List.set_cons_zero, List.set_cons_succ]; rfl)) (hJ1_3_5_6_11 (v338, v341, v344, gb350) _ ⟨hHeld, (by (with_reducible repeat (first | apply Kd.R_alloc | apply Kd.R_drewN | apply Kd.R_drew)); exact HO345.out), (by (with_reducible repeat (first | refine blk_drewN ?_ _ | refine blk_drew ?_ | refine blk_alloc ?_ _)); exact BK321.out), (by (with_reducible repeat (first | refine blk_drewN ?_ _ | refine blk_drew ?_ | refine blk_alloc ?_ _)); exact BK327.out), (by (with_reducible repeat (first | refine blk_drewN ?_ _ | refine blk_drew ?_ | refine blk_alloc ?_ _)); exact BK336.out), (by (with_reducible repeat (first | refine blk_drewN ?_ _ | refine blk_drew ?_ | refine blk_alloc ?_ _)); exact BK350.out), GW350.out, GE350.out, NB321_350.out, NB350_321.out, NB327_350.out, NB350_327.out, NB336_350.out, NB350_336.out, (by repeat (first | (with_reducible first | exact HB.out | apply below_alloc | apply pw_below_drewN | apply below_drew1 | refine below_set ?_ GE321.out | refine below_set ?_ GE327.out | refine below_set ?_ GE336.out | refine below_set ?_ GE350.out) | exact HB.out))⟩)
               rintro ⟨v338, v341, v344, gb350⟩ w94 ⟨hS_, h0_, h1_, h2_, h3_, h4_, h5_, h6_, h7_, h8_, h9_, h10_, h11_, h12_, h13_⟩
               have n0_ : Aside0 (Kd.R k52 52 w94 w.heap.size (fun _ => True) v344 y343) := ⟨h0_⟩
               have n1_ : Aside0 (w94.heap[gb321]? = some (.cells #[.int .i64 a0_0, .int .i64 a0_1] 50 (0, 0))) := ⟨h1_⟩
               have n2_ : Aside0 (w94.heap[gb327]? = some (.cells #[.int .i64 t323, .int .i64 t324] 50 (0, 0))) := ⟨h2_⟩
               have n3_ : Aside0 (w94.heap[gb336]? = some (.cells #[.int .i64 t332, .int .i64 t333] 50 (0, 0))) := ⟨h3_⟩
               have n4_ : Aside0 (w94.heap[gb350]? = some (.cells #[.int .i64 0, .int .i64 0] 50 (0, 0))) := ⟨h4_⟩
               have n5_ : Aside0 (w.heap.size ≤ gb350) := ⟨h5_⟩
               have n6_ : Aside0 (w.heap.size ≤ gb350) := ⟨h6_⟩
               have n7_ : Aside0 (gb321 ≠ gb350) := ⟨h7_⟩
               have n8_ : Aside0 (gb350 ≠ gb321) := ⟨h8_⟩
               have n9_ : Aside0 (gb327 ≠ gb350) := ⟨h9_⟩
               have n10_ : Aside0 (gb350 ≠ gb327) := ⟨h10_⟩
               have n11_ : Aside0 (gb336 ≠ gb350) := ⟨h11_⟩
               have n12_ : Aside0 (gb350 ≠ gb336) := ⟨h12_⟩
               have n13_ : Aside0 (Below w.heap.size w w94) := ⟨h13_⟩
               clear BK321; clear BK327; clear BK336; clear HB; clear h0_ h1_ h2_ h3_ h4_ h5_ h6_ h7_ h8_ h9_ h10_ h11_ h12_ h13_; have HO345 := n0_; have BK321 := n1_; have BK327 := n2_; have BK336 := n3_; have BK350 := n4_; have GW350 := n5_; have GE350 := n6_; have NB321_350 := n7_; have NB350_321 := n8_; have NB327_350 := n9_; have NB350_327 := n10_; have NB336_350 := n11_; have NB350_336 := n12_; have HB := n13_; clear n0_ n1_ n2_ n3_ n4_ n5_ n6_ n7_ n8_ n9_ n10_ n11_ n12_ n13_
               have hHeld : w94.cell? ⟨gb321, 0, none⟩ = some (.int .i64 a0_0) ∧ w94.cell? ⟨gb321, 1, none⟩ = some (.int .i64 a0_1) := hS_
               refine norm_ (a' := ?_) ?_ ?_
               rotate_left
               ·simp only [putAll, Act.put, List.setIfInBounds_toArray, List.set_cons_zero, List.set_cons_succ]
                rfl
               refine one_ (i := 12) (N := none) #[true, true, true, true, true, true, true, true, true, true, true, true, true, false, false] rfl rfl (one_of HT_.out (by kernel_rfl)) (by decide) (fun K hK => ?_)
               have hs95 : w94.cell? ⟨gb350, 0, none⟩ = some (.int .i64 0) := (blk_cell BK350.out 0).trans rfl
               have hfs95 := blk_frozen BK350.out 0
               have hns95_0 := NB321_350.out
               have hns95_1 := NB327_350.out
               have hns95_2 := NB336_350.out
               have hms95_0 := NB350_321.out
               have hms95_1 := NB350_327.out
               have hms95_2 := NB350_336.out
               have hs96 : w94.cell? ⟨gb350, 1, none⟩ = some (.int .i64 0) := (blk_cell BK350.out 1).trans rfl
               have hfs96 := blk_frozen BK350.out 1
               have hns96_0 := NB321_350.out
               have hns96_1 := NB327_350.out
               have hns96_2 := NB336_350.out
               have hms96_0 := NB350_321.out
               have hms96_1 := NB350_327.out
               have hms96_2 := NB350_336.out
               refine skip_ (w1 := ?_) (by rfl) rfl ?_ ?_
               rotate_left
               ·go_simp
                rfl
               refine hK.out _ _ ⟨((cell_far (p := ⟨gb350, _, none⟩) NB321_350.out _).trans (((cell_far (p := ⟨gb350, _, none⟩) NB321_350.out _).trans (hHeld.1)))), ((cell_far (p := ⟨gb350, _, none⟩) NB321_350.out _).trans (((cell_far (p := ⟨gb350, _, none⟩) NB321_350.out _).trans (hHeld.2))))⟩ (fun hHeld => ?_)
               clear hK K
               refine pure_ (i := 13) (N := some 14) (v := ?_) (a' := ?_) #[true, true, true, true, true, true, true, true, true, true, true, true, true, true, false] rfl rfl (any_of HT_.out (by kernel_rfl)) (fun _ _ _ h => h) (Or.inl ⟨by rfl, ?_⟩) ?_ ?_
               rotate_left
               ·intro w'
                go_simp
                with_reducible rfl
               rotate_left
               ·simp only [Act.put, List.setIfInBounds_toArray, List.set_cons_zero, List.set_cons_succ, i64_w, i32_w]
                rfl
               refine pure_ (i := 14) (N := some 15) (v := ?_) (a' := ?_) #[true, true, true, true, true, true, true, true, true, true, true, true, true, true, true] rfl rfl (any_of HT_.out (by kernel_rfl)) (fun _ _ _ h => h) (Or.inl ⟨by rfl, ?_⟩) ?_ ?_
               rotate_left
               ·intro w'
                go_simp
                with_reducible rfl
               rotate_left
               ·simp only [Act.put, List.setIfInBounds_toArray, List.set_cons_zero, List.set_cons_succ, i64_w, i32_w]
                rfl
               refine done_ (done_of HT_.out (by kernel_rfl)) ?_
               have hnb97 := NB336_350.out
               have hnc97 := NB350_336.out
               have hcz98_0 : w94.cell? ⟨gb336, 0, none⟩ = some (.int .i64 t332) := (blk_cell BK336.out 0).trans rfl
               have hcz98_1 : w94.cell? ⟨gb336, 1, none⟩ = some (.int .i64 t333) := (blk_cell BK336.out 1).trans rfl
               have hfz98_0 := blk_frozen BK336.out 0
               have hfz98_1 := blk_frozen BK336.out 1
               have hnb99 := NB350_321.out
               have hnc99 := NB321_350.out
               have hnb100 := NB350_327.out
               have hnc100 := NB327_350.out
               have hcz101_0 : w94.cell? ⟨gb350, 0, none⟩ = some (.int .i64 0) := (blk_cell BK350.out 0).trans rfl
               have hcz101_1 : w94.cell? ⟨gb350, 1, none⟩ = some (.int .i64 0) := (blk_cell BK350.out 1).trans rfl
               have hfz101_0 := blk_frozen BK350.out 0
               have hfz101_1 := blk_frozen BK350.out 1
               have hcz102_0 : w94.cell? ⟨gb327, 0, none⟩ = some (.int .i64 t323) := (blk_cell BK327.out 0).trans rfl
               have hcz102_1 : w94.cell? ⟨gb327, 1, none⟩ = some (.int .i64 t324) := (blk_cell BK327.out 1).trans rfl
               have hfz102_0 := blk_frozen BK327.out 0
               have hfz102_1 := blk_frozen BK327.out 1
               try go_wp2_with (first | (go_at_call 30; (with_reducible refine (life_Terminal.calls t323 t324 false _ A46.out).mono ?_); rintro e w103 ⟨rfl, hb⟩; have n0_ := Aside0.mk (Kd.R_below (by (with_reducible repeat (first | apply Kd.R_alloc | apply Kd.R_drewN | apply Kd.R_drew)); exact (Kd.R_mono (Kd.R_far (p := ⟨gb350, 1, none⟩) (Kd.R_far (p := ⟨gb350, 0, none⟩) (Kd.R_types HO345.out BK350.out (by decide)) (fun _ hk => hk.2) (.int .i64 t346)) (fun _ hk => hk.2) (.int .i64 t347)) (fun _ h_ => h_.1))) hb); have n1_ := Aside0.mk (blk_below (g := gb321) (o := .cells #[.int .i64 a0_0, .int .i64 a0_1] 50 (0, 0)) (by (with_reducible repeat (first | refine blk_drewN ?_ _ | refine blk_drew ?_ | refine blk_alloc ?_ _)); refine blk_far ?_ NB321_350.out _; (with_reducible repeat (first | refine blk_drewN ?_ _ | refine blk_drew ?_ | refine blk_alloc ?_ _)); refine blk_far ?_ NB321_350.out _; (with_reducible repeat (first | refine blk_drewN ?_ _ | refine blk_drew ?_ | refine blk_alloc ?_ _)); exact BK321.out) hb); have n2_ := Aside0.mk (blk_below (g := gb327) (o := .cells #[.int .i64 t323, .int .i64 t324] 50 (0, 0)) (by (with_reducible repeat (first | refine blk_drewN ?_ _ | refine blk_drew ?_ | refine blk_alloc ?_ _)); refine blk_far ?_ NB327_350.out _; (with_reducible repeat (first | refine blk_drewN ?_ _ | refine blk_drew ?_ | refine blk_alloc ?_ _)); refine blk_far ?_ NB327_350.out _; (with_reducible repeat (first | refine blk_drewN ?_ _ | refine blk_drew ?_ | refine blk_alloc ?_ _)); exact BK327.out) hb); have n3_ := Aside0.mk (blk_below (g := gb336) (o := .cells #[.int .i64 t332, .int .i64 t333] 50 (0, 0)) (by (with_reducible repeat (first | refine blk_drewN ?_ _ | refine blk_drew ?_ | refine blk_alloc ?_ _)); refine blk_far ?_ NB336_350.out _; (with_reducible repeat (first | refine blk_drewN ?_ _ | refine blk_drew ?_ | refine blk_alloc ?_ _)); refine blk_far ?_ NB336_350.out _; (with_reducible repeat (first | refine blk_drewN ?_ _ | refine blk_drew ?_ | refine blk_alloc ?_ _)); exact BK336.out) hb); have n4_ := Aside0.mk (blk_below (g := gb350) (o := .cells #[.int .i64 t346, .int .i64 t347] 50 (0, 0)) (by (with_reducible repeat (first | refine blk_drewN ?_ _ | refine blk_drew ?_ | refine blk_alloc ?_ _)); refine blk_put (cs := #[.int .i64 t346, .int .i64 0]) ?_ 1 _ rfl; (with_reducible repeat (first | refine blk_drewN ?_ _ | refine blk_drew ?_ | refine blk_alloc ?_ _)); refine blk_put (cs := #[.int .i64 0, .int .i64 0]) ?_ 0 _ rfl; (with_reducible repeat (first | refine blk_drewN ?_ _ | refine blk_drew ?_ | refine blk_alloc ?_ _)); exact BK350.out) hb); have n5_ := Aside0.mk (below_step (by repeat (first | (with_reducible first | exact HB.out | apply below_alloc | apply pw_below_drewN | apply below_drew1 | refine below_set ?_ GE321.out | refine below_set ?_ GE327.out | refine below_set ?_ GE336.out | refine below_set ?_ GE350.out) | exact HB.out)) hb); clear HO345; clear BK321; clear BK327; clear BK336; clear BK350; clear HB; have HO345 := n0_; have BK321 := n1_; have BK327 := n2_; have BK336 := n3_; have BK350 := n4_; have HB := n5_; clear n0_ n1_ n2_ n3_ n4_ n5_; (try clear hb); (try clear hb2); (try clear hk); (try clear hi)) | (go_at_call 36; (with_reducible refine (backhaullaw24_awake.calls kj12  t353 _ A77.out).mono ?_); rintro e w104 ⟨rfl, hb⟩; have n0_ := Aside0.mk (Kd.R_below (by (with_reducible repeat (first | apply Kd.R_alloc | apply Kd.R_drewN | apply Kd.R_drew)); exact HO345.out) hb); have n1_ := Aside0.mk (blk_below (g := gb321) (o := .cells #[.int .i64 a0_0, .int .i64 a0_1] 50 (0, 0)) (by (with_reducible repeat (first | refine blk_drewN ?_ _ | refine blk_drew ?_ | refine blk_alloc ?_ _)); exact BK321.out) hb); have n2_ := Aside0.mk (blk_below (g := gb327) (o := .cells #[.int .i64 t323, .int .i64 t324] 50 (0, 0)) (by (with_reducible repeat (first | refine blk_drewN ?_ _ | refine blk_drew ?_ | refine blk_alloc ?_ _)); exact BK327.out) hb); have n3_ := Aside0.mk (blk_below (g := gb336) (o := .cells #[.int .i64 t332, .int .i64 t333] 50 (0, 0)) (by (with_reducible repeat (first | refine blk_drewN ?_ _ | refine blk_drew ?_ | refine blk_alloc ?_ _)); exact BK336.out) hb); have n4_ := Aside0.mk (blk_below (g := gb350) (o := .cells #[.int .i64 t346, .int .i64 t347] 50 (0, 0)) (by (with_reducible repeat (first | refine blk_drewN ?_ _ | refine blk_drew ?_ | refine blk_alloc ?_ _)); exact BK350.out) hb); have n5_ := Aside0.mk (below_step (by repeat (first | (with_reducible first | exact HB.out | apply below_alloc | apply pw_below_drewN | apply below_drew1 | refine below_set ?_ GE321.out | refine below_set ?_ GE327.out | refine below_set ?_ GE336.out | refine below_set ?_ GE350.out) | exact HB.out)) hb); clear HO345; clear BK321; clear BK327; clear BK336; clear BK350; clear HB; have HO345 := n0_; have BK321 := n1_; have BK327 := n2_; have BK336 := n3_; have BK350 := n4_; have HB := n5_; clear n0_ n1_ n2_ n3_ n4_ n5_; (try clear hb); (try clear hb2); (try clear hk); (try clear hi)))
               go_ret
               exact ⟨by first | rfl | (simp [errW_none, errW_some] <;> rfl) | (simp [*, errW_none, errW_some] <;> rfl), by repeat (first | (with_reducible first | exact HB.out | apply below_alloc | apply pw_below_drewN | apply below_drew1 | refine below_set ?_ GE321.out | refine below_set ?_ GE327.out | refine below_set ?_ GE336.out | refine below_set ?_ GE350.out) | exact HB.out)⟩
             ·rw [if_neg c45] at H
              have c45b0 : (t335 == t349) = false := beq_eq_false_iff_ne.mpr c45
              have c45b1 : (t335 != t349) = true := bne_iff_ne.mpr c45
              exact absurd ((Option.some.inj H).trans hr) (by decide)
            ·rw [if_neg c44] at H
             have c44b0 : (t348 == (wrap64 ((l1.length : Int) + t334))) = false := beq_eq_false_iff_ne.mpr c44
             have c44b1 : (t348 != (wrap64 ((l1.length : Int) + t334))) = true := bne_iff_ne.mpr c44
             exact absurd ((Option.some.inj H).trans hr) (by decide)
           ·rw [if_neg c43] at H
            have c43b0 : (t332 == t346 && (t333 == t347)) = false := by simpa using c43
            (try (have c43b1 : decide (t332 = t346 && (t333 == t347)) = false := by simpa using c43))
            (try (have c43b2 : (t332 == t346 && (t333 == t347)) = false := by simpa using c43))
            (try (have c43b3 : ¬ (t332 = t346 && (t333 == t347)) := by simpa using c43))
            clear c43
            exact absurd ((Option.some.inj H).trans hr) (by decide)
          ·rw [if_neg c41] at H
           exact absurd H (by simp)
         ·rw [if_neg c40] at H
          exact absurd H (by simp)
        ·rw [if_neg c38] at H
         have c38b0 : (t326 == 0) = false := beq_eq_false_iff_ne.mpr c38
         have c38b1 : (t326 != 0) = true := bne_iff_ne.mpr c38
         replace H := Option.bind_eq_some_iff.mp H; obtain ⟨t331, A1050, H⟩ := H
         replace H : (some t331) = some r := H
         have A105 := Aside0.mk A1050; clear A1050
         obtain rfl := Option.some.inj H
         go_wp2_with (first | ((with_reducible refine gate_callee (f := 36) rfl ?_); refine goesL_ (some 64) rfl rfl Try.func36 (by kernel_rfl) rfl #[] rfl (by (try simp only [List.map_toArray, List.map_cons, List.map_nil]); first | done | rfl) ?_; (with_reducible refine (backhaullaw24_awake.calls kj12  t331 _ A105.out).mono ?_); rintro e w106 ⟨rfl, hb⟩; refine ⟨_, rfl, ?_⟩; have n0_ := Aside0.mk (blk_below (g := gb321) (o := .cells #[.int .i64 a0_0, .int .i64 a0_1] 50 (0, 0)) (by (with_reducible repeat (first | refine blk_drewN ?_ _ | refine blk_drew ?_ | refine blk_alloc ?_ _)); exact BK321.out) hb); have n1_ := Aside0.mk (blk_below (g := gb327) (o := .cells #[.int .i64 t323, .int .i64 t324] 50 (0, 0)) (by (with_reducible repeat (first | refine blk_drewN ?_ _ | refine blk_drew ?_ | refine blk_alloc ?_ _)); exact BK327.out) hb); have n2_ := Aside0.mk (below_step (by repeat (first | (with_reducible first | exact HB.out | apply below_alloc | apply pw_below_drewN | apply below_drew1 | refine below_set ?_ GE321.out | refine below_set ?_ GE327.out) | exact HB.out)) hb); clear BK321; clear BK327; clear HB; have BK321 := n0_; have BK327 := n1_; have HB := n2_; clear n0_ n1_ n2_; (try clear hb); (try clear hb2); (try clear hk); (try clear hi)))
         go_ret
         exact ⟨by first | rfl | (simp [errW_none, errW_some] <;> rfl) | (simp [*, errW_none, errW_some] <;> rfl), by repeat (first | (with_reducible first | exact HB.out | apply below_alloc | apply pw_below_drewN | apply below_drew1 | refine below_set ?_ GE321.out | refine below_set ?_ GE327.out) | exact HB.out)⟩
    ·rw [if_neg c12] at H
     have c12b0 : (t328 == 0) = false := beq_eq_false_iff_ne.mpr c12
     have c12b1 : (t328 != 0) = true := bne_iff_ne.mpr c12
     by_cases c107 : t326 = 33
     ·rw [if_pos c107] at H
      have c107b0 : (t326 == 33) = true := beq_iff_eq.mpr c107
      have c107b1 : (t326 != 33) = false := bne_eq_false_iff_eq.mpr c107
      clear c107; replace H := Option.bind_eq_some_iff.mp H; obtain ⟨t329, A1080, H⟩ := H
      replace H : (some t329) = some r := H
      have A108 := Aside0.mk A1080; clear A1080
      obtain rfl := Option.some.inj H
      have hcz109_0 : wc.cell? ⟨gb321, 0, none⟩ = some (.int .i64 a0_0) := (blk_cell BK321.out 0).trans rfl
      have hcz109_1 : wc.cell? ⟨gb321, 1, none⟩ = some (.int .i64 a0_1) := (blk_cell BK321.out 1).trans rfl
      have hfz109_0 := blk_frozen BK321.out 0
      have hfz109_1 := blk_frozen BK321.out 1
      go_wp2_with (first | ((with_reducible refine gate_callee (f := 37) rfl ?_); refine goesL_ (some 28) rfl rfl Try.func37 (by kernel_rfl) rfl #[.agg #[.int .i64 a0_0, .int .i64 a0_1], .slice A1 l1.length c1] rfl (by (try simp only [List.map_toArray, List.map_cons, List.map_nil]); first | done | rfl) ?_; (with_reducible refine (life_Run.calls kj3 a0_0 a0_1 _ _ l1 t323 t324 t325 t326 _ ?side1 ?side2 A10.out).mono ?_); (case side1 => repeat (first | exact (Kd.C_below HR1.out HB.out) | (with_reducible refine Kd.C_alloc ?_ _) | (with_reducible refine Kd.C_drewN ?_ _) | (with_reducible refine Kd.C_drew ?_))); (case side2 => exact HC1.out); rintro e w110 ⟨rfl, hb⟩; refine ⟨_, rfl, ?_⟩; have n0_ := Aside0.mk (blk_below (g := gb321) (o := .cells #[.int .i64 a0_0, .int .i64 a0_1] 50 (0, 0)) (by (with_reducible repeat (first | refine blk_drewN ?_ _ | refine blk_drew ?_ | refine blk_alloc ?_ _)); exact BK321.out) hb); have n1_ := Aside0.mk (below_step (by repeat (first | (with_reducible first | exact HB.out | apply below_alloc | apply pw_below_drewN | apply below_drew1 | refine below_set ?_ GE321.out) | exact HB.out)) hb); clear BK321; clear HB; have BK321 := n0_; have HB := n1_; clear n0_ n1_; (try clear hb); (try clear hb2); (try clear hk); (try clear hi)) | ((with_reducible refine gate_dst (N := 7) rfl ?_); (try (refine gate_guard (by rfl) ?_; dsimp only)); refine box_event ?hg (N := 7) ?hd (cs := #[.int .i64 0, .int .i64 0]) (t := 50) ?hr ?_; (case hd => rfl); (case hg => rfl); (case hr => first | (go_simp; done) | (go_simp; rfl)); intro gb327 hg w111 hbox hb; have n0_ := Aside0.mk (blk_below (g := gb321) (o := .cells #[.int .i64 a0_0, .int .i64 a0_1] 50 (0, 0)) (by (with_reducible repeat (first | refine blk_drewN ?_ _ | refine blk_drew ?_ | refine blk_alloc ?_ _)); exact BK321.out) hb); have n1_ := Aside0.mk (below_step (by repeat (first | (with_reducible first | exact HB.out | apply below_alloc | apply pw_below_drewN | apply below_drew1 | refine below_set ?_ GE321.out) | exact HB.out)) hb); have n2_ := Aside0.mk (hbox); have n3_ := Aside0.mk ((by rw [hg]; exact (below_size (by repeat (first | (with_reducible first | exact HB.out | apply below_alloc | apply pw_below_drewN | apply below_drew1 | refine below_set ?_ GE321.out) | exact HB.out))) : w.heap.size ≤ gb327)); have n4_ := Aside0.mk ((by rw [hg]; exact (below_size (by repeat (first | (with_reducible first | exact HB.out | apply below_alloc | apply pw_below_drewN | apply below_drew1 | refine below_set ?_ GE321.out) | exact HB.out))) : w.heap.size ≤ gb327)); have n5_ := Aside0.mk ((by rw [hg]; exact Nat.ne_of_lt (blk_lt (g := gb321) (o := .cells #[.int .i64 a0_0, .int .i64 a0_1] 50 (0, 0)) (by (with_reducible repeat (first | refine blk_drewN ?_ _ | refine blk_drew ?_ | refine blk_alloc ?_ _)); exact BK321.out)) : gb321 ≠ gb327)); have n6_ := Aside0.mk ((by rw [hg]; exact Nat.ne_of_gt (blk_lt (g := gb321) (o := .cells #[.int .i64 a0_0, .int .i64 a0_1] 50 (0, 0)) (by (with_reducible repeat (first | refine blk_drewN ?_ _ | refine blk_drew ?_ | refine blk_alloc ?_ _)); exact BK321.out)) : gb327 ≠ gb321)); clear BK321; clear HB; have BK321 := n0_; have HB := n1_; have BK327 := n2_; have GW327 := n3_; have GE327 := n4_; have NB321_327 := n5_; have NB327_321 := n6_; clear n0_ n1_ n2_ n3_ n4_ n5_ n6_; clear hb hbox hg; have hnb112 := NB327_321.out; have hnc112 := NB321_327.out; have hcz113_0 : w111.cell? ⟨gb327, 0, none⟩ = some (.int .i64 0) := (blk_cell BK327.out 0).trans rfl; have hcz113_1 : w111.cell? ⟨gb327, 1, none⟩ = some (.int .i64 0) := (blk_cell BK327.out 1).trans rfl; have hfz113_0 := blk_frozen BK327.out 0; have hfz113_1 := blk_frozen BK327.out 1; have hcz114_0 : w111.cell? ⟨gb321, 0, none⟩ = some (.int .i64 a0_0) := (blk_cell BK321.out 0).trans rfl; have hcz114_1 : w111.cell? ⟨gb321, 1, none⟩ = some (.int .i64 a0_1) := (blk_cell BK321.out 1).trans rfl; have hfz114_0 := blk_frozen BK321.out 0; have hfz114_1 := blk_frozen BK321.out 1) | ((with_reducible refine gate_callee (f := 28) rfl ?_); refine goesL_ (some 33) rfl rfl Try.func28 (by kernel_rfl) rfl #[.agg #[.int .i64 a0_0, .int .i64 a0_1]] rfl (by (try simp only [List.map_toArray, List.map_cons, List.map_nil]); first | done | rfl) ?_; (with_reducible refine (life_Check.calls a0_0 a0_1 t328 _ A11.out).mono ?_); rintro e w115 ⟨rfl, hb⟩; refine ⟨_, rfl, ?_⟩; have n0_ := Aside0.mk (blk_below (g := gb321) (o := .cells #[.int .i64 a0_0, .int .i64 a0_1] 50 (0, 0)) (by (with_reducible repeat (first | refine blk_drewN ?_ _ | refine blk_drew ?_ | refine blk_alloc ?_ _)); refine blk_far ?_ NB321_327.out _; (with_reducible repeat (first | refine blk_drewN ?_ _ | refine blk_drew ?_ | refine blk_alloc ?_ _)); refine blk_far ?_ NB321_327.out _; (with_reducible repeat (first | refine blk_drewN ?_ _ | refine blk_drew ?_ | refine blk_alloc ?_ _)); exact BK321.out) hb); have n1_ := Aside0.mk (blk_below (g := gb327) (o := .cells #[.int .i64 t323, .int .i64 t324] 50 (0, 0)) (by (with_reducible repeat (first | refine blk_drewN ?_ _ | refine blk_drew ?_ | refine blk_alloc ?_ _)); refine blk_put (cs := #[.int .i64 t323, .int .i64 0]) ?_ 1 _ rfl; (with_reducible repeat (first | refine blk_drewN ?_ _ | refine blk_drew ?_ | refine blk_alloc ?_ _)); refine blk_put (cs := #[.int .i64 0, .int .i64 0]) ?_ 0 _ rfl; (with_reducible repeat (first | refine blk_drewN ?_ _ | refine blk_drew ?_ | refine blk_alloc ?_ _)); exact BK327.out) hb); have n2_ := Aside0.mk (below_step (by repeat (first | (with_reducible first | exact HB.out | apply below_alloc | apply pw_below_drewN | apply below_drew1 | refine below_set ?_ GE321.out | refine below_set ?_ GE327.out) | exact HB.out)) hb); clear BK321; clear BK327; clear HB; have BK321 := n0_; have BK327 := n1_; have HB := n2_; clear n0_ n1_ n2_; (try clear hb); (try clear hb2); (try clear hk); (try clear hi)) | (go_at_call 36; (with_reducible refine (backhaullaw24_awake.calls kj3  t329 _ A108.out).mono ?_); rintro e w116 ⟨rfl, hb⟩; have n0_ := Aside0.mk (blk_below (g := gb321) (o := .cells #[.int .i64 a0_0, .int .i64 a0_1] 50 (0, 0)) (by (with_reducible repeat (first | refine blk_drewN ?_ _ | refine blk_drew ?_ | refine blk_alloc ?_ _)); exact BK321.out) hb); have n1_ := Aside0.mk (blk_below (g := gb327) (o := .cells #[.int .i64 t323, .int .i64 t324] 50 (0, 0)) (by (with_reducible repeat (first | refine blk_drewN ?_ _ | refine blk_drew ?_ | refine blk_alloc ?_ _)); exact BK327.out) hb); have n2_ := Aside0.mk (below_step (by repeat (first | (with_reducible first | exact HB.out | apply below_alloc | apply pw_below_drewN | apply below_drew1 | refine below_set ?_ GE321.out | refine below_set ?_ GE327.out) | exact HB.out)) hb); clear BK321; clear BK327; clear HB; have BK321 := n0_; have BK327 := n1_; have HB := n2_; clear n0_ n1_ n2_; (try clear hb); (try clear hb2); (try clear hk); (try clear hi)))
      go_ret
      exact ⟨by first | rfl | (simp [errW_none, errW_some] <;> rfl) | (simp [*, errW_none, errW_some] <;> rfl), by repeat (first | (with_reducible first | exact HB.out | apply below_alloc | apply pw_below_drewN | apply below_drew1 | refine below_set ?_ GE321.out | refine below_set ?_ GE327.out) | exact HB.out)⟩
     ·rw [if_neg c107] at H
      have c107b0 : (t326 == 33) = false := beq_eq_false_iff_ne.mpr c107
      have c107b1 : (t326 != 33) = true := bne_iff_ne.mpr c107
      exact absurd ((Option.some.inj H).trans hr) (by decide)

end Go.Proofs.Ytlgkimmjoclaaaa.PLife
