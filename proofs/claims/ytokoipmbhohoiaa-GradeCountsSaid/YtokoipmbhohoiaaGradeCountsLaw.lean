/- The walk of the law GradeCounts, by hand: its call returns true in every world. Conditions: none. -/
import Derived.Test.YtokoipmbhohoiaaPGradex15
import Derived.Test.YtokoipmbhohoiaaPGradex26
import Derived.Test.YtokoipmbhohoiaaCountPlain
import Derived.WalkMore
namespace Go.Proofs.Ytokoipmbhohoiaa.GradeLaw
open Go.RowKit Go.Proofs.Ytokoipmbhohoiaa.PGrade Go.Proofs.Ytokoipmbhohoiaa.GradePlain Go.Proofs.YtokoipmbhohoiaaW.PrintWords Go.Proofs.YtokoipmbhohoiaaW.PrintLast Go.Proofs.YtokoipmbhohoiaaW.PrintMore
set_option linter.unusedVariables false
attribute [local go_sem high] eqArr36 eqArr41

theorem keepS {w W W' : World} {a b : Addr} {u v : Value} {g5 g7 g9 : Nat} {o5 o7 o9 : Obj} (h : W.cell? a = some u ∧ W.cell? b = some v ∧ W.heap[g5]? = some o5 ∧ W.heap[g7]? = some o7 ∧ W.heap[g9]? = some o9 ∧ Below w.heap.size w W) (hb : Below W.heap.size W W') : W'.cell? a = some u ∧ W'.cell? b = some v ∧ W'.heap[g5]? = some o5 ∧ W'.heap[g7]? = some o7 ∧ W'.heap[g9]? = some o9 ∧ Below w.heap.size w W' :=
  ⟨pw_cell_below hb h.1, pw_cell_below hb h.2.1, blk_below h.2.2.1 hb, blk_below h.2.2.2.1 hb, blk_below h.2.2.2.2.1 hb, below_step h.2.2.2.2.2 hb⟩
set_option maxHeartbeats 8000000 in
set_option maxRecDepth 100000 in
theorem counts_calls (A0 : Option Addr) (c0 : Nat) (l0 : List Int) (A1 : Option Addr) (c1 : Nat) (l1 : List Int) (w : World) (hr0 : Kd.C (Kd.int .i64) w A0 l0.length l0) (hc0 : l0.length ≤ c0) (hr1 : Kd.C (Kd.int .i64) w A1 l1.length l1) (hc1 : l1.length ≤ c1) :
    Calls Try.prog 4 #[.slice A0 l0.length c0, .slice A1 l1.length c1] w fun e w' => e = .returned (.bool true) ∧ Below w.heap.size w w' := by
  have hu36 := Try.underlying36
  have hu41 := Try.underlying41
  have HR0 := Aside0.mk hr0
  have HC0 := Aside0.mk hc0
  have HR1 := Aside0.mk hr1
  have HC1 := Aside0.mk hc1
  have HB := Aside0.mk (Below.refl w.heap.size w)
  clear hr0 hc0 hr1 hc1
  by_cases hl : (l0.length : Int) > 100
  · have hd : decide ((l0.length : Int) > 100) = true := decide_eq_true hl
    go_enter Try.func4, Try.ntmps4
    go_wp2_with (first
      | (go_at_call 7; refine (backhaullaw17_awake.calls 60 true _ (aw 60 (by decide))).mono ?_; rintro e w9 ⟨rfl, hb⟩; have n0_ := Aside0.mk (below_step HB.out hb); clear HB; have HB := n0_; clear n0_ hb))
    go_ret
    exact ⟨rfl, HB.out⟩
  by_cases hm : (l1.length : Int) > 100
  · go_enter Try.func4, Try.ntmps4
    go_wp2_with (first
      | (go_at_call 7; refine (backhaullaw17_awake.calls 60 true _ (aw 60 (by decide))).mono ?_; rintro e w9 ⟨rfl, hb⟩; have n0_ := Aside0.mk (below_step HB.out hb); clear HB; have HB := n0_; clear n0_ hb))
    go_ret
    exact ⟨rfl, HB.out⟩
  have hl' : l0.length ≤ 100 := by omega
  obtain ⟨x0, x1, x2, x3, x4, hv⟩ : ∃ x0 x1 x2 x3 x4, cntv l0 l1 = (x0, x1, x2, x3, x4) := ⟨_, _, _, _, _, rfl⟩
  have h0 := qCount l0 l1 hl' 400 (by decide)
  have h1 := rCount l0 l1 hl' 400 (by decide)
  rw [hv] at h0 h1
  have h2 : grade_Reached.f 400 l0 l1 = some (decide (0 < x0), decide (0 < x1), decide (0 < x2), decide (0 < x3), x4) := by unfold grade_Reached.f; rw [h0]; rfl
  have H0 := Aside0.mk h0
  have H1 := Aside0.mk h1
  have H2 := Aside0.mk h2
  clear h0 h1 h2 hv hl'
  go_enter Try.func4, Try.ntmps4
  go_wp2_with (first
    | (go_at_call 14; refine (grade_Count.calls 400 _ _ l0 _ _ l1 x0 x1 x2 x3 x4 _ (Kd.C_below HR0.out HB.out) HC0.out (Kd.C_below HR1.out HB.out) HC1.out H0.out).mono ?_; rintro e w1 ⟨rfl, hb⟩; have n0_ := Aside0.mk (below_step HB.out hb); clear HB; have HB := n0_; clear n0_ hb)
    | ((with_reducible refine gate_dst (N := 5) rfl ?_); refine box_event ?hg (N := 5) ?hd (cs := #[.int .i64 0, .int .i64 0, .int .i64 0, .int .i64 0]) (t := 36) ?hr ?_; (case hd => rfl); (case hg => rfl); (case hr => first | (go_simp; done) | (go_simp; rfl)); intro gb5 hg wb5 hbox hb; have n0_ := Aside0.mk (below_step HB.out hb); have n1_ := Aside0.mk hbox; have GE5 := Aside0.mk (by rw [hg]; exact HB.out.size : w.heap.size ≤ gb5); clear HB; have HB := n0_; have BK5 := n1_; clear n0_ n1_ hb hbox hg; obtain ⟨q50, q51, q52, q53, f50, f51, f52, f53⟩ := blk4 BK5.out)
    | ((with_reducible refine gate_store (t := 36) (p := 5) rfl ?_); refine store_event (t := 36) (p := 5) (v := ?vo5) (w1 := ((((wb5.setCell ⟨gb5, 0, none⟩ (.int .i64 x0)).setCell ⟨gb5, 1, none⟩ (.int .i64 x1)).setCell ⟨gb5, 2, none⟩ (.int .i64 x2)).setCell ⟨gb5, 3, none⟩ (.int .i64 x3))) ?hg ?ho ?hn ?hr ?_; (case ho => rfl); (case hg => rfl); (case hn => rfl); (case hr => first | (go_simp; done) | (go_simp; rfl)); intro w8 hw; have n5_ : Aside0 (w8.heap[gb5]? = some (.cells #[.int .i64 x0, .int .i64 x1, .int .i64 x2, .int .i64 x3] 36 (0, 0))) := ⟨by rw [hw]; exact put4 BK5.out _ _ _ _⟩; have nb_ : Aside0 (Below w.heap.size w w8) := ⟨by rw [hw]; exact below_set (below_set (below_set (below_set HB.out GE5.out) GE5.out) GE5.out) GE5.out⟩; clear hw; clear HB BK5; have HB := nb_; have BK5 := n5_; clear n5_ nb_; clear q50 q51 q52 q53 f50 f51 f52 f53; obtain ⟨q50, q51, q52, q53, f50, f51, f52, f53⟩ := blk4 BK5.out)
    | (go_at_call 15; refine (backhaulref17_Count.calls 400 _ _ l0 _ _ l1 x0 x1 x2 x3 x4 _ (Kd.C_below HR0.out HB.out) HC0.out (Kd.C_below HR1.out HB.out) HC1.out H1.out).mono ?_; rintro e w1 ⟨rfl, hb⟩; have n0_ := Aside0.mk (below_step HB.out hb); have o5_ := Aside0.mk (blk_below BK5.out hb); clear BK5; have BK5 := o5_; clear o5_; clear q50 q51 q52 q53 f50 f51 f52 f53; obtain ⟨q50, q51, q52, q53, f50, f51, f52, f53⟩ := blk4 BK5.out; clear HB; have HB := n0_; clear n0_ hb)
    | ((with_reducible refine gate_dst (N := 7) rfl ?_); refine box_event ?hg (N := 7) ?hd (cs := #[.int .i64 0, .int .i64 0, .int .i64 0, .int .i64 0]) (t := 36) ?hr ?_; (case hd => rfl); (case hg => rfl); (case hr => first | (go_simp; done) | (go_simp; rfl)); intro gb7 hg wb7 hbox hb; have n0_ := Aside0.mk (below_step HB.out hb); have n1_ := Aside0.mk hbox; have GE7 := Aside0.mk (by rw [hg]; exact HB.out.size : w.heap.size ≤ gb7); have NE57 := Aside0.mk (by rw [hg]; exact Nat.ne_of_lt (blk_lt BK5.out) : gb5 ≠ gb7); have o5_ := Aside0.mk (blk_below BK5.out hb); clear BK5; have BK5 := o5_; clear o5_; clear q50 q51 q52 q53 f50 f51 f52 f53; obtain ⟨q50, q51, q52, q53, f50, f51, f52, f53⟩ := blk4 BK5.out; clear HB; have HB := n0_; have BK7 := n1_; clear n0_ n1_ hb hbox hg; obtain ⟨q70, q71, q72, q73, f70, f71, f72, f73⟩ := blk4 BK7.out)
    | ((with_reducible refine gate_store (t := 36) (p := 7) rfl ?_); refine store_event (t := 36) (p := 7) (v := ?vo7) (w1 := ((((wb7.setCell ⟨gb7, 0, none⟩ (.int .i64 x0)).setCell ⟨gb7, 1, none⟩ (.int .i64 x1)).setCell ⟨gb7, 2, none⟩ (.int .i64 x2)).setCell ⟨gb7, 3, none⟩ (.int .i64 x3))) ?hg ?ho ?hn ?hr ?_; (case ho => rfl); (case hg => rfl); (case hn => rfl); (case hr => first | (go_simp; done) | (go_simp; rfl)); intro w8 hw; have n7_ : Aside0 (w8.heap[gb7]? = some (.cells #[.int .i64 x0, .int .i64 x1, .int .i64 x2, .int .i64 x3] 36 (0, 0))) := ⟨by rw [hw]; exact put4 BK7.out _ _ _ _⟩; have n5_ : Aside0 (w8.heap[gb5]? = some (.cells #[.int .i64 x0, .int .i64 x1, .int .i64 x2, .int .i64 x3] 36 (0, 0))) := ⟨by rw [hw]; exact blk_far (blk_far (blk_far (blk_far BK5.out NE57.out _) NE57.out _) NE57.out _) NE57.out _⟩; have nb_ : Aside0 (Below w.heap.size w w8) := ⟨by rw [hw]; exact below_set (below_set (below_set (below_set HB.out GE7.out) GE7.out) GE7.out) GE7.out⟩; clear hw; clear HB BK5 BK7; have HB := nb_; have BK5 := n5_; have BK7 := n7_; clear n5_ n7_ nb_; clear q50 q51 q52 q53 f50 f51 f52 f53; obtain ⟨q50, q51, q52, q53, f50, f51, f52, f53⟩ := blk4 BK5.out; clear q70 q71 q72 q73 f70 f71 f72 f73; obtain ⟨q70, q71, q72, q73, f70, f71, f72, f73⟩ := blk4 BK7.out)
    | (go_at_call 16; refine (grade_Reached.calls 400 _ _ l0 _ _ l1 (decide (0 < x0)) (decide (0 < x1)) (decide (0 < x2)) (decide (0 < x3)) x4 _ (Kd.C_below HR0.out HB.out) HC0.out (Kd.C_below HR1.out HB.out) HC1.out H2.out).mono ?_; rintro e w1 ⟨rfl, hb⟩; have n0_ := Aside0.mk (below_step HB.out hb); have o5_ := Aside0.mk (blk_below BK5.out hb); clear BK5; have BK5 := o5_; clear o5_; clear q50 q51 q52 q53 f50 f51 f52 f53; obtain ⟨q50, q51, q52, q53, f50, f51, f52, f53⟩ := blk4 BK5.out; have o7_ := Aside0.mk (blk_below BK7.out hb); clear BK7; have BK7 := o7_; clear o7_; clear q70 q71 q72 q73 f70 f71 f72 f73; obtain ⟨q70, q71, q72, q73, f70, f71, f72, f73⟩ := blk4 BK7.out; clear HB; have HB := n0_; clear n0_ hb)
    | ((with_reducible refine gate_dst (N := 9) rfl ?_); refine box_event ?hg (N := 9) ?hd (cs := #[.bool false, .bool false, .bool false, .bool false]) (t := 41) ?hr ?_; (case hd => rfl); (case hg => rfl); (case hr => first | (go_simp; done) | (go_simp; rfl)); intro gb9 hg wb9 hbox hb; have n0_ := Aside0.mk (below_step HB.out hb); have n1_ := Aside0.mk hbox; have GE9 := Aside0.mk (by rw [hg]; exact HB.out.size : w.heap.size ≤ gb9); have NE59 := Aside0.mk (by rw [hg]; exact Nat.ne_of_lt (blk_lt BK5.out) : gb5 ≠ gb9); have NE79 := Aside0.mk (by rw [hg]; exact Nat.ne_of_lt (blk_lt BK7.out) : gb7 ≠ gb9); have o5_ := Aside0.mk (blk_below BK5.out hb); clear BK5; have BK5 := o5_; clear o5_; clear q50 q51 q52 q53 f50 f51 f52 f53; obtain ⟨q50, q51, q52, q53, f50, f51, f52, f53⟩ := blk4 BK5.out; have o7_ := Aside0.mk (blk_below BK7.out hb); clear BK7; have BK7 := o7_; clear o7_; clear q70 q71 q72 q73 f70 f71 f72 f73; obtain ⟨q70, q71, q72, q73, f70, f71, f72, f73⟩ := blk4 BK7.out; clear HB; have HB := n0_; have BK9 := n1_; clear n0_ n1_ hb hbox hg; obtain ⟨q90, q91, q92, q93, f90, f91, f92, f93⟩ := blk4 BK9.out)
    | ((with_reducible refine gate_store (t := 41) (p := 9) rfl ?_); refine store_event (t := 41) (p := 9) (v := ?vo9) (w1 := ((((wb9.setCell ⟨gb9, 0, none⟩ (.bool (decide (0 < x0)))).setCell ⟨gb9, 1, none⟩ (.bool (decide (0 < x1)))).setCell ⟨gb9, 2, none⟩ (.bool (decide (0 < x2)))).setCell ⟨gb9, 3, none⟩ (.bool (decide (0 < x3))))) ?hg ?ho ?hn ?hr ?_; (case ho => rfl); (case hg => rfl); (case hn => rfl); (case hr => first | (go_simp; done) | (go_simp; rfl)); intro w8 hw; have n9_ : Aside0 (w8.heap[gb9]? = some (.cells #[.bool (decide (0 < x0)), .bool (decide (0 < x1)), .bool (decide (0 < x2)), .bool (decide (0 < x3))] 41 (0, 0))) := ⟨by rw [hw]; exact put4 BK9.out _ _ _ _⟩; have n5_ : Aside0 (w8.heap[gb5]? = some (.cells #[.int .i64 x0, .int .i64 x1, .int .i64 x2, .int .i64 x3] 36 (0, 0))) := ⟨by rw [hw]; exact blk_far (blk_far (blk_far (blk_far BK5.out NE59.out _) NE59.out _) NE59.out _) NE59.out _⟩; have n7_ : Aside0 (w8.heap[gb7]? = some (.cells #[.int .i64 x0, .int .i64 x1, .int .i64 x2, .int .i64 x3] 36 (0, 0))) := ⟨by rw [hw]; exact blk_far (blk_far (blk_far (blk_far BK7.out NE79.out _) NE79.out _) NE79.out _) NE79.out _⟩; have nb_ : Aside0 (Below w.heap.size w w8) := ⟨by rw [hw]; exact below_set (below_set (below_set (below_set HB.out GE9.out) GE9.out) GE9.out) GE9.out⟩; clear hw; clear HB BK5 BK7 BK9; have HB := nb_; have BK5 := n5_; have BK7 := n7_; have BK9 := n9_; clear n5_ n7_ n9_ nb_; clear q50 q51 q52 q53 f50 f51 f52 f53; obtain ⟨q50, q51, q52, q53, f50, f51, f52, f53⟩ := blk4 BK5.out; clear q70 q71 q72 q73 f70 f71 f72 f73; obtain ⟨q70, q71, q72, q73, f70, f71, f72, f73⟩ := blk4 BK7.out; clear q90 q91 q92 q93 f90 f91 f92 f93; obtain ⟨q90, q91, q92, q93, f90, f91, f92, f93⟩ := blk4 BK9.out))
  go_loopg [11] 4 (fun kq v11 w' => ∃ (i : Int), v11 = .int .i64 i ∧ (0 ≤ i ∧ i ≤ 4) ∧ Aside0 ((kq : Int) + i = 4) ∧ Aside0 (w'.heap[gb5]? = some (.cells #[.int .i64 x0, .int .i64 x1, .int .i64 x2, .int .i64 x3] 36 (0, 0))) ∧ Aside0 (w'.heap[gb7]? = some (.cells #[.int .i64 x0, .int .i64 x1, .int .i64 x2, .int .i64 x3] 36 (0, 0))) ∧ Aside0 (w'.heap[gb9]? = some (.cells #[.bool (decide (0 < x0)), .bool (decide (0 < x1)), .bool (decide (0 < x2)), .bool (decide (0 < x3))] 41 (0, 0))) ∧ Aside0 (Below w.heap.size w w'))
  case atStart => exact ⟨0, rfl, by omega, ⟨by omega⟩, BK5, BK7, BK9, HB⟩
  clear HB BK5 BK7 BK9 q50 q51 q52 q53 f50 f51 f52 f53 q70 q71 q72 q73 f70 f71 f72 f73 q90 q91 q92 q93 f90 f91 f92 f93
  obtain ⟨i, rfl, hi, HM, BK5, BK7, BK9, HB⟩ := hrel
  have hm := HM.out
  rcases (by omega : i = 0 ∨ i = 1 ∨ i = 2 ∨ i = 3 ∨ i = 4) with rfl | rfl | rfl | rfl | rfl
  · clear HM hi
    obtain ⟨q50, q51, q52, q53, f50, f51, f52, f53⟩ := blk4 BK5.out
    obtain ⟨q70, q71, q72, q73, f70, f71, f72, f73⟩ := blk4 BK7.out
    obtain ⟨q90, q91, q92, q93, f90, f91, f92, f93⟩ := blk4 BK9.out
    have hv : ((decide (0 < x0)) != (decide (x0 > 0))) = false := by simp
    go_wp2
    have Q := keepS (u := .bool (decide (0 < x0))) (v := .int .i64 x0) ⟨q90, q70, BK5.out, BK7.out, BK9.out, HB.out⟩ (below_drew1 (Below.refl _ _))
    clear q50 q51 q52 q53 f50 f51 f52 f53 q70 q71 q72 q73 f70 f71 f72 f73 q90 q91 q92 q93 f90 f91 f92 f93 BK5 BK7 BK9 HB
    go_region_held3 (fun W => W.cell? ⟨gb9, 0, none⟩ = some (.bool (decide (0 < x0))) ∧ W.cell? ⟨gb7, 0, none⟩ = some (.int .i64 x0) ∧ W.heap[gb5]? = some (.cells #[.int .i64 x0, .int .i64 x1, .int .i64 x2, .int .i64 x3] 36 (0, 0)) ∧ W.heap[gb7]? = some (.cells #[.int .i64 x0, .int .i64 x1, .int .i64 x2, .int .i64 x3] 36 (0, 0)) ∧ W.heap[gb9]? = some (.cells #[.bool (decide (0 < x0)), .bool (decide (0 < x1)), .bool (decide (0 < x2)), .bool (decide (0 < x3))] 41 (0, 0)) ∧ Below w.heap.size w W)
      (first | exact Q | (exact keepS (by assumption) (by assumption)))
      (fail)
    obtain ⟨q9, q7, b5, b7, b9, hb⟩ : _ ∧ _ ∧ _ ∧ _ ∧ _ ∧ Below w.heap.size w _ := by assumption
    go_wp2
    go_roundg 3
    case measure => omega
    case rel => exact ⟨1, rfl, by omega, ⟨by omega⟩, ⟨b5⟩, ⟨b7⟩, ⟨b9⟩, ⟨hb⟩⟩
  · clear HM hi
    obtain ⟨q50, q51, q52, q53, f50, f51, f52, f53⟩ := blk4 BK5.out
    obtain ⟨q70, q71, q72, q73, f70, f71, f72, f73⟩ := blk4 BK7.out
    obtain ⟨q90, q91, q92, q93, f90, f91, f92, f93⟩ := blk4 BK9.out
    have hv : ((decide (0 < x1)) != (decide (x1 > 0))) = false := by simp
    go_wp2
    have Q := keepS (u := .bool (decide (0 < x1))) (v := .int .i64 x1) ⟨q91, q71, BK5.out, BK7.out, BK9.out, HB.out⟩ (below_drew1 (Below.refl _ _))
    clear q50 q51 q52 q53 f50 f51 f52 f53 q70 q71 q72 q73 f70 f71 f72 f73 q90 q91 q92 q93 f90 f91 f92 f93 BK5 BK7 BK9 HB
    go_region_held3 (fun W => W.cell? ⟨gb9, 1, none⟩ = some (.bool (decide (0 < x1))) ∧ W.cell? ⟨gb7, 1, none⟩ = some (.int .i64 x1) ∧ W.heap[gb5]? = some (.cells #[.int .i64 x0, .int .i64 x1, .int .i64 x2, .int .i64 x3] 36 (0, 0)) ∧ W.heap[gb7]? = some (.cells #[.int .i64 x0, .int .i64 x1, .int .i64 x2, .int .i64 x3] 36 (0, 0)) ∧ W.heap[gb9]? = some (.cells #[.bool (decide (0 < x0)), .bool (decide (0 < x1)), .bool (decide (0 < x2)), .bool (decide (0 < x3))] 41 (0, 0)) ∧ Below w.heap.size w W)
      (first | exact Q | (exact keepS (by assumption) (by assumption)))
      (fail)
    obtain ⟨q9, q7, b5, b7, b9, hb⟩ : _ ∧ _ ∧ _ ∧ _ ∧ _ ∧ Below w.heap.size w _ := by assumption
    go_wp2
    go_roundg 2
    case measure => omega
    case rel => exact ⟨2, rfl, by omega, ⟨by omega⟩, ⟨b5⟩, ⟨b7⟩, ⟨b9⟩, ⟨hb⟩⟩
  · clear HM hi
    obtain ⟨q50, q51, q52, q53, f50, f51, f52, f53⟩ := blk4 BK5.out
    obtain ⟨q70, q71, q72, q73, f70, f71, f72, f73⟩ := blk4 BK7.out
    obtain ⟨q90, q91, q92, q93, f90, f91, f92, f93⟩ := blk4 BK9.out
    have hv : ((decide (0 < x2)) != (decide (x2 > 0))) = false := by simp
    go_wp2
    have Q := keepS (u := .bool (decide (0 < x2))) (v := .int .i64 x2) ⟨q92, q72, BK5.out, BK7.out, BK9.out, HB.out⟩ (below_drew1 (Below.refl _ _))
    clear q50 q51 q52 q53 f50 f51 f52 f53 q70 q71 q72 q73 f70 f71 f72 f73 q90 q91 q92 q93 f90 f91 f92 f93 BK5 BK7 BK9 HB
    go_region_held3 (fun W => W.cell? ⟨gb9, 2, none⟩ = some (.bool (decide (0 < x2))) ∧ W.cell? ⟨gb7, 2, none⟩ = some (.int .i64 x2) ∧ W.heap[gb5]? = some (.cells #[.int .i64 x0, .int .i64 x1, .int .i64 x2, .int .i64 x3] 36 (0, 0)) ∧ W.heap[gb7]? = some (.cells #[.int .i64 x0, .int .i64 x1, .int .i64 x2, .int .i64 x3] 36 (0, 0)) ∧ W.heap[gb9]? = some (.cells #[.bool (decide (0 < x0)), .bool (decide (0 < x1)), .bool (decide (0 < x2)), .bool (decide (0 < x3))] 41 (0, 0)) ∧ Below w.heap.size w W)
      (first | exact Q | (exact keepS (by assumption) (by assumption)))
      (fail)
    obtain ⟨q9, q7, b5, b7, b9, hb⟩ : _ ∧ _ ∧ _ ∧ _ ∧ _ ∧ Below w.heap.size w _ := by assumption
    go_wp2
    go_roundg 1
    case measure => omega
    case rel => exact ⟨3, rfl, by omega, ⟨by omega⟩, ⟨b5⟩, ⟨b7⟩, ⟨b9⟩, ⟨hb⟩⟩
  · clear HM hi
    obtain ⟨q50, q51, q52, q53, f50, f51, f52, f53⟩ := blk4 BK5.out
    obtain ⟨q70, q71, q72, q73, f70, f71, f72, f73⟩ := blk4 BK7.out
    obtain ⟨q90, q91, q92, q93, f90, f91, f92, f93⟩ := blk4 BK9.out
    have hv : ((decide (0 < x3)) != (decide (x3 > 0))) = false := by simp
    go_wp2
    have Q := keepS (u := .bool (decide (0 < x3))) (v := .int .i64 x3) ⟨q93, q73, BK5.out, BK7.out, BK9.out, HB.out⟩ (below_drew1 (Below.refl _ _))
    clear q50 q51 q52 q53 f50 f51 f52 f53 q70 q71 q72 q73 f70 f71 f72 f73 q90 q91 q92 q93 f90 f91 f92 f93 BK5 BK7 BK9 HB
    go_region_held3 (fun W => W.cell? ⟨gb9, 3, none⟩ = some (.bool (decide (0 < x3))) ∧ W.cell? ⟨gb7, 3, none⟩ = some (.int .i64 x3) ∧ W.heap[gb5]? = some (.cells #[.int .i64 x0, .int .i64 x1, .int .i64 x2, .int .i64 x3] 36 (0, 0)) ∧ W.heap[gb7]? = some (.cells #[.int .i64 x0, .int .i64 x1, .int .i64 x2, .int .i64 x3] 36 (0, 0)) ∧ W.heap[gb9]? = some (.cells #[.bool (decide (0 < x0)), .bool (decide (0 < x1)), .bool (decide (0 < x2)), .bool (decide (0 < x3))] 41 (0, 0)) ∧ Below w.heap.size w W)
      (first | exact Q | (exact keepS (by assumption) (by assumption)))
      (fail)
    obtain ⟨q9, q7, b5, b7, b9, hb⟩ : _ ∧ _ ∧ _ ∧ _ ∧ _ ∧ Below w.heap.size w _ := by assumption
    go_wp2
    go_roundg 0
    case measure => omega
    case rel => exact ⟨4, rfl, by omega, ⟨by omega⟩, ⟨b5⟩, ⟨b7⟩, ⟨b9⟩, ⟨hb⟩⟩
  · clear HM hi
    obtain ⟨q50, q51, q52, q53, f50, f51, f52, f53⟩ := blk4 BK5.out
    obtain ⟨q70, q71, q72, q73, f70, f71, f72, f73⟩ := blk4 BK7.out
    obtain ⟨q90, q91, q92, q93, f90, f91, f92, f93⟩ := blk4 BK9.out
    go_wp2_with (first
      | (go_at_call 7; refine (backhaullaw17_awake.calls 60 true _ (aw 60 (by decide))).mono ?_; rintro e w9 ⟨rfl, hb⟩; have n0_ := Aside0.mk (below_step HB.out hb); clear HB; have HB := n0_; clear n0_ hb))
    go_ret
    exact ⟨by first | rfl | simp, HB.out⟩
theorem counts_walk (a0 : Option Addr) (len0 cap0 : Nat) (z0 : List Int) (a1 : Option Addr) (len1 cap1 : Nat) (z1 : List Int) (w : World) (w0 : (a0 = none ∧ len0 = 0 ∧ cap0 = 0 ∧ z0 = []) ∨ ∃ x, a0 = some x ∧ len0 ≤ cap0 ∧ cap0 ≤ maxLen ∧ z0.length = cap0 ∧ (∀ i, i < z0.length → w.cell? (x.add i) = some (.int .i64 (z0.getD i 0))) ∧ ∀ n ∈ z0, (Lit.int .i64 n).wf = true) (y0 : len0 * 8 ≤ 140737488351232) (w1 : (a1 = none ∧ len1 = 0 ∧ cap1 = 0 ∧ z1 = []) ∨ ∃ x, a1 = some x ∧ len1 ≤ cap1 ∧ cap1 ≤ maxLen ∧ z1.length = cap1 ∧ (∀ i, i < z1.length → w.cell? (x.add i) = some (.int .i64 (z1.getD i 0))) ∧ ∀ n ∈ z1, (Lit.int .i64 n).wf = true) (y1 : len1 * 8 ≤ 140737488351232) :
    Calls Try.prog 4 #[.slice a0 len0 cap0, .slice a1 len1 cap1] w fun e w' => e = .returned (.bool true) ∧ Below w.heap.size w w' := by
  obtain ⟨l0, rfl, hr0, hm0, hw0, hc0⟩ := ReadsInt.ofRowC w0
  obtain ⟨l1, rfl, hr1, hm1, hw1, hc1⟩ := ReadsInt.ofRowC w1
  exact counts_calls _ _ l0 _ _ l1 w (Kd.C_of_reads (d := (0 : Int)) (h1 := fun _ => rfl) hr0) hc0 (Kd.C_of_reads (d := (0 : Int)) (h1 := fun _ => rfl) hr1) hc1
end Go.Proofs.Ytokoipmbhohoiaa.GradeLaw
