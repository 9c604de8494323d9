-- PRINTED by printx.py (the kit's print, with contracts that were written by hand in the place of what it does not print). Not trusted: Lean checks it.
import Derived.Test.YtokoipmbhohoiaaPGradex0
import Derived.Test.YtokoipmbhohoiaaPGradex14
namespace Go.Proofs.Ytokoipmbhohoiaa.PGrade
open Go.RowKit Go.Proofs.YtokoipmbhohoiaaW.PrintWords Go.Proofs.YtokoipmbhohoiaaW.PrintLast Go.Proofs.YtokoipmbhohoiaaW.PrintMore
attribute [local go_sem] max2_int min2_int max_two min_two max_three min_three max_four min_four   -- for this text's walks alone
set_option linter.unusedVariables false
set_option linter.unusedSimpArgs false

/-! ### grade_Reached: function 16 -/
def grade_Reached.f (k : Nat) (l0 l1 : List Int) : Option (Bool × Bool × Bool × Bool × Int) := (grade_Count.f k l0 l1).bind fun c => some (decide (0 < c.1), decide (0 < c.2.1), decide (0 < c.2.2.1), decide (0 < c.2.2.2.1), c.2.2.2.2)
theorem grade_Reached.mono : ∀ a0 a1 k, LeO (grade_Reached.f k a0 a1) (grade_Reached.f (k + 1) a0 a1) := by
  intro a0 a1 k
  unfold grade_Reached.f
  exact LeO.bind (grade_Count.mono _ _ _) (fun t => LeO.refl _)
set_option maxHeartbeats 8000000 in
set_option maxRecDepth 100000 in
theorem grade_Reached.calls (k : Nat) (A0 : Option Addr) (c0 : Nat) (l0 : List Int) (A1 : Option Addr) (c1 : Nat) (l1 : List Int) (r1 r2 r3 r4 : Bool) (r5 : Int) (w : World) (hr0 : Kd.C (Kd.int .i64) w A0 l0.length l0) (hc0 : l0.length ≤ c0) (hr1 : Kd.C (Kd.int .i64) w A1 l1.length l1) (hc1 : l1.length ≤ c1) (h : grade_Reached.f k l0 l1 = some (r1, r2, r3, r4, r5)) :
    Calls Try.prog 16 #[.slice A0 l0.length c0, .slice A1 l1.length c1] w fun e w' => e = .returned (.tuple #[.agg #[.bool r1, .bool r2, .bool r3, .bool r4], .int .i64 r5]) ∧ Below w.heap.size w w' := by
  have hu36 := Try.underlying36
  have hu41 := Try.underlying41
  have HR0 := Aside0.mk hr0
  have HC0 := Aside0.mk hc0
  have HR1 := Aside0.mk hr1
  have HC1 := Aside0.mk hc1
  have HB := Aside0.mk (Below.refl w.heap.size w)
  have h' := h
  unfold grade_Reached.f at h'
  clear h hr0 hc0 hr1 hc1
  obtain ⟨⟨x0, x1, x2, x3, x4⟩, ht, h⟩ := Option.bind_eq_some_iff.mp h'
  clear h'
  have HT := Aside0.mk ht
  clear ht
  simp only [Option.some.injEq, Prod.mk.injEq] at h
  obtain ⟨rfl, rfl, rfl, rfl, rfl⟩ := h
  go_enter Try.func16, Try.ntmps16
  go_wp2_with (first
    | ((with_reducible refine gate_dst (N := 4) rfl ?_); refine box_event ?hg (N := 4) ?hd (cs := #[.bool false, .bool false, .bool false, .bool false]) (t := 41) ?hr ?_; (case hd => rfl); (case hg => rfl); (case hr => first | (go_simp; done) | (go_simp; rfl)); intro gb4 hg wb4 hbox hb; have n0_ := Aside0.mk (below_step HB.out hb); have n1_ := Aside0.mk hbox; have GE4 := Aside0.mk (by rw [hg]; exact HB.out.size : w.heap.size ≤ gb4); clear HB; have HB := n0_; have BK4 := n1_; clear n0_ n1_ hb hbox hg; obtain ⟨q40, q41, q42, q43, f40, f41, f42, f43⟩ := blk4 BK4.out)
    | ((with_reducible refine gate_dst (N := 6) rfl ?_); refine box_event ?hg (N := 6) ?hd (cs := #[.bool false, .bool false, .bool false, .bool false]) (t := 41) ?hr ?_; (case hd => rfl); (case hg => rfl); (case hr => first | (go_simp; done) | (go_simp; rfl)); intro gb6 hg wb6 hbox hb; have n0_ := Aside0.mk (below_step HB.out hb); have n1_ := Aside0.mk hbox; have GE6 := Aside0.mk (by rw [hg]; exact HB.out.size : w.heap.size ≤ gb6); have o4_ := Aside0.mk (blk_below BK4.out hb); have NE46 := Aside0.mk (by rw [hg]; exact Nat.ne_of_lt (blk_lt BK4.out) : gb4 ≠ gb6); clear BK4; have BK4 := o4_; clear o4_; clear q40 q41 q42 q43 f40 f41 f42 f43; obtain ⟨q40, q41, q42, q43, f40, f41, f42, f43⟩ := blk4 BK4.out; clear HB; have HB := n0_; have BK6 := n1_; clear n0_ n1_ hb hbox hg; obtain ⟨q60, q61, q62, q63, f60, f61, f62, f63⟩ := blk4 BK6.out)
    | (go_at_call 14; refine (grade_Count.calls k _ _ l0 _ _ l1 x0 x1 x2 x3 x4 _ (Kd.C_below HR0.out HB.out) HC0.out (Kd.C_below HR1.out HB.out) HC1.out HT.out).mono ?_; rintro e w1 ⟨rfl, hb⟩; have n0_ := Aside0.mk (below_step HB.out hb); have o4_ := Aside0.mk (blk_below BK4.out hb); clear BK4; have BK4 := o4_; clear o4_; clear q40 q41 q42 q43 f40 f41 f42 f43; obtain ⟨q40, q41, q42, q43, f40, f41, f42, f43⟩ := blk4 BK4.out; have o6_ := Aside0.mk (blk_below BK6.out hb); clear BK6; have BK6 := o6_; clear o6_; clear q60 q61 q62 q63 f60 f61 f62 f63; obtain ⟨q60, q61, q62, q63, f60, f61, f62, f63⟩ := blk4 BK6.out; clear HB; have HB := n0_; clear n0_ hb)
    | ((with_reducible refine gate_dst (N := 7) rfl ?_); refine box_event ?hg (N := 7) ?hd (cs := #[.int .i64 0, .int .i64 0, .int .i64 0, .int .i64 0]) (t := 36) ?hr ?_; (case hd => rfl); (case hg => rfl); (case hr => first | (go_simp; done) | (go_simp; rfl)); intro gb7 hg wb7 hbox hb; have n0_ := Aside0.mk (below_step HB.out hb); have n1_ := Aside0.mk hbox; have GE7 := Aside0.mk (by rw [hg]; exact HB.out.size : w.heap.size ≤ gb7); have o4_ := Aside0.mk (blk_below BK4.out hb); have NE47 := Aside0.mk (by rw [hg]; exact Nat.ne_of_lt (blk_lt BK4.out) : gb4 ≠ gb7); clear BK4; have BK4 := o4_; clear o4_; clear q40 q41 q42 q43 f40 f41 f42 f43; obtain ⟨q40, q41, q42, q43, f40, f41, f42, f43⟩ := blk4 BK4.out; have o6_ := Aside0.mk (blk_below BK6.out hb); have NE67 := Aside0.mk (by rw [hg]; exact Nat.ne_of_lt (blk_lt BK6.out) : gb6 ≠ gb7); clear BK6; have BK6 := o6_; clear o6_; clear q60 q61 q62 q63 f60 f61 f62 f63; obtain ⟨q60, q61, q62, q63, f60, f61, f62, f63⟩ := blk4 BK6.out; clear HB; have HB := n0_; have BK7 := n1_; clear n0_ n1_ hb hbox hg; obtain ⟨q70, q71, q72, q73, f70, f71, f72, f73⟩ := blk4 BK7.out)
    | ((with_reducible refine gate_store (t := 36) (p := 7) rfl ?_); refine store_event (t := 36) (p := 7) (v := ?vo) (w1 := ((((wb7.setCell ⟨gb7, 0, none⟩ (.int .i64 x0)).setCell ⟨gb7, 1, none⟩ (.int .i64 x1)).setCell ⟨gb7, 2, none⟩ (.int .i64 x2)).setCell ⟨gb7, 3, none⟩ (.int .i64 x3))) ?hg ?ho ?hn ?hr ?_; (case ho => rfl); (case hg => rfl); (case hn => rfl); (case hr => first | (go_simp; done) | (go_simp; rfl)); intro w8 hw; have n7_ : Aside0 (w8.heap[gb7]? = some (.cells #[.int .i64 x0, .int .i64 x1, .int .i64 x2, .int .i64 x3] 36 (0, 0))) := ⟨by rw [hw]; exact put4 BK7.out _ _ _ _⟩; have n4_ : Aside0 (w8.heap[gb4]? = some (.cells #[.bool false, .bool false, .bool false, .bool false] 41 (0, 0))) := ⟨by rw [hw]; exact blk_far (blk_far (blk_far (blk_far BK4.out NE47.out _) NE47.out _) NE47.out _) NE47.out _⟩; have n6_ : Aside0 (w8.heap[gb6]? = some (.cells #[.bool false, .bool false, .bool false, .bool false] 41 (0, 0))) := ⟨by rw [hw]; exact blk_far (blk_far (blk_far (blk_far BK6.out NE67.out _) NE67.out _) NE67.out _) NE67.out _⟩; have nb_ : Aside0 (Below w.heap.size w w8) := ⟨by rw [hw]; exact below_set (below_set (below_set (below_set HB.out GE7.out) GE7.out) GE7.out) GE7.out⟩; clear hw; clear HB BK4 BK6 BK7; have HB := nb_; have BK4 := n4_; have BK6 := n6_; have BK7 := n7_; clear n4_ n6_ n7_ nb_; clear q40 q41 q42 q43 f40 f41 f42 f43; obtain ⟨q40, q41, q42, q43, f40, f41, f42, f43⟩ := blk4 BK4.out; clear q60 q61 q62 q63 f60 f61 f62 f63; obtain ⟨q60, q61, q62, q63, f60, f61, f62, f63⟩ := blk4 BK6.out; clear q70 q71 q72 q73 f70 f71 f72 f73; obtain ⟨q70, q71, q72, q73, f70, f71, f72, f73⟩ := blk4 BK7.out))
  go_loopg [16] 4 (fun kq v16 w' => ∃ (i : Nat), v16 = .int .i64 (i : Int) ∧ i ≤ 4 ∧ Aside0 (kq + i = 4) ∧ Aside0 (w'.heap[gb4]? = some (.cells #[.bool false, .bool false, .bool false, .bool false] 41 (0, 0))) ∧ Aside0 (w'.heap[gb6]? = some (.cells #[.bool (decide (0 < i) && decide (0 < x0)), .bool (decide (1 < i) && decide (0 < x1)), .bool (decide (2 < i) && decide (0 < x2)), .bool (decide (3 < i) && decide (0 < x3))] 41 (0, 0))) ∧ Aside0 (w'.heap[gb7]? = some (.cells #[.int .i64 x0, .int .i64 x1, .int .i64 x2, .int .i64 x3] 36 (0, 0))) ∧ Aside0 (Below w.heap.size w w'))
  case atStart => exact ⟨0, rfl, by omega, ⟨rfl⟩, BK4, ⟨by simpa using BK6.out⟩, BK7, HB⟩
  case round =>
  clear HB BK4 BK6 BK7 q40 q41 q42 q43 f40 f41 f42 f43 q60 q61 q62 q63 f60 f61 f62 f63 q70 q71 q72 q73 f70 f71 f72 f73
  obtain ⟨i, rfl, hi, HM, BK4, BK6, BK7, HB⟩ := hrel
  have hm := HM.out
  rcases (by omega : i = 0 ∨ i = 1 ∨ i = 2 ∨ i = 3 ∨ i = 4) with rfl | rfl | rfl | rfl | rfl
  · clear HM hi
    obtain ⟨q40, q41, q42, q43, f40, f41, f42, f43⟩ := blk4 BK4.out
    obtain ⟨q60, q61, q62, q63, f60, f61, f62, f63⟩ := blk4 BK6.out
    obtain ⟨q70, q71, q72, q73, f70, f71, f72, f73⟩ := blk4 BK7.out
    go_wp2
    go_roundg 3
    case measure => omega
    case rel => exact ⟨1, rfl, by omega, ⟨rfl⟩, ⟨blk_far BK4.out NE46.out _⟩, ⟨by have := blk_set BK6.out 0 (.bool (decide (0 < x0))); simpa using this⟩, ⟨blk_far BK7.out (Ne.symm NE67.out) _⟩, ⟨below_set HB.out GE6.out⟩⟩
  · clear HM hi
    obtain ⟨q40, q41, q42, q43, f40, f41, f42, f43⟩ := blk4 BK4.out
    obtain ⟨q60, q61, q62, q63, f60, f61, f62, f63⟩ := blk4 BK6.out
    obtain ⟨q70, q71, q72, q73, f70, f71, f72, f73⟩ := blk4 BK7.out
    go_wp2
    go_roundg 2
    case measure => omega
    case rel => exact ⟨2, rfl, by omega, ⟨rfl⟩, ⟨blk_far BK4.out NE46.out _⟩, ⟨by have := blk_set BK6.out 1 (.bool (decide (0 < x1))); simpa using this⟩, ⟨blk_far BK7.out (Ne.symm NE67.out) _⟩, ⟨below_set HB.out GE6.out⟩⟩
  · clear HM hi
    obtain ⟨q40, q41, q42, q43, f40, f41, f42, f43⟩ := blk4 BK4.out
    obtain ⟨q60, q61, q62, q63, f60, f61, f62, f63⟩ := blk4 BK6.out
    obtain ⟨q70, q71, q72, q73, f70, f71, f72, f73⟩ := blk4 BK7.out
    go_wp2
    go_roundg 1
    case measure => omega
    case rel => exact ⟨3, rfl, by omega, ⟨rfl⟩, ⟨blk_far BK4.out NE46.out _⟩, ⟨by have := blk_set BK6.out 2 (.bool (decide (0 < x2))); simpa using this⟩, ⟨blk_far BK7.out (Ne.symm NE67.out) _⟩, ⟨below_set HB.out GE6.out⟩⟩
  · clear HM hi
    obtain ⟨q40, q41, q42, q43, f40, f41, f42, f43⟩ := blk4 BK4.out
    obtain ⟨q60, q61, q62, q63, f60, f61, f62, f63⟩ := blk4 BK6.out
    obtain ⟨q70, q71, q72, q73, f70, f71, f72, f73⟩ := blk4 BK7.out
    go_wp2
    go_roundg 0
    case measure => omega
    case rel => exact ⟨4, rfl, by omega, ⟨rfl⟩, ⟨blk_far BK4.out NE46.out _⟩, ⟨by have := blk_set BK6.out 3 (.bool (decide (0 < x3))); simpa using this⟩, ⟨blk_far BK7.out (Ne.symm NE67.out) _⟩, ⟨below_set HB.out GE6.out⟩⟩
  · clear HM hi
    obtain ⟨q40, q41, q42, q43, f40, f41, f42, f43⟩ := blk4 BK4.out
    obtain ⟨q60, q61, q62, q63, f60, f61, f62, f63⟩ := blk4 BK6.out
    obtain ⟨q70, q71, q72, q73, f70, f71, f72, f73⟩ := blk4 BK7.out
    go_wp2
    refine bodyPost_ret (results_ct rfl _ _ gb4 41 #[.bool (decide (0 < x0)), .bool (decide (0 < x1)), .bool (decide (0 < x2)), .bool (decide (0 < x3))] (0, 0) _ rfl (by have := put4 BK4.out (.bool (decide (0 < x0))) (.bool (decide (0 < x1))) (.bool (decide (0 < x2))) (.bool (decide (0 < x3))); simpa using this) Try.underlying41 rfl (by kernel_rfl)) rfl ?_
    exact ⟨rfl, by repeat (first | exact HB.out | refine below_set ?_ GE4.out)⟩


end Go.Proofs.Ytokoipmbhohoiaa.PGrade
