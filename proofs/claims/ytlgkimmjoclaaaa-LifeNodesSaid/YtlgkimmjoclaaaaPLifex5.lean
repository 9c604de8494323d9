-- PRINTED by printx.py (the kit's print, with contracts that were written by hand in the place of what it does not print). Not trusted: Lean checks it.
import Derived.Test.YtlgkimmjoclaaaaPLifex0
import Derived.Test.YtlgkimmjoclaaaaPLifex1
import Derived.Test.YtlgkimmjoclaaaaPLifex3
import Derived.Test.YtlgkimmjoclaaaaPLifex4
namespace Go.Proofs.Ytlgkimmjoclaaaa.PLife
open Go.RowKit Go.Proofs.YtlgkimmjoclaaaaW.PrintWords Go.Proofs.YtlgkimmjoclaaaaW.PrintLast Go.Proofs.YtlgkimmjoclaaaaW.PrintMore
attribute [local go_sem] max2_int min2_int max_two min_two max_three min_three max_four min_four   -- for this text's walks alone
set_option linter.unusedVariables false
set_option linter.unusedSimpArgs false

/-! ### life_Check: function 28 -/
attribute [local go_sem high] eqA50
def life_Check.f (a0_0 : Int) (a0_1 : Int) : Option Int := (life_Terminal.f a0_0 a0_1).bind fun t => if t = true then some 0 else (life_Acts.f a0_0 a0_1).bind fun l => if l.isEmpty = true then some 33 else some 0
theorem life_Acts.nil_of (a0_0 a0_1 : Int) (h : life_Acts.f a0_0 a0_1 = some []) : (a0_0 == 1 && (a0_1 == 0)) = false ∧ (a0_0 == 2 && (a0_1 == 0)) = false ∧ (a0_0 == 3 && (a0_1 == 2)) = false ∧ (a0_0 == 3 && (a0_1 == 3)) = false ∧ (a0_0 == 4 && (a0_1 == 2)) = false ∧ (a0_0 == 5 && (a0_1 == 3)) = false := by
  have e : (([] : List Int).length < 17592186044416) = True := by simp
  unfold life_Acts.f at h
  simp only [e, if_true, Option.bind_some, List.nil_append] at h
  cases h1 : (a0_0 == 1 && (a0_1 == 0)) <;> simp only [h1, if_true, if_false, Bool.false_eq_true] at h
  · cases h2 : (a0_0 == 2 && (a0_1 == 0)) <;> simp only [h2, if_true, if_false, Bool.false_eq_true] at h
    · cases h3 : (a0_0 == 3 && (a0_1 == 2)) <;> simp only [h3, if_true, if_false, Bool.false_eq_true] at h
      · cases h4 : (a0_0 == 3 && (a0_1 == 3)) <;> simp only [h4, if_true, if_false, Bool.false_eq_true] at h
        · cases h5 : (a0_0 == 4 && (a0_1 == 2)) <;> simp only [h5, if_true, if_false, Bool.false_eq_true] at h
          · cases h6 : (a0_0 == 5 && (a0_1 == 3)) <;> simp only [h6, if_true, if_false, Bool.false_eq_true] at h
            · exact ⟨rfl, rfl, rfl, rfl, rfl, rfl⟩
            · simp at h
          · simp at h
        · simp at h
      · simp at h
    · simp at h
  · simp at h
set_option maxHeartbeats 8000000 in
set_option maxRecDepth 100000 in
theorem life_Acts.nil (a0_0 : Int) (a0_1 : Int) (w : World) (h : life_Acts.f a0_0 a0_1 = some []) :
    Calls Try.prog 32 #[.agg #[.int .i64 a0_0, .int .i64 a0_1]] w fun e w' => e = .returned (.slice none 0 0) ∧ Below w.heap.size w w' := by
  have hu50 := Try.underlying50
  have HB := Aside0.mk (Below.refl w.heap.size w)
  obtain ⟨c1, c2, c3, c4, c5, c6⟩ := life_Acts.nil_of a0_0 a0_1 h
  clear h
  go_enter Try.func32, Try.ntmps32
  go_wp2_with (first | ((with_reducible refine gate_dst (N := 1) rfl ?_); refine box_event ?hg (N := 1) ?hd (cs := #[.int .i64 a0_0, .int .i64 a0_1]) (t := 50) ?hr ?_; (case hd => rfl); (case hg => rfl); (case hr => first | (go_simp; done) | (go_simp; rfl)); intro gb104 hg w38 hbox hb; have n0_ := Aside0.mk (below_step (by repeat (first | (with_reducible first | exact HB.out | apply below_alloc | apply pw_below_drewN | apply below_drew1) | exact HB.out)) hb); have n1_ := Aside0.mk (hbox); have n2_ := Aside0.mk ((by rw [hg]; exact (below_size (by repeat (first | (with_reducible first | exact HB.out | apply below_alloc | apply pw_below_drewN | apply below_drew1) | exact HB.out))) : w.heap.size ≤ gb104)); have n3_ := Aside0.mk ((by rw [hg]; exact (below_size (by repeat (first | (with_reducible first | exact HB.out | apply below_alloc | apply pw_below_drewN | apply below_drew1) | exact HB.out))) : w.heap.size ≤ gb104)); clear HB; have HB := n0_; have BK104 := n1_; have GW104 := n2_; have GE104 := n3_; clear n0_ n1_ n2_ n3_; clear hb hbox hg; have hcz39_0 : w38.cell? ⟨gb104, 0, none⟩ = some (.int .i64 a0_0) := (blk_cell BK104.out 0).trans rfl; have hcz39_1 : w38.cell? ⟨gb104, 1, none⟩ = some (.int .i64 a0_1) := (blk_cell BK104.out 1).trans rfl; have hfz39_0 := blk_frozen BK104.out 0; have hfz39_1 := blk_frozen BK104.out 1))
  go_ret
  exact ⟨rfl, by repeat (first | (with_reducible first | exact HB.out | apply below_alloc | apply pw_below_drewN | apply below_drew1 | refine below_set ?_ GE104.out) | exact HB.out)⟩
theorem life_Acts.some_of (a0_0 a0_1 : Int) (x : Int) (r : List Int) (h : life_Acts.f a0_0 a0_1 = some (x :: r)) (w : World) :
    Calls Try.prog 32 #[.agg #[.int .i64 a0_0, .int .i64 a0_1]] w fun e w' => ∃ (A : Addr) (n c : Nat), e = .returned (.slice (some A) n c) ∧ Below w.heap.size w w' := by
  refine (life_Acts.calls a0_0 a0_1 _ w h).mono ?_
  rintro e w' ⟨v, rfl, hR, hb⟩
  obtain ⟨g, cap, rfl, -⟩ := Kd.R_form hR (by simp)
  exact ⟨_, _, _, rfl, hb⟩
set_option maxHeartbeats 8000000 in
set_option maxRecDepth 100000 in
theorem life_Check.calls (a0_0 : Int) (a0_1 : Int) (r : Int) (w : World) (h : life_Check.f a0_0 a0_1 = some r) :
    Calls Try.prog 28 #[.agg #[.int .i64 a0_0, .int .i64 a0_1]] w fun e w' => e = .returned (.int .i64 r) ∧ Below w.heap.size w w' := by
  have hu50 := Try.underlying50
  have HB := Aside0.mk (Below.refl w.heap.size w)
  have H : ((life_Terminal.f a0_0 a0_1).bind fun t => if t = true then some 0 else (life_Acts.f a0_0 a0_1).bind fun l => if l.isEmpty = true then some 33 else some 0) = some r := h
  clear h
  have hu44 := Try.underlying44
  have q44 : ∀ (w : World) (a : Option Addr) (n c n' c' : Nat), (binOp .eql 44 (.slice a n c) (.slice none n' c')).run Try.prog w = .ok (.bool a.isNone) w := fun w a n c n' c' => Lib.run_eql_slice_nil w _ _ a n c n' c' hu44
  obtain ⟨t, At, H⟩ := Option.bind_eq_some_iff.mp H
  have At := Aside0.mk At
  cases t with
  | true =>
    obtain rfl := Option.some.inj H
    go_enter Try.func28, Try.ntmps28
    go_wp2_with (first | ((with_reducible refine gate_dst (N := 1) rfl ?_); refine box_event ?hg (N := 1) ?hd (cs := #[.int .i64 a0_0, .int .i64 a0_1]) (t := 50) ?hr ?_; (case hd => rfl); (case hg => rfl); (case hr => first | (go_simp; done) | (go_simp; rfl)); intro gb28 hg w38 hbox hb; have n0_ := Aside0.mk (below_step (by repeat (first | (with_reducible first | exact HB.out | apply below_alloc | apply pw_below_drewN | apply below_drew1) | exact HB.out)) hb); have n1_ := Aside0.mk (hbox); have n2_ := Aside0.mk ((by rw [hg]; exact (below_size (by repeat (first | (with_reducible first | exact HB.out | apply below_alloc | apply pw_below_drewN | apply below_drew1) | exact HB.out))) : w.heap.size ≤ gb28)); have n3_ := Aside0.mk ((by rw [hg]; exact (below_size (by repeat (first | (with_reducible first | exact HB.out | apply below_alloc | apply pw_below_drewN | apply below_drew1) | exact HB.out))) : w.heap.size ≤ gb28)); clear HB; have HB := n0_; have BK28 := n1_; have GW28 := n2_; have GE28 := n3_; clear n0_ n1_ n2_ n3_; clear hb hbox hg; have hcz39_0 : w38.cell? ⟨gb28, 0, none⟩ = some (.int .i64 a0_0) := (blk_cell BK28.out 0).trans rfl; have hcz39_1 : w38.cell? ⟨gb28, 1, none⟩ = some (.int .i64 a0_1) := (blk_cell BK28.out 1).trans rfl; have hfz39_0 := blk_frozen BK28.out 0; have hfz39_1 := blk_frozen BK28.out 1) | ((with_reducible refine gate_callee (f := 30) rfl ?_); refine goesL_ (some 4) rfl rfl Try.func30 (by kernel_rfl) rfl #[.agg #[.int .i64 a0_0, .int .i64 a0_1]] rfl (by (try simp only [List.map_toArray, List.map_cons, List.map_nil]); first | done | rfl) ?_; (with_reducible refine (life_Terminal.calls a0_0 a0_1 true _ At.out).mono ?_); rintro e w6 ⟨rfl, hb⟩; refine ⟨_, rfl, ?_⟩; have n1_ := Aside0.mk (blk_below (g := gb28) (o := .cells #[.int .i64 a0_0, .int .i64 a0_1] 50 (0, 0)) (by (with_reducible repeat (first | refine blk_drewN ?_ _ | refine blk_drew ?_ | refine blk_alloc ?_ _)); exact BK28.out) hb); have n2_ := Aside0.mk (below_step (by repeat (first | (with_reducible first | exact HB.out | apply below_alloc | apply pw_below_drewN | apply below_drew1 | refine below_set ?_ GE28.out) | exact HB.out)) hb); clear BK28; clear HB; have BK28 := n1_; have HB := n2_; clear n1_ n2_ hb; have hcy0 := (blk_cell BK28.out 0).trans rfl; have hcy1 := (blk_cell BK28.out 1).trans rfl; have hfy0 := blk_frozen BK28.out 0; have hfy1 := blk_frozen BK28.out 1))
    go_ret
    exact ⟨rfl, by repeat (first | (with_reducible first | exact HB.out | apply below_alloc | apply pw_below_drewN | apply below_drew1 | refine below_set ?_ GE28.out) | exact HB.out)⟩
  | false =>
    replace H : ((life_Acts.f a0_0 a0_1).bind fun l => if l.isEmpty = true then some 33 else some 0) = some r := H
    obtain ⟨l, Al, H⟩ := Option.bind_eq_some_iff.mp H
    have Al := Aside0.mk Al
    cases l with
    | nil =>
      obtain rfl := Option.some.inj H
      go_enter Try.func28, Try.ntmps28
      go_wp2_with (first | ((with_reducible refine gate_dst (N := 1) rfl ?_); refine box_event ?hg (N := 1) ?hd (cs := #[.int .i64 a0_0, .int .i64 a0_1]) (t := 50) ?hr ?_; (case hd => rfl); (case hg => rfl); (case hr => first | (go_simp; done) | (go_simp; rfl)); intro gb28 hg w38 hbox hb; have n0_ := Aside0.mk (below_step (by repeat (first | (with_reducible first | exact HB.out | apply below_alloc | apply pw_below_drewN | apply below_drew1) | exact HB.out)) hb); have n1_ := Aside0.mk (hbox); have n2_ := Aside0.mk ((by rw [hg]; exact (below_size (by repeat (first | (with_reducible first | exact HB.out | apply below_alloc | apply pw_below_drewN | apply below_drew1) | exact HB.out))) : w.heap.size ≤ gb28)); have n3_ := Aside0.mk ((by rw [hg]; exact (below_size (by repeat (first | (with_reducible first | exact HB.out | apply below_alloc | apply pw_below_drewN | apply below_drew1) | exact HB.out))) : w.heap.size ≤ gb28)); clear HB; have HB := n0_; have BK28 := n1_; have GW28 := n2_; have GE28 := n3_; clear n0_ n1_ n2_ n3_; clear hb hbox hg; have hcz39_0 : w38.cell? ⟨gb28, 0, none⟩ = some (.int .i64 a0_0) := (blk_cell BK28.out 0).trans rfl; have hcz39_1 : w38.cell? ⟨gb28, 1, none⟩ = some (.int .i64 a0_1) := (blk_cell BK28.out 1).trans rfl; have hfz39_0 := blk_frozen BK28.out 0; have hfz39_1 := blk_frozen BK28.out 1) | ((with_reducible refine gate_callee (f := 30) rfl ?_); refine goesL_ (some 4) rfl rfl Try.func30 (by kernel_rfl) rfl #[.agg #[.int .i64 a0_0, .int .i64 a0_1]] rfl (by (try simp only [List.map_toArray, List.map_cons, List.map_nil]); first | done | rfl) ?_; (with_reducible refine (life_Terminal.calls a0_0 a0_1 false _ At.out).mono ?_); rintro e w6 ⟨rfl, hb⟩; refine ⟨_, rfl, ?_⟩; have n1_ := Aside0.mk (blk_below (g := gb28) (o := .cells #[.int .i64 a0_0, .int .i64 a0_1] 50 (0, 0)) (by (with_reducible repeat (first | refine blk_drewN ?_ _ | refine blk_drew ?_ | refine blk_alloc ?_ _)); exact BK28.out) hb); have n2_ := Aside0.mk (below_step (by repeat (first | (with_reducible first | exact HB.out | apply below_alloc | apply pw_below_drewN | apply below_drew1 | refine below_set ?_ GE28.out) | exact HB.out)) hb); clear BK28; clear HB; have BK28 := n1_; have HB := n2_; clear n1_ n2_ hb; have hcy0 := (blk_cell BK28.out 0).trans rfl; have hcy1 := (blk_cell BK28.out 1).trans rfl; have hfy0 := blk_frozen BK28.out 0; have hfy1 := blk_frozen BK28.out 1) | (refine (life_Acts.nil a0_0 a0_1 _ Al.out).mono ?_; rintro e w7 ⟨rfl, hb⟩; have n2_ := Aside0.mk (below_step (by repeat (first | (with_reducible first | exact HB.out | apply below_alloc | apply pw_below_drewN | apply below_drew1 | refine below_set ?_ GE28.out) | exact HB.out)) hb); clear HB; have HB := n2_; clear n2_ hb))
      go_ret
      exact ⟨rfl, by repeat (first | (with_reducible first | exact HB.out | apply below_alloc | apply pw_below_drewN | apply below_drew1 | refine below_set ?_ GE28.out) | exact HB.out)⟩
    | cons x l =>
      obtain rfl := Option.some.inj H
      go_enter Try.func28, Try.ntmps28
      go_wp2_with (first | ((with_reducible refine gate_dst (N := 1) rfl ?_); refine box_event ?hg (N := 1) ?hd (cs := #[.int .i64 a0_0, .int .i64 a0_1]) (t := 50) ?hr ?_; (case hd => rfl); (case hg => rfl); (case hr => first | (go_simp; done) | (go_simp; rfl)); intro gb28 hg w38 hbox hb; have n0_ := Aside0.mk (below_step (by repeat (first | (with_reducible first | exact HB.out | apply below_alloc | apply pw_below_drewN | apply below_drew1) | exact HB.out)) hb); have n1_ := Aside0.mk (hbox); have n2_ := Aside0.mk ((by rw [hg]; exact (below_size (by repeat (first | (with_reducible first | exact HB.out | apply below_alloc | apply pw_below_drewN | apply below_drew1) | exact HB.out))) : w.heap.size ≤ gb28)); have n3_ := Aside0.mk ((by rw [hg]; exact (below_size (by repeat (first | (with_reducible first | exact HB.out | apply below_alloc | apply pw_below_drewN | apply below_drew1) | exact HB.out))) : w.heap.size ≤ gb28)); clear HB; have HB := n0_; have BK28 := n1_; have GW28 := n2_; have GE28 := n3_; clear n0_ n1_ n2_ n3_; clear hb hbox hg; have hcz39_0 : w38.cell? ⟨gb28, 0, none⟩ = some (.int .i64 a0_0) := (blk_cell BK28.out 0).trans rfl; have hcz39_1 : w38.cell? ⟨gb28, 1, none⟩ = some (.int .i64 a0_1) := (blk_cell BK28.out 1).trans rfl; have hfz39_0 := blk_frozen BK28.out 0; have hfz39_1 := blk_frozen BK28.out 1) | ((with_reducible refine gate_callee (f := 30) rfl ?_); refine goesL_ (some 4) rfl rfl Try.func30 (by kernel_rfl) rfl #[.agg #[.int .i64 a0_0, .int .i64 a0_1]] rfl (by (try simp only [List.map_toArray, List.map_cons, List.map_nil]); first | done | rfl) ?_; (with_reducible refine (life_Terminal.calls a0_0 a0_1 false _ At.out).mono ?_); rintro e w6 ⟨rfl, hb⟩; refine ⟨_, rfl, ?_⟩; have n1_ := Aside0.mk (blk_below (g := gb28) (o := .cells #[.int .i64 a0_0, .int .i64 a0_1] 50 (0, 0)) (by (with_reducible repeat (first | refine blk_drewN ?_ _ | refine blk_drew ?_ | refine blk_alloc ?_ _)); exact BK28.out) hb); have n2_ := Aside0.mk (below_step (by repeat (first | (with_reducible first | exact HB.out | apply below_alloc | apply pw_below_drewN | apply below_drew1 | refine below_set ?_ GE28.out) | exact HB.out)) hb); clear BK28; clear HB; have BK28 := n1_; have HB := n2_; clear n1_ n2_ hb; have hcy0 := (blk_cell BK28.out 0).trans rfl; have hcy1 := (blk_cell BK28.out 1).trans rfl; have hfy0 := blk_frozen BK28.out 0; have hfy1 := blk_frozen BK28.out 1) | (refine (life_Acts.some_of a0_0 a0_1 _ _ Al.out _).mono ?_; rintro e w7 ⟨Ax, nx, cx, rfl, hb⟩; have n2_ := Aside0.mk (below_step (by repeat (first | (with_reducible first | exact HB.out | apply below_alloc | apply pw_below_drewN | apply below_drew1 | refine below_set ?_ GE28.out) | exact HB.out)) hb); clear HB; have HB := n2_; clear n2_ hb))
      go_ret
      exact ⟨rfl, by repeat (first | (with_reducible first | exact HB.out | apply below_alloc | apply pw_below_drewN | apply below_drew1 | refine below_set ?_ GE28.out) | exact HB.out)⟩


end Go.Proofs.Ytlgkimmjoclaaaa.PLife
