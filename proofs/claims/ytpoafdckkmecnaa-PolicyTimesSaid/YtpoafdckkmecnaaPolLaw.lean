/- The walks of the laws of package policy: each law's call returns true in every world, out of the contracts of what it calls. Conditions: the numbers' bounds. -/
import Derived.Test.YtpoafdckkmecnaaPolPlain
import Derived.Deep.RegionHeld3
import Derived.Deep.RegionWith
import Derived.OpenShut
namespace Go.Proofs.Ytpoafdckkmecnaa.PPol
open Go.RowKit Go.Proofs.YtpoafdckkmecnaaW.PrintWords Go.Proofs.YtpoafdckkmecnaaW.PrintLast Go.Proofs.YtpoafdckkmecnaaW.PrintMore
set_option linter.unusedVariables false

theorem item_any (w : World) : Calls Try.prog 38 #[] w fun e w' => e = .returned (.agg #[.int .i64 1, .int .i64 2, .int .i64 10, .int .i64 30]) ∧ Below w.heap.size w w' := backhaullaw20_item.calls 1 2 10 30 w rfl

set_option maxHeartbeats 4000000 in
set_option maxRecDepth 100000 in
theorem awake_calls (w : World) : Calls Try.prog 21 #[] w fun e w' => e = .returned (.bool true) ∧ Below w.heap.size w w' := by
  have HB := Aside0.mk (Below.refl w.heap.size w)
  go_enter Try.func21, Try.ntmps21
  go_wp2_with (first
    | (go_at_call 38; refine (item_any _).mono ?_; rintro e w' ⟨rfl, hb⟩; have HB2 := Aside0.mk (below_step HB.out hb); clear HB hb; have HB := HB2; clear HB2)
    | (go_at_call 9; refine (policy_Until.calls 1 2 10 30 5 15 35 0 _ (by decide +kernel)).mono ?_; rintro e w' ⟨rfl, hb⟩; have HB2 := Aside0.mk (below_step HB.out hb); clear HB hb; have HB := HB2; clear HB2)
    | (go_at_call 11; (first | (with_reducible refine (policy_Pass.calls 1 5 7 12 0 _ (by decide +kernel)).mono ?_) | (with_reducible refine (policy_Pass.calls 1 1000000 1 0 39 _ (by decide +kernel)).mono ?_)); rintro e w' ⟨rfl, hb⟩; have HB2 := Aside0.mk (below_step HB.out hb); clear HB hb; have HB := HB2; clear HB2)
    | (go_at_call 17; (first | (with_reducible refine (policy_Open.calls 1 2 10 30 5 15 true _ (by decide +kernel)).mono ?_) | (with_reducible refine (policy_Open.calls 1 2 10 30 5 16 false _ (by decide +kernel)).mono ?_) | (with_reducible refine (policy_Open.calls 1 2 10 30 5 4 false _ (by decide +kernel)).mono ?_)); rintro e w' ⟨rfl, hb⟩; have HB2 := Aside0.mk (below_step HB.out hb); clear HB hb; have HB := HB2; clear HB2)
    | (go_at_call 19; (first | (with_reducible refine (policy_Covered.calls 1 2 10 30 5 35 true _ (by decide +kernel)).mono ?_) | (with_reducible refine (policy_Covered.calls 1 2 10 30 5 36 false _ (by decide +kernel)).mono ?_)); rintro e w' ⟨rfl, hb⟩; have HB2 := Aside0.mk (below_step HB.out hb); clear HB hb; have HB := HB2; clear HB2)
    | (go_at_call 13; refine (policy_Check.calls 1 2 10 30 0 _ (by decide +kernel)).mono ?_; rintro e w' ⟨rfl, hb⟩; have HB2 := Aside0.mk (below_step HB.out hb); clear HB hb; have HB := HB2; clear HB2)
    | (go_at_call 15; (first | (with_reducible refine (policy_Time.calls 0 true _ (by decide +kernel)).mono ?_) | (with_reducible refine (policy_Time.calls (-1) false _ (by decide +kernel)).mono ?_)); rintro e w' ⟨rfl, hb⟩; have HB2 := Aside0.mk (below_step HB.out hb); clear HB hb; have HB := HB2; clear HB2))
  go_ret
  exact ⟨rfl, HB.out⟩

theorem keep_box {w W W' : World} {p0 p1 p2 p3 : Addr} {c0 c1 c2 c3 : Value} (h : W.cell? p0 = some c0 ∧ W.cell? p1 = some c1 ∧ W.cell? p2 = some c2 ∧ W.cell? p3 = some c3 ∧ Below w.heap.size w W) (hb : Below W.heap.size W W') : W'.cell? p0 = some c0 ∧ W'.cell? p1 = some c1 ∧ W'.cell? p2 = some c2 ∧ W'.cell? p3 = some c3 ∧ Below w.heap.size w W' :=
  ⟨pw_cell_below hb h.1, pw_cell_below hb h.2.1, pw_cell_below hb h.2.2.1, pw_cell_below hb h.2.2.2.1, below_step h.2.2.2.2 hb⟩
theorem keep_box_drew {w W : World} {p0 p1 p2 p3 : Addr} {c0 c1 c2 c3 : Value} (h : W.cell? p0 = some c0 ∧ W.cell? p1 = some c1 ∧ W.cell? p2 = some c2 ∧ W.cell? p3 = some c3 ∧ Below w.heap.size w W) : W.drew.cell? p0 = some c0 ∧ W.drew.cell? p1 = some c1 ∧ W.drew.cell? p2 = some c2 ∧ W.drew.cell? p3 = some c3 ∧ Below w.heap.size w W.drew :=
  ⟨h.1, h.2.1, h.2.2.1, h.2.2.2.1, below_drew h.2.2.2.2⟩

set_option maxHeartbeats 8000000 in
set_option maxRecDepth 100000 in
theorem tells_calls (a b c d s n u1 u2 u3 p1 p2 ck : Int) (t o v : Bool) (w : World)
    (h1 : policy_Until.f a b c d s = some (u1, u2, u3))
    (h2 : backhaulref20_Until.f 1 a b c d s = some (u1, u2, u3))
    (h3 : policy_Pass.f 1 s n = some (p1, p2))
    (h4 : backhaulref20_Pass.f 1 s n = some (p1, p2))
    (h5 : policy_Check.f a b c d = some ck)
    (h6 : backhaulref20_Check.f a b c d = some ck)
    (h7 : policy_Time.f s = some t)
    (h8 : backhaulref20_Time.f s = some t)
    (h9 : policy_Open.f a b c d s n = some o)
    (h10 : backhaulref20_Open.f a b c d s n = some o)
    (h11 : policy_Covered.f a b c d s n = some v)
    (h12 : backhaulref20_Covered.f a b c d s n = some v)
    : Calls Try.prog 3 #[.agg #[.int .i64 a, .int .i64 b, .int .i64 c, .int .i64 d], .int .i64 s, .int .i64 n] w fun e w' => e = .returned (.bool true) ∧ Below w.heap.size w w' := by
  have hu23 := Try.underlying23
  have H1 := Aside0.mk h1
  have H2 := Aside0.mk h2
  have H3 := Aside0.mk h3
  have H4 := Aside0.mk h4
  have H5 := Aside0.mk h5
  have H6 := Aside0.mk h6
  have H7 := Aside0.mk h7
  have H8 := Aside0.mk h8
  have H9 := Aside0.mk h9
  have H10 := Aside0.mk h10
  have H11 := Aside0.mk h11
  have H12 := Aside0.mk h12
  clear h1 h2 h3 h4 h5 h6 h7 h8 h9 h10 h11 h12
  have HB := Aside0.mk (Below.refl w.heap.size w)
  go_enter Try.func3, Try.ntmps3
  go_wp2_with (first
    | ((with_reducible refine gate_dst (N := 3) rfl ?_); refine box_event ?hg (N := 3) ?hd (cs := #[.int .i64 a, .int .i64 b, .int .i64 c, .int .i64 d]) (t := 23) ?hr ?_; (case hd => rfl); (case hg => rfl); (case hr => first | (go_simp; done) | (go_simp; rfl)); intro gb3 hg w7 hbox hb; have n0_ := Aside0.mk (below_step HB.out hb); clear HB hb; have HB := n0_; clear n0_; have q0 := (blk_cell hbox 0).trans rfl; have q1 := (blk_cell hbox 1).trans rfl; have q2 := (blk_cell hbox 2).trans rfl; have q3 := (blk_cell hbox 3).trans rfl; simp at q0 q1 q2 q3; clear hbox hg)
    | (go_at_call 9; refine (policy_Until.calls a b c d s u1 u2 u3 _ H1.out).mono ?_; rintro e w' ⟨rfl, hb⟩; have z0 := pw_cell_below hb q0; have z1 := pw_cell_below hb q1; have z2 := pw_cell_below hb q2; have z3 := pw_cell_below hb q3; clear q0 q1 q2 q3; have HB2 := Aside0.mk (below_step HB.out hb); clear HB hb; have HB := HB2; clear HB2; have q0 := z0; have q1 := z1; have q2 := z2; have q3 := z3; clear z0 z1 z2 z3)
    | (go_at_call 10; refine (backhaulref20_Until.calls 1 a b c d s u1 u2 u3 _ H2.out).mono ?_; rintro e w' ⟨rfl, hb⟩; have z0 := pw_cell_below hb q0; have z1 := pw_cell_below hb q1; have z2 := pw_cell_below hb q2; have z3 := pw_cell_below hb q3; clear q0 q1 q2 q3; have HB2 := Aside0.mk (below_step HB.out hb); clear HB hb; have HB := HB2; clear HB2; have q0 := z0; have q1 := z1; have q2 := z2; have q3 := z3; clear z0 z1 z2 z3)
    | (go_at_call 11; refine (policy_Pass.calls 1 s n p1 p2 _ H3.out).mono ?_; rintro e w' ⟨rfl, hb⟩; have z0 := pw_cell_below hb q0; have z1 := pw_cell_below hb q1; have z2 := pw_cell_below hb q2; have z3 := pw_cell_below hb q3; clear q0 q1 q2 q3; have HB2 := Aside0.mk (below_step HB.out hb); clear HB hb; have HB := HB2; clear HB2; have q0 := z0; have q1 := z1; have q2 := z2; have q3 := z3; clear z0 z1 z2 z3)
    | (go_at_call 12; refine (backhaulref20_Pass.calls 1 s n p1 p2 _ H4.out).mono ?_; rintro e w' ⟨rfl, hb⟩; replace hb := hb.below; have z0 := pw_cell_below hb q0; have z1 := pw_cell_below hb q1; have z2 := pw_cell_below hb q2; have z3 := pw_cell_below hb q3; clear q0 q1 q2 q3; have HB2 := Aside0.mk (below_step HB.out hb); clear HB hb; have HB := HB2; clear HB2; have q0 := z0; have q1 := z1; have q2 := z2; have q3 := z3; clear z0 z1 z2 z3))
  have Q := keep_box_drew ⟨q0, q1, q2, q3, HB.out⟩
  clear q0 q1 q2 q3 HB
  go_region_held3 (fun W => W.cell? ⟨gb3, 0, none⟩ = some (.int .i64 a) ∧ W.cell? ⟨gb3, 1, none⟩ = some (.int .i64 b) ∧ W.cell? ⟨gb3, 2, none⟩ = some (.int .i64 c) ∧ W.cell? ⟨gb3, 3, none⟩ = some (.int .i64 d) ∧ Below w.heap.size w W)
    (first | exact Q | (exact keep_box (by assumption) (by assumption)))
    (first
    | (go_at_call 13; refine (policy_Check.calls a b c d ck _ H5.out).mono ?_; rintro e w' ⟨rfl, hb⟩)
    | (go_at_call 14; refine (backhaulref20_Check.calls a b c d ck _ H6.out).mono ?_; rintro e w' ⟨rfl, hb⟩)
    | (go_at_call 15; refine (policy_Time.calls s t _ H7.out).mono ?_; rintro e w' ⟨rfl, hb⟩)
    | (go_at_call 16; refine (backhaulref20_Time.calls s t _ H8.out).mono ?_; rintro e w' ⟨rfl, hb⟩; replace hb := hb.below)
    | (go_at_call 17; refine (policy_Open.calls a b c d s n o _ H9.out).mono ?_; rintro e w' ⟨rfl, hb⟩)
    | (go_at_call 18; refine (backhaulref20_Open.calls a b c d s n o _ H10.out).mono ?_; rintro e w' ⟨rfl, hb⟩)
    | (go_at_call 19; refine (policy_Covered.calls a b c d s n v _ H11.out).mono ?_; rintro e w' ⟨rfl, hb⟩)
    | (go_at_call 20; refine (backhaulref20_Covered.calls a b c d s n v _ H12.out).mono ?_; rintro e w' ⟨rfl, hb⟩)
    | (go_at_call 21; refine (awake_calls _).mono ?_; rintro e w' ⟨rfl, hb⟩))
  have HZ : Below w.heap.size w _ := And.right (And.right (And.right (And.right (by assumption))))
  replace HZ := Aside0.mk HZ
  go_wp2
  go_ret
  exact ⟨rfl, HZ.out⟩

set_option maxHeartbeats 8000000 in
set_option maxRecDepth 100000 in
theorem until_refused (a b c d s n : Int) (w : World)
    (h1 : policy_Until.f a b c d s = some (0, 0, 2))
    (h2 : policy_Open.f a b c d s n = some false)
    (h3 : policy_Covered.f a b c d s n = some false)
    : Calls Try.prog 5 #[.agg #[.int .i64 a, .int .i64 b, .int .i64 c, .int .i64 d], .int .i64 s, .int .i64 n] w fun e w' => e = .returned (.bool true) ∧ Below w.heap.size w w' := by
  have hu23 := Try.underlying23
  have H1 := Aside0.mk h1
  have H2 := Aside0.mk h2
  have H3 := Aside0.mk h3
  clear h1 h2 h3
  have HB := Aside0.mk (Below.refl w.heap.size w)
  go_enter Try.func5, Try.ntmps5
  go_wp2_with (first
    | ((with_reducible refine gate_dst (N := 3) rfl ?_); refine box_event ?hg (N := 3) ?hd (cs := #[.int .i64 a, .int .i64 b, .int .i64 c, .int .i64 d]) (t := 23) ?hr ?_; (case hd => rfl); (case hg => rfl); (case hr => first | (go_simp; done) | (go_simp; rfl)); intro gb3 hg w7 hbox hb; have n0_ := Aside0.mk (below_step HB.out hb); clear HB hb; have HB := n0_; clear n0_; have q0 := (blk_cell hbox 0).trans rfl; have q1 := (blk_cell hbox 1).trans rfl; have q2 := (blk_cell hbox 2).trans rfl; have q3 := (blk_cell hbox 3).trans rfl; simp at q0 q1 q2 q3; clear hbox hg)
    | (go_at_call 9; refine (policy_Until.calls a b c d s 0 0 2 _ H1.out).mono ?_; rintro e w' ⟨rfl, hb⟩; have z0 := pw_cell_below hb q0; have z1 := pw_cell_below hb q1; have z2 := pw_cell_below hb q2; have z3 := pw_cell_below hb q3; clear q0 q1 q2 q3; have HB2 := Aside0.mk (below_step HB.out hb); clear HB hb; have HB := HB2; clear HB2; have q0 := z0; have q1 := z1; have q2 := z2; have q3 := z3; clear z0 z1 z2 z3)
    | (go_at_call 17; refine (policy_Open.calls a b c d s n false _ H2.out).mono ?_; rintro e w' ⟨rfl, hb⟩; have z0 := pw_cell_below hb q0; have z1 := pw_cell_below hb q1; have z2 := pw_cell_below hb q2; have z3 := pw_cell_below hb q3; clear q0 q1 q2 q3; have HB2 := Aside0.mk (below_step HB.out hb); clear HB hb; have HB := HB2; clear HB2; have q0 := z0; have q1 := z1; have q2 := z2; have q3 := z3; clear z0 z1 z2 z3)
    | (go_at_call 19; refine (policy_Covered.calls a b c d s n false _ H3.out).mono ?_; rintro e w' ⟨rfl, hb⟩; have z0 := pw_cell_below hb q0; have z1 := pw_cell_below hb q1; have z2 := pw_cell_below hb q2; have z3 := pw_cell_below hb q3; clear q0 q1 q2 q3; have HB2 := Aside0.mk (below_step HB.out hb); clear HB hb; have HB := HB2; clear HB2; have q0 := z0; have q1 := z1; have q2 := z2; have q3 := z3; clear z0 z1 z2 z3)
    | (go_at_call 21; refine (awake_calls _).mono ?_; rintro e w' ⟨rfl, hb⟩; have z0 := pw_cell_below hb q0; have z1 := pw_cell_below hb q1; have z2 := pw_cell_below hb q2; have z3 := pw_cell_below hb q3; clear q0 q1 q2 q3; have HB2 := Aside0.mk (below_step HB.out hb); clear HB hb; have HB := HB2; clear HB2; have q0 := z0; have q1 := z1; have q2 := z2; have q3 := z3; clear z0 z1 z2 z3))
  go_ret
  refine ⟨?_, HB.out⟩
  first | rfl | (simp; omega)

set_option maxHeartbeats 8000000 in
set_option maxRecDepth 100000 in
theorem until_before (a b c d s n : Int) (x y : Int) (w : World)
    (h1 : policy_Until.f a b c d s = some (x, y, 0))
    (h2 : policy_Open.f a b c d s n = some false)
    (h3 : policy_Covered.f a b c d s n = some false)
    (g1 : n < s)
    : Calls Try.prog 5 #[.agg #[.int .i64 a, .int .i64 b, .int .i64 c, .int .i64 d], .int .i64 s, .int .i64 n] w fun e w' => e = .returned (.bool true) ∧ Below w.heap.size w w' := by
  have hu23 := Try.underlying23
  have H1 := Aside0.mk h1
  have H2 := Aside0.mk h2
  have H3 := Aside0.mk h3
  clear h1 h2 h3
  have HB := Aside0.mk (Below.refl w.heap.size w)
  go_enter Try.func5, Try.ntmps5
  go_wp2_with (first
    | ((with_reducible refine gate_dst (N := 3) rfl ?_); refine box_event ?hg (N := 3) ?hd (cs := #[.int .i64 a, .int .i64 b, .int .i64 c, .int .i64 d]) (t := 23) ?hr ?_; (case hd => rfl); (case hg => rfl); (case hr => first | (go_simp; done) | (go_simp; rfl)); intro gb3 hg w7 hbox hb; have n0_ := Aside0.mk (below_step HB.out hb); clear HB hb; have HB := n0_; clear n0_; have q0 := (blk_cell hbox 0).trans rfl; have q1 := (blk_cell hbox 1).trans rfl; have q2 := (blk_cell hbox 2).trans rfl; have q3 := (blk_cell hbox 3).trans rfl; simp at q0 q1 q2 q3; clear hbox hg)
    | (go_at_call 9; refine (policy_Until.calls a b c d s x y 0 _ H1.out).mono ?_; rintro e w' ⟨rfl, hb⟩; have z0 := pw_cell_below hb q0; have z1 := pw_cell_below hb q1; have z2 := pw_cell_below hb q2; have z3 := pw_cell_below hb q3; clear q0 q1 q2 q3; have HB2 := Aside0.mk (below_step HB.out hb); clear HB hb; have HB := HB2; clear HB2; have q0 := z0; have q1 := z1; have q2 := z2; have q3 := z3; clear z0 z1 z2 z3)
    | (go_at_call 17; refine (policy_Open.calls a b c d s n false _ H2.out).mono ?_; rintro e w' ⟨rfl, hb⟩; have z0 := pw_cell_below hb q0; have z1 := pw_cell_below hb q1; have z2 := pw_cell_below hb q2; have z3 := pw_cell_below hb q3; clear q0 q1 q2 q3; have HB2 := Aside0.mk (below_step HB.out hb); clear HB hb; have HB := HB2; clear HB2; have q0 := z0; have q1 := z1; have q2 := z2; have q3 := z3; clear z0 z1 z2 z3)
    | (go_at_call 19; refine (policy_Covered.calls a b c d s n false _ H3.out).mono ?_; rintro e w' ⟨rfl, hb⟩; have z0 := pw_cell_below hb q0; have z1 := pw_cell_below hb q1; have z2 := pw_cell_below hb q2; have z3 := pw_cell_below hb q3; clear q0 q1 q2 q3; have HB2 := Aside0.mk (below_step HB.out hb); clear HB hb; have HB := HB2; clear HB2; have q0 := z0; have q1 := z1; have q2 := z2; have q3 := z3; clear z0 z1 z2 z3)
    | (go_at_call 21; refine (awake_calls _).mono ?_; rintro e w' ⟨rfl, hb⟩; have z0 := pw_cell_below hb q0; have z1 := pw_cell_below hb q1; have z2 := pw_cell_below hb q2; have z3 := pw_cell_below hb q3; clear q0 q1 q2 q3; have HB2 := Aside0.mk (below_step HB.out hb); clear HB hb; have HB := HB2; clear HB2; have q0 := z0; have q1 := z1; have q2 := z2; have q3 := z3; clear z0 z1 z2 z3))
  go_ret
  refine ⟨?_, HB.out⟩
  first | rfl | (simp; omega)

set_option maxHeartbeats 8000000 in
set_option maxRecDepth 100000 in
theorem until_behind (a b c d s n : Int) (x y : Int) (w : World)
    (h1 : policy_Until.f a b c d s = some (x, y, 0))
    (h2 : policy_Open.f a b c d s n = some false)
    (h3 : policy_Covered.f a b c d s n = some false)
    (g1 : 1000000 < n)
    (g2 : s ≤ n)
    : Calls Try.prog 5 #[.agg #[.int .i64 a, .int .i64 b, .int .i64 c, .int .i64 d], .int .i64 s, .int .i64 n] w fun e w' => e = .returned (.bool true) ∧ Below w.heap.size w w' := by
  have hu23 := Try.underlying23
  have H1 := Aside0.mk h1
  have H2 := Aside0.mk h2
  have H3 := Aside0.mk h3
  clear h1 h2 h3
  have HB := Aside0.mk (Below.refl w.heap.size w)
  go_enter Try.func5, Try.ntmps5
  go_wp2_with (first
    | ((with_reducible refine gate_dst (N := 3) rfl ?_); refine box_event ?hg (N := 3) ?hd (cs := #[.int .i64 a, .int .i64 b, .int .i64 c, .int .i64 d]) (t := 23) ?hr ?_; (case hd => rfl); (case hg => rfl); (case hr => first | (go_simp; done) | (go_simp; rfl)); intro gb3 hg w7 hbox hb; have n0_ := Aside0.mk (below_step HB.out hb); clear HB hb; have HB := n0_; clear n0_; have q0 := (blk_cell hbox 0).trans rfl; have q1 := (blk_cell hbox 1).trans rfl; have q2 := (blk_cell hbox 2).trans rfl; have q3 := (blk_cell hbox 3).trans rfl; simp at q0 q1 q2 q3; clear hbox hg)
    | (go_at_call 9; refine (policy_Until.calls a b c d s x y 0 _ H1.out).mono ?_; rintro e w' ⟨rfl, hb⟩; have z0 := pw_cell_below hb q0; have z1 := pw_cell_below hb q1; have z2 := pw_cell_below hb q2; have z3 := pw_cell_below hb q3; clear q0 q1 q2 q3; have HB2 := Aside0.mk (below_step HB.out hb); clear HB hb; have HB := HB2; clear HB2; have q0 := z0; have q1 := z1; have q2 := z2; have q3 := z3; clear z0 z1 z2 z3)
    | (go_at_call 17; refine (policy_Open.calls a b c d s n false _ H2.out).mono ?_; rintro e w' ⟨rfl, hb⟩; have z0 := pw_cell_below hb q0; have z1 := pw_cell_below hb q1; have z2 := pw_cell_below hb q2; have z3 := pw_cell_below hb q3; clear q0 q1 q2 q3; have HB2 := Aside0.mk (below_step HB.out hb); clear HB hb; have HB := HB2; clear HB2; have q0 := z0; have q1 := z1; have q2 := z2; have q3 := z3; clear z0 z1 z2 z3)
    | (go_at_call 19; refine (policy_Covered.calls a b c d s n false _ H3.out).mono ?_; rintro e w' ⟨rfl, hb⟩; have z0 := pw_cell_below hb q0; have z1 := pw_cell_below hb q1; have z2 := pw_cell_below hb q2; have z3 := pw_cell_below hb q3; clear q0 q1 q2 q3; have HB2 := Aside0.mk (below_step HB.out hb); clear HB hb; have HB := HB2; clear HB2; have q0 := z0; have q1 := z1; have q2 := z2; have q3 := z3; clear z0 z1 z2 z3)
    | (go_at_call 21; refine (awake_calls _).mono ?_; rintro e w' ⟨rfl, hb⟩; have z0 := pw_cell_below hb q0; have z1 := pw_cell_below hb q1; have z2 := pw_cell_below hb q2; have z3 := pw_cell_below hb q3; clear q0 q1 q2 q3; have HB2 := Aside0.mk (below_step HB.out hb); clear HB hb; have HB := HB2; clear HB2; have q0 := z0; have q1 := z1; have q2 := z2; have q3 := z3; clear z0 z1 z2 z3))
  go_ret
  refine ⟨?_, HB.out⟩
  first | rfl | (simp; omega)

set_option maxHeartbeats 8000000 in
set_option maxRecDepth 100000 in
theorem until_true_true (a b c d s n : Int) (x y : Int) (w : World)
    (h1 : policy_Until.f a b c d s = some (x, y, 0))
    (h2 : policy_Open.f a b c d s n = some true)
    (h3 : policy_Covered.f a b c d s n = some true)
    (g1 : s ≤ n)
    (g2 : n ≤ 1000000)
    (g3 : n ≤ x)
    (g4 : n ≤ y)
    (g5 : s ≤ x)
    (g6 : s ≤ y)
    : Calls Try.prog 5 #[.agg #[.int .i64 a, .int .i64 b, .int .i64 c, .int .i64 d], .int .i64 s, .int .i64 n] w fun e w' => e = .returned (.bool true) ∧ Below w.heap.size w w' := by
  have hu23 := Try.underlying23
  have H1 := Aside0.mk h1
  have H2 := Aside0.mk h2
  have H3 := Aside0.mk h3
  clear h1 h2 h3
  have HB := Aside0.mk (Below.refl w.heap.size w)
  go_enter Try.func5, Try.ntmps5
  go_wp2_with (first
    | ((with_reducible refine gate_dst (N := 3) rfl ?_); refine box_event ?hg (N := 3) ?hd (cs := #[.int .i64 a, .int .i64 b, .int .i64 c, .int .i64 d]) (t := 23) ?hr ?_; (case hd => rfl); (case hg => rfl); (case hr => first | (go_simp; done) | (go_simp; rfl)); intro gb3 hg w7 hbox hb; have n0_ := Aside0.mk (below_step HB.out hb); clear HB hb; have HB := n0_; clear n0_; have q0 := (blk_cell hbox 0).trans rfl; have q1 := (blk_cell hbox 1).trans rfl; have q2 := (blk_cell hbox 2).trans rfl; have q3 := (blk_cell hbox 3).trans rfl; simp at q0 q1 q2 q3; clear hbox hg)
    | (go_at_call 9; refine (policy_Until.calls a b c d s x y 0 _ H1.out).mono ?_; rintro e w' ⟨rfl, hb⟩; have z0 := pw_cell_below hb q0; have z1 := pw_cell_below hb q1; have z2 := pw_cell_below hb q2; have z3 := pw_cell_below hb q3; clear q0 q1 q2 q3; have HB2 := Aside0.mk (below_step HB.out hb); clear HB hb; have HB := HB2; clear HB2; have q0 := z0; have q1 := z1; have q2 := z2; have q3 := z3; clear z0 z1 z2 z3)
    | (go_at_call 17; refine (policy_Open.calls a b c d s n true _ H2.out).mono ?_; rintro e w' ⟨rfl, hb⟩; have z0 := pw_cell_below hb q0; have z1 := pw_cell_below hb q1; have z2 := pw_cell_below hb q2; have z3 := pw_cell_below hb q3; clear q0 q1 q2 q3; have HB2 := Aside0.mk (below_step HB.out hb); clear HB hb; have HB := HB2; clear HB2; have q0 := z0; have q1 := z1; have q2 := z2; have q3 := z3; clear z0 z1 z2 z3)
    | (go_at_call 19; refine (policy_Covered.calls a b c d s n true _ H3.out).mono ?_; rintro e w' ⟨rfl, hb⟩; have z0 := pw_cell_below hb q0; have z1 := pw_cell_below hb q1; have z2 := pw_cell_below hb q2; have z3 := pw_cell_below hb q3; clear q0 q1 q2 q3; have HB2 := Aside0.mk (below_step HB.out hb); clear HB hb; have HB := HB2; clear HB2; have q0 := z0; have q1 := z1; have q2 := z2; have q3 := z3; clear z0 z1 z2 z3)
    | (go_at_call 21; refine (awake_calls _).mono ?_; rintro e w' ⟨rfl, hb⟩; have z0 := pw_cell_below hb q0; have z1 := pw_cell_below hb q1; have z2 := pw_cell_below hb q2; have z3 := pw_cell_below hb q3; clear q0 q1 q2 q3; have HB2 := Aside0.mk (below_step HB.out hb); clear HB hb; have HB := HB2; clear HB2; have q0 := z0; have q1 := z1; have q2 := z2; have q3 := z3; clear z0 z1 z2 z3))
  go_ret
  refine ⟨?_, HB.out⟩
  first | rfl | (simp; omega)

set_option maxHeartbeats 8000000 in
set_option maxRecDepth 100000 in
theorem until_true_false (a b c d s n : Int) (x y : Int) (w : World)
    (h1 : policy_Until.f a b c d s = some (x, y, 0))
    (h2 : policy_Open.f a b c d s n = some true)
    (h3 : policy_Covered.f a b c d s n = some false)
    (g1 : s ≤ n)
    (g2 : n ≤ 1000000)
    (g3 : n ≤ x)
    (g4 : y < n)
    (g5 : s ≤ x)
    (g6 : s ≤ y)
    : Calls Try.prog 5 #[.agg #[.int .i64 a, .int .i64 b, .int .i64 c, .int .i64 d], .int .i64 s, .int .i64 n] w fun e w' => e = .returned (.bool true) ∧ Below w.heap.size w w' := by
  have hu23 := Try.underlying23
  have H1 := Aside0.mk h1
  have H2 := Aside0.mk h2
  have H3 := Aside0.mk h3
  clear h1 h2 h3
  have HB := Aside0.mk (Below.refl w.heap.size w)
  go_enter Try.func5, Try.ntmps5
  go_wp2_with (first
    | ((with_reducible refine gate_dst (N := 3) rfl ?_); refine box_event ?hg (N := 3) ?hd (cs := #[.int .i64 a, .int .i64 b, .int .i64 c, .int .i64 d]) (t := 23) ?hr ?_; (case hd => rfl); (case hg => rfl); (case hr => first | (go_simp; done) | (go_simp; rfl)); intro gb3 hg w7 hbox hb; have n0_ := Aside0.mk (below_step HB.out hb); clear HB hb; have HB := n0_; clear n0_; have q0 := (blk_cell hbox 0).trans rfl; have q1 := (blk_cell hbox 1).trans rfl; have q2 := (blk_cell hbox 2).trans rfl; have q3 := (blk_cell hbox 3).trans rfl; simp at q0 q1 q2 q3; clear hbox hg)
    | (go_at_call 9; refine (policy_Until.calls a b c d s x y 0 _ H1.out).mono ?_; rintro e w' ⟨rfl, hb⟩; have z0 := pw_cell_below hb q0; have z1 := pw_cell_below hb q1; have z2 := pw_cell_below hb q2; have z3 := pw_cell_below hb q3; clear q0 q1 q2 q3; have HB2 := Aside0.mk (below_step HB.out hb); clear HB hb; have HB := HB2; clear HB2; have q0 := z0; have q1 := z1; have q2 := z2; have q3 := z3; clear z0 z1 z2 z3)
    | (go_at_call 17; refine (policy_Open.calls a b c d s n true _ H2.out).mono ?_; rintro e w' ⟨rfl, hb⟩; have z0 := pw_cell_below hb q0; have z1 := pw_cell_below hb q1; have z2 := pw_cell_below hb q2; have z3 := pw_cell_below hb q3; clear q0 q1 q2 q3; have HB2 := Aside0.mk (below_step HB.out hb); clear HB hb; have HB := HB2; clear HB2; have q0 := z0; have q1 := z1; have q2 := z2; have q3 := z3; clear z0 z1 z2 z3)
    | (go_at_call 19; refine (policy_Covered.calls a b c d s n false _ H3.out).mono ?_; rintro e w' ⟨rfl, hb⟩; have z0 := pw_cell_below hb q0; have z1 := pw_cell_below hb q1; have z2 := pw_cell_below hb q2; have z3 := pw_cell_below hb q3; clear q0 q1 q2 q3; have HB2 := Aside0.mk (below_step HB.out hb); clear HB hb; have HB := HB2; clear HB2; have q0 := z0; have q1 := z1; have q2 := z2; have q3 := z3; clear z0 z1 z2 z3)
    | (go_at_call 21; refine (awake_calls _).mono ?_; rintro e w' ⟨rfl, hb⟩; have z0 := pw_cell_below hb q0; have z1 := pw_cell_below hb q1; have z2 := pw_cell_below hb q2; have z3 := pw_cell_below hb q3; clear q0 q1 q2 q3; have HB2 := Aside0.mk (below_step HB.out hb); clear HB hb; have HB := HB2; clear HB2; have q0 := z0; have q1 := z1; have q2 := z2; have q3 := z3; clear z0 z1 z2 z3))
  go_ret
  refine ⟨?_, HB.out⟩
  first | rfl | (simp; omega)

set_option maxHeartbeats 8000000 in
set_option maxRecDepth 100000 in
theorem until_false_true (a b c d s n : Int) (x y : Int) (w : World)
    (h1 : policy_Until.f a b c d s = some (x, y, 0))
    (h2 : policy_Open.f a b c d s n = some false)
    (h3 : policy_Covered.f a b c d s n = some true)
    (g1 : s ≤ n)
    (g2 : n ≤ 1000000)
    (g3 : x < n)
    (g4 : n ≤ y)
    (g5 : s ≤ x)
    (g6 : s ≤ y)
    : Calls Try.prog 5 #[.agg #[.int .i64 a, .int .i64 b, .int .i64 c, .int .i64 d], .int .i64 s, .int .i64 n] w fun e w' => e = .returned (.bool true) ∧ Below w.heap.size w w' := by
  have hu23 := Try.underlying23
  have H1 := Aside0.mk h1
  have H2 := Aside0.mk h2
  have H3 := Aside0.mk h3
  clear h1 h2 h3
  have HB := Aside0.mk (Below.refl w.heap.size w)
  go_enter Try.func5, Try.ntmps5
  go_wp2_with (first
    | ((with_reducible refine gate_dst (N := 3) rfl ?_); refine box_event ?hg (N := 3) ?hd (cs := #[.int .i64 a, .int .i64 b, .int .i64 c, .int .i64 d]) (t := 23) ?hr ?_; (case hd => rfl); (case hg => rfl); (case hr => first | (go_simp; done) | (go_simp; rfl)); intro gb3 hg w7 hbox hb; have n0_ := Aside0.mk (below_step HB.out hb); clear HB hb; have HB := n0_; clear n0_; have q0 := (blk_cell hbox 0).trans rfl; have q1 := (blk_cell hbox 1).trans rfl; have q2 := (blk_cell hbox 2).trans rfl; have q3 := (blk_cell hbox 3).trans rfl; simp at q0 q1 q2 q3; clear hbox hg)
    | (go_at_call 9; refine (policy_Until.calls a b c d s x y 0 _ H1.out).mono ?_; rintro e w' ⟨rfl, hb⟩; have z0 := pw_cell_below hb q0; have z1 := pw_cell_below hb q1; have z2 := pw_cell_below hb q2; have z3 := pw_cell_below hb q3; clear q0 q1 q2 q3; have HB2 := Aside0.mk (below_step HB.out hb); clear HB hb; have HB := HB2; clear HB2; have q0 := z0; have q1 := z1; have q2 := z2; have q3 := z3; clear z0 z1 z2 z3)
    | (go_at_call 17; refine (policy_Open.calls a b c d s n false _ H2.out).mono ?_; rintro e w' ⟨rfl, hb⟩; have z0 := pw_cell_below hb q0; have z1 := pw_cell_below hb q1; have z2 := pw_cell_below hb q2; have z3 := pw_cell_below hb q3; clear q0 q1 q2 q3; have HB2 := Aside0.mk (below_step HB.out hb); clear HB hb; have HB := HB2; clear HB2; have q0 := z0; have q1 := z1; have q2 := z2; have q3 := z3; clear z0 z1 z2 z3)
    | (go_at_call 19; refine (policy_Covered.calls a b c d s n true _ H3.out).mono ?_; rintro e w' ⟨rfl, hb⟩; have z0 := pw_cell_below hb q0; have z1 := pw_cell_below hb q1; have z2 := pw_cell_below hb q2; have z3 := pw_cell_below hb q3; clear q0 q1 q2 q3; have HB2 := Aside0.mk (below_step HB.out hb); clear HB hb; have HB := HB2; clear HB2; have q0 := z0; have q1 := z1; have q2 := z2; have q3 := z3; clear z0 z1 z2 z3)
    | (go_at_call 21; refine (awake_calls _).mono ?_; rintro e w' ⟨rfl, hb⟩; have z0 := pw_cell_below hb q0; have z1 := pw_cell_below hb q1; have z2 := pw_cell_below hb q2; have z3 := pw_cell_below hb q3; clear q0 q1 q2 q3; have HB2 := Aside0.mk (below_step HB.out hb); clear HB hb; have HB := HB2; clear HB2; have q0 := z0; have q1 := z1; have q2 := z2; have q3 := z3; clear z0 z1 z2 z3))
  go_ret
  refine ⟨?_, HB.out⟩
  first | rfl | (simp; omega)

set_option maxHeartbeats 8000000 in
set_option maxRecDepth 100000 in
theorem until_false_false (a b c d s n : Int) (x y : Int) (w : World)
    (h1 : policy_Until.f a b c d s = some (x, y, 0))
    (h2 : policy_Open.f a b c d s n = some false)
    (h3 : policy_Covered.f a b c d s n = some false)
    (g1 : s ≤ n)
    (g2 : n ≤ 1000000)
    (g3 : x < n)
    (g4 : y < n)
    (g5 : s ≤ x)
    (g6 : s ≤ y)
    : Calls Try.prog 5 #[.agg #[.int .i64 a, .int .i64 b, .int .i64 c, .int .i64 d], .int .i64 s, .int .i64 n] w fun e w' => e = .returned (.bool true) ∧ Below w.heap.size w w' := by
  have hu23 := Try.underlying23
  have H1 := Aside0.mk h1
  have H2 := Aside0.mk h2
  have H3 := Aside0.mk h3
  clear h1 h2 h3
  have HB := Aside0.mk (Below.refl w.heap.size w)
  go_enter Try.func5, Try.ntmps5
  go_wp2_with (first
    | ((with_reducible refine gate_dst (N := 3) rfl ?_); refine box_event ?hg (N := 3) ?hd (cs := #[.int .i64 a, .int .i64 b, .int .i64 c, .int .i64 d]) (t := 23) ?hr ?_; (case hd => rfl); (case hg => rfl); (case hr => first | (go_simp; done) | (go_simp; rfl)); intro gb3 hg w7 hbox hb; have n0_ := Aside0.mk (below_step HB.out hb); clear HB hb; have HB := n0_; clear n0_; have q0 := (blk_cell hbox 0).trans rfl; have q1 := (blk_cell hbox 1).trans rfl; have q2 := (blk_cell hbox 2).trans rfl; have q3 := (blk_cell hbox 3).trans rfl; simp at q0 q1 q2 q3; clear hbox hg)
    | (go_at_call 9; refine (policy_Until.calls a b c d s x y 0 _ H1.out).mono ?_; rintro e w' ⟨rfl, hb⟩; have z0 := pw_cell_below hb q0; have z1 := pw_cell_below hb q1; have z2 := pw_cell_below hb q2; have z3 := pw_cell_below hb q3; clear q0 q1 q2 q3; have HB2 := Aside0.mk (below_step HB.out hb); clear HB hb; have HB := HB2; clear HB2; have q0 := z0; have q1 := z1; have q2 := z2; have q3 := z3; clear z0 z1 z2 z3)
    | (go_at_call 17; refine (policy_Open.calls a b c d s n false _ H2.out).mono ?_; rintro e w' ⟨rfl, hb⟩; have z0 := pw_cell_below hb q0; have z1 := pw_cell_below hb q1; have z2 := pw_cell_below hb q2; have z3 := pw_cell_below hb q3; clear q0 q1 q2 q3; have HB2 := Aside0.mk (below_step HB.out hb); clear HB hb; have HB := HB2; clear HB2; have q0 := z0; have q1 := z1; have q2 := z2; have q3 := z3; clear z0 z1 z2 z3)
    | (go_at_call 19; refine (policy_Covered.calls a b c d s n false _ H3.out).mono ?_; rintro e w' ⟨rfl, hb⟩; have z0 := pw_cell_below hb q0; have z1 := pw_cell_below hb q1; have z2 := pw_cell_below hb q2; have z3 := pw_cell_below hb q3; clear q0 q1 q2 q3; have HB2 := Aside0.mk (below_step HB.out hb); clear HB hb; have HB := HB2; clear HB2; have q0 := z0; have q1 := z1; have q2 := z2; have q3 := z3; clear z0 z1 z2 z3)
    | (go_at_call 21; refine (awake_calls _).mono ?_; rintro e w' ⟨rfl, hb⟩; have z0 := pw_cell_below hb q0; have z1 := pw_cell_below hb q1; have z2 := pw_cell_below hb q2; have z3 := pw_cell_below hb q3; clear q0 q1 q2 q3; have HB2 := Aside0.mk (below_step HB.out hb); clear HB hb; have HB := HB2; clear HB2; have q0 := z0; have q1 := z1; have q2 := z2; have q3 := z3; clear z0 z1 z2 z3))
  go_ret
  refine ⟨?_, HB.out⟩
  first | rfl | (simp; omega)

theorem gen_world {P : Program} {c : Code} {Q : Exit → Act → World → Prop} {a : Act} {X : World} (F : World → Prop) (hX : F X) (h : ∀ W, F W → Code.wp P c Q a W) : Code.wp P c Q a X := h X hX
theorem cell_alloc {w : World} (o : Obj) {a : Addr} {v : Value} (h : w.cell? a = some v) : (w.alloc o).cell? a = some v := (World.cell?_alloc_lt w o a (World.block_lt_of_cell? w a h)).trans h

set_option maxHeartbeats 8000000 in
set_option maxRecDepth 100000 in
theorem times_1_false_lt (a b c d s n m : Int) (w : World)
    (h1 : policy_Open.f a b c d s m = some false)
    (h2 : policy_Open.f a b c d s n = some false)
    (g3 : c < 1000000)
    (g4 : -9223372036854775808 ≤ c)
    : Calls Try.prog 4 #[.agg #[.int .i64 a, .int .i64 b, .int .i64 c, .int .i64 d], .int .i64 s, .agg #[.int .i64 n, .int .i64 m]] w fun e w' => e = .returned (.bool true) ∧ Below w.heap.size w w' := by
  have hu23 := Try.underlying23
  have hu38 := Try.underlying38
  have H1 := Aside0.mk h1
  have H2 := Aside0.mk h2
  clear h1 h2
  have HB := Aside0.mk (Below.refl w.heap.size w)
  go_enter Try.func4, Try.ntmps4
  go_upto_region 4 with (first
    | ((with_reducible refine gate_dst (N := 3) rfl ?_); refine box_event ?hg (N := 3) ?hd (cs := #[.int .i64 a, .int .i64 b, .int .i64 c, .int .i64 d]) (t := 23) ?hr ?_; (case hd => rfl); (case hg => rfl); (case hr => first | (go_simp; done) | (go_simp; rfl)); intro gb3 hg w7 hbox hb; have n0_ := Aside0.mk (below_step HB.out hb); clear HB hb; have HB := n0_; clear n0_; have q0 := (blk_cell hbox 0).trans rfl; have q1 := (blk_cell hbox 1).trans rfl; have q2 := (blk_cell hbox 2).trans rfl; have q3 := (blk_cell hbox 3).trans rfl; simp at q0 q1 q2 q3; clear hbox hg)
    | ((with_reducible refine gate_dst (N := 5) rfl ?_); refine box_event ?hg (N := 5) ?hd (cs := #[.int .i64 n, .int .i64 m]) (t := 38) ?hr ?_; (case hd => rfl); (case hg => rfl); (case hr => first | (go_simp; done) | (go_simp; rfl)); intro gb5 hg w7 hbox hb; have z0 := pw_cell_below hb q0; have z1 := pw_cell_below hb q1; have z2 := pw_cell_below hb q2; have z3 := pw_cell_below hb q3; clear q0 q1 q2 q3; have n0_ := Aside0.mk (below_step HB.out hb); clear HB hb; have HB := n0_; clear n0_; have q0 := z0; have q1 := z1; have q2 := z2; have q3 := z3; clear z0 z1 z2 z3; have q4 := (blk_cell hbox 0).trans rfl; have q5 := (blk_cell hbox 1).trans rfl; simp at q4 q5; clear hbox hg)
    | (go_at_call 17; (first | (with_reducible refine (policy_Open.calls a b c d s m false _ H1.out).mono ?_) | (with_reducible refine (policy_Open.calls a b c d s n false _ H2.out).mono ?_)); rintro e w' ⟨rfl, hb⟩; have z0 := pw_cell_below hb q0; have z1 := pw_cell_below hb q1; have z2 := pw_cell_below hb q2; have z3 := pw_cell_below hb q3; have z4 := pw_cell_below hb q4; have z5 := pw_cell_below hb q5; clear q0 q1 q2 q3 q4 q5; have HB2 := Aside0.mk (below_step HB.out hb); clear HB hb; have HB := HB2; clear HB2; have q0 := z0; have q1 := z1; have q2 := z2; have q3 := z3; have q4 := z4; have q5 := z5; clear z0 z1 z2 z3 z4 z5))
  have ne3 : gb3 ≠ w'.heap.size := (World.new_ne w' _ q0).symm
  have ne5 : gb5 ≠ w'.heap.size := (World.new_ne w' _ q4).symm
  have ge7 : w.heap.size ≤ w'.heap.size := HB.out.size
  refine gen_world (fun W => W.cell? ⟨gb3, 0, none⟩ = some (.int .i64 a) ∧ W.cell? ⟨gb3, 1, none⟩ = some (.int .i64 b) ∧ W.cell? ⟨gb3, 2, none⟩ = some (.int .i64 c) ∧ W.cell? ⟨gb3, 3, none⟩ = some (.int .i64 d) ∧ W.cell? ⟨gb5, 0, none⟩ = some (.int .i64 n) ∧ W.cell? ⟨gb5, 1, none⟩ = some (.int .i64 m) ∧ W.cell? ⟨w'.heap.size, 0, none⟩ = some (.int .i64 (a)) ∧ W.cell? ⟨w'.heap.size, 1, none⟩ = some (.int .i64 (b)) ∧ W.cell? ⟨w'.heap.size, 2, none⟩ = some (.int .i64 (c)) ∧ W.cell? ⟨w'.heap.size, 3, none⟩ = some (.int .i64 (d)) ∧ W.frozen? ⟨w'.heap.size, 2, none⟩ = false ∧ Below w.heap.size w W) ?_ ?_
  · exact ⟨cell_alloc _ q0, cell_alloc _ q1, cell_alloc _ q2, cell_alloc _ q3, cell_alloc _ q4, cell_alloc _ q5, by simp, by simp, by simp, by simp, by simp, below_alloc HB.out _⟩
  generalize w'.heap.size = gb7 at *
  have NE3 := Aside0.mk ne3
  have NE5 := Aside0.mk ne5
  have GE7 := Aside0.mk ge7
  clear q0 q1 q2 q3 q4 q5 ne3 ne5 ge7 HB
  rintro W ⟨q0, q1, q2, q3, q4, q5, q6, q7, q8, q9, hf, hw⟩
  have HB := Aside0.mk hw
  clear hw
  go_upto_region 6 with (fail)
  refine gen_world (fun W => W.cell? ⟨gb3, 0, none⟩ = some (.int .i64 a) ∧ W.cell? ⟨gb3, 1, none⟩ = some (.int .i64 b) ∧ W.cell? ⟨gb3, 2, none⟩ = some (.int .i64 c) ∧ W.cell? ⟨gb3, 3, none⟩ = some (.int .i64 d) ∧ W.cell? ⟨gb5, 0, none⟩ = some (.int .i64 n) ∧ W.cell? ⟨gb5, 1, none⟩ = some (.int .i64 m) ∧ W.cell? ⟨gb7, 0, none⟩ = some (.int .i64 (a)) ∧ W.cell? ⟨gb7, 1, none⟩ = some (.int .i64 (b)) ∧ W.cell? ⟨gb7, 2, none⟩ = some (.int .i64 (c + 1)) ∧ W.cell? ⟨gb7, 3, none⟩ = some (.int .i64 (d)) ∧ Below w.heap.size w W) ?_ ?_
  · have n3 := NE3.out
    have n5 := NE5.out
    refine ⟨(World.cell?_setCell_far _ _ _ _ (Ne.symm n3)).trans q0, (World.cell?_setCell_far _ _ _ _ (Ne.symm n3)).trans q1, (World.cell?_setCell_far _ _ _ _ (Ne.symm n3)).trans q2, (World.cell?_setCell_far _ _ _ _ (Ne.symm n3)).trans q3, (World.cell?_setCell_far _ _ _ _ (Ne.symm n5)).trans q4, (World.cell?_setCell_far _ _ _ _ (Ne.symm n5)).trans q5, (World.cell?_setCell_other _ _ _ _ (by simp)).trans q6, (World.cell?_setCell_other _ _ _ _ (by simp)).trans q7, World.cell?_setCell_same _ _ _ q8, (World.cell?_setCell_other _ _ _ _ (by simp)).trans q9, Below.setCell HB.out GE7.out _⟩
  clear q0 q1 q2 q3 q4 q5 q6 q7 q8 q9 HB
  rintro W ⟨q0, q1, q2, q3, q4, q5, q6, q7, q8, q9, hw⟩
  have HB := Aside0.mk hw
  clear hw
  go_wp2_with (first
    | (go_at_call 17; refine (policy_Open.calls a b c d s n false _ H2.out).mono ?_; rintro e w' ⟨rfl, hb⟩; have z0 := pw_cell_below hb q0; have z1 := pw_cell_below hb q1; have z2 := pw_cell_below hb q2; have z3 := pw_cell_below hb q3; have z4 := pw_cell_below hb q4; have z5 := pw_cell_below hb q5; have z6 := pw_cell_below hb q6; have z7 := pw_cell_below hb q7; have z8 := pw_cell_below hb q8; have z9 := pw_cell_below hb q9; clear q0 q1 q2 q3 q4 q5 q6 q7 q8 q9; have HB2 := Aside0.mk (below_step HB.out hb); clear HB hb; have HB := HB2; clear HB2; have q0 := z0; have q1 := z1; have q2 := z2; have q3 := z3; have q4 := z4; have q5 := z5; have q6 := z6; have q7 := z7; have q8 := z8; have q9 := z9; clear z0 z1 z2 z3 z4 z5 z6 z7 z8 z9)
    | (go_at_call 21; refine (awake_calls _).mono ?_; rintro e w' ⟨rfl, hb⟩; have z0 := pw_cell_below hb q0; have z1 := pw_cell_below hb q1; have z2 := pw_cell_below hb q2; have z3 := pw_cell_below hb q3; have z4 := pw_cell_below hb q4; have z5 := pw_cell_below hb q5; have z6 := pw_cell_below hb q6; have z7 := pw_cell_below hb q7; have z8 := pw_cell_below hb q8; have z9 := pw_cell_below hb q9; clear q0 q1 q2 q3 q4 q5 q6 q7 q8 q9; have HB2 := Aside0.mk (below_step HB.out hb); clear HB hb; have HB := HB2; clear HB2; have q0 := z0; have q1 := z1; have q2 := z2; have q3 := z3; have q4 := z4; have q5 := z5; have q6 := z6; have q7 := z7; have q8 := z8; have q9 := z9; clear z0 z1 z2 z3 z4 z5 z6 z7 z8 z9))
  go_ret
  refine ⟨?_, HB.out⟩
  first | rfl | (simp; omega)

set_option maxHeartbeats 8000000 in
set_option maxRecDepth 100000 in
theorem times_1_false_ge (a b c d s n m : Int) (w : World)
    (h1 : policy_Open.f a b c d s m = some false)
    (h2 : policy_Open.f a b c d s n = some false)
    (g3 : 1000000 ≤ c)
    (g4 : -9223372036854775808 ≤ c)
    : Calls Try.prog 4 #[.agg #[.int .i64 a, .int .i64 b, .int .i64 c, .int .i64 d], .int .i64 s, .agg #[.int .i64 n, .int .i64 m]] w fun e w' => e = .returned (.bool true) ∧ Below w.heap.size w w' := by
  have hu23 := Try.underlying23
  have hu38 := Try.underlying38
  have H1 := Aside0.mk h1
  have H2 := Aside0.mk h2
  clear h1 h2
  have HB := Aside0.mk (Below.refl w.heap.size w)
  go_enter Try.func4, Try.ntmps4
  go_upto_region 4 with (first
    | ((with_reducible refine gate_dst (N := 3) rfl ?_); refine box_event ?hg (N := 3) ?hd (cs := #[.int .i64 a, .int .i64 b, .int .i64 c, .int .i64 d]) (t := 23) ?hr ?_; (case hd => rfl); (case hg => rfl); (case hr => first | (go_simp; done) | (go_simp; rfl)); intro gb3 hg w7 hbox hb; have n0_ := Aside0.mk (below_step HB.out hb); clear HB hb; have HB := n0_; clear n0_; have q0 := (blk_cell hbox 0).trans rfl; have q1 := (blk_cell hbox 1).trans rfl; have q2 := (blk_cell hbox 2).trans rfl; have q3 := (blk_cell hbox 3).trans rfl; simp at q0 q1 q2 q3; clear hbox hg)
    | ((with_reducible refine gate_dst (N := 5) rfl ?_); refine box_event ?hg (N := 5) ?hd (cs := #[.int .i64 n, .int .i64 m]) (t := 38) ?hr ?_; (case hd => rfl); (case hg => rfl); (case hr => first | (go_simp; done) | (go_simp; rfl)); intro gb5 hg w7 hbox hb; have z0 := pw_cell_below hb q0; have z1 := pw_cell_below hb q1; have z2 := pw_cell_below hb q2; have z3 := pw_cell_below hb q3; clear q0 q1 q2 q3; have n0_ := Aside0.mk (below_step HB.out hb); clear HB hb; have HB := n0_; clear n0_; have q0 := z0; have q1 := z1; have q2 := z2; have q3 := z3; clear z0 z1 z2 z3; have q4 := (blk_cell hbox 0).trans rfl; have q5 := (blk_cell hbox 1).trans rfl; simp at q4 q5; clear hbox hg)
    | (go_at_call 17; (first | (with_reducible refine (policy_Open.calls a b c d s m false _ H1.out).mono ?_) | (with_reducible refine (policy_Open.calls a b c d s n false _ H2.out).mono ?_)); rintro e w' ⟨rfl, hb⟩; have z0 := pw_cell_below hb q0; have z1 := pw_cell_below hb q1; have z2 := pw_cell_below hb q2; have z3 := pw_cell_below hb q3; have z4 := pw_cell_below hb q4; have z5 := pw_cell_below hb q5; clear q0 q1 q2 q3 q4 q5; have HB2 := Aside0.mk (below_step HB.out hb); clear HB hb; have HB := HB2; clear HB2; have q0 := z0; have q1 := z1; have q2 := z2; have q3 := z3; have q4 := z4; have q5 := z5; clear z0 z1 z2 z3 z4 z5))
  have ne3 : gb3 ≠ w'.heap.size := (World.new_ne w' _ q0).symm
  have ne5 : gb5 ≠ w'.heap.size := (World.new_ne w' _ q4).symm
  have ge7 : w.heap.size ≤ w'.heap.size := HB.out.size
  refine gen_world (fun W => W.cell? ⟨gb3, 0, none⟩ = some (.int .i64 a) ∧ W.cell? ⟨gb3, 1, none⟩ = some (.int .i64 b) ∧ W.cell? ⟨gb3, 2, none⟩ = some (.int .i64 c) ∧ W.cell? ⟨gb3, 3, none⟩ = some (.int .i64 d) ∧ W.cell? ⟨gb5, 0, none⟩ = some (.int .i64 n) ∧ W.cell? ⟨gb5, 1, none⟩ = some (.int .i64 m) ∧ W.cell? ⟨w'.heap.size, 0, none⟩ = some (.int .i64 (a)) ∧ W.cell? ⟨w'.heap.size, 1, none⟩ = some (.int .i64 (b)) ∧ W.cell? ⟨w'.heap.size, 2, none⟩ = some (.int .i64 (c)) ∧ W.cell? ⟨w'.heap.size, 3, none⟩ = some (.int .i64 (d)) ∧ W.frozen? ⟨w'.heap.size, 2, none⟩ = false ∧ Below w.heap.size w W) ?_ ?_
  · exact ⟨cell_alloc _ q0, cell_alloc _ q1, cell_alloc _ q2, cell_alloc _ q3, cell_alloc _ q4, cell_alloc _ q5, by simp, by simp, by simp, by simp, by simp, below_alloc HB.out _⟩
  generalize w'.heap.size = gb7 at *
  have NE3 := Aside0.mk ne3
  have NE5 := Aside0.mk ne5
  have GE7 := Aside0.mk ge7
  clear q0 q1 q2 q3 q4 q5 ne3 ne5 ge7 HB
  rintro W ⟨q0, q1, q2, q3, q4, q5, q6, q7, q8, q9, hf, hw⟩
  have HB := Aside0.mk hw
  clear hw
  go_wp2_with (first
    | (go_at_call 17; refine (policy_Open.calls a b c d s n false _ H2.out).mono ?_; rintro e w' ⟨rfl, hb⟩; have z0 := pw_cell_below hb q0; have z1 := pw_cell_below hb q1; have z2 := pw_cell_below hb q2; have z3 := pw_cell_below hb q3; have z4 := pw_cell_below hb q4; have z5 := pw_cell_below hb q5; have z6 := pw_cell_below hb q6; have z7 := pw_cell_below hb q7; have z8 := pw_cell_below hb q8; have z9 := pw_cell_below hb q9; clear q0 q1 q2 q3 q4 q5 q6 q7 q8 q9; have HB2 := Aside0.mk (below_step HB.out hb); clear HB hb; have HB := HB2; clear HB2; have q0 := z0; have q1 := z1; have q2 := z2; have q3 := z3; have q4 := z4; have q5 := z5; have q6 := z6; have q7 := z7; have q8 := z8; have q9 := z9; clear z0 z1 z2 z3 z4 z5 z6 z7 z8 z9)
    | (go_at_call 21; refine (awake_calls _).mono ?_; rintro e w' ⟨rfl, hb⟩; have z0 := pw_cell_below hb q0; have z1 := pw_cell_below hb q1; have z2 := pw_cell_below hb q2; have z3 := pw_cell_below hb q3; have z4 := pw_cell_below hb q4; have z5 := pw_cell_below hb q5; have z6 := pw_cell_below hb q6; have z7 := pw_cell_below hb q7; have z8 := pw_cell_below hb q8; have z9 := pw_cell_below hb q9; clear q0 q1 q2 q3 q4 q5 q6 q7 q8 q9; have HB2 := Aside0.mk (below_step HB.out hb); clear HB hb; have HB := HB2; clear HB2; have q0 := z0; have q1 := z1; have q2 := z2; have q3 := z3; have q4 := z4; have q5 := z5; have q6 := z6; have q7 := z7; have q8 := z8; have q9 := z9; clear z0 z1 z2 z3 z4 z5 z6 z7 z8 z9))
  go_ret
  refine ⟨?_, HB.out⟩
  first | rfl | (simp; omega)

set_option maxHeartbeats 8000000 in
set_option maxRecDepth 100000 in
theorem times_1_true_lt (a b c d s n m : Int) (w : World)
    (h1 : policy_Open.f a b c d s m = some false)
    (h2 : policy_Open.f a b c d s n = some true)
    (h3 : policy_Open.f a b (c + 1) d s n = some true)
    (g3 : c < 1000000)
    (g4 : -9223372036854775808 ≤ c)
    : Calls Try.prog 4 #[.agg #[.int .i64 a, .int .i64 b, .int .i64 c, .int .i64 d], .int .i64 s, .agg #[.int .i64 n, .int .i64 m]] w fun e w' => e = .returned (.bool true) ∧ Below w.heap.size w w' := by
  have hu23 := Try.underlying23
  have hu38 := Try.underlying38
  have H1 := Aside0.mk h1
  have H2 := Aside0.mk h2
  have H3 := Aside0.mk h3
  clear h1 h2 h3
  have HB := Aside0.mk (Below.refl w.heap.size w)
  go_enter Try.func4, Try.ntmps4
  go_upto_region 4 with (first
    | ((with_reducible refine gate_dst (N := 3) rfl ?_); refine box_event ?hg (N := 3) ?hd (cs := #[.int .i64 a, .int .i64 b, .int .i64 c, .int .i64 d]) (t := 23) ?hr ?_; (case hd => rfl); (case hg => rfl); (case hr => first | (go_simp; done) | (go_simp; rfl)); intro gb3 hg w7 hbox hb; have n0_ := Aside0.mk (below_step HB.out hb); clear HB hb; have HB := n0_; clear n0_; have q0 := (blk_cell hbox 0).trans rfl; have q1 := (blk_cell hbox 1).trans rfl; have q2 := (blk_cell hbox 2).trans rfl; have q3 := (blk_cell hbox 3).trans rfl; simp at q0 q1 q2 q3; clear hbox hg)
    | ((with_reducible refine gate_dst (N := 5) rfl ?_); refine box_event ?hg (N := 5) ?hd (cs := #[.int .i64 n, .int .i64 m]) (t := 38) ?hr ?_; (case hd => rfl); (case hg => rfl); (case hr => first | (go_simp; done) | (go_simp; rfl)); intro gb5 hg w7 hbox hb; have z0 := pw_cell_below hb q0; have z1 := pw_cell_below hb q1; have z2 := pw_cell_below hb q2; have z3 := pw_cell_below hb q3; clear q0 q1 q2 q3; have n0_ := Aside0.mk (below_step HB.out hb); clear HB hb; have HB := n0_; clear n0_; have q0 := z0; have q1 := z1; have q2 := z2; have q3 := z3; clear z0 z1 z2 z3; have q4 := (blk_cell hbox 0).trans rfl; have q5 := (blk_cell hbox 1).trans rfl; simp at q4 q5; clear hbox hg)
    | (go_at_call 17; (first | (with_reducible refine (policy_Open.calls a b c d s m false _ H1.out).mono ?_) | (with_reducible refine (policy_Open.calls a b c d s n true _ H2.out).mono ?_)); rintro e w' ⟨rfl, hb⟩; have z0 := pw_cell_below hb q0; have z1 := pw_cell_below hb q1; have z2 := pw_cell_below hb q2; have z3 := pw_cell_below hb q3; have z4 := pw_cell_below hb q4; have z5 := pw_cell_below hb q5; clear q0 q1 q2 q3 q4 q5; have HB2 := Aside0.mk (below_step HB.out hb); clear HB hb; have HB := HB2; clear HB2; have q0 := z0; have q1 := z1; have q2 := z2; have q3 := z3; have q4 := z4; have q5 := z5; clear z0 z1 z2 z3 z4 z5))
  have ne3 : gb3 ≠ w'.heap.size := (World.new_ne w' _ q0).symm
  have ne5 : gb5 ≠ w'.heap.size := (World.new_ne w' _ q4).symm
  have ge7 : w.heap.size ≤ w'.heap.size := HB.out.size
  refine gen_world (fun W => W.cell? ⟨gb3, 0, none⟩ = some (.int .i64 a) ∧ W.cell? ⟨gb3, 1, none⟩ = some (.int .i64 b) ∧ W.cell? ⟨gb3, 2, none⟩ = some (.int .i64 c) ∧ W.cell? ⟨gb3, 3, none⟩ = some (.int .i64 d) ∧ W.cell? ⟨gb5, 0, none⟩ = some (.int .i64 n) ∧ W.cell? ⟨gb5, 1, none⟩ = some (.int .i64 m) ∧ W.cell? ⟨w'.heap.size, 0, none⟩ = some (.int .i64 (a)) ∧ W.cell? ⟨w'.heap.size, 1, none⟩ = some (.int .i64 (b)) ∧ W.cell? ⟨w'.heap.size, 2, none⟩ = some (.int .i64 (c)) ∧ W.cell? ⟨w'.heap.size, 3, none⟩ = some (.int .i64 (d)) ∧ W.frozen? ⟨w'.heap.size, 2, none⟩ = false ∧ Below w.heap.size w W) ?_ ?_
  · exact ⟨cell_alloc _ q0, cell_alloc _ q1, cell_alloc _ q2, cell_alloc _ q3, cell_alloc _ q4, cell_alloc _ q5, by simp, by simp, by simp, by simp, by simp, below_alloc HB.out _⟩
  generalize w'.heap.size = gb7 at *
  have NE3 := Aside0.mk ne3
  have NE5 := Aside0.mk ne5
  have GE7 := Aside0.mk ge7
  clear q0 q1 q2 q3 q4 q5 ne3 ne5 ge7 HB
  rintro W ⟨q0, q1, q2, q3, q4, q5, q6, q7, q8, q9, hf, hw⟩
  have HB := Aside0.mk hw
  clear hw
  go_upto_region 6 with (fail)
  refine gen_world (fun W => W.cell? ⟨gb3, 0, none⟩ = some (.int .i64 a) ∧ W.cell? ⟨gb3, 1, none⟩ = some (.int .i64 b) ∧ W.cell? ⟨gb3, 2, none⟩ = some (.int .i64 c) ∧ W.cell? ⟨gb3, 3, none⟩ = some (.int .i64 d) ∧ W.cell? ⟨gb5, 0, none⟩ = some (.int .i64 n) ∧ W.cell? ⟨gb5, 1, none⟩ = some (.int .i64 m) ∧ W.cell? ⟨gb7, 0, none⟩ = some (.int .i64 (a)) ∧ W.cell? ⟨gb7, 1, none⟩ = some (.int .i64 (b)) ∧ W.cell? ⟨gb7, 2, none⟩ = some (.int .i64 (c + 1)) ∧ W.cell? ⟨gb7, 3, none⟩ = some (.int .i64 (d)) ∧ Below w.heap.size w W) ?_ ?_
  · have n3 := NE3.out
    have n5 := NE5.out
    refine ⟨(World.cell?_setCell_far _ _ _ _ (Ne.symm n3)).trans q0, (World.cell?_setCell_far _ _ _ _ (Ne.symm n3)).trans q1, (World.cell?_setCell_far _ _ _ _ (Ne.symm n3)).trans q2, (World.cell?_setCell_far _ _ _ _ (Ne.symm n3)).trans q3, (World.cell?_setCell_far _ _ _ _ (Ne.symm n5)).trans q4, (World.cell?_setCell_far _ _ _ _ (Ne.symm n5)).trans q5, (World.cell?_setCell_other _ _ _ _ (by simp)).trans q6, (World.cell?_setCell_other _ _ _ _ (by simp)).trans q7, World.cell?_setCell_same _ _ _ q8, (World.cell?_setCell_other _ _ _ _ (by simp)).trans q9, Below.setCell HB.out GE7.out _⟩
  clear q0 q1 q2 q3 q4 q5 q6 q7 q8 q9 HB
  rintro W ⟨q0, q1, q2, q3, q4, q5, q6, q7, q8, q9, hw⟩
  have HB := Aside0.mk hw
  clear hw
  go_wp2_with (first
    | (go_at_call 17; (first | (with_reducible refine (policy_Open.calls a b c d s n true _ H2.out).mono ?_) | (with_reducible refine (policy_Open.calls a b (c + 1) d s n true _ H3.out).mono ?_)); rintro e w' ⟨rfl, hb⟩; have z0 := pw_cell_below hb q0; have z1 := pw_cell_below hb q1; have z2 := pw_cell_below hb q2; have z3 := pw_cell_below hb q3; have z4 := pw_cell_below hb q4; have z5 := pw_cell_below hb q5; have z6 := pw_cell_below hb q6; have z7 := pw_cell_below hb q7; have z8 := pw_cell_below hb q8; have z9 := pw_cell_below hb q9; clear q0 q1 q2 q3 q4 q5 q6 q7 q8 q9; have HB2 := Aside0.mk (below_step HB.out hb); clear HB hb; have HB := HB2; clear HB2; have q0 := z0; have q1 := z1; have q2 := z2; have q3 := z3; have q4 := z4; have q5 := z5; have q6 := z6; have q7 := z7; have q8 := z8; have q9 := z9; clear z0 z1 z2 z3 z4 z5 z6 z7 z8 z9)
    | (go_at_call 21; refine (awake_calls _).mono ?_; rintro e w' ⟨rfl, hb⟩; have z0 := pw_cell_below hb q0; have z1 := pw_cell_below hb q1; have z2 := pw_cell_below hb q2; have z3 := pw_cell_below hb q3; have z4 := pw_cell_below hb q4; have z5 := pw_cell_below hb q5; have z6 := pw_cell_below hb q6; have z7 := pw_cell_below hb q7; have z8 := pw_cell_below hb q8; have z9 := pw_cell_below hb q9; clear q0 q1 q2 q3 q4 q5 q6 q7 q8 q9; have HB2 := Aside0.mk (below_step HB.out hb); clear HB hb; have HB := HB2; clear HB2; have q0 := z0; have q1 := z1; have q2 := z2; have q3 := z3; have q4 := z4; have q5 := z5; have q6 := z6; have q7 := z7; have q8 := z8; have q9 := z9; clear z0 z1 z2 z3 z4 z5 z6 z7 z8 z9))
  go_ret
  refine ⟨?_, HB.out⟩
  first | rfl | (simp; omega)

set_option maxHeartbeats 8000000 in
set_option maxRecDepth 100000 in
theorem times_1_true_ge (a b c d s n m : Int) (w : World)
    (h1 : policy_Open.f a b c d s m = some false)
    (h2 : policy_Open.f a b c d s n = some true)
    (g3 : 1000000 ≤ c)
    (g4 : -9223372036854775808 ≤ c)
    : Calls Try.prog 4 #[.agg #[.int .i64 a, .int .i64 b, .int .i64 c, .int .i64 d], .int .i64 s, .agg #[.int .i64 n, .int .i64 m]] w fun e w' => e = .returned (.bool true) ∧ Below w.heap.size w w' := by
  have hu23 := Try.underlying23
  have hu38 := Try.underlying38
  have H1 := Aside0.mk h1
  have H2 := Aside0.mk h2
  clear h1 h2
  have HB := Aside0.mk (Below.refl w.heap.size w)
  go_enter Try.func4, Try.ntmps4
  go_upto_region 4 with (first
    | ((with_reducible refine gate_dst (N := 3) rfl ?_); refine box_event ?hg (N := 3) ?hd (cs := #[.int .i64 a, .int .i64 b, .int .i64 c, .int .i64 d]) (t := 23) ?hr ?_; (case hd => rfl); (case hg => rfl); (case hr => first | (go_simp; done) | (go_simp; rfl)); intro gb3 hg w7 hbox hb; have n0_ := Aside0.mk (below_step HB.out hb); clear HB hb; have HB := n0_; clear n0_; have q0 := (blk_cell hbox 0).trans rfl; have q1 := (blk_cell hbox 1).trans rfl; have q2 := (blk_cell hbox 2).trans rfl; have q3 := (blk_cell hbox 3).trans rfl; simp at q0 q1 q2 q3; clear hbox hg)
    | ((with_reducible refine gate_dst (N := 5) rfl ?_); refine box_event ?hg (N := 5) ?hd (cs := #[.int .i64 n, .int .i64 m]) (t := 38) ?hr ?_; (case hd => rfl); (case hg => rfl); (case hr => first | (go_simp; done) | (go_simp; rfl)); intro gb5 hg w7 hbox hb; have z0 := pw_cell_below hb q0; have z1 := pw_cell_below hb q1; have z2 := pw_cell_below hb q2; have z3 := pw_cell_below hb q3; clear q0 q1 q2 q3; have n0_ := Aside0.mk (below_step HB.out hb); clear HB hb; have HB := n0_; clear n0_; have q0 := z0; have q1 := z1; have q2 := z2; have q3 := z3; clear z0 z1 z2 z3; have q4 := (blk_cell hbox 0).trans rfl; have q5 := (blk_cell hbox 1).trans rfl; simp at q4 q5; clear hbox hg)
    | (go_at_call 17; (first | (with_reducible refine (policy_Open.calls a b c d s m false _ H1.out).mono ?_) | (with_reducible refine (policy_Open.calls a b c d s n true _ H2.out).mono ?_)); rintro e w' ⟨rfl, hb⟩; have z0 := pw_cell_below hb q0; have z1 := pw_cell_below hb q1; have z2 := pw_cell_below hb q2; have z3 := pw_cell_below hb q3; have z4 := pw_cell_below hb q4; have z5 := pw_cell_below hb q5; clear q0 q1 q2 q3 q4 q5; have HB2 := Aside0.mk (below_step HB.out hb); clear HB hb; have HB := HB2; clear HB2; have q0 := z0; have q1 := z1; have q2 := z2; have q3 := z3; have q4 := z4; have q5 := z5; clear z0 z1 z2 z3 z4 z5))
  have ne3 : gb3 ≠ w'.heap.size := (World.new_ne w' _ q0).symm
  have ne5 : gb5 ≠ w'.heap.size := (World.new_ne w' _ q4).symm
  have ge7 : w.heap.size ≤ w'.heap.size := HB.out.size
  refine gen_world (fun W => W.cell? ⟨gb3, 0, none⟩ = some (.int .i64 a) ∧ W.cell? ⟨gb3, 1, none⟩ = some (.int .i64 b) ∧ W.cell? ⟨gb3, 2, none⟩ = some (.int .i64 c) ∧ W.cell? ⟨gb3, 3, none⟩ = some (.int .i64 d) ∧ W.cell? ⟨gb5, 0, none⟩ = some (.int .i64 n) ∧ W.cell? ⟨gb5, 1, none⟩ = some (.int .i64 m) ∧ W.cell? ⟨w'.heap.size, 0, none⟩ = some (.int .i64 (a)) ∧ W.cell? ⟨w'.heap.size, 1, none⟩ = some (.int .i64 (b)) ∧ W.cell? ⟨w'.heap.size, 2, none⟩ = some (.int .i64 (c)) ∧ W.cell? ⟨w'.heap.size, 3, none⟩ = some (.int .i64 (d)) ∧ W.frozen? ⟨w'.heap.size, 2, none⟩ = false ∧ Below w.heap.size w W) ?_ ?_
  · exact ⟨cell_alloc _ q0, cell_alloc _ q1, cell_alloc _ q2, cell_alloc _ q3, cell_alloc _ q4, cell_alloc _ q5, by simp, by simp, by simp, by simp, by simp, below_alloc HB.out _⟩
  generalize w'.heap.size = gb7 at *
  have NE3 := Aside0.mk ne3
  have NE5 := Aside0.mk ne5
  have GE7 := Aside0.mk ge7
  clear q0 q1 q2 q3 q4 q5 ne3 ne5 ge7 HB
  rintro W ⟨q0, q1, q2, q3, q4, q5, q6, q7, q8, q9, hf, hw⟩
  have HB := Aside0.mk hw
  clear hw
  go_wp2_with (first
    | (go_at_call 17; refine (policy_Open.calls a b c d s n true _ H2.out).mono ?_; rintro e w' ⟨rfl, hb⟩; have z0 := pw_cell_below hb q0; have z1 := pw_cell_below hb q1; have z2 := pw_cell_below hb q2; have z3 := pw_cell_below hb q3; have z4 := pw_cell_below hb q4; have z5 := pw_cell_below hb q5; have z6 := pw_cell_below hb q6; have z7 := pw_cell_below hb q7; have z8 := pw_cell_below hb q8; have z9 := pw_cell_below hb q9; clear q0 q1 q2 q3 q4 q5 q6 q7 q8 q9; have HB2 := Aside0.mk (below_step HB.out hb); clear HB hb; have HB := HB2; clear HB2; have q0 := z0; have q1 := z1; have q2 := z2; have q3 := z3; have q4 := z4; have q5 := z5; have q6 := z6; have q7 := z7; have q8 := z8; have q9 := z9; clear z0 z1 z2 z3 z4 z5 z6 z7 z8 z9)
    | (go_at_call 21; refine (awake_calls _).mono ?_; rintro e w' ⟨rfl, hb⟩; have z0 := pw_cell_below hb q0; have z1 := pw_cell_below hb q1; have z2 := pw_cell_below hb q2; have z3 := pw_cell_below hb q3; have z4 := pw_cell_below hb q4; have z5 := pw_cell_below hb q5; have z6 := pw_cell_below hb q6; have z7 := pw_cell_below hb q7; have z8 := pw_cell_below hb q8; have z9 := pw_cell_below hb q9; clear q0 q1 q2 q3 q4 q5 q6 q7 q8 q9; have HB2 := Aside0.mk (below_step HB.out hb); clear HB hb; have HB := HB2; clear HB2; have q0 := z0; have q1 := z1; have q2 := z2; have q3 := z3; have q4 := z4; have q5 := z5; have q6 := z6; have q7 := z7; have q8 := z8; have q9 := z9; clear z0 z1 z2 z3 z4 z5 z6 z7 z8 z9))
  go_ret
  refine ⟨?_, HB.out⟩
  first | rfl | (simp; omega)

set_option maxHeartbeats 8000000 in
set_option maxRecDepth 100000 in
theorem times_2_false_lt (a b c d s n m : Int) (w : World)
    (h1 : policy_Open.f a b c d s m = some true)
    (h2 : policy_Open.f a b c d s n = some false)
    (g1 : n < s)
    (g3 : c < 1000000)
    (g4 : -9223372036854775808 ≤ c)
    : Calls Try.prog 4 #[.agg #[.int .i64 a, .int .i64 b, .int .i64 c, .int .i64 d], .int .i64 s, .agg #[.int .i64 n, .int .i64 m]] w fun e w' => e = .returned (.bool true) ∧ Below w.heap.size w w' := by
  have hu23 := Try.underlying23
  have hu38 := Try.underlying38
  have H1 := Aside0.mk h1
  have H2 := Aside0.mk h2
  clear h1 h2
  have HB := Aside0.mk (Below.refl w.heap.size w)
  go_enter Try.func4, Try.ntmps4
  go_upto_region 4 with (first
    | ((with_reducible refine gate_dst (N := 3) rfl ?_); refine box_event ?hg (N := 3) ?hd (cs := #[.int .i64 a, .int .i64 b, .int .i64 c, .int .i64 d]) (t := 23) ?hr ?_; (case hd => rfl); (case hg => rfl); (case hr => first | (go_simp; done) | (go_simp; rfl)); intro gb3 hg w7 hbox hb; have n0_ := Aside0.mk (below_step HB.out hb); clear HB hb; have HB := n0_; clear n0_; have q0 := (blk_cell hbox 0).trans rfl; have q1 := (blk_cell hbox 1).trans rfl; have q2 := (blk_cell hbox 2).trans rfl; have q3 := (blk_cell hbox 3).trans rfl; simp at q0 q1 q2 q3; clear hbox hg)
    | ((with_reducible refine gate_dst (N := 5) rfl ?_); refine box_event ?hg (N := 5) ?hd (cs := #[.int .i64 n, .int .i64 m]) (t := 38) ?hr ?_; (case hd => rfl); (case hg => rfl); (case hr => first | (go_simp; done) | (go_simp; rfl)); intro gb5 hg w7 hbox hb; have z0 := pw_cell_below hb q0; have z1 := pw_cell_below hb q1; have z2 := pw_cell_below hb q2; have z3 := pw_cell_below hb q3; clear q0 q1 q2 q3; have n0_ := Aside0.mk (below_step HB.out hb); clear HB hb; have HB := n0_; clear n0_; have q0 := z0; have q1 := z1; have q2 := z2; have q3 := z3; clear z0 z1 z2 z3; have q4 := (blk_cell hbox 0).trans rfl; have q5 := (blk_cell hbox 1).trans rfl; simp at q4 q5; clear hbox hg)
    | (go_at_call 17; (first | (with_reducible refine (policy_Open.calls a b c d s m true _ H1.out).mono ?_) | (with_reducible refine (policy_Open.calls a b c d s n false _ H2.out).mono ?_)); rintro e w' ⟨rfl, hb⟩; have z0 := pw_cell_below hb q0; have z1 := pw_cell_below hb q1; have z2 := pw_cell_below hb q2; have z3 := pw_cell_below hb q3; have z4 := pw_cell_below hb q4; have z5 := pw_cell_below hb q5; clear q0 q1 q2 q3 q4 q5; have HB2 := Aside0.mk (below_step HB.out hb); clear HB hb; have HB := HB2; clear HB2; have q0 := z0; have q1 := z1; have q2 := z2; have q3 := z3; have q4 := z4; have q5 := z5; clear z0 z1 z2 z3 z4 z5))
  have ne3 : gb3 ≠ w'.heap.size := (World.new_ne w' _ q0).symm
  have ne5 : gb5 ≠ w'.heap.size := (World.new_ne w' _ q4).symm
  have ge7 : w.heap.size ≤ w'.heap.size := HB.out.size
  refine gen_world (fun W => W.cell? ⟨gb3, 0, none⟩ = some (.int .i64 a) ∧ W.cell? ⟨gb3, 1, none⟩ = some (.int .i64 b) ∧ W.cell? ⟨gb3, 2, none⟩ = some (.int .i64 c) ∧ W.cell? ⟨gb3, 3, none⟩ = some (.int .i64 d) ∧ W.cell? ⟨gb5, 0, none⟩ = some (.int .i64 n) ∧ W.cell? ⟨gb5, 1, none⟩ = some (.int .i64 m) ∧ W.cell? ⟨w'.heap.size, 0, none⟩ = some (.int .i64 (a)) ∧ W.cell? ⟨w'.heap.size, 1, none⟩ = some (.int .i64 (b)) ∧ W.cell? ⟨w'.heap.size, 2, none⟩ = some (.int .i64 (c)) ∧ W.cell? ⟨w'.heap.size, 3, none⟩ = some (.int .i64 (d)) ∧ W.frozen? ⟨w'.heap.size, 2, none⟩ = false ∧ Below w.heap.size w W) ?_ ?_
  · exact ⟨cell_alloc _ q0, cell_alloc _ q1, cell_alloc _ q2, cell_alloc _ q3, cell_alloc _ q4, cell_alloc _ q5, by simp, by simp, by simp, by simp, by simp, below_alloc HB.out _⟩
  generalize w'.heap.size = gb7 at *
  have NE3 := Aside0.mk ne3
  have NE5 := Aside0.mk ne5
  have GE7 := Aside0.mk ge7
  clear q0 q1 q2 q3 q4 q5 ne3 ne5 ge7 HB
  rintro W ⟨q0, q1, q2, q3, q4, q5, q6, q7, q8, q9, hf, hw⟩
  have HB := Aside0.mk hw
  clear hw
  go_upto_region 6 with (fail)
  refine gen_world (fun W => W.cell? ⟨gb3, 0, none⟩ = some (.int .i64 a) ∧ W.cell? ⟨gb3, 1, none⟩ = some (.int .i64 b) ∧ W.cell? ⟨gb3, 2, none⟩ = some (.int .i64 c) ∧ W.cell? ⟨gb3, 3, none⟩ = some (.int .i64 d) ∧ W.cell? ⟨gb5, 0, none⟩ = some (.int .i64 n) ∧ W.cell? ⟨gb5, 1, none⟩ = some (.int .i64 m) ∧ W.cell? ⟨gb7, 0, none⟩ = some (.int .i64 (a)) ∧ W.cell? ⟨gb7, 1, none⟩ = some (.int .i64 (b)) ∧ W.cell? ⟨gb7, 2, none⟩ = some (.int .i64 (c + 1)) ∧ W.cell? ⟨gb7, 3, none⟩ = some (.int .i64 (d)) ∧ Below w.heap.size w W) ?_ ?_
  · have n3 := NE3.out
    have n5 := NE5.out
    refine ⟨(World.cell?_setCell_far _ _ _ _ (Ne.symm n3)).trans q0, (World.cell?_setCell_far _ _ _ _ (Ne.symm n3)).trans q1, (World.cell?_setCell_far _ _ _ _ (Ne.symm n3)).trans q2, (World.cell?_setCell_far _ _ _ _ (Ne.symm n3)).trans q3, (World.cell?_setCell_far _ _ _ _ (Ne.symm n5)).trans q4, (World.cell?_setCell_far _ _ _ _ (Ne.symm n5)).trans q5, (World.cell?_setCell_other _ _ _ _ (by simp)).trans q6, (World.cell?_setCell_other _ _ _ _ (by simp)).trans q7, World.cell?_setCell_same _ _ _ q8, (World.cell?_setCell_other _ _ _ _ (by simp)).trans q9, Below.setCell HB.out GE7.out _⟩
  clear q0 q1 q2 q3 q4 q5 q6 q7 q8 q9 HB
  rintro W ⟨q0, q1, q2, q3, q4, q5, q6, q7, q8, q9, hw⟩
  have HB := Aside0.mk hw
  clear hw
  go_wp2_with (first
    | (go_at_call 17; refine (policy_Open.calls a b c d s n false _ H2.out).mono ?_; rintro e w' ⟨rfl, hb⟩; have z0 := pw_cell_below hb q0; have z1 := pw_cell_below hb q1; have z2 := pw_cell_below hb q2; have z3 := pw_cell_below hb q3; have z4 := pw_cell_below hb q4; have z5 := pw_cell_below hb q5; have z6 := pw_cell_below hb q6; have z7 := pw_cell_below hb q7; have z8 := pw_cell_below hb q8; have z9 := pw_cell_below hb q9; clear q0 q1 q2 q3 q4 q5 q6 q7 q8 q9; have HB2 := Aside0.mk (below_step HB.out hb); clear HB hb; have HB := HB2; clear HB2; have q0 := z0; have q1 := z1; have q2 := z2; have q3 := z3; have q4 := z4; have q5 := z5; have q6 := z6; have q7 := z7; have q8 := z8; have q9 := z9; clear z0 z1 z2 z3 z4 z5 z6 z7 z8 z9)
    | (go_at_call 21; refine (awake_calls _).mono ?_; rintro e w' ⟨rfl, hb⟩; have z0 := pw_cell_below hb q0; have z1 := pw_cell_below hb q1; have z2 := pw_cell_below hb q2; have z3 := pw_cell_below hb q3; have z4 := pw_cell_below hb q4; have z5 := pw_cell_below hb q5; have z6 := pw_cell_below hb q6; have z7 := pw_cell_below hb q7; have z8 := pw_cell_below hb q8; have z9 := pw_cell_below hb q9; clear q0 q1 q2 q3 q4 q5 q6 q7 q8 q9; have HB2 := Aside0.mk (below_step HB.out hb); clear HB hb; have HB := HB2; clear HB2; have q0 := z0; have q1 := z1; have q2 := z2; have q3 := z3; have q4 := z4; have q5 := z5; have q6 := z6; have q7 := z7; have q8 := z8; have q9 := z9; clear z0 z1 z2 z3 z4 z5 z6 z7 z8 z9))
  go_ret
  refine ⟨?_, HB.out⟩
  first | rfl | (simp; omega)

set_option maxHeartbeats 8000000 in
set_option maxRecDepth 100000 in
theorem times_2_false_ge (a b c d s n m : Int) (w : World)
    (h1 : policy_Open.f a b c d s m = some true)
    (h2 : policy_Open.f a b c d s n = some false)
    (g1 : n < s)
    (g3 : 1000000 ≤ c)
    (g4 : -9223372036854775808 ≤ c)
    : Calls Try.prog 4 #[.agg #[.int .i64 a, .int .i64 b, .int .i64 c, .int .i64 d], .int .i64 s, .agg #[.int .i64 n, .int .i64 m]] w fun e w' => e = .returned (.bool true) ∧ Below w.heap.size w w' := by
  have hu23 := Try.underlying23
  have hu38 := Try.underlying38
  have H1 := Aside0.mk h1
  have H2 := Aside0.mk h2
  clear h1 h2
  have HB := Aside0.mk (Below.refl w.heap.size w)
  go_enter Try.func4, Try.ntmps4
  go_upto_region 4 with (first
    | ((with_reducible refine gate_dst (N := 3) rfl ?_); refine box_event ?hg (N := 3) ?hd (cs := #[.int .i64 a, .int .i64 b, .int .i64 c, .int .i64 d]) (t := 23) ?hr ?_; (case hd => rfl); (case hg => rfl); (case hr => first | (go_simp; done) | (go_simp; rfl)); intro gb3 hg w7 hbox hb; have n0_ := Aside0.mk (below_step HB.out hb); clear HB hb; have HB := n0_; clear n0_; have q0 := (blk_cell hbox 0).trans rfl; have q1 := (blk_cell hbox 1).trans rfl; have q2 := (blk_cell hbox 2).trans rfl; have q3 := (blk_cell hbox 3).trans rfl; simp at q0 q1 q2 q3; clear hbox hg)
    | ((with_reducible refine gate_dst (N := 5) rfl ?_); refine box_event ?hg (N := 5) ?hd (cs := #[.int .i64 n, .int .i64 m]) (t := 38) ?hr ?_; (case hd => rfl); (case hg => rfl); (case hr => first | (go_simp; done) | (go_simp; rfl)); intro gb5 hg w7 hbox hb; have z0 := pw_cell_below hb q0; have z1 := pw_cell_below hb q1; have z2 := pw_cell_below hb q2; have z3 := pw_cell_below hb q3; clear q0 q1 q2 q3; have n0_ := Aside0.mk (below_step HB.out hb); clear HB hb; have HB := n0_; clear n0_; have q0 := z0; have q1 := z1; have q2 := z2; have q3 := z3; clear z0 z1 z2 z3; have q4 := (blk_cell hbox 0).trans rfl; have q5 := (blk_cell hbox 1).trans rfl; simp at q4 q5; clear hbox hg)
    | (go_at_call 17; (first | (with_reducible refine (policy_Open.calls a b c d s m true _ H1.out).mono ?_) | (with_reducible refine (policy_Open.calls a b c d s n false _ H2.out).mono ?_)); rintro e w' ⟨rfl, hb⟩; have z0 := pw_cell_below hb q0; have z1 := pw_cell_below hb q1; have z2 := pw_cell_below hb q2; have z3 := pw_cell_below hb q3; have z4 := pw_cell_below hb q4; have z5 := pw_cell_below hb q5; clear q0 q1 q2 q3 q4 q5; have HB2 := Aside0.mk (below_step HB.out hb); clear HB hb; have HB := HB2; clear HB2; have q0 := z0; have q1 := z1; have q2 := z2; have q3 := z3; have q4 := z4; have q5 := z5; clear z0 z1 z2 z3 z4 z5))
  have ne3 : gb3 ≠ w'.heap.size := (World.new_ne w' _ q0).symm
  have ne5 : gb5 ≠ w'.heap.size := (World.new_ne w' _ q4).symm
  have ge7 : w.heap.size ≤ w'.heap.size := HB.out.size
  refine gen_world (fun W => W.cell? ⟨gb3, 0, none⟩ = some (.int .i64 a) ∧ W.cell? ⟨gb3, 1, none⟩ = some (.int .i64 b) ∧ W.cell? ⟨gb3, 2, none⟩ = some (.int .i64 c) ∧ W.cell? ⟨gb3, 3, none⟩ = some (.int .i64 d) ∧ W.cell? ⟨gb5, 0, none⟩ = some (.int .i64 n) ∧ W.cell? ⟨gb5, 1, none⟩ = some (.int .i64 m) ∧ W.cell? ⟨w'.heap.size, 0, none⟩ = some (.int .i64 (a)) ∧ W.cell? ⟨w'.heap.size, 1, none⟩ = some (.int .i64 (b)) ∧ W.cell? ⟨w'.heap.size, 2, none⟩ = some (.int .i64 (c)) ∧ W.cell? ⟨w'.heap.size, 3, none⟩ = some (.int .i64 (d)) ∧ W.frozen? ⟨w'.heap.size, 2, none⟩ = false ∧ Below w.heap.size w W) ?_ ?_
  · exact ⟨cell_alloc _ q0, cell_alloc _ q1, cell_alloc _ q2, cell_alloc _ q3, cell_alloc _ q4, cell_alloc _ q5, by simp, by simp, by simp, by simp, by simp, below_alloc HB.out _⟩
  generalize w'.heap.size = gb7 at *
  have NE3 := Aside0.mk ne3
  have NE5 := Aside0.mk ne5
  have GE7 := Aside0.mk ge7
  clear q0 q1 q2 q3 q4 q5 ne3 ne5 ge7 HB
  rintro W ⟨q0, q1, q2, q3, q4, q5, q6, q7, q8, q9, hf, hw⟩
  have HB := Aside0.mk hw
  clear hw
  go_wp2_with (first
    | (go_at_call 17; refine (policy_Open.calls a b c d s n false _ H2.out).mono ?_; rintro e w' ⟨rfl, hb⟩; have z0 := pw_cell_below hb q0; have z1 := pw_cell_below hb q1; have z2 := pw_cell_below hb q2; have z3 := pw_cell_below hb q3; have z4 := pw_cell_below hb q4; have z5 := pw_cell_below hb q5; have z6 := pw_cell_below hb q6; have z7 := pw_cell_below hb q7; have z8 := pw_cell_below hb q8; have z9 := pw_cell_below hb q9; clear q0 q1 q2 q3 q4 q5 q6 q7 q8 q9; have HB2 := Aside0.mk (below_step HB.out hb); clear HB hb; have HB := HB2; clear HB2; have q0 := z0; have q1 := z1; have q2 := z2; have q3 := z3; have q4 := z4; have q5 := z5; have q6 := z6; have q7 := z7; have q8 := z8; have q9 := z9; clear z0 z1 z2 z3 z4 z5 z6 z7 z8 z9)
    | (go_at_call 21; refine (awake_calls _).mono ?_; rintro e w' ⟨rfl, hb⟩; have z0 := pw_cell_below hb q0; have z1 := pw_cell_below hb q1; have z2 := pw_cell_below hb q2; have z3 := pw_cell_below hb q3; have z4 := pw_cell_below hb q4; have z5 := pw_cell_below hb q5; have z6 := pw_cell_below hb q6; have z7 := pw_cell_below hb q7; have z8 := pw_cell_below hb q8; have z9 := pw_cell_below hb q9; clear q0 q1 q2 q3 q4 q5 q6 q7 q8 q9; have HB2 := Aside0.mk (below_step HB.out hb); clear HB hb; have HB := HB2; clear HB2; have q0 := z0; have q1 := z1; have q2 := z2; have q3 := z3; have q4 := z4; have q5 := z5; have q6 := z6; have q7 := z7; have q8 := z8; have q9 := z9; clear z0 z1 z2 z3 z4 z5 z6 z7 z8 z9))
  go_ret
  refine ⟨?_, HB.out⟩
  first | rfl | (simp; omega)

set_option maxHeartbeats 8000000 in
set_option maxRecDepth 100000 in
theorem times_2_true_lt (a b c d s n m : Int) (w : World)
    (h1 : policy_Open.f a b c d s m = some true)
    (h2 : policy_Open.f a b c d s n = some true)
    (h3 : policy_Open.f a b (c + 1) d s n = some true)
    (g1 : n < s)
    (g3 : c < 1000000)
    (g4 : -9223372036854775808 ≤ c)
    : Calls Try.prog 4 #[.agg #[.int .i64 a, .int .i64 b, .int .i64 c, .int .i64 d], .int .i64 s, .agg #[.int .i64 n, .int .i64 m]] w fun e w' => e = .returned (.bool true) ∧ Below w.heap.size w w' := by
  have hu23 := Try.underlying23
  have hu38 := Try.underlying38
  have H1 := Aside0.mk h1
  have H2 := Aside0.mk h2
  have H3 := Aside0.mk h3
  clear h1 h2 h3
  have HB := Aside0.mk (Below.refl w.heap.size w)
  go_enter Try.func4, Try.ntmps4
  go_upto_region 4 with (first
    | ((with_reducible refine gate_dst (N := 3) rfl ?_); refine box_event ?hg (N := 3) ?hd (cs := #[.int .i64 a, .int .i64 b, .int .i64 c, .int .i64 d]) (t := 23) ?hr ?_; (case hd => rfl); (case hg => rfl); (case hr => first | (go_simp; done) | (go_simp; rfl)); intro gb3 hg w7 hbox hb; have n0_ := Aside0.mk (below_step HB.out hb); clear HB hb; have HB := n0_; clear n0_; have q0 := (blk_cell hbox 0).trans rfl; have q1 := (blk_cell hbox 1).trans rfl; have q2 := (blk_cell hbox 2).trans rfl; have q3 := (blk_cell hbox 3).trans rfl; simp at q0 q1 q2 q3; clear hbox hg)
    | ((with_reducible refine gate_dst (N := 5) rfl ?_); refine box_event ?hg (N := 5) ?hd (cs := #[.int .i64 n, .int .i64 m]) (t := 38) ?hr ?_; (case hd => rfl); (case hg => rfl); (case hr => first | (go_simp; done) | (go_simp; rfl)); intro gb5 hg w7 hbox hb; have z0 := pw_cell_below hb q0; have z1 := pw_cell_below hb q1; have z2 := pw_cell_below hb q2; have z3 := pw_cell_below hb q3; clear q0 q1 q2 q3; have n0_ := Aside0.mk (below_step HB.out hb); clear HB hb; have HB := n0_; clear n0_; have q0 := z0; have q1 := z1; have q2 := z2; have q3 := z3; clear z0 z1 z2 z3; have q4 := (blk_cell hbox 0).trans rfl; have q5 := (blk_cell hbox 1).trans rfl; simp at q4 q5; clear hbox hg)
    | (go_at_call 17; (first | (with_reducible refine (policy_Open.calls a b c d s m true _ H1.out).mono ?_) | (with_reducible refine (policy_Open.calls a b c d s n true _ H2.out).mono ?_)); rintro e w' ⟨rfl, hb⟩; have z0 := pw_cell_below hb q0; have z1 := pw_cell_below hb q1; have z2 := pw_cell_below hb q2; have z3 := pw_cell_below hb q3; have z4 := pw_cell_below hb q4; have z5 := pw_cell_below hb q5; clear q0 q1 q2 q3 q4 q5; have HB2 := Aside0.mk (below_step HB.out hb); clear HB hb; have HB := HB2; clear HB2; have q0 := z0; have q1 := z1; have q2 := z2; have q3 := z3; have q4 := z4; have q5 := z5; clear z0 z1 z2 z3 z4 z5))
  have ne3 : gb3 ≠ w'.heap.size := (World.new_ne w' _ q0).symm
  have ne5 : gb5 ≠ w'.heap.size := (World.new_ne w' _ q4).symm
  have ge7 : w.heap.size ≤ w'.heap.size := HB.out.size
  refine gen_world (fun W => W.cell? ⟨gb3, 0, none⟩ = some (.int .i64 a) ∧ W.cell? ⟨gb3, 1, none⟩ = some (.int .i64 b) ∧ W.cell? ⟨gb3, 2, none⟩ = some (.int .i64 c) ∧ W.cell? ⟨gb3, 3, none⟩ = some (.int .i64 d) ∧ W.cell? ⟨gb5, 0, none⟩ = some (.int .i64 n) ∧ W.cell? ⟨gb5, 1, none⟩ = some (.int .i64 m) ∧ W.cell? ⟨w'.heap.size, 0, none⟩ = some (.int .i64 (a)) ∧ W.cell? ⟨w'.heap.size, 1, none⟩ = some (.int .i64 (b)) ∧ W.cell? ⟨w'.heap.size, 2, none⟩ = some (.int .i64 (c)) ∧ W.cell? ⟨w'.heap.size, 3, none⟩ = some (.int .i64 (d)) ∧ W.frozen? ⟨w'.heap.size, 2, none⟩ = false ∧ Below w.heap.size w W) ?_ ?_
  · exact ⟨cell_alloc _ q0, cell_alloc _ q1, cell_alloc _ q2, cell_alloc _ q3, cell_alloc _ q4, cell_alloc _ q5, by simp, by simp, by simp, by simp, by simp, below_alloc HB.out _⟩
  generalize w'.heap.size = gb7 at *
  have NE3 := Aside0.mk ne3
  have NE5 := Aside0.mk ne5
  have GE7 := Aside0.mk ge7
  clear q0 q1 q2 q3 q4 q5 ne3 ne5 ge7 HB
  rintro W ⟨q0, q1, q2, q3, q4, q5, q6, q7, q8, q9, hf, hw⟩
  have HB := Aside0.mk hw
  clear hw
  go_upto_region 6 with (fail)
  refine gen_world (fun W => W.cell? ⟨gb3, 0, none⟩ = some (.int .i64 a) ∧ W.cell? ⟨gb3, 1, none⟩ = some (.int .i64 b) ∧ W.cell? ⟨gb3, 2, none⟩ = some (.int .i64 c) ∧ W.cell? ⟨gb3, 3, none⟩ = some (.int .i64 d) ∧ W.cell? ⟨gb5, 0, none⟩ = some (.int .i64 n) ∧ W.cell? ⟨gb5, 1, none⟩ = some (.int .i64 m) ∧ W.cell? ⟨gb7, 0, none⟩ = some (.int .i64 (a)) ∧ W.cell? ⟨gb7, 1, none⟩ = some (.int .i64 (b)) ∧ W.cell? ⟨gb7, 2, none⟩ = some (.int .i64 (c + 1)) ∧ W.cell? ⟨gb7, 3, none⟩ = some (.int .i64 (d)) ∧ Below w.heap.size w W) ?_ ?_
  · have n3 := NE3.out
    have n5 := NE5.out
    refine ⟨(World.cell?_setCell_far _ _ _ _ (Ne.symm n3)).trans q0, (World.cell?_setCell_far _ _ _ _ (Ne.symm n3)).trans q1, (World.cell?_setCell_far _ _ _ _ (Ne.symm n3)).trans q2, (World.cell?_setCell_far _ _ _ _ (Ne.symm n3)).trans q3, (World.cell?_setCell_far _ _ _ _ (Ne.symm n5)).trans q4, (World.cell?_setCell_far _ _ _ _ (Ne.symm n5)).trans q5, (World.cell?_setCell_other _ _ _ _ (by simp)).trans q6, (World.cell?_setCell_other _ _ _ _ (by simp)).trans q7, World.cell?_setCell_same _ _ _ q8, (World.cell?_setCell_other _ _ _ _ (by simp)).trans q9, Below.setCell HB.out GE7.out _⟩
  clear q0 q1 q2 q3 q4 q5 q6 q7 q8 q9 HB
  rintro W ⟨q0, q1, q2, q3, q4, q5, q6, q7, q8, q9, hw⟩
  have HB := Aside0.mk hw
  clear hw
  go_wp2_with (first
    | (go_at_call 17; (first | (with_reducible refine (policy_Open.calls a b c d s n true _ H2.out).mono ?_) | (with_reducible refine (policy_Open.calls a b (c + 1) d s n true _ H3.out).mono ?_)); rintro e w' ⟨rfl, hb⟩; have z0 := pw_cell_below hb q0; have z1 := pw_cell_below hb q1; have z2 := pw_cell_below hb q2; have z3 := pw_cell_below hb q3; have z4 := pw_cell_below hb q4; have z5 := pw_cell_below hb q5; have z6 := pw_cell_below hb q6; have z7 := pw_cell_below hb q7; have z8 := pw_cell_below hb q8; have z9 := pw_cell_below hb q9; clear q0 q1 q2 q3 q4 q5 q6 q7 q8 q9; have HB2 := Aside0.mk (below_step HB.out hb); clear HB hb; have HB := HB2; clear HB2; have q0 := z0; have q1 := z1; have q2 := z2; have q3 := z3; have q4 := z4; have q5 := z5; have q6 := z6; have q7 := z7; have q8 := z8; have q9 := z9; clear z0 z1 z2 z3 z4 z5 z6 z7 z8 z9)
    | (go_at_call 21; refine (awake_calls _).mono ?_; rintro e w' ⟨rfl, hb⟩; have z0 := pw_cell_below hb q0; have z1 := pw_cell_below hb q1; have z2 := pw_cell_below hb q2; have z3 := pw_cell_below hb q3; have z4 := pw_cell_below hb q4; have z5 := pw_cell_below hb q5; have z6 := pw_cell_below hb q6; have z7 := pw_cell_below hb q7; have z8 := pw_cell_below hb q8; have z9 := pw_cell_below hb q9; clear q0 q1 q2 q3 q4 q5 q6 q7 q8 q9; have HB2 := Aside0.mk (below_step HB.out hb); clear HB hb; have HB := HB2; clear HB2; have q0 := z0; have q1 := z1; have q2 := z2; have q3 := z3; have q4 := z4; have q5 := z5; have q6 := z6; have q7 := z7; have q8 := z8; have q9 := z9; clear z0 z1 z2 z3 z4 z5 z6 z7 z8 z9))
  go_ret
  refine ⟨?_, HB.out⟩
  first | rfl | (simp; omega)

set_option maxHeartbeats 8000000 in
set_option maxRecDepth 100000 in
theorem times_2_true_ge (a b c d s n m : Int) (w : World)
    (h1 : policy_Open.f a b c d s m = some true)
    (h2 : policy_Open.f a b c d s n = some true)
    (g1 : n < s)
    (g3 : 1000000 ≤ c)
    (g4 : -9223372036854775808 ≤ c)
    : Calls Try.prog 4 #[.agg #[.int .i64 a, .int .i64 b, .int .i64 c, .int .i64 d], .int .i64 s, .agg #[.int .i64 n, .int .i64 m]] w fun e w' => e = .returned (.bool true) ∧ Below w.heap.size w w' := by
  have hu23 := Try.underlying23
  have hu38 := Try.underlying38
  have H1 := Aside0.mk h1
  have H2 := Aside0.mk h2
  clear h1 h2
  have HB := Aside0.mk (Below.refl w.heap.size w)
  go_enter Try.func4, Try.ntmps4
  go_upto_region 4 with (first
    | ((with_reducible refine gate_dst (N := 3) rfl ?_); refine box_event ?hg (N := 3) ?hd (cs := #[.int .i64 a, .int .i64 b, .int .i64 c, .int .i64 d]) (t := 23) ?hr ?_; (case hd => rfl); (case hg => rfl); (case hr => first | (go_simp; done) | (go_simp; rfl)); intro gb3 hg w7 hbox hb; have n0_ := Aside0.mk (below_step HB.out hb); clear HB hb; have HB := n0_; clear n0_; have q0 := (blk_cell hbox 0).trans rfl; have q1 := (blk_cell hbox 1).trans rfl; have q2 := (blk_cell hbox 2).trans rfl; have q3 := (blk_cell hbox 3).trans rfl; simp at q0 q1 q2 q3; clear hbox hg)
    | ((with_reducible refine gate_dst (N := 5) rfl ?_); refine box_event ?hg (N := 5) ?hd (cs := #[.int .i64 n, .int .i64 m]) (t := 38) ?hr ?_; (case hd => rfl); (case hg => rfl); (case hr => first | (go_simp; done) | (go_simp; rfl)); intro gb5 hg w7 hbox hb; have z0 := pw_cell_below hb q0; have z1 := pw_cell_below hb q1; have z2 := pw_cell_below hb q2; have z3 := pw_cell_below hb q3; clear q0 q1 q2 q3; have n0_ := Aside0.mk (below_step HB.out hb); clear HB hb; have HB := n0_; clear n0_; have q0 := z0; have q1 := z1; have q2 := z2; have q3 := z3; clear z0 z1 z2 z3; have q4 := (blk_cell hbox 0).trans rfl; have q5 := (blk_cell hbox 1).trans rfl; simp at q4 q5; clear hbox hg)
    | (go_at_call 17; (first | (with_reducible refine (policy_Open.calls a b c d s m true _ H1.out).mono ?_) | (with_reducible refine (policy_Open.calls a b c d s n true _ H2.out).mono ?_)); rintro e w' ⟨rfl, hb⟩; have z0 := pw_cell_below hb q0; have z1 := pw_cell_below hb q1; have z2 := pw_cell_below hb q2; have z3 := pw_cell_below hb q3; have z4 := pw_cell_below hb q4; have z5 := pw_cell_below hb q5; clear q0 q1 q2 q3 q4 q5; have HB2 := Aside0.mk (below_step HB.out hb); clear HB hb; have HB := HB2; clear HB2; have q0 := z0; have q1 := z1; have q2 := z2; have q3 := z3; have q4 := z4; have q5 := z5; clear z0 z1 z2 z3 z4 z5))
  have ne3 : gb3 ≠ w'.heap.size := (World.new_ne w' _ q0).symm
  have ne5 : gb5 ≠ w'.heap.size := (World.new_ne w' _ q4).symm
  have ge7 : w.heap.size ≤ w'.heap.size := HB.out.size
  refine gen_world (fun W => W.cell? ⟨gb3, 0, none⟩ = some (.int .i64 a) ∧ W.cell? ⟨gb3, 1, none⟩ = some (.int .i64 b) ∧ W.cell? ⟨gb3, 2, none⟩ = some (.int .i64 c) ∧ W.cell? ⟨gb3, 3, none⟩ = some (.int .i64 d) ∧ W.cell? ⟨gb5, 0, none⟩ = some (.int .i64 n) ∧ W.cell? ⟨gb5, 1, none⟩ = some (.int .i64 m) ∧ W.cell? ⟨w'.heap.size, 0, none⟩ = some (.int .i64 (a)) ∧ W.cell? ⟨w'.heap.size, 1, none⟩ = some (.int .i64 (b)) ∧ W.cell? ⟨w'.heap.size, 2, none⟩ = some (.int .i64 (c)) ∧ W.cell? ⟨w'.heap.size, 3, none⟩ = some (.int .i64 (d)) ∧ W.frozen? ⟨w'.heap.size, 2, none⟩ = false ∧ Below w.heap.size w W) ?_ ?_
  · exact ⟨cell_alloc _ q0, cell_alloc _ q1, cell_alloc _ q2, cell_alloc _ q3, cell_alloc _ q4, cell_alloc _ q5, by simp, by simp, by simp, by simp, by simp, below_alloc HB.out _⟩
  generalize w'.heap.size = gb7 at *
  have NE3 := Aside0.mk ne3
  have NE5 := Aside0.mk ne5
  have GE7 := Aside0.mk ge7
  clear q0 q1 q2 q3 q4 q5 ne3 ne5 ge7 HB
  rintro W ⟨q0, q1, q2, q3, q4, q5, q6, q7, q8, q9, hf, hw⟩
  have HB := Aside0.mk hw
  clear hw
  go_wp2_with (first
    | (go_at_call 17; refine (policy_Open.calls a b c d s n true _ H2.out).mono ?_; rintro e w' ⟨rfl, hb⟩; have z0 := pw_cell_below hb q0; have z1 := pw_cell_below hb q1; have z2 := pw_cell_below hb q2; have z3 := pw_cell_below hb q3; have z4 := pw_cell_below hb q4; have z5 := pw_cell_below hb q5; have z6 := pw_cell_below hb q6; have z7 := pw_cell_below hb q7; have z8 := pw_cell_below hb q8; have z9 := pw_cell_below hb q9; clear q0 q1 q2 q3 q4 q5 q6 q7 q8 q9; have HB2 := Aside0.mk (below_step HB.out hb); clear HB hb; have HB := HB2; clear HB2; have q0 := z0; have q1 := z1; have q2 := z2; have q3 := z3; have q4 := z4; have q5 := z5; have q6 := z6; have q7 := z7; have q8 := z8; have q9 := z9; clear z0 z1 z2 z3 z4 z5 z6 z7 z8 z9)
    | (go_at_call 21; refine (awake_calls _).mono ?_; rintro e w' ⟨rfl, hb⟩; have z0 := pw_cell_below hb q0; have z1 := pw_cell_below hb q1; have z2 := pw_cell_below hb q2; have z3 := pw_cell_below hb q3; have z4 := pw_cell_below hb q4; have z5 := pw_cell_below hb q5; have z6 := pw_cell_below hb q6; have z7 := pw_cell_below hb q7; have z8 := pw_cell_below hb q8; have z9 := pw_cell_below hb q9; clear q0 q1 q2 q3 q4 q5 q6 q7 q8 q9; have HB2 := Aside0.mk (below_step HB.out hb); clear HB hb; have HB := HB2; clear HB2; have q0 := z0; have q1 := z1; have q2 := z2; have q3 := z3; have q4 := z4; have q5 := z5; have q6 := z6; have q7 := z7; have q8 := z8; have q9 := z9; clear z0 z1 z2 z3 z4 z5 z6 z7 z8 z9))
  go_ret
  refine ⟨?_, HB.out⟩
  first | rfl | (simp; omega)

set_option maxHeartbeats 8000000 in
set_option maxRecDepth 100000 in
theorem times_3_false_lt (a b c d s n m : Int) (w : World)
    (h1 : policy_Open.f a b c d s m = some true)
    (h2 : policy_Open.f a b c d s n = some false)
    (g1 : s ≤ n)
    (g2 : m < n)
    (g3 : c < 1000000)
    (g4 : -9223372036854775808 ≤ c)
    : Calls Try.prog 4 #[.agg #[.int .i64 a, .int .i64 b, .int .i64 c, .int .i64 d], .int .i64 s, .agg #[.int .i64 n, .int .i64 m]] w fun e w' => e = .returned (.bool true) ∧ Below w.heap.size w w' := by
  have hu23 := Try.underlying23
  have hu38 := Try.underlying38
  have H1 := Aside0.mk h1
  have H2 := Aside0.mk h2
  clear h1 h2
  have HB := Aside0.mk (Below.refl w.heap.size w)
  go_enter Try.func4, Try.ntmps4
  go_upto_region 4 with (first
    | ((with_reducible refine gate_dst (N := 3) rfl ?_); refine box_event ?hg (N := 3) ?hd (cs := #[.int .i64 a, .int .i64 b, .int .i64 c, .int .i64 d]) (t := 23) ?hr ?_; (case hd => rfl); (case hg => rfl); (case hr => first | (go_simp; done) | (go_simp; rfl)); intro gb3 hg w7 hbox hb; have n0_ := Aside0.mk (below_step HB.out hb); clear HB hb; have HB := n0_; clear n0_; have q0 := (blk_cell hbox 0).trans rfl; have q1 := (blk_cell hbox 1).trans rfl; have q2 := (blk_cell hbox 2).trans rfl; have q3 := (blk_cell hbox 3).trans rfl; simp at q0 q1 q2 q3; clear hbox hg)
    | ((with_reducible refine gate_dst (N := 5) rfl ?_); refine box_event ?hg (N := 5) ?hd (cs := #[.int .i64 n, .int .i64 m]) (t := 38) ?hr ?_; (case hd => rfl); (case hg => rfl); (case hr => first | (go_simp; done) | (go_simp; rfl)); intro gb5 hg w7 hbox hb; have z0 := pw_cell_below hb q0; have z1 := pw_cell_below hb q1; have z2 := pw_cell_below hb q2; have z3 := pw_cell_below hb q3; clear q0 q1 q2 q3; have n0_ := Aside0.mk (below_step HB.out hb); clear HB hb; have HB := n0_; clear n0_; have q0 := z0; have q1 := z1; have q2 := z2; have q3 := z3; clear z0 z1 z2 z3; have q4 := (blk_cell hbox 0).trans rfl; have q5 := (blk_cell hbox 1).trans rfl; simp at q4 q5; clear hbox hg)
    | (go_at_call 17; (first | (with_reducible refine (policy_Open.calls a b c d s m true _ H1.out).mono ?_) | (with_reducible refine (policy_Open.calls a b c d s n false _ H2.out).mono ?_)); rintro e w' ⟨rfl, hb⟩; have z0 := pw_cell_below hb q0; have z1 := pw_cell_below hb q1; have z2 := pw_cell_below hb q2; have z3 := pw_cell_below hb q3; have z4 := pw_cell_below hb q4; have z5 := pw_cell_below hb q5; clear q0 q1 q2 q3 q4 q5; have HB2 := Aside0.mk (below_step HB.out hb); clear HB hb; have HB := HB2; clear HB2; have q0 := z0; have q1 := z1; have q2 := z2; have q3 := z3; have q4 := z4; have q5 := z5; clear z0 z1 z2 z3 z4 z5))
  have ne3 : gb3 ≠ w'.heap.size := (World.new_ne w' _ q0).symm
  have ne5 : gb5 ≠ w'.heap.size := (World.new_ne w' _ q4).symm
  have ge7 : w.heap.size ≤ w'.heap.size := HB.out.size
  refine gen_world (fun W => W.cell? ⟨gb3, 0, none⟩ = some (.int .i64 a) ∧ W.cell? ⟨gb3, 1, none⟩ = some (.int .i64 b) ∧ W.cell? ⟨gb3, 2, none⟩ = some (.int .i64 c) ∧ W.cell? ⟨gb3, 3, none⟩ = some (.int .i64 d) ∧ W.cell? ⟨gb5, 0, none⟩ = some (.int .i64 n) ∧ W.cell? ⟨gb5, 1, none⟩ = some (.int .i64 m) ∧ W.cell? ⟨w'.heap.size, 0, none⟩ = some (.int .i64 (a)) ∧ W.cell? ⟨w'.heap.size, 1, none⟩ = some (.int .i64 (b)) ∧ W.cell? ⟨w'.heap.size, 2, none⟩ = some (.int .i64 (c)) ∧ W.cell? ⟨w'.heap.size, 3, none⟩ = some (.int .i64 (d)) ∧ W.frozen? ⟨w'.heap.size, 2, none⟩ = false ∧ Below w.heap.size w W) ?_ ?_
  · exact ⟨cell_alloc _ q0, cell_alloc _ q1, cell_alloc _ q2, cell_alloc _ q3, cell_alloc _ q4, cell_alloc _ q5, by simp, by simp, by simp, by simp, by simp, below_alloc HB.out _⟩
  generalize w'.heap.size = gb7 at *
  have NE3 := Aside0.mk ne3
  have NE5 := Aside0.mk ne5
  have GE7 := Aside0.mk ge7
  clear q0 q1 q2 q3 q4 q5 ne3 ne5 ge7 HB
  rintro W ⟨q0, q1, q2, q3, q4, q5, q6, q7, q8, q9, hf, hw⟩
  have HB := Aside0.mk hw
  clear hw
  go_upto_region 6 with (fail)
  refine gen_world (fun W => W.cell? ⟨gb3, 0, none⟩ = some (.int .i64 a) ∧ W.cell? ⟨gb3, 1, none⟩ = some (.int .i64 b) ∧ W.cell? ⟨gb3, 2, none⟩ = some (.int .i64 c) ∧ W.cell? ⟨gb3, 3, none⟩ = some (.int .i64 d) ∧ W.cell? ⟨gb5, 0, none⟩ = some (.int .i64 n) ∧ W.cell? ⟨gb5, 1, none⟩ = some (.int .i64 m) ∧ W.cell? ⟨gb7, 0, none⟩ = some (.int .i64 (a)) ∧ W.cell? ⟨gb7, 1, none⟩ = some (.int .i64 (b)) ∧ W.cell? ⟨gb7, 2, none⟩ = some (.int .i64 (c + 1)) ∧ W.cell? ⟨gb7, 3, none⟩ = some (.int .i64 (d)) ∧ Below w.heap.size w W) ?_ ?_
  · have n3 := NE3.out
    have n5 := NE5.out
    refine ⟨(World.cell?_setCell_far _ _ _ _ (Ne.symm n3)).trans q0, (World.cell?_setCell_far _ _ _ _ (Ne.symm n3)).trans q1, (World.cell?_setCell_far _ _ _ _ (Ne.symm n3)).trans q2, (World.cell?_setCell_far _ _ _ _ (Ne.symm n3)).trans q3, (World.cell?_setCell_far _ _ _ _ (Ne.symm n5)).trans q4, (World.cell?_setCell_far _ _ _ _ (Ne.symm n5)).trans q5, (World.cell?_setCell_other _ _ _ _ (by simp)).trans q6, (World.cell?_setCell_other _ _ _ _ (by simp)).trans q7, World.cell?_setCell_same _ _ _ q8, (World.cell?_setCell_other _ _ _ _ (by simp)).trans q9, Below.setCell HB.out GE7.out _⟩
  clear q0 q1 q2 q3 q4 q5 q6 q7 q8 q9 HB
  rintro W ⟨q0, q1, q2, q3, q4, q5, q6, q7, q8, q9, hw⟩
  have HB := Aside0.mk hw
  clear hw
  go_wp2_with (first
    | (go_at_call 17; refine (policy_Open.calls a b c d s n false _ H2.out).mono ?_; rintro e w' ⟨rfl, hb⟩; have z0 := pw_cell_below hb q0; have z1 := pw_cell_below hb q1; have z2 := pw_cell_below hb q2; have z3 := pw_cell_below hb q3; have z4 := pw_cell_below hb q4; have z5 := pw_cell_below hb q5; have z6 := pw_cell_below hb q6; have z7 := pw_cell_below hb q7; have z8 := pw_cell_below hb q8; have z9 := pw_cell_below hb q9; clear q0 q1 q2 q3 q4 q5 q6 q7 q8 q9; have HB2 := Aside0.mk (below_step HB.out hb); clear HB hb; have HB := HB2; clear HB2; have q0 := z0; have q1 := z1; have q2 := z2; have q3 := z3; have q4 := z4; have q5 := z5; have q6 := z6; have q7 := z7; have q8 := z8; have q9 := z9; clear z0 z1 z2 z3 z4 z5 z6 z7 z8 z9)
    | (go_at_call 21; refine (awake_calls _).mono ?_; rintro e w' ⟨rfl, hb⟩; have z0 := pw_cell_below hb q0; have z1 := pw_cell_below hb q1; have z2 := pw_cell_below hb q2; have z3 := pw_cell_below hb q3; have z4 := pw_cell_below hb q4; have z5 := pw_cell_below hb q5; have z6 := pw_cell_below hb q6; have z7 := pw_cell_below hb q7; have z8 := pw_cell_below hb q8; have z9 := pw_cell_below hb q9; clear q0 q1 q2 q3 q4 q5 q6 q7 q8 q9; have HB2 := Aside0.mk (below_step HB.out hb); clear HB hb; have HB := HB2; clear HB2; have q0 := z0; have q1 := z1; have q2 := z2; have q3 := z3; have q4 := z4; have q5 := z5; have q6 := z6; have q7 := z7; have q8 := z8; have q9 := z9; clear z0 z1 z2 z3 z4 z5 z6 z7 z8 z9))
  go_ret
  refine ⟨?_, HB.out⟩
  first | rfl | (simp; omega)

set_option maxHeartbeats 8000000 in
set_option maxRecDepth 100000 in
theorem times_3_false_ge (a b c d s n m : Int) (w : World)
    (h1 : policy_Open.f a b c d s m = some true)
    (h2 : policy_Open.f a b c d s n = some false)
    (g1 : s ≤ n)
    (g2 : m < n)
    (g3 : 1000000 ≤ c)
    (g4 : -9223372036854775808 ≤ c)
    : Calls Try.prog 4 #[.agg #[.int .i64 a, .int .i64 b, .int .i64 c, .int .i64 d], .int .i64 s, .agg #[.int .i64 n, .int .i64 m]] w fun e w' => e = .returned (.bool true) ∧ Below w.heap.size w w' := by
  have hu23 := Try.underlying23
  have hu38 := Try.underlying38
  have H1 := Aside0.mk h1
  have H2 := Aside0.mk h2
  clear h1 h2
  have HB := Aside0.mk (Below.refl w.heap.size w)
  go_enter Try.func4, Try.ntmps4
  go_upto_region 4 with (first
    | ((with_reducible refine gate_dst (N := 3) rfl ?_); refine box_event ?hg (N := 3) ?hd (cs := #[.int .i64 a, .int .i64 b, .int .i64 c, .int .i64 d]) (t := 23) ?hr ?_; (case hd => rfl); (case hg => rfl); (case hr => first | (go_simp; done) | (go_simp; rfl)); intro gb3 hg w7 hbox hb; have n0_ := Aside0.mk (below_step HB.out hb); clear HB hb; have HB := n0_; clear n0_; have q0 := (blk_cell hbox 0).trans rfl; have q1 := (blk_cell hbox 1).trans rfl; have q2 := (blk_cell hbox 2).trans rfl; have q3 := (blk_cell hbox 3).trans rfl; simp at q0 q1 q2 q3; clear hbox hg)
    | ((with_reducible refine gate_dst (N := 5) rfl ?_); refine box_event ?hg (N := 5) ?hd (cs := #[.int .i64 n, .int .i64 m]) (t := 38) ?hr ?_; (case hd => rfl); (case hg => rfl); (case hr => first | (go_simp; done) | (go_simp; rfl)); intro gb5 hg w7 hbox hb; have z0 := pw_cell_below hb q0; have z1 := pw_cell_below hb q1; have z2 := pw_cell_below hb q2; have z3 := pw_cell_below hb q3; clear q0 q1 q2 q3; have n0_ := Aside0.mk (below_step HB.out hb); clear HB hb; have HB := n0_; clear n0_; have q0 := z0; have q1 := z1; have q2 := z2; have q3 := z3; clear z0 z1 z2 z3; have q4 := (blk_cell hbox 0).trans rfl; have q5 := (blk_cell hbox 1).trans rfl; simp at q4 q5; clear hbox hg)
    | (go_at_call 17; (first | (with_reducible refine (policy_Open.calls a b c d s m true _ H1.out).mono ?_) | (with_reducible refine (policy_Open.calls a b c d s n false _ H2.out).mono ?_)); rintro e w' ⟨rfl, hb⟩; have z0 := pw_cell_below hb q0; have z1 := pw_cell_below hb q1; have z2 := pw_cell_below hb q2; have z3 := pw_cell_below hb q3; have z4 := pw_cell_below hb q4; have z5 := pw_cell_below hb q5; clear q0 q1 q2 q3 q4 q5; have HB2 := Aside0.mk (below_step HB.out hb); clear HB hb; have HB := HB2; clear HB2; have q0 := z0; have q1 := z1; have q2 := z2; have q3 := z3; have q4 := z4; have q5 := z5; clear z0 z1 z2 z3 z4 z5))
  have ne3 : gb3 ≠ w'.heap.size := (World.new_ne w' _ q0).symm
  have ne5 : gb5 ≠ w'.heap.size := (World.new_ne w' _ q4).symm
  have ge7 : w.heap.size ≤ w'.heap.size := HB.out.size
  refine gen_world (fun W => W.cell? ⟨gb3, 0, none⟩ = some (.int .i64 a) ∧ W.cell? ⟨gb3, 1, none⟩ = some (.int .i64 b) ∧ W.cell? ⟨gb3, 2, none⟩ = some (.int .i64 c) ∧ W.cell? ⟨gb3, 3, none⟩ = some (.int .i64 d) ∧ W.cell? ⟨gb5, 0, none⟩ = some (.int .i64 n) ∧ W.cell? ⟨gb5, 1, none⟩ = some (.int .i64 m) ∧ W.cell? ⟨w'.heap.size, 0, none⟩ = some (.int .i64 (a)) ∧ W.cell? ⟨w'.heap.size, 1, none⟩ = some (.int .i64 (b)) ∧ W.cell? ⟨w'.heap.size, 2, none⟩ = some (.int .i64 (c)) ∧ W.cell? ⟨w'.heap.size, 3, none⟩ = some (.int .i64 (d)) ∧ W.frozen? ⟨w'.heap.size, 2, none⟩ = false ∧ Below w.heap.size w W) ?_ ?_
  · exact ⟨cell_alloc _ q0, cell_alloc _ q1, cell_alloc _ q2, cell_alloc _ q3, cell_alloc _ q4, cell_alloc _ q5, by simp, by simp, by simp, by simp, by simp, below_alloc HB.out _⟩
  generalize w'.heap.size = gb7 at *
  have NE3 := Aside0.mk ne3
  have NE5 := Aside0.mk ne5
  have GE7 := Aside0.mk ge7
  clear q0 q1 q2 q3 q4 q5 ne3 ne5 ge7 HB
  rintro W ⟨q0, q1, q2, q3, q4, q5, q6, q7, q8, q9, hf, hw⟩
  have HB := Aside0.mk hw
  clear hw
  go_wp2_with (first
    | (go_at_call 17; refine (policy_Open.calls a b c d s n false _ H2.out).mono ?_; rintro e w' ⟨rfl, hb⟩; have z0 := pw_cell_below hb q0; have z1 := pw_cell_below hb q1; have z2 := pw_cell_below hb q2; have z3 := pw_cell_below hb q3; have z4 := pw_cell_below hb q4; have z5 := pw_cell_below hb q5; have z6 := pw_cell_below hb q6; have z7 := pw_cell_below hb q7; have z8 := pw_cell_below hb q8; have z9 := pw_cell_below hb q9; clear q0 q1 q2 q3 q4 q5 q6 q7 q8 q9; have HB2 := Aside0.mk (below_step HB.out hb); clear HB hb; have HB := HB2; clear HB2; have q0 := z0; have q1 := z1; have q2 := z2; have q3 := z3; have q4 := z4; have q5 := z5; have q6 := z6; have q7 := z7; have q8 := z8; have q9 := z9; clear z0 z1 z2 z3 z4 z5 z6 z7 z8 z9)
    | (go_at_call 21; refine (awake_calls _).mono ?_; rintro e w' ⟨rfl, hb⟩; have z0 := pw_cell_below hb q0; have z1 := pw_cell_below hb q1; have z2 := pw_cell_below hb q2; have z3 := pw_cell_below hb q3; have z4 := pw_cell_below hb q4; have z5 := pw_cell_below hb q5; have z6 := pw_cell_below hb q6; have z7 := pw_cell_below hb q7; have z8 := pw_cell_below hb q8; have z9 := pw_cell_below hb q9; clear q0 q1 q2 q3 q4 q5 q6 q7 q8 q9; have HB2 := Aside0.mk (below_step HB.out hb); clear HB hb; have HB := HB2; clear HB2; have q0 := z0; have q1 := z1; have q2 := z2; have q3 := z3; have q4 := z4; have q5 := z5; have q6 := z6; have q7 := z7; have q8 := z8; have q9 := z9; clear z0 z1 z2 z3 z4 z5 z6 z7 z8 z9))
  go_ret
  refine ⟨?_, HB.out⟩
  first | rfl | (simp; omega)

set_option maxHeartbeats 8000000 in
set_option maxRecDepth 100000 in
theorem times_3_true_lt (a b c d s n m : Int) (w : World)
    (h1 : policy_Open.f a b c d s m = some true)
    (h2 : policy_Open.f a b c d s n = some true)
    (h3 : policy_Open.f a b (c + 1) d s n = some true)
    (g1 : s ≤ n)
    (g2 : m < n)
    (g3 : c < 1000000)
    (g4 : -9223372036854775808 ≤ c)
    : Calls Try.prog 4 #[.agg #[.int .i64 a, .int .i64 b, .int .i64 c, .int .i64 d], .int .i64 s, .agg #[.int .i64 n, .int .i64 m]] w fun e w' => e = .returned (.bool true) ∧ Below w.heap.size w w' := by
  have hu23 := Try.underlying23
  have hu38 := Try.underlying38
  have H1 := Aside0.mk h1
  have H2 := Aside0.mk h2
  have H3 := Aside0.mk h3
  clear h1 h2 h3
  have HB := Aside0.mk (Below.refl w.heap.size w)
  go_enter Try.func4, Try.ntmps4
  go_upto_region 4 with (first
    | ((with_reducible refine gate_dst (N := 3) rfl ?_); refine box_event ?hg (N := 3) ?hd (cs := #[.int .i64 a, .int .i64 b, .int .i64 c, .int .i64 d]) (t := 23) ?hr ?_; (case hd => rfl); (case hg => rfl); (case hr => first | (go_simp; done) | (go_simp; rfl)); intro gb3 hg w7 hbox hb; have n0_ := Aside0.mk (below_step HB.out hb); clear HB hb; have HB := n0_; clear n0_; have q0 := (blk_cell hbox 0).trans rfl; have q1 := (blk_cell hbox 1).trans rfl; have q2 := (blk_cell hbox 2).trans rfl; have q3 := (blk_cell hbox 3).trans rfl; simp at q0 q1 q2 q3; clear hbox hg)
    | ((with_reducible refine gate_dst (N := 5) rfl ?_); refine box_event ?hg (N := 5) ?hd (cs := #[.int .i64 n, .int .i64 m]) (t := 38) ?hr ?_; (case hd => rfl); (case hg => rfl); (case hr => first | (go_simp; done) | (go_simp; rfl)); intro gb5 hg w7 hbox hb; have z0 := pw_cell_below hb q0; have z1 := pw_cell_below hb q1; have z2 := pw_cell_below hb q2; have z3 := pw_cell_below hb q3; clear q0 q1 q2 q3; have n0_ := Aside0.mk (below_step HB.out hb); clear HB hb; have HB := n0_; clear n0_; have q0 := z0; have q1 := z1; have q2 := z2; have q3 := z3; clear z0 z1 z2 z3; have q4 := (blk_cell hbox 0).trans rfl; have q5 := (blk_cell hbox 1).trans rfl; simp at q4 q5; clear hbox hg)
    | (go_at_call 17; (first | (with_reducible refine (policy_Open.calls a b c d s m true _ H1.out).mono ?_) | (with_reducible refine (policy_Open.calls a b c d s n true _ H2.out).mono ?_)); rintro e w' ⟨rfl, hb⟩; have z0 := pw_cell_below hb q0; have z1 := pw_cell_below hb q1; have z2 := pw_cell_below hb q2; have z3 := pw_cell_below hb q3; have z4 := pw_cell_below hb q4; have z5 := pw_cell_below hb q5; clear q0 q1 q2 q3 q4 q5; have HB2 := Aside0.mk (below_step HB.out hb); clear HB hb; have HB := HB2; clear HB2; have q0 := z0; have q1 := z1; have q2 := z2; have q3 := z3; have q4 := z4; have q5 := z5; clear z0 z1 z2 z3 z4 z5))
  have ne3 : gb3 ≠ w'.heap.size := (World.new_ne w' _ q0).symm
  have ne5 : gb5 ≠ w'.heap.size := (World.new_ne w' _ q4).symm
  have ge7 : w.heap.size ≤ w'.heap.size := HB.out.size
  refine gen_world (fun W => W.cell? ⟨gb3, 0, none⟩ = some (.int .i64 a) ∧ W.cell? ⟨gb3, 1, none⟩ = some (.int .i64 b) ∧ W.cell? ⟨gb3, 2, none⟩ = some (.int .i64 c) ∧ W.cell? ⟨gb3, 3, none⟩ = some (.int .i64 d) ∧ W.cell? ⟨gb5, 0, none⟩ = some (.int .i64 n) ∧ W.cell? ⟨gb5, 1, none⟩ = some (.int .i64 m) ∧ W.cell? ⟨w'.heap.size, 0, none⟩ = some (.int .i64 (a)) ∧ W.cell? ⟨w'.heap.size, 1, none⟩ = some (.int .i64 (b)) ∧ W.cell? ⟨w'.heap.size, 2, none⟩ = some (.int .i64 (c)) ∧ W.cell? ⟨w'.heap.size, 3, none⟩ = some (.int .i64 (d)) ∧ W.frozen? ⟨w'.heap.size, 2, none⟩ = false ∧ Below w.heap.size w W) ?_ ?_
  · exact ⟨cell_alloc _ q0, cell_alloc _ q1, cell_alloc _ q2, cell_alloc _ q3, cell_alloc _ q4, cell_alloc _ q5, by simp, by simp, by simp, by simp, by simp, below_alloc HB.out _⟩
  generalize w'.heap.size = gb7 at *
  have NE3 := Aside0.mk ne3
  have NE5 := Aside0.mk ne5
  have GE7 := Aside0.mk ge7
  clear q0 q1 q2 q3 q4 q5 ne3 ne5 ge7 HB
  rintro W ⟨q0, q1, q2, q3, q4, q5, q6, q7, q8, q9, hf, hw⟩
  have HB := Aside0.mk hw
  clear hw
  go_upto_region 6 with (fail)
  refine gen_world (fun W => W.cell? ⟨gb3, 0, none⟩ = some (.int .i64 a) ∧ W.cell? ⟨gb3, 1, none⟩ = some (.int .i64 b) ∧ W.cell? ⟨gb3, 2, none⟩ = some (.int .i64 c) ∧ W.cell? ⟨gb3, 3, none⟩ = some (.int .i64 d) ∧ W.cell? ⟨gb5, 0, none⟩ = some (.int .i64 n) ∧ W.cell? ⟨gb5, 1, none⟩ = some (.int .i64 m) ∧ W.cell? ⟨gb7, 0, none⟩ = some (.int .i64 (a)) ∧ W.cell? ⟨gb7, 1, none⟩ = some (.int .i64 (b)) ∧ W.cell? ⟨gb7, 2, none⟩ = some (.int .i64 (c + 1)) ∧ W.cell? ⟨gb7, 3, none⟩ = some (.int .i64 (d)) ∧ Below w.heap.size w W) ?_ ?_
  · have n3 := NE3.out
    have n5 := NE5.out
    refine ⟨(World.cell?_setCell_far _ _ _ _ (Ne.symm n3)).trans q0, (World.cell?_setCell_far _ _ _ _ (Ne.symm n3)).trans q1, (World.cell?_setCell_far _ _ _ _ (Ne.symm n3)).trans q2, (World.cell?_setCell_far _ _ _ _ (Ne.symm n3)).trans q3, (World.cell?_setCell_far _ _ _ _ (Ne.symm n5)).trans q4, (World.cell?_setCell_far _ _ _ _ (Ne.symm n5)).trans q5, (World.cell?_setCell_other _ _ _ _ (by simp)).trans q6, (World.cell?_setCell_other _ _ _ _ (by simp)).trans q7, World.cell?_setCell_same _ _ _ q8, (World.cell?_setCell_other _ _ _ _ (by simp)).trans q9, Below.setCell HB.out GE7.out _⟩
  clear q0 q1 q2 q3 q4 q5 q6 q7 q8 q9 HB
  rintro W ⟨q0, q1, q2, q3, q4, q5, q6, q7, q8, q9, hw⟩
  have HB := Aside0.mk hw
  clear hw
  go_wp2_with (first
    | (go_at_call 17; (first | (with_reducible refine (policy_Open.calls a b c d s n true _ H2.out).mono ?_) | (with_reducible refine (policy_Open.calls a b (c + 1) d s n true _ H3.out).mono ?_)); rintro e w' ⟨rfl, hb⟩; have z0 := pw_cell_below hb q0; have z1 := pw_cell_below hb q1; have z2 := pw_cell_below hb q2; have z3 := pw_cell_below hb q3; have z4 := pw_cell_below hb q4; have z5 := pw_cell_below hb q5; have z6 := pw_cell_below hb q6; have z7 := pw_cell_below hb q7; have z8 := pw_cell_below hb q8; have z9 := pw_cell_below hb q9; clear q0 q1 q2 q3 q4 q5 q6 q7 q8 q9; have HB2 := Aside0.mk (below_step HB.out hb); clear HB hb; have HB := HB2; clear HB2; have q0 := z0; have q1 := z1; have q2 := z2; have q3 := z3; have q4 := z4; have q5 := z5; have q6 := z6; have q7 := z7; have q8 := z8; have q9 := z9; clear z0 z1 z2 z3 z4 z5 z6 z7 z8 z9)
    | (go_at_call 21; refine (awake_calls _).mono ?_; rintro e w' ⟨rfl, hb⟩; have z0 := pw_cell_below hb q0; have z1 := pw_cell_below hb q1; have z2 := pw_cell_below hb q2; have z3 := pw_cell_below hb q3; have z4 := pw_cell_below hb q4; have z5 := pw_cell_below hb q5; have z6 := pw_cell_below hb q6; have z7 := pw_cell_below hb q7; have z8 := pw_cell_below hb q8; have z9 := pw_cell_below hb q9; clear q0 q1 q2 q3 q4 q5 q6 q7 q8 q9; have HB2 := Aside0.mk (below_step HB.out hb); clear HB hb; have HB := HB2; clear HB2; have q0 := z0; have q1 := z1; have q2 := z2; have q3 := z3; have q4 := z4; have q5 := z5; have q6 := z6; have q7 := z7; have q8 := z8; have q9 := z9; clear z0 z1 z2 z3 z4 z5 z6 z7 z8 z9))
  go_ret
  refine ⟨?_, HB.out⟩
  first | rfl | (simp; omega)

set_option maxHeartbeats 8000000 in
set_option maxRecDepth 100000 in
theorem times_3_true_ge (a b c d s n m : Int) (w : World)
    (h1 : policy_Open.f a b c d s m = some true)
    (h2 : policy_Open.f a b c d s n = some true)
    (g1 : s ≤ n)
    (g2 : m < n)
    (g3 : 1000000 ≤ c)
    (g4 : -9223372036854775808 ≤ c)
    : Calls Try.prog 4 #[.agg #[.int .i64 a, .int .i64 b, .int .i64 c, .int .i64 d], .int .i64 s, .agg #[.int .i64 n, .int .i64 m]] w fun e w' => e = .returned (.bool true) ∧ Below w.heap.size w w' := by
  have hu23 := Try.underlying23
  have hu38 := Try.underlying38
  have H1 := Aside0.mk h1
  have H2 := Aside0.mk h2
  clear h1 h2
  have HB := Aside0.mk (Below.refl w.heap.size w)
  go_enter Try.func4, Try.ntmps4
  go_upto_region 4 with (first
    | ((with_reducible refine gate_dst (N := 3) rfl ?_); refine box_event ?hg (N := 3) ?hd (cs := #[.int .i64 a, .int .i64 b, .int .i64 c, .int .i64 d]) (t := 23) ?hr ?_; (case hd => rfl); (case hg => rfl); (case hr => first | (go_simp; done) | (go_simp; rfl)); intro gb3 hg w7 hbox hb; have n0_ := Aside0.mk (below_step HB.out hb); clear HB hb; have HB := n0_; clear n0_; have q0 := (blk_cell hbox 0).trans rfl; have q1 := (blk_cell hbox 1).trans rfl; have q2 := (blk_cell hbox 2).trans rfl; have q3 := (blk_cell hbox 3).trans rfl; simp at q0 q1 q2 q3; clear hbox hg)
    | ((with_reducible refine gate_dst (N := 5) rfl ?_); refine box_event ?hg (N := 5) ?hd (cs := #[.int .i64 n, .int .i64 m]) (t := 38) ?hr ?_; (case hd => rfl); (case hg => rfl); (case hr => first | (go_simp; done) | (go_simp; rfl)); intro gb5 hg w7 hbox hb; have z0 := pw_cell_below hb q0; have z1 := pw_cell_below hb q1; have z2 := pw_cell_below hb q2; have z3 := pw_cell_below hb q3; clear q0 q1 q2 q3; have n0_ := Aside0.mk (below_step HB.out hb); clear HB hb; have HB := n0_; clear n0_; have q0 := z0; have q1 := z1; have q2 := z2; have q3 := z3; clear z0 z1 z2 z3; have q4 := (blk_cell hbox 0).trans rfl; have q5 := (blk_cell hbox 1).trans rfl; simp at q4 q5; clear hbox hg)
    | (go_at_call 17; (first | (with_reducible refine (policy_Open.calls a b c d s m true _ H1.out).mono ?_) | (with_reducible refine (policy_Open.calls a b c d s n true _ H2.out).mono ?_)); rintro e w' ⟨rfl, hb⟩; have z0 := pw_cell_below hb q0; have z1 := pw_cell_below hb q1; have z2 := pw_cell_below hb q2; have z3 := pw_cell_below hb q3; have z4 := pw_cell_below hb q4; have z5 := pw_cell_below hb q5; clear q0 q1 q2 q3 q4 q5; have HB2 := Aside0.mk (below_step HB.out hb); clear HB hb; have HB := HB2; clear HB2; have q0 := z0; have q1 := z1; have q2 := z2; have q3 := z3; have q4 := z4; have q5 := z5; clear z0 z1 z2 z3 z4 z5))
  have ne3 : gb3 ≠ w'.heap.size := (World.new_ne w' _ q0).symm
  have ne5 : gb5 ≠ w'.heap.size := (World.new_ne w' _ q4).symm
  have ge7 : w.heap.size ≤ w'.heap.size := HB.out.size
  refine gen_world (fun W => W.cell? ⟨gb3, 0, none⟩ = some (.int .i64 a) ∧ W.cell? ⟨gb3, 1, none⟩ = some (.int .i64 b) ∧ W.cell? ⟨gb3, 2, none⟩ = some (.int .i64 c) ∧ W.cell? ⟨gb3, 3, none⟩ = some (.int .i64 d) ∧ W.cell? ⟨gb5, 0, none⟩ = some (.int .i64 n) ∧ W.cell? ⟨gb5, 1, none⟩ = some (.int .i64 m) ∧ W.cell? ⟨w'.heap.size, 0, none⟩ = some (.int .i64 (a)) ∧ W.cell? ⟨w'.heap.size, 1, none⟩ = some (.int .i64 (b)) ∧ W.cell? ⟨w'.heap.size, 2, none⟩ = some (.int .i64 (c)) ∧ W.cell? ⟨w'.heap.size, 3, none⟩ = some (.int .i64 (d)) ∧ W.frozen? ⟨w'.heap.size, 2, none⟩ = false ∧ Below w.heap.size w W) ?_ ?_
  · exact ⟨cell_alloc _ q0, cell_alloc _ q1, cell_alloc _ q2, cell_alloc _ q3, cell_alloc _ q4, cell_alloc _ q5, by simp, by simp, by simp, by simp, by simp, below_alloc HB.out _⟩
  generalize w'.heap.size = gb7 at *
  have NE3 := Aside0.mk ne3
  have NE5 := Aside0.mk ne5
  have GE7 := Aside0.mk ge7
  clear q0 q1 q2 q3 q4 q5 ne3 ne5 ge7 HB
  rintro W ⟨q0, q1, q2, q3, q4, q5, q6, q7, q8, q9, hf, hw⟩
  have HB := Aside0.mk hw
  clear hw
  go_wp2_with (first
    | (go_at_call 17; refine (policy_Open.calls a b c d s n true _ H2.out).mono ?_; rintro e w' ⟨rfl, hb⟩; have z0 := pw_cell_below hb q0; have z1 := pw_cell_below hb q1; have z2 := pw_cell_below hb q2; have z3 := pw_cell_below hb q3; have z4 := pw_cell_below hb q4; have z5 := pw_cell_below hb q5; have z6 := pw_cell_below hb q6; have z7 := pw_cell_below hb q7; have z8 := pw_cell_below hb q8; have z9 := pw_cell_below hb q9; clear q0 q1 q2 q3 q4 q5 q6 q7 q8 q9; have HB2 := Aside0.mk (below_step HB.out hb); clear HB hb; have HB := HB2; clear HB2; have q0 := z0; have q1 := z1; have q2 := z2; have q3 := z3; have q4 := z4; have q5 := z5; have q6 := z6; have q7 := z7; have q8 := z8; have q9 := z9; clear z0 z1 z2 z3 z4 z5 z6 z7 z8 z9)
    | (go_at_call 21; refine (awake_calls _).mono ?_; rintro e w' ⟨rfl, hb⟩; have z0 := pw_cell_below hb q0; have z1 := pw_cell_below hb q1; have z2 := pw_cell_below hb q2; have z3 := pw_cell_below hb q3; have z4 := pw_cell_below hb q4; have z5 := pw_cell_below hb q5; have z6 := pw_cell_below hb q6; have z7 := pw_cell_below hb q7; have z8 := pw_cell_below hb q8; have z9 := pw_cell_below hb q9; clear q0 q1 q2 q3 q4 q5 q6 q7 q8 q9; have HB2 := Aside0.mk (below_step HB.out hb); clear HB hb; have HB := HB2; clear HB2; have q0 := z0; have q1 := z1; have q2 := z2; have q3 := z3; have q4 := z4; have q5 := z5; have q6 := z6; have q7 := z7; have q8 := z8; have q9 := z9; clear z0 z1 z2 z3 z4 z5 z6 z7 z8 z9))
  go_ret
  refine ⟨?_, HB.out⟩
  first | rfl | (simp; omega)

set_option maxHeartbeats 8000000 in
set_option maxRecDepth 100000 in
theorem times_4_true_lt (a b c d s n m : Int) (w : World)
    (h1 : policy_Open.f a b c d s m = some true)
    (h2 : policy_Open.f a b c d s n = some true)
    (h3 : policy_Open.f a b (c + 1) d s n = some true)
    (g1 : s ≤ n)
    (g2 : n ≤ m)
    (g3 : c < 1000000)
    (g4 : -9223372036854775808 ≤ c)
    : Calls Try.prog 4 #[.agg #[.int .i64 a, .int .i64 b, .int .i64 c, .int .i64 d], .int .i64 s, .agg #[.int .i64 n, .int .i64 m]] w fun e w' => e = .returned (.bool true) ∧ Below w.heap.size w w' := by
  have hu23 := Try.underlying23
  have hu38 := Try.underlying38
  have H1 := Aside0.mk h1
  have H2 := Aside0.mk h2
  have H3 := Aside0.mk h3
  clear h1 h2 h3
  have HB := Aside0.mk (Below.refl w.heap.size w)
  go_enter Try.func4, Try.ntmps4
  go_upto_region 4 with (first
    | ((with_reducible refine gate_dst (N := 3) rfl ?_); refine box_event ?hg (N := 3) ?hd (cs := #[.int .i64 a, .int .i64 b, .int .i64 c, .int .i64 d]) (t := 23) ?hr ?_; (case hd => rfl); (case hg => rfl); (case hr => first | (go_simp; done) | (go_simp; rfl)); intro gb3 hg w7 hbox hb; have n0_ := Aside0.mk (below_step HB.out hb); clear HB hb; have HB := n0_; clear n0_; have q0 := (blk_cell hbox 0).trans rfl; have q1 := (blk_cell hbox 1).trans rfl; have q2 := (blk_cell hbox 2).trans rfl; have q3 := (blk_cell hbox 3).trans rfl; simp at q0 q1 q2 q3; clear hbox hg)
    | ((with_reducible refine gate_dst (N := 5) rfl ?_); refine box_event ?hg (N := 5) ?hd (cs := #[.int .i64 n, .int .i64 m]) (t := 38) ?hr ?_; (case hd => rfl); (case hg => rfl); (case hr => first | (go_simp; done) | (go_simp; rfl)); intro gb5 hg w7 hbox hb; have z0 := pw_cell_below hb q0; have z1 := pw_cell_below hb q1; have z2 := pw_cell_below hb q2; have z3 := pw_cell_below hb q3; clear q0 q1 q2 q3; have n0_ := Aside0.mk (below_step HB.out hb); clear HB hb; have HB := n0_; clear n0_; have q0 := z0; have q1 := z1; have q2 := z2; have q3 := z3; clear z0 z1 z2 z3; have q4 := (blk_cell hbox 0).trans rfl; have q5 := (blk_cell hbox 1).trans rfl; simp at q4 q5; clear hbox hg)
    | (go_at_call 17; (first | (with_reducible refine (policy_Open.calls a b c d s m true _ H1.out).mono ?_) | (with_reducible refine (policy_Open.calls a b c d s n true _ H2.out).mono ?_)); rintro e w' ⟨rfl, hb⟩; have z0 := pw_cell_below hb q0; have z1 := pw_cell_below hb q1; have z2 := pw_cell_below hb q2; have z3 := pw_cell_below hb q3; have z4 := pw_cell_below hb q4; have z5 := pw_cell_below hb q5; clear q0 q1 q2 q3 q4 q5; have HB2 := Aside0.mk (below_step HB.out hb); clear HB hb; have HB := HB2; clear HB2; have q0 := z0; have q1 := z1; have q2 := z2; have q3 := z3; have q4 := z4; have q5 := z5; clear z0 z1 z2 z3 z4 z5))
  have ne3 : gb3 ≠ w'.heap.size := (World.new_ne w' _ q0).symm
  have ne5 : gb5 ≠ w'.heap.size := (World.new_ne w' _ q4).symm
  have ge7 : w.heap.size ≤ w'.heap.size := HB.out.size
  refine gen_world (fun W => W.cell? ⟨gb3, 0, none⟩ = some (.int .i64 a) ∧ W.cell? ⟨gb3, 1, none⟩ = some (.int .i64 b) ∧ W.cell? ⟨gb3, 2, none⟩ = some (.int .i64 c) ∧ W.cell? ⟨gb3, 3, none⟩ = some (.int .i64 d) ∧ W.cell? ⟨gb5, 0, none⟩ = some (.int .i64 n) ∧ W.cell? ⟨gb5, 1, none⟩ = some (.int .i64 m) ∧ W.cell? ⟨w'.heap.size, 0, none⟩ = some (.int .i64 (a)) ∧ W.cell? ⟨w'.heap.size, 1, none⟩ = some (.int .i64 (b)) ∧ W.cell? ⟨w'.heap.size, 2, none⟩ = some (.int .i64 (c)) ∧ W.cell? ⟨w'.heap.size, 3, none⟩ = some (.int .i64 (d)) ∧ W.frozen? ⟨w'.heap.size, 2, none⟩ = false ∧ Below w.heap.size w W) ?_ ?_
  · exact ⟨cell_alloc _ q0, cell_alloc _ q1, cell_alloc _ q2, cell_alloc _ q3, cell_alloc _ q4, cell_alloc _ q5, by simp, by simp, by simp, by simp, by simp, below_alloc HB.out _⟩
  generalize w'.heap.size = gb7 at *
  have NE3 := Aside0.mk ne3
  have NE5 := Aside0.mk ne5
  have GE7 := Aside0.mk ge7
  clear q0 q1 q2 q3 q4 q5 ne3 ne5 ge7 HB
  rintro W ⟨q0, q1, q2, q3, q4, q5, q6, q7, q8, q9, hf, hw⟩
  have HB := Aside0.mk hw
  clear hw
  go_upto_region 6 with (fail)
  refine gen_world (fun W => W.cell? ⟨gb3, 0, none⟩ = some (.int .i64 a) ∧ W.cell? ⟨gb3, 1, none⟩ = some (.int .i64 b) ∧ W.cell? ⟨gb3, 2, none⟩ = some (.int .i64 c) ∧ W.cell? ⟨gb3, 3, none⟩ = some (.int .i64 d) ∧ W.cell? ⟨gb5, 0, none⟩ = some (.int .i64 n) ∧ W.cell? ⟨gb5, 1, none⟩ = some (.int .i64 m) ∧ W.cell? ⟨gb7, 0, none⟩ = some (.int .i64 (a)) ∧ W.cell? ⟨gb7, 1, none⟩ = some (.int .i64 (b)) ∧ W.cell? ⟨gb7, 2, none⟩ = some (.int .i64 (c + 1)) ∧ W.cell? ⟨gb7, 3, none⟩ = some (.int .i64 (d)) ∧ Below w.heap.size w W) ?_ ?_
  · have n3 := NE3.out
    have n5 := NE5.out
    refine ⟨(World.cell?_setCell_far _ _ _ _ (Ne.symm n3)).trans q0, (World.cell?_setCell_far _ _ _ _ (Ne.symm n3)).trans q1, (World.cell?_setCell_far _ _ _ _ (Ne.symm n3)).trans q2, (World.cell?_setCell_far _ _ _ _ (Ne.symm n3)).trans q3, (World.cell?_setCell_far _ _ _ _ (Ne.symm n5)).trans q4, (World.cell?_setCell_far _ _ _ _ (Ne.symm n5)).trans q5, (World.cell?_setCell_other _ _ _ _ (by simp)).trans q6, (World.cell?_setCell_other _ _ _ _ (by simp)).trans q7, World.cell?_setCell_same _ _ _ q8, (World.cell?_setCell_other _ _ _ _ (by simp)).trans q9, Below.setCell HB.out GE7.out _⟩
  clear q0 q1 q2 q3 q4 q5 q6 q7 q8 q9 HB
  rintro W ⟨q0, q1, q2, q3, q4, q5, q6, q7, q8, q9, hw⟩
  have HB := Aside0.mk hw
  clear hw
  go_wp2_with (first
    | (go_at_call 17; (first | (with_reducible refine (policy_Open.calls a b c d s n true _ H2.out).mono ?_) | (with_reducible refine (policy_Open.calls a b (c + 1) d s n true _ H3.out).mono ?_)); rintro e w' ⟨rfl, hb⟩; have z0 := pw_cell_below hb q0; have z1 := pw_cell_below hb q1; have z2 := pw_cell_below hb q2; have z3 := pw_cell_below hb q3; have z4 := pw_cell_below hb q4; have z5 := pw_cell_below hb q5; have z6 := pw_cell_below hb q6; have z7 := pw_cell_below hb q7; have z8 := pw_cell_below hb q8; have z9 := pw_cell_below hb q9; clear q0 q1 q2 q3 q4 q5 q6 q7 q8 q9; have HB2 := Aside0.mk (below_step HB.out hb); clear HB hb; have HB := HB2; clear HB2; have q0 := z0; have q1 := z1; have q2 := z2; have q3 := z3; have q4 := z4; have q5 := z5; have q6 := z6; have q7 := z7; have q8 := z8; have q9 := z9; clear z0 z1 z2 z3 z4 z5 z6 z7 z8 z9)
    | (go_at_call 21; refine (awake_calls _).mono ?_; rintro e w' ⟨rfl, hb⟩; have z0 := pw_cell_below hb q0; have z1 := pw_cell_below hb q1; have z2 := pw_cell_below hb q2; have z3 := pw_cell_below hb q3; have z4 := pw_cell_below hb q4; have z5 := pw_cell_below hb q5; have z6 := pw_cell_below hb q6; have z7 := pw_cell_below hb q7; have z8 := pw_cell_below hb q8; have z9 := pw_cell_below hb q9; clear q0 q1 q2 q3 q4 q5 q6 q7 q8 q9; have HB2 := Aside0.mk (below_step HB.out hb); clear HB hb; have HB := HB2; clear HB2; have q0 := z0; have q1 := z1; have q2 := z2; have q3 := z3; have q4 := z4; have q5 := z5; have q6 := z6; have q7 := z7; have q8 := z8; have q9 := z9; clear z0 z1 z2 z3 z4 z5 z6 z7 z8 z9))
  go_ret
  refine ⟨?_, HB.out⟩
  first | rfl | (simp; omega)

set_option maxHeartbeats 8000000 in
set_option maxRecDepth 100000 in
theorem times_4_true_ge (a b c d s n m : Int) (w : World)
    (h1 : policy_Open.f a b c d s m = some true)
    (h2 : policy_Open.f a b c d s n = some true)
    (g1 : s ≤ n)
    (g2 : n ≤ m)
    (g3 : 1000000 ≤ c)
    (g4 : -9223372036854775808 ≤ c)
    : Calls Try.prog 4 #[.agg #[.int .i64 a, .int .i64 b, .int .i64 c, .int .i64 d], .int .i64 s, .agg #[.int .i64 n, .int .i64 m]] w fun e w' => e = .returned (.bool true) ∧ Below w.heap.size w w' := by
  have hu23 := Try.underlying23
  have hu38 := Try.underlying38
  have H1 := Aside0.mk h1
  have H2 := Aside0.mk h2
  clear h1 h2
  have HB := Aside0.mk (Below.refl w.heap.size w)
  go_enter Try.func4, Try.ntmps4
  go_upto_region 4 with (first
    | ((with_reducible refine gate_dst (N := 3) rfl ?_); refine box_event ?hg (N := 3) ?hd (cs := #[.int .i64 a, .int .i64 b, .int .i64 c, .int .i64 d]) (t := 23) ?hr ?_; (case hd => rfl); (case hg => rfl); (case hr => first | (go_simp; done) | (go_simp; rfl)); intro gb3 hg w7 hbox hb; have n0_ := Aside0.mk (below_step HB.out hb); clear HB hb; have HB := n0_; clear n0_; have q0 := (blk_cell hbox 0).trans rfl; have q1 := (blk_cell hbox 1).trans rfl; have q2 := (blk_cell hbox 2).trans rfl; have q3 := (blk_cell hbox 3).trans rfl; simp at q0 q1 q2 q3; clear hbox hg)
    | ((with_reducible refine gate_dst (N := 5) rfl ?_); refine box_event ?hg (N := 5) ?hd (cs := #[.int .i64 n, .int .i64 m]) (t := 38) ?hr ?_; (case hd => rfl); (case hg => rfl); (case hr => first | (go_simp; done) | (go_simp; rfl)); intro gb5 hg w7 hbox hb; have z0 := pw_cell_below hb q0; have z1 := pw_cell_below hb q1; have z2 := pw_cell_below hb q2; have z3 := pw_cell_below hb q3; clear q0 q1 q2 q3; have n0_ := Aside0.mk (below_step HB.out hb); clear HB hb; have HB := n0_; clear n0_; have q0 := z0; have q1 := z1; have q2 := z2; have q3 := z3; clear z0 z1 z2 z3; have q4 := (blk_cell hbox 0).trans rfl; have q5 := (blk_cell hbox 1).trans rfl; simp at q4 q5; clear hbox hg)
    | (go_at_call 17; (first | (with_reducible refine (policy_Open.calls a b c d s m true _ H1.out).mono ?_) | (with_reducible refine (policy_Open.calls a b c d s n true _ H2.out).mono ?_)); rintro e w' ⟨rfl, hb⟩; have z0 := pw_cell_below hb q0; have z1 := pw_cell_below hb q1; have z2 := pw_cell_below hb q2; have z3 := pw_cell_below hb q3; have z4 := pw_cell_below hb q4; have z5 := pw_cell_below hb q5; clear q0 q1 q2 q3 q4 q5; have HB2 := Aside0.mk (below_step HB.out hb); clear HB hb; have HB := HB2; clear HB2; have q0 := z0; have q1 := z1; have q2 := z2; have q3 := z3; have q4 := z4; have q5 := z5; clear z0 z1 z2 z3 z4 z5))
  have ne3 : gb3 ≠ w'.heap.size := (World.new_ne w' _ q0).symm
  have ne5 : gb5 ≠ w'.heap.size := (World.new_ne w' _ q4).symm
  have ge7 : w.heap.size ≤ w'.heap.size := HB.out.size
  refine gen_world (fun W => W.cell? ⟨gb3, 0, none⟩ = some (.int .i64 a) ∧ W.cell? ⟨gb3, 1, none⟩ = some (.int .i64 b) ∧ W.cell? ⟨gb3, 2, none⟩ = some (.int .i64 c) ∧ W.cell? ⟨gb3, 3, none⟩ = some (.int .i64 d) ∧ W.cell? ⟨gb5, 0, none⟩ = some (.int .i64 n) ∧ W.cell? ⟨gb5, 1, none⟩ = some (.int .i64 m) ∧ W.cell? ⟨w'.heap.size, 0, none⟩ = some (.int .i64 (a)) ∧ W.cell? ⟨w'.heap.size, 1, none⟩ = some (.int .i64 (b)) ∧ W.cell? ⟨w'.heap.size, 2, none⟩ = some (.int .i64 (c)) ∧ W.cell? ⟨w'.heap.size, 3, none⟩ = some (.int .i64 (d)) ∧ W.frozen? ⟨w'.heap.size, 2, none⟩ = false ∧ Below w.heap.size w W) ?_ ?_
  · exact ⟨cell_alloc _ q0, cell_alloc _ q1, cell_alloc _ q2, cell_alloc _ q3, cell_alloc _ q4, cell_alloc _ q5, by simp, by simp, by simp, by simp, by simp, below_alloc HB.out _⟩
  generalize w'.heap.size = gb7 at *
  have NE3 := Aside0.mk ne3
  have NE5 := Aside0.mk ne5
  have GE7 := Aside0.mk ge7
  clear q0 q1 q2 q3 q4 q5 ne3 ne5 ge7 HB
  rintro W ⟨q0, q1, q2, q3, q4, q5, q6, q7, q8, q9, hf, hw⟩
  have HB := Aside0.mk hw
  clear hw
  go_wp2_with (first
    | (go_at_call 17; refine (policy_Open.calls a b c d s n true _ H2.out).mono ?_; rintro e w' ⟨rfl, hb⟩; have z0 := pw_cell_below hb q0; have z1 := pw_cell_below hb q1; have z2 := pw_cell_below hb q2; have z3 := pw_cell_below hb q3; have z4 := pw_cell_below hb q4; have z5 := pw_cell_below hb q5; have z6 := pw_cell_below hb q6; have z7 := pw_cell_below hb q7; have z8 := pw_cell_below hb q8; have z9 := pw_cell_below hb q9; clear q0 q1 q2 q3 q4 q5 q6 q7 q8 q9; have HB2 := Aside0.mk (below_step HB.out hb); clear HB hb; have HB := HB2; clear HB2; have q0 := z0; have q1 := z1; have q2 := z2; have q3 := z3; have q4 := z4; have q5 := z5; have q6 := z6; have q7 := z7; have q8 := z8; have q9 := z9; clear z0 z1 z2 z3 z4 z5 z6 z7 z8 z9)
    | (go_at_call 21; refine (awake_calls _).mono ?_; rintro e w' ⟨rfl, hb⟩; have z0 := pw_cell_below hb q0; have z1 := pw_cell_below hb q1; have z2 := pw_cell_below hb q2; have z3 := pw_cell_below hb q3; have z4 := pw_cell_below hb q4; have z5 := pw_cell_below hb q5; have z6 := pw_cell_below hb q6; have z7 := pw_cell_below hb q7; have z8 := pw_cell_below hb q8; have z9 := pw_cell_below hb q9; clear q0 q1 q2 q3 q4 q5 q6 q7 q8 q9; have HB2 := Aside0.mk (below_step HB.out hb); clear HB hb; have HB := HB2; clear HB2; have q0 := z0; have q1 := z1; have q2 := z2; have q3 := z3; have q4 := z4; have q5 := z5; have q6 := z6; have q7 := z7; have q8 := z8; have q9 := z9; clear z0 z1 z2 z3 z4 z5 z6 z7 z8 z9))
  go_ret
  refine ⟨?_, HB.out⟩
  first | rfl | (simp; omega)


theorem tells_walk (a b c d s n : Int) (w : World) (_ : (Lit.int .i64 a).wf = true) (_ : (Lit.int .i64 b).wf = true) (_ : (Lit.int .i64 c).wf = true) (_ : (Lit.int .i64 d).wf = true) (_ : (Lit.int .i64 s).wf = true) (_ : (Lit.int .i64 n).wf = true) :
    Calls Try.prog 3 #[.agg #[.int .i64 a, .int .i64 b, .int .i64 c, .int .i64 d], .int .i64 s, .int .i64 n] w fun e w' => e = .returned (.bool true) ∧ Below w.heap.size w w' := by
  obtain ⟨u1, u2, u3, hu⟩ : ∃ u1 u2 u3, (if okI a b c d = true ∧ tI s = true then (top (s + c), top (s + d), 0) else (0, 0, 2)) = ((u1, u2, u3) : Int × Int × Int) := ⟨_, _, _, rfl⟩
  obtain ⟨p1, p2, hp⟩ : ∃ p1 p2, pass s n = (p1, p2) := ⟨_, _, rfl⟩
  exact tells_calls a b c d s n u1 u2 u3 p1 p2 _ _ _ _ w (by rw [pUntil, hu]) (by rw [rUntil, hu]) (by rw [pPass, hp]) (by rw [rPass, hp]) (pCheck a b c d) (rCheck a b c d) (pTime s) (rTime s) (pOpen a b c d s n) (rOpen a b c d s n) (pCovered a b c d s n) (rCovered a b c d s n)

theorem until_walk (a b c d s n : Int) (w : World) (_ : (Lit.int .i64 a).wf = true) (_ : (Lit.int .i64 b).wf = true) (_ : (Lit.int .i64 c).wf = true) (_ : (Lit.int .i64 d).wf = true) (_ : (Lit.int .i64 s).wf = true) (_ : (Lit.int .i64 n).wf = true) :
    Calls Try.prog 5 #[.agg #[.int .i64 a, .int .i64 b, .int .i64 c, .int .i64 d], .int .i64 s, .int .i64 n] w fun e w' => e = .returned (.bool true) ∧ Below w.heap.size w w' := by
  by_cases h : okI a b c d = true ∧ tI s = true
  · have hu : policy_Until.f a b c d s = some (top (s + c), top (s + d), 0) := by rw [pUntil, if_pos h]
    by_cases h1 : n < s
    · exact until_before a b c d s n _ _ w hu (by rw [pOpen, opn_out (.inl h1)]) (by rw [pCovered, cov_out (.inl h1)]) h1
    by_cases h2 : 1000000 < n
    · exact until_behind a b c d s n _ _ w hu (by rw [pOpen, opn_out (.inr h2)]) (by rw [pCovered, cov_out (.inr h2)]) h2 (by omega)
    have k1 := okI_true h.1
    have k2 := tI_true h.2
    have t1 : s ≤ top (s + c) := top_ge (by omega) (by omega)
    have t2 : s ≤ top (s + d) := top_ge (by omega) (by omega)
    have o1 : opn a b c d s n = decide (n ≤ top (s + c)) := opn_until h.1 h.2 (by omega) (by omega)
    have o2 : cov a b c d s n = decide (n ≤ top (s + d)) := cov_until h.1 h.2 (by omega) (by omega)
    by_cases h3 : n ≤ top (s + c) <;> by_cases h4 : n ≤ top (s + d)
    · exact until_true_true a b c d s n _ _ w hu (by rw [pOpen, o1, decide_eq_true h3]) (by rw [pCovered, o2, decide_eq_true h4]) (by omega) (by omega) h3 h4 t1 t2
    · exact until_true_false a b c d s n _ _ w hu (by rw [pOpen, o1, decide_eq_true h3]) (by rw [pCovered, o2, decide_eq_false h4]) (by omega) (by omega) h3 (by omega) t1 t2
    · exact until_false_true a b c d s n _ _ w hu (by rw [pOpen, o1, decide_eq_false h3]) (by rw [pCovered, o2, decide_eq_true h4]) (by omega) (by omega) (by omega) h4 t1 t2
    · exact until_false_false a b c d s n _ _ w hu (by rw [pOpen, o1, decide_eq_false h3]) (by rw [pCovered, o2, decide_eq_false h4]) (by omega) (by omega) (by omega) (by omega) t1 t2
  · exact until_refused a b c d s n w (by rw [pUntil, if_neg h]) (by rw [pOpen, opn_not h]) (by rw [pCovered, cov_not h])

theorem times_walk (a b c d s n m : Int) (w : World) (_ : (Lit.int .i64 a).wf = true) (_ : (Lit.int .i64 b).wf = true) (hc : (Lit.int .i64 c).wf = true) (_ : (Lit.int .i64 d).wf = true) (_ : (Lit.int .i64 s).wf = true) (_ : (Lit.int .i64 n).wf = true) (_ : (Lit.int .i64 m).wf = true) :
    Calls Try.prog 4 #[.agg #[.int .i64 a, .int .i64 b, .int .i64 c, .int .i64 d], .int .i64 s, .agg #[.int .i64 n, .int .i64 m]] w fun e w' => e = .returned (.bool true) ∧ Below w.heap.size w w' := by
  have c0 : -9223372036854775808 ≤ c := (Go.bounds_i64 hc).1
  have e1 : ∀ x, opn a b c d s m = x → policy_Open.f a b c d s m = some x := fun x h => by rw [pOpen, h]
  have e0 : ∀ x, opn a b c d s n = x → policy_Open.f a b c d s n = some x := fun x h => by rw [pOpen, h]
  by_cases hl : c < 1000000
  · have ej : opn a b c d s n = true → policy_Open.f a b (c + 1) d s n = some true := fun h => by rw [pOpen, opn_longer h hl]
    cases h1 : opn a b c d s m <;> cases h0 : opn a b c d s n
    · exact times_1_false_lt a b c d s n m w (e1 _ h1) (e0 _ h0) hl c0
    · exact times_1_true_lt a b c d s n m w (e1 _ h1) (e0 _ h0) (ej h0) hl c0
    · by_cases g1 : n < s
      · exact times_2_false_lt a b c d s n m w (e1 _ h1) (e0 _ h0) g1 hl c0
      · by_cases g2 : m < n
        · exact times_3_false_lt a b c d s n m w (e1 _ h1) (e0 _ h0) (by omega) g2 hl c0
        · rw [opn_between h1 (by omega) (by omega)] at h0; simp at h0
    · by_cases g1 : n < s
      · exact times_2_true_lt a b c d s n m w (e1 _ h1) (e0 _ h0) (ej h0) g1 hl c0
      · by_cases g2 : m < n
        · exact times_3_true_lt a b c d s n m w (e1 _ h1) (e0 _ h0) (ej h0) (by omega) g2 hl c0
        · exact times_4_true_lt a b c d s n m w (e1 _ h1) (e0 _ h0) (ej h0) (by omega) (by omega) hl c0
  · have hl' : 1000000 ≤ c := by omega
    cases h1 : opn a b c d s m <;> cases h0 : opn a b c d s n
    · exact times_1_false_ge a b c d s n m w (e1 _ h1) (e0 _ h0) hl' c0
    · exact times_1_true_ge a b c d s n m w (e1 _ h1) (e0 _ h0) hl' c0
    · by_cases g1 : n < s
      · exact times_2_false_ge a b c d s n m w (e1 _ h1) (e0 _ h0) g1 hl' c0
      · by_cases g2 : m < n
        · exact times_3_false_ge a b c d s n m w (e1 _ h1) (e0 _ h0) (by omega) g2 hl' c0
        · rw [opn_between h1 (by omega) (by omega)] at h0; simp at h0
    · by_cases g1 : n < s
      · exact times_2_true_ge a b c d s n m w (e1 _ h1) (e0 _ h0) g1 hl' c0
      · by_cases g2 : m < n
        · exact times_3_true_ge a b c d s n m w (e1 _ h1) (e0 _ h0) (by omega) g2 hl' c0
        · exact times_4_true_ge a b c d s n m w (e1 _ h1) (e0 _ h0) (by omega) (by omega) hl' c0

end Go.Proofs.Ytpoafdckkmecnaa.PPol
