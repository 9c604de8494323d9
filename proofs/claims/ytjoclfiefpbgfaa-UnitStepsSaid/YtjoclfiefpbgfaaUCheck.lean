/- unit.Check tells chkE. Conditions: the serial has at most 200 bytes. -/
import Derived.Test.YtjoclfiefpbgfaaUBase
import Derived.Test.YtjoclfiefpbgfaaPM0
import Derived.Test.YtjoclfiefpbgfaaPM1
namespace Go.Proofs.Ytjoclfiefpbgfaa.PUnit
open Go.RowKit Go.Proofs.YtjoclfiefpbgfaaW.PrintWords Go.Proofs.YtjoclfiefpbgfaaW.PrintLast Go.Proofs.YtjoclfiefpbgfaaW.PrintMore
open SerPlain LifePlain
set_option linter.unusedVariables false
set_option linter.unusedSimpArgs false

theorem unit_id_f (n : Int) : unit_id.f n = some (idb n) := by
  unfold unit_id.f idb
  by_cases h : n ≥ 1
  · rw [if_pos h, decide_eq_true (show 1 ≤ n from h), Bool.true_and]
  · rw [if_neg h, decide_eq_false h, Bool.false_and]
theorem time_f (n : Int) : policy_Time.f n = some (decide (0 ≤ n) && decide (n ≤ 1000000)) := by
  unfold policy_Time.f policy_span_has.f
  by_cases h : n ≥ 0
  · rw [if_pos h, decide_eq_true (show 0 ≤ n from h), Bool.true_and]; rfl
  · rw [if_neg h, decide_eq_false h, Bool.false_and]; rfl
theorem stands_f (u : U) : unit_record_stands.f u.s u.o u.l u.p u.r u.a u.st u.g u.w u.i = some u.stands := by
  unfold unit_record_stands.f U.stands
  rw [unit_id_f, unit_id_f, time_f]
  cases idb u.o <;> cases idb u.r <;> simp only [Option.bind_some, if_true, Bool.false_eq_true, if_false, Bool.false_and, Bool.true_and]
  repeat' split
  all_goals simp [*]
theorem graded_f (u : U) : unit_record_graded.f u.s u.o u.l u.p u.r u.a u.st u.g u.w u.i = some u.graded := by
  unfold unit_record_graded.f U.graded
  by_cases h : u.st = 1
  · rw [if_pos h, if_pos h]
  · rw [if_neg h, if_neg h]
    by_cases h2 : u.g ≥ 0
    · rw [if_pos h2, decide_eq_true (show 0 ≤ u.g from h2), Bool.true_and]
    · rw [if_neg h2, decide_eq_false h2, Bool.false_and]
theorem held_f (u : U) : unit_record_held.f u.s u.o u.l u.p u.r u.a u.st u.g u.w u.i = some u.held := by
  unfold unit_record_held.f U.held
  by_cases h : u.st = 4
  · rw [if_pos h, if_pos (.inl h), unit_id_f]; rfl
  · rw [if_neg h]
    by_cases h2 : u.st = 5
    · rw [if_pos h2, if_pos (.inr h2), unit_id_f]; rfl
    · rw [if_neg h2, if_neg (by omega)]
def lifeE (s w : Int) : Int := if isN s w = true then 0 else 33
theorem life_f (s w : Int) : life_Check.f s w = some (lifeE s w) := by
  unfold lifeE
  cases h : isN s w with
  | true => rw [check_yes h]; rfl
  | false => rw [check_no h]; rfl
set_option maxHeartbeats 1000000 in
set_option maxRecDepth 100000 in
theorem check_walk (u : U) (c1 c2 : Int) (b3 b4 b5 : Bool) (r : Int) (K25 : ∀ W, Calls Try.prog 25 #[.string u.s] W fun e w' => e = .returned (.int .i64 c1) ∧ Below W.heap.size W w') (K28 : ∀ W, Calls Try.prog 28 #[.agg #[.string u.s, .int .i64 u.o, .int .i64 u.l, .int .i64 u.p, .int .i64 u.r, .int .i64 u.a, .int .i64 u.st, .int .i64 u.g, .int .i64 u.w, .int .i64 u.i]] W fun e w' => e = .returned (.agg #[.int .i64 u.st, .int .i64 u.w]) ∧ Below W.heap.size W w') (K31 : ∀ W, Calls Try.prog 31 #[.agg #[.int .i64 u.st, .int .i64 u.w]] W fun e w' => e = .returned (.int .i64 c2) ∧ Below W.heap.size W w') (K32 : ∀ W, Calls Try.prog 32 #[.agg #[.string u.s, .int .i64 u.o, .int .i64 u.l, .int .i64 u.p, .int .i64 u.r, .int .i64 u.a, .int .i64 u.st, .int .i64 u.g, .int .i64 u.w, .int .i64 u.i]] W fun e w' => e = .returned (.bool b3) ∧ Below W.heap.size W w') (K33 : ∀ W, Calls Try.prog 33 #[.agg #[.string u.s, .int .i64 u.o, .int .i64 u.l, .int .i64 u.p, .int .i64 u.r, .int .i64 u.a, .int .i64 u.st, .int .i64 u.g, .int .i64 u.w, .int .i64 u.i]] W fun e w' => e = .returned (.bool b4) ∧ Below W.heap.size W w') (K34 : ∀ W, Calls Try.prog 34 #[.agg #[.string u.s, .int .i64 u.o, .int .i64 u.l, .int .i64 u.p, .int .i64 u.r, .int .i64 u.a, .int .i64 u.st, .int .i64 u.g, .int .i64 u.w, .int .i64 u.i]] W fun e w' => e = .returned (.bool b5) ∧ Below W.heap.size W w')
    (hr : (c1 ≠ 0 ∧ r = 40) ∨ (c1 = 0 ∧ c2 ≠ 0 ∧ r = 40) ∨ (c1 = 0 ∧ c2 = 0 ∧ b3 = false ∧ r = 40) ∨ (c1 = 0 ∧ c2 = 0 ∧ b3 = true ∧ b4 = false ∧ r = 40) ∨ (c1 = 0 ∧ c2 = 0 ∧ b3 = true ∧ b4 = true ∧ b5 = false ∧ r = 40) ∨ (c1 = 0 ∧ c2 = 0 ∧ b3 = true ∧ b4 = true ∧ b5 = true ∧ r = 0)) (w : World) :
    Calls Try.prog 12 #[.agg #[.string u.s, .int .i64 u.o, .int .i64 u.l, .int .i64 u.p, .int .i64 u.r, .int .i64 u.a, .int .i64 u.st, .int .i64 u.g, .int .i64 u.w, .int .i64 u.i]] w fun e w' => e = .returned (.int .i64 r) ∧ Below w.heap.size w w' := by
  have HF := Aside0.mk (Fr.nil w)
  rcases hr with ⟨h, rfl⟩ | ⟨rfl, h, rfl⟩ | ⟨rfl, rfl, rfl, rfl⟩ | ⟨rfl, rfl, rfl, rfl, rfl⟩ | ⟨rfl, rfl, rfl, rfl, rfl, rfl⟩ | ⟨rfl, rfl, rfl, rfl, rfl, rfl⟩
  all_goals
    (try have hb0 := bne_iff_ne.mpr h)
    (try have hb1 := beq_eq_false_iff_ne.mpr h)
    go_enter Try.func12, Try.ntmps12
    go_wp2_with (first
      | ((with_reducible refine gate_dst (N := 1) rfl ?_); refine box_event ?hg (N := 1) ?hd (cs := #[.string u.s, .int .i64 u.o, .int .i64 u.l, .int .i64 u.p, .int .i64 u.r, .int .i64 u.a, .int .i64 u.st, .int .i64 u.g, .int .i64 u.w, .int .i64 u.i]) (t := 23) ?hr ?_; (case hd => rfl); (case hg => rfl); (case hr => first | (go_simp; done) | (go_simp; rfl)); intro g1 hg wx hbox hb; have HF2 := Aside0.mk (Fr.box (by repeat (first | exact HF.out | apply Fr.alloc | apply Fr.drewN | apply Fr.drew)) hg hbox hb); clear HF hb hbox hg; have HF := HF2; clear HF2; (try clear Q1); have Q1 := cells10 (HF.out.blk 0 rfl))
      | ((with_reducible refine gate_dst (N := 3) rfl ?_); refine box_event ?hg (N := 3) ?hd (cs := #[.string ⟨#[]⟩, .int .i64 0, .int .i64 0, .int .i64 0, .int .i64 0, .int .i64 0, .int .i64 0, .int .i64 0, .int .i64 0, .int .i64 0]) (t := 53) ?hr ?_; (case hd => rfl); (case hg => rfl); (case hr => first | (go_simp; done) | (go_simp; rfl)); intro g3 hg wx hbox hb; have HF2 := Aside0.mk (Fr.box (by repeat (first | exact HF.out | apply Fr.alloc | apply Fr.drewN | apply Fr.drew)) hg hbox hb); clear HF hb hbox hg; have HF := HF2; clear HF2; (try clear Q3); have Q3 := cells10 (HF.out.blk 0 rfl); (try clear Q1); have Q1 := cells10 (HF.out.blk 1 rfl))
      | ((with_reducible refine gate_store (t := 53) (p := 3) rfl ?_); refine store_event (t := 53) (p := 3) (w1 := ((((((((((wx.setCell ⟨g3, 0, none⟩ (.string u.s)).setCell ⟨g3, 1, none⟩ (.int .i64 u.o)).setCell ⟨g3, 2, none⟩ (.int .i64 u.l)).setCell ⟨g3, 3, none⟩ (.int .i64 u.p)).setCell ⟨g3, 4, none⟩ (.int .i64 u.r)).setCell ⟨g3, 5, none⟩ (.int .i64 u.a)).setCell ⟨g3, 6, none⟩ (.int .i64 u.st)).setCell ⟨g3, 7, none⟩ (.int .i64 u.g)).setCell ⟨g3, 8, none⟩ (.int .i64 u.w)).setCell ⟨g3, 9, none⟩ (.int .i64 u.i))) rfl rfl rfl ?hr ?_; (case hr => first | (go_simp; done) | (go_simp; with_reducible rfl)); intro wx hw; have HF2 := Aside0.mk (Fr.row10 HF.out 0 hw rfl); clear HF hw; have HF := HF2; clear HF2; (try clear Q3); have Q3 := cells10 (HF.out.blk 0 rfl); (try clear Q1); have Q1 := cells10 (HF.out.blk 1 rfl))
      | (go_at_call 25; (with_reducible refine (K25 _).mono ?_); rintro ee wx ⟨rfl, hb⟩; have HF2 := Aside0.mk (Fr.step (by repeat (first | exact HF.out | apply Fr.alloc | apply Fr.drewN | apply Fr.drew)) hb); clear HF hb; have HF := HF2; clear HF2; (try clear Q3); have Q3 := cells10 (HF.out.blk 0 rfl); (try clear Q1); have Q1 := cells10 (HF.out.blk 1 rfl))
      | (go_at_call 28; (with_reducible refine (K28 _).mono ?_); rintro ee wx ⟨rfl, hb⟩; have HF2 := Aside0.mk (Fr.step (by repeat (first | exact HF.out | apply Fr.alloc | apply Fr.drewN | apply Fr.drew)) hb); clear HF hb; have HF := HF2; clear HF2; (try clear Q3); have Q3 := cells10 (HF.out.blk 0 rfl); (try clear Q1); have Q1 := cells10 (HF.out.blk 1 rfl))
      | (go_at_call 31; (with_reducible refine (K31 _).mono ?_); rintro ee wx ⟨rfl, hb⟩; have HF2 := Aside0.mk (Fr.step (by repeat (first | exact HF.out | apply Fr.alloc | apply Fr.drewN | apply Fr.drew)) hb); clear HF hb; have HF := HF2; clear HF2; (try clear Q3); have Q3 := cells10 (HF.out.blk 0 rfl); (try clear Q1); have Q1 := cells10 (HF.out.blk 1 rfl))
      | (go_at_call 32; (with_reducible refine (K32 _).mono ?_); rintro ee wx ⟨rfl, hb⟩; have HF2 := Aside0.mk (Fr.step (by repeat (first | exact HF.out | apply Fr.alloc | apply Fr.drewN | apply Fr.drew)) hb); clear HF hb; have HF := HF2; clear HF2; (try clear Q3); have Q3 := cells10 (HF.out.blk 0 rfl); (try clear Q1); have Q1 := cells10 (HF.out.blk 1 rfl))
      | (go_at_call 33; (with_reducible refine (K33 _).mono ?_); rintro ee wx ⟨rfl, hb⟩; have HF2 := Aside0.mk (Fr.step (by repeat (first | exact HF.out | apply Fr.alloc | apply Fr.drewN | apply Fr.drew)) hb); clear HF hb; have HF := HF2; clear HF2; (try clear Q3); have Q3 := cells10 (HF.out.blk 0 rfl); (try clear Q1); have Q1 := cells10 (HF.out.blk 1 rfl))
      | (go_at_call 34; (with_reducible refine (K34 _).mono ?_); rintro ee wx ⟨rfl, hb⟩; have HF2 := Aside0.mk (Fr.step (by repeat (first | exact HF.out | apply Fr.alloc | apply Fr.drewN | apply Fr.drew)) hb); clear HF hb; have HF := HF2; clear HF2; (try clear Q3); have Q3 := cells10 (HF.out.blk 0 rfl); (try clear Q1); have Q1 := cells10 (HF.out.blk 1 rfl)))
    go_ret
    exact ⟨rfl, HF.out.1⟩
theorem check_calls (u : U) (hs : u.s.size ≤ 200) (w : World) : Calls Try.prog 12 #[.agg #[.string u.s, .int .i64 u.o, .int .i64 u.l, .int .i64 u.p, .int .i64 u.r, .int .i64 u.a, .int .i64 u.st, .int .i64 u.g, .int .i64 u.w, .int .i64 u.i]] w fun e w' => e = .returned (.int .i64 (chkE u)) ∧ Below w.heap.size w w' := by
  refine check_walk u (serE u.s) (lifeE u.st u.w) u.stands u.graded u.held (chkE u) (fun W => serial_Check.calls u.s _ W (check_f u.s hs)) ?_ (fun W => life_Check.calls u.st u.w _ W (life_f _ _)) ?_ ?_ ?_ ?_ w
  · intro W; refine (unit_record_node.calls u.s u.o u.l u.p u.r u.a u.st u.g u.w u.i u.st u.w W rfl).mono ?_; rintro e w' ⟨rfl, hb⟩; exact ⟨rfl, by first | exact hb | exact hb.below⟩
  · intro W; refine (unit_record_stands.calls u.s u.o u.l u.p u.r u.a u.st u.g u.w u.i _ W (stands_f u)).mono ?_; rintro e w' ⟨rfl, hb⟩; exact ⟨rfl, by first | exact hb | exact hb.below⟩
  · intro W; refine (unit_record_graded.calls u.s u.o u.l u.p u.r u.a u.st u.g u.w u.i _ W (graded_f u)).mono ?_; rintro e w' ⟨rfl, hb⟩; exact ⟨rfl, by first | exact hb | exact hb.below⟩
  · intro W; refine (unit_record_held.calls u.s u.o u.l u.p u.r u.a u.st u.g u.w u.i _ W (held_f u)).mono ?_; rintro e w' ⟨rfl, hb⟩; exact ⟨rfl, by first | exact hb | exact hb.below⟩
  · unfold chkE chk serE lifeE
    cases okSer u.s <;> cases isN u.st u.w <;> cases u.stands <;> cases u.graded <;> cases u.held <;> simp
def unit_Check.f (a0_0 : ByteArray) (a0_1 a0_2 a0_3 a0_4 a0_5 a0_6 a0_7 a0_8 a0_9 : Int) : Option Int := if a0_0.size ≤ 200 then some (chkE ⟨a0_0, a0_1, a0_2, a0_3, a0_4, a0_5, a0_6, a0_7, a0_8, a0_9⟩) else none
theorem unit_Check.calls (a0_0 : ByteArray) (a0_1 a0_2 a0_3 a0_4 a0_5 a0_6 a0_7 a0_8 a0_9 : Int) (r : Int) (w : World) (h : unit_Check.f a0_0 a0_1 a0_2 a0_3 a0_4 a0_5 a0_6 a0_7 a0_8 a0_9 = some r) :
    Calls Try.prog 12 #[.agg #[.string a0_0, .int .i64 a0_1, .int .i64 a0_2, .int .i64 a0_3, .int .i64 a0_4, .int .i64 a0_5, .int .i64 a0_6, .int .i64 a0_7, .int .i64 a0_8, .int .i64 a0_9]] w fun e w' => e = .returned (.int .i64 r) ∧ Below w.heap.size w w' := by
  unfold unit_Check.f at h
  by_cases hs : a0_0.size ≤ 200
  · rw [if_pos hs] at h
    obtain rfl := Option.some.inj h
    exact check_calls ⟨a0_0, a0_1, a0_2, a0_3, a0_4, a0_5, a0_6, a0_7, a0_8, a0_9⟩ hs w
  · rw [if_neg hs] at h
    cases h
end Go.Proofs.Ytjoclfiefpbgfaa.PUnit
