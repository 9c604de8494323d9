/- The walk of backhaulref25.Done over the contracts of what it calls. Conditions: as it says. -/
import Derived.Test.YtjoclfiefpbgfaaUBase
namespace Go.Proofs.Ytjoclfiefpbgfaa.PUnit
open Go.RowKit Go.Proofs.YtjoclfiefpbgfaaW.PrintWords Go.Proofs.YtjoclfiefpbgfaaW.PrintLast Go.Proofs.YtjoclfiefpbgfaaW.PrintMore
open SerPlain LifePlain
set_option linter.unusedVariables false
set_option linter.unusedSimpArgs false

set_option maxHeartbeats 1000000 in
set_option maxRecDepth 100000 in
theorem rdone_walk (u : U) (c : Int) (b r : Bool) (K11 : ∀ W, Calls Try.prog 11 #[.agg #[.string u.s, .int .i64 u.o, .int .i64 u.l, .int .i64 u.p, .int .i64 u.r, .int .i64 u.a, .int .i64 u.st, .int .i64 u.g, .int .i64 u.w, .int .i64 u.i]] W fun ee w' => ee = .returned (.int .i64 c) ∧ Below W.heap.size W w') (K36 : ∀ W, Calls Try.prog 36 #[.int .i64 u.st, .int .i64 u.w] W fun ee w' => ee = .returned (.bool b) ∧ Below W.heap.size W w')
    (hr : (c ≠ 0 ∧ r = false) ∨ (c = 0 ∧ r = b)) (w : World) :
    Calls Try.prog 14 #[.agg #[.string u.s, .int .i64 u.o, .int .i64 u.l, .int .i64 u.p, .int .i64 u.r, .int .i64 u.a, .int .i64 u.st, .int .i64 u.g, .int .i64 u.w, .int .i64 u.i]] w fun ee w' => ee = .returned (.bool r) ∧ Below w.heap.size w w' := by
  have hu31 := Try.underlying31
  have HF := Aside0.mk (Fr.nil w)
  rcases hr with ⟨h, rfl⟩ | ⟨rfl, rfl⟩
  all_goals
    (try have hb0 := bne_iff_ne.mpr h)
    (try have hb1 := beq_eq_false_iff_ne.mpr h)
    go_enter Try.func14, Try.ntmps14
    go_wp2_with (first
      | ((with_reducible refine gate_dst (N := 1) rfl ?_); refine box_event ?hg (N := 1) ?hd (cs := #[.string u.s, .int .i64 u.o, .int .i64 u.l, .int .i64 u.p, .int .i64 u.r, .int .i64 u.a, .int .i64 u.st, .int .i64 u.g, .int .i64 u.w, .int .i64 u.i]) (t := 23) ?hr ?_; (case hd => rfl); (case hg => rfl); (case hr => first | (go_simp; done) | (go_simp; rfl)); intro g1 hg wx hbox hb; have HF2 := Aside0.mk (Fr.box (by repeat (first | exact HF.out | apply Fr.alloc | apply Fr.drewN | apply Fr.drew)) hg hbox hb); clear HF hb hbox hg; have HF := HF2; clear HF2; (try clear Q1); have Q1 := cells10 (HF.out.blk 0 rfl))
      | (go_at_call 11; (with_reducible refine (K11 _).mono ?_); rintro ee wx ⟨rfl, hb⟩; have HF2 := Aside0.mk (Fr.step (by repeat (first | exact HF.out | apply Fr.alloc | apply Fr.drewN | apply Fr.drew)) hb); clear HF hb; have HF := HF2; clear HF2; (try clear Q1); have Q1 := cells10 (HF.out.blk 0 rfl))
      | (go_at_call 36; (with_reducible refine (K36 _).mono ?_); rintro ee wx ⟨rfl, hb⟩; have HF2 := Aside0.mk (Fr.step (by repeat (first | exact HF.out | apply Fr.alloc | apply Fr.drewN | apply Fr.drew)) hb); clear HF hb; have HF := HF2; clear HF2; (try clear Q1); have Q1 := cells10 (HF.out.blk 0 rfl)))
    go_ret
    exact ⟨rfl, HF.out.1⟩
end Go.Proofs.Ytjoclfiefpbgfaa.PUnit
