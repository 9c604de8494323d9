/- backhaulref25.Check tells chkE. Conditions: the serial has at most 200 bytes. -/
import Derived.Test.YtjoclfiefpbgfaaUBase
import Derived.Test.YtjoclfiefpbgfaaPM0
import Derived.Test.YtjoclfiefpbgfaaPM1
namespace Go.Proofs.Ytjoclfiefpbgfaa.PUnit
open Go.RowKit Go.Proofs.YtjoclfiefpbgfaaW.PrintWords Go.Proofs.YtjoclfiefpbgfaaW.PrintLast Go.Proofs.YtjoclfiefpbgfaaW.PrintMore
open SerPlain LifePlain
set_option linter.unusedVariables false
set_option linter.unusedSimpArgs false

set_option maxHeartbeats 40000000 in
set_option maxRecDepth 100000 in
theorem rcheck_walk (u : U) (c1 r : Int) (b1 b2 b3 b4 b5 b6 b7 b8 b9 b10 b11 b12 b13 b14 b15 t1 t4 t5 : Bool) (K27 : ∀ W, Calls Try.prog 27 #[.string u.s] W fun ee w' => ee = .returned (.int .i64 c1) ∧ Below W.heap.size W w') (K29 : ∀ n W, Calls Try.prog 29 #[.int .i64 n] W fun ee w' => ee = .returned (.bool (idb n)) ∧ Below W.heap.size W w') (K30 : ∀ W, Calls Try.prog 30 #[.int .i64 u.st, .int .i64 u.w] W fun ee w' => ee = .returned (.bool (isN u.st u.w)) ∧ Below W.heap.size W w')
    (hb1 : (c1 == 0) = b1) (hb2 : idb u.o = b2) (hb3 : idb u.r = b3) (hb4 : decide (0 ≤ u.l) = b4) (hb5 : decide (u.l ≤ 7) = b5) (hb6 : decide (0 ≤ u.p) = b6) (hb7 : decide (u.p ≤ 19) = b7) (hb8 : decide (0 ≤ u.a) = b8) (hb9 : decide (u.a ≤ 1000000) = b9) (hb10 : isN u.st u.w = b10) (hb11 : decide (0 ≤ u.g) = b11) (hb12 : decide (u.g ≤ 3) = b12) (hb13 : (u.g == 0) = b13) (hb14 : idb u.i = b14) (hb15 : (u.i == 0) = b15) (ht1 : (u.st == 1) = t1) (ht4 : (u.st == 4) = t4) (ht5 : (u.st == 5) = t5) (hst : (t1 = true ∧ t4 = false ∧ t5 = false) ∨ (t1 = false ∧ t4 = true ∧ t5 = false) ∨ (t1 = false ∧ t4 = false ∧ t5 = true) ∨ (t1 = false ∧ t4 = false ∧ t5 = false)) (hr : (if ((b1 && b2 && b3 && b4 && b5 && b6 && b7 && b8 && b9 && b10 && b11 && b12) && ((!t1 || b13) && (if (t4 || t5) = true then b14 else b15))) = true then (0 : Int) else 40) = r) (w : World) :
    Calls Try.prog 11 #[.agg #[.string u.s, .int .i64 u.o, .int .i64 u.l, .int .i64 u.p, .int .i64 u.r, .int .i64 u.a, .int .i64 u.st, .int .i64 u.g, .int .i64 u.w, .int .i64 u.i]] w fun ee w' => ee = .returned (.int .i64 r) ∧ Below w.heap.size w w' := by
  have HF := Aside0.mk (Fr.nil w)
  have hn : ∀ b : Bool, (c1 == 0) = b → (c1 != 0) = !b := fun b h => by rw [← h]; rfl
  have hb1n := hn _ hb1
  clear hn
  rcases hst with ⟨rfl, rfl, rfl⟩ | ⟨rfl, rfl, rfl⟩ | ⟨rfl, rfl, rfl⟩ | ⟨rfl, rfl, rfl⟩
  · have sp : (b1 = false) ∨ (b1 = true ∧ b2 = false) ∨ (b1 = true ∧ b2 = true ∧ b3 = false) ∨ (b1 = true ∧ b2 = true ∧ b3 = true ∧ b4 = false) ∨ (b1 = true ∧ b2 = true ∧ b3 = true ∧ b4 = true ∧ b5 = false) ∨ (b1 = true ∧ b2 = true ∧ b3 = true ∧ b4 = true ∧ b5 = true ∧ b6 = false) ∨ (b1 = true ∧ b2 = true ∧ b3 = true ∧ b4 = true ∧ b5 = true ∧ b6 = true ∧ b7 = false) ∨ (b1 = true ∧ b2 = true ∧ b3 = true ∧ b4 = true ∧ b5 = true ∧ b6 = true ∧ b7 = true ∧ b8 = false) ∨ (b1 = true ∧ b2 = true ∧ b3 = true ∧ b4 = true ∧ b5 = true ∧ b6 = true ∧ b7 = true ∧ b8 = true ∧ b9 = false) ∨ (b1 = true ∧ b2 = true ∧ b3 = true ∧ b4 = true ∧ b5 = true ∧ b6 = true ∧ b7 = true ∧ b8 = true ∧ b9 = true ∧ b10 = false) ∨ (b1 = true ∧ b2 = true ∧ b3 = true ∧ b4 = true ∧ b5 = true ∧ b6 = true ∧ b7 = true ∧ b8 = true ∧ b9 = true ∧ b10 = true ∧ b11 = false) ∨ (b1 = true ∧ b2 = true ∧ b3 = true ∧ b4 = true ∧ b5 = true ∧ b6 = true ∧ b7 = true ∧ b8 = true ∧ b9 = true ∧ b10 = true ∧ b11 = true ∧ b12 = false) ∨ (b1 = true ∧ b2 = true ∧ b3 = true ∧ b4 = true ∧ b5 = true ∧ b6 = true ∧ b7 = true ∧ b8 = true ∧ b9 = true ∧ b10 = true ∧ b11 = true ∧ b12 = true ∧ b13 = false) ∨ (b1 = true ∧ b2 = true ∧ b3 = true ∧ b4 = true ∧ b5 = true ∧ b6 = true ∧ b7 = true ∧ b8 = true ∧ b9 = true ∧ b10 = true ∧ b11 = true ∧ b12 = true ∧ b13 = true ∧ b15 = false) ∨ (b1 = true ∧ b2 = true ∧ b3 = true ∧ b4 = true ∧ b5 = true ∧ b6 = true ∧ b7 = true ∧ b8 = true ∧ b9 = true ∧ b10 = true ∧ b11 = true ∧ b12 = true ∧ b13 = true ∧ b15 = true) := by
        cases b1 with
        | false =>
         exact .inl rfl
        | true =>
         cases b2 with
         | false =>
          exact .inr (.inl ⟨rfl, rfl⟩)
         | true =>
          cases b3 with
          | false =>
           exact .inr (.inr (.inl ⟨rfl, rfl, rfl⟩))
          | true =>
           cases b4 with
           | false =>
            exact .inr (.inr (.inr (.inl ⟨rfl, rfl, rfl, rfl⟩)))
           | true =>
            cases b5 with
            | false =>
             exact .inr (.inr (.inr (.inr (.inl ⟨rfl, rfl, rfl, rfl, rfl⟩))))
            | true =>
             cases b6 with
             | false =>
              exact .inr (.inr (.inr (.inr (.inr (.inl ⟨rfl, rfl, rfl, rfl, rfl, rfl⟩)))))
             | true =>
              cases b7 with
              | false =>
               exact .inr (.inr (.inr (.inr (.inr (.inr (.inl ⟨rfl, rfl, rfl, rfl, rfl, rfl, rfl⟩))))))
              | true =>
               cases b8 with
               | false =>
                exact .inr (.inr (.inr (.inr (.inr (.inr (.inr (.inl ⟨rfl, rfl, rfl, rfl, rfl, rfl, rfl, rfl⟩)))))))
               | true =>
                cases b9 with
                | false =>
                 exact .inr (.inr (.inr (.inr (.inr (.inr (.inr (.inr (.inl ⟨rfl, rfl, rfl, rfl, rfl, rfl, rfl, rfl, rfl⟩))))))))
                | true =>
                 cases b10 with
                 | false =>
                  exact .inr (.inr (.inr (.inr (.inr (.inr (.inr (.inr (.inr (.inl ⟨rfl, rfl, rfl, rfl, rfl, rfl, rfl, rfl, rfl, rfl⟩)))))))))
                 | true =>
                  cases b11 with
                  | false =>
                   exact .inr (.inr (.inr (.inr (.inr (.inr (.inr (.inr (.inr (.inr (.inl ⟨rfl, rfl, rfl, rfl, rfl, rfl, rfl, rfl, rfl, rfl, rfl⟩))))))))))
                  | true =>
                   cases b12 with
                   | false =>
                    exact .inr (.inr (.inr (.inr (.inr (.inr (.inr (.inr (.inr (.inr (.inr (.inl ⟨rfl, rfl, rfl, rfl, rfl, rfl, rfl, rfl, rfl, rfl, rfl, rfl⟩)))))))))))
                   | true =>
                    cases b13 with
                    | false =>
                     exact .inr (.inr (.inr (.inr (.inr (.inr (.inr (.inr (.inr (.inr (.inr (.inr (.inl ⟨rfl, rfl, rfl, rfl, rfl, rfl, rfl, rfl, rfl, rfl, rfl, rfl, rfl⟩))))))))))))
                    | true =>
                     cases b15 with
                     | false =>
                      exact .inr (.inr (.inr (.inr (.inr (.inr (.inr (.inr (.inr (.inr (.inr (.inr (.inr (.inl ⟨rfl, rfl, rfl, rfl, rfl, rfl, rfl, rfl, rfl, rfl, rfl, rfl, rfl, rfl⟩)))))))))))))
                     | true =>
                      exact .inr (.inr (.inr (.inr (.inr (.inr (.inr (.inr (.inr (.inr (.inr (.inr (.inr (.inr (⟨rfl, rfl, rfl, rfl, rfl, rfl, rfl, rfl, rfl, rfl, rfl, rfl, rfl, rfl⟩))))))))))))))
    rcases sp with rfl | ⟨rfl, rfl⟩ | ⟨rfl, rfl, rfl⟩ | ⟨rfl, rfl, rfl, rfl⟩ | ⟨rfl, rfl, rfl, rfl, rfl⟩ | ⟨rfl, rfl, rfl, rfl, rfl, rfl⟩ | ⟨rfl, rfl, rfl, rfl, rfl, rfl, rfl⟩ | ⟨rfl, rfl, rfl, rfl, rfl, rfl, rfl, rfl⟩ | ⟨rfl, rfl, rfl, rfl, rfl, rfl, rfl, rfl, rfl⟩ | ⟨rfl, rfl, rfl, rfl, rfl, rfl, rfl, rfl, rfl, rfl⟩ | ⟨rfl, rfl, rfl, rfl, rfl, rfl, rfl, rfl, rfl, rfl, rfl⟩ | ⟨rfl, rfl, rfl, rfl, rfl, rfl, rfl, rfl, rfl, rfl, rfl, rfl⟩ | ⟨rfl, rfl, rfl, rfl, rfl, rfl, rfl, rfl, rfl, rfl, rfl, rfl, rfl⟩ | ⟨rfl, rfl, rfl, rfl, rfl, rfl, rfl, rfl, rfl, rfl, rfl, rfl, rfl, rfl⟩ | ⟨rfl, rfl, rfl, rfl, rfl, rfl, rfl, rfl, rfl, rfl, rfl, rfl, rfl, rfl⟩
    all_goals
      simp only [Bool.false_and, Bool.and_false, Bool.true_and, Bool.not_true, Bool.not_false, Bool.false_or, Bool.true_or, Bool.or_false, Bool.or_true, Bool.false_eq_true, if_true, if_false] at hr
      subst hr
      go_enter Try.func11, Try.ntmps11
      go_wp2_with (first
        | ((with_reducible refine gate_dst (N := 1) rfl ?_); refine box_event ?hg (N := 1) ?hd (cs := #[.string u.s, .int .i64 u.o, .int .i64 u.l, .int .i64 u.p, .int .i64 u.r, .int .i64 u.a, .int .i64 u.st, .int .i64 u.g, .int .i64 u.w, .int .i64 u.i]) (t := 23) ?hr ?_; (case hd => rfl); (case hg => rfl); (case hr => first | (go_simp; done) | (go_simp; rfl)); intro g1 hg wx hbox hb; have HF2 := Aside0.mk (Fr.box (by repeat (first | exact HF.out | apply Fr.alloc | apply Fr.drewN | apply Fr.drew)) hg hbox hb); clear HF hb hbox hg; have HF := HF2; clear HF2; (try clear Q1); have Q1 := cells10 (HF.out.blk 0 rfl))
        | (go_at_call 27; (with_reducible refine (K27 _).mono ?_); rintro ee wx ⟨rfl, hb⟩; have HF2 := Aside0.mk (Fr.step (by repeat (first | exact HF.out | apply Fr.alloc | apply Fr.drewN | apply Fr.drew)) hb); clear HF hb; have HF := HF2; clear HF2; (try clear Q1); have Q1 := cells10 (HF.out.blk 0 rfl))
        | (go_at_call 29; (with_reducible refine (K29 _ _).mono ?_); rintro ee wx ⟨rfl, hb⟩; have HF2 := Aside0.mk (Fr.step (by repeat (first | exact HF.out | apply Fr.alloc | apply Fr.drewN | apply Fr.drew)) hb); clear HF hb; have HF := HF2; clear HF2; (try clear Q1); have Q1 := cells10 (HF.out.blk 0 rfl))
        | (go_at_call 30; (with_reducible refine (K30 _).mono ?_); rintro ee wx ⟨rfl, hb⟩; have HF2 := Aside0.mk (Fr.step (by repeat (first | exact HF.out | apply Fr.alloc | apply Fr.drewN | apply Fr.drew)) hb); clear HF hb; have HF := HF2; clear HF2; (try clear Q1); have Q1 := cells10 (HF.out.blk 0 rfl)))
      go_ret
      exact ⟨rfl, HF.out.1⟩
  · have sp : (b1 = false) ∨ (b1 = true ∧ b2 = false) ∨ (b1 = true ∧ b2 = true ∧ b3 = false) ∨ (b1 = true ∧ b2 = true ∧ b3 = true ∧ b4 = false) ∨ (b1 = true ∧ b2 = true ∧ b3 = true ∧ b4 = true ∧ b5 = false) ∨ (b1 = true ∧ b2 = true ∧ b3 = true ∧ b4 = true ∧ b5 = true ∧ b6 = false) ∨ (b1 = true ∧ b2 = true ∧ b3 = true ∧ b4 = true ∧ b5 = true ∧ b6 = true ∧ b7 = false) ∨ (b1 = true ∧ b2 = true ∧ b3 = true ∧ b4 = true ∧ b5 = true ∧ b6 = true ∧ b7 = true ∧ b8 = false) ∨ (b1 = true ∧ b2 = true ∧ b3 = true ∧ b4 = true ∧ b5 = true ∧ b6 = true ∧ b7 = true ∧ b8 = true ∧ b9 = false) ∨ (b1 = true ∧ b2 = true ∧ b3 = true ∧ b4 = true ∧ b5 = true ∧ b6 = true ∧ b7 = true ∧ b8 = true ∧ b9 = true ∧ b10 = false) ∨ (b1 = true ∧ b2 = true ∧ b3 = true ∧ b4 = true ∧ b5 = true ∧ b6 = true ∧ b7 = true ∧ b8 = true ∧ b9 = true ∧ b10 = true ∧ b11 = false) ∨ (b1 = true ∧ b2 = true ∧ b3 = true ∧ b4 = true ∧ b5 = true ∧ b6 = true ∧ b7 = true ∧ b8 = true ∧ b9 = true ∧ b10 = true ∧ b11 = true ∧ b12 = false) ∨ (b1 = true ∧ b2 = true ∧ b3 = true ∧ b4 = true ∧ b5 = true ∧ b6 = true ∧ b7 = true ∧ b8 = true ∧ b9 = true ∧ b10 = true ∧ b11 = true ∧ b12 = true ∧ b14 = false) ∨ (b1 = true ∧ b2 = true ∧ b3 = true ∧ b4 = true ∧ b5 = true ∧ b6 = true ∧ b7 = true ∧ b8 = true ∧ b9 = true ∧ b10 = true ∧ b11 = true ∧ b12 = true ∧ b14 = true) := by
        cases b1 with
        | false =>
         exact .inl rfl
        | true =>
         cases b2 with
         | false =>
          exact .inr (.inl ⟨rfl, rfl⟩)
         | true =>
          cases b3 with
          | false =>
           exact .inr (.inr (.inl ⟨rfl, rfl, rfl⟩))
          | true =>
           cases b4 with
           | false =>
            exact .inr (.inr (.inr (.inl ⟨rfl, rfl, rfl, rfl⟩)))
           | true =>
            cases b5 with
            | false =>
             exact .inr (.inr (.inr (.inr (.inl ⟨rfl, rfl, rfl, rfl, rfl⟩))))
            | true =>
             cases b6 with
             | false =>
              exact .inr (.inr (.inr (.inr (.inr (.inl ⟨rfl, rfl, rfl, rfl, rfl, rfl⟩)))))
             | true =>
              cases b7 with
              | false =>
               exact .inr (.inr (.inr (.inr (.inr (.inr (.inl ⟨rfl, rfl, rfl, rfl, rfl, rfl, rfl⟩))))))
              | true =>
               cases b8 with
               | false =>
                exact .inr (.inr (.inr (.inr (.inr (.inr (.inr (.inl ⟨rfl, rfl, rfl, rfl, rfl, rfl, rfl, rfl⟩)))))))
               | true =>
                cases b9 with
                | false =>
                 exact .inr (.inr (.inr (.inr (.inr (.inr (.inr (.inr (.inl ⟨rfl, rfl, rfl, rfl, rfl, rfl, rfl, rfl, rfl⟩))))))))
                | true =>
                 cases b10 with
                 | false =>
                  exact .inr (.inr (.inr (.inr (.inr (.inr (.inr (.inr (.inr (.inl ⟨rfl, rfl, rfl, rfl, rfl, rfl, rfl, rfl, rfl, rfl⟩)))))))))
                 | true =>
                  cases b11 with
                  | false =>
                   exact .inr (.inr (.inr (.inr (.inr (.inr (.inr (.inr (.inr (.inr (.inl ⟨rfl, rfl, rfl, rfl, rfl, rfl, rfl, rfl, rfl, rfl, rfl⟩))))))))))
                  | true =>
                   cases b12 with
                   | false =>
                    exact .inr (.inr (.inr (.inr (.inr (.inr (.inr (.inr (.inr (.inr (.inr (.inl ⟨rfl, rfl, rfl, rfl, rfl, rfl, rfl, rfl, rfl, rfl, rfl, rfl⟩)))))))))))
                   | true =>
                    cases b14 with
                    | false =>
                     exact .inr (.inr (.inr (.inr (.inr (.inr (.inr (.inr (.inr (.inr (.inr (.inr (.inl ⟨rfl, rfl, rfl, rfl, rfl, rfl, rfl, rfl, rfl, rfl, rfl, rfl, rfl⟩))))))))))))
                    | true =>
                     exact .inr (.inr (.inr (.inr (.inr (.inr (.inr (.inr (.inr (.inr (.inr (.inr (.inr (⟨rfl, rfl, rfl, rfl, rfl, rfl, rfl, rfl, rfl, rfl, rfl, rfl, rfl⟩)))))))))))))
    rcases sp with rfl | ⟨rfl, rfl⟩ | ⟨rfl, rfl, rfl⟩ | ⟨rfl, rfl, rfl, rfl⟩ | ⟨rfl, rfl, rfl, rfl, rfl⟩ | ⟨rfl, rfl, rfl, rfl, rfl, rfl⟩ | ⟨rfl, rfl, rfl, rfl, rfl, rfl, rfl⟩ | ⟨rfl, rfl, rfl, rfl, rfl, rfl, rfl, rfl⟩ | ⟨rfl, rfl, rfl, rfl, rfl, rfl, rfl, rfl, rfl⟩ | ⟨rfl, rfl, rfl, rfl, rfl, rfl, rfl, rfl, rfl, rfl⟩ | ⟨rfl, rfl, rfl, rfl, rfl, rfl, rfl, rfl, rfl, rfl, rfl⟩ | ⟨rfl, rfl, rfl, rfl, rfl, rfl, rfl, rfl, rfl, rfl, rfl, rfl⟩ | ⟨rfl, rfl, rfl, rfl, rfl, rfl, rfl, rfl, rfl, rfl, rfl, rfl, rfl⟩ | ⟨rfl, rfl, rfl, rfl, rfl, rfl, rfl, rfl, rfl, rfl, rfl, rfl, rfl⟩
    all_goals
      simp only [Bool.false_and, Bool.and_false, Bool.true_and, Bool.not_true, Bool.not_false, Bool.false_or, Bool.true_or, Bool.or_false, Bool.or_true, Bool.false_eq_true, if_true, if_false] at hr
      subst hr
      go_enter Try.func11, Try.ntmps11
      go_wp2_with (first
        | ((with_reducible refine gate_dst (N := 1) rfl ?_); refine box_event ?hg (N := 1) ?hd (cs := #[.string u.s, .int .i64 u.o, .int .i64 u.l, .int .i64 u.p, .int .i64 u.r, .int .i64 u.a, .int .i64 u.st, .int .i64 u.g, .int .i64 u.w, .int .i64 u.i]) (t := 23) ?hr ?_; (case hd => rfl); (case hg => rfl); (case hr => first | (go_simp; done) | (go_simp; rfl)); intro g1 hg wx hbox hb; have HF2 := Aside0.mk (Fr.box (by repeat (first | exact HF.out | apply Fr.alloc | apply Fr.drewN | apply Fr.drew)) hg hbox hb); clear HF hb hbox hg; have HF := HF2; clear HF2; (try clear Q1); have Q1 := cells10 (HF.out.blk 0 rfl))
        | (go_at_call 27; (with_reducible refine (K27 _).mono ?_); rintro ee wx ⟨rfl, hb⟩; have HF2 := Aside0.mk (Fr.step (by repeat (first | exact HF.out | apply Fr.alloc | apply Fr.drewN | apply Fr.drew)) hb); clear HF hb; have HF := HF2; clear HF2; (try clear Q1); have Q1 := cells10 (HF.out.blk 0 rfl))
        | (go_at_call 29; (with_reducible refine (K29 _ _).mono ?_); rintro ee wx ⟨rfl, hb⟩; have HF2 := Aside0.mk (Fr.step (by repeat (first | exact HF.out | apply Fr.alloc | apply Fr.drewN | apply Fr.drew)) hb); clear HF hb; have HF := HF2; clear HF2; (try clear Q1); have Q1 := cells10 (HF.out.blk 0 rfl))
        | (go_at_call 30; (with_reducible refine (K30 _).mono ?_); rintro ee wx ⟨rfl, hb⟩; have HF2 := Aside0.mk (Fr.step (by repeat (first | exact HF.out | apply Fr.alloc | apply Fr.drewN | apply Fr.drew)) hb); clear HF hb; have HF := HF2; clear HF2; (try clear Q1); have Q1 := cells10 (HF.out.blk 0 rfl)))
      go_ret
      exact ⟨rfl, HF.out.1⟩
  · have sp : (b1 = false) ∨ (b1 = true ∧ b2 = false) ∨ (b1 = true ∧ b2 = true ∧ b3 = false) ∨ (b1 = true ∧ b2 = true ∧ b3 = true ∧ b4 = false) ∨ (b1 = true ∧ b2 = true ∧ b3 = true ∧ b4 = true ∧ b5 = false) ∨ (b1 = true ∧ b2 = true ∧ b3 = true ∧ b4 = true ∧ b5 = true ∧ b6 = false) ∨ (b1 = true ∧ b2 = true ∧ b3 = true ∧ b4 = true ∧ b5 = true ∧ b6 = true ∧ b7 = false) ∨ (b1 = true ∧ b2 = true ∧ b3 = true ∧ b4 = true ∧ b5 = true ∧ b6 = true ∧ b7 = true ∧ b8 = false) ∨ (b1 = true ∧ b2 = true ∧ b3 = true ∧ b4 = true ∧ b5 = true ∧ b6 = true ∧ b7 = true ∧ b8 = true ∧ b9 = false) ∨ (b1 = true ∧ b2 = true ∧ b3 = true ∧ b4 = true ∧ b5 = true ∧ b6 = true ∧ b7 = true ∧ b8 = true ∧ b9 = true ∧ b10 = false) ∨ (b1 = true ∧ b2 = true ∧ b3 = true ∧ b4 = true ∧ b5 = true ∧ b6 = true ∧ b7 = true ∧ b8 = true ∧ b9 = true ∧ b10 = true ∧ b11 = false) ∨ (b1 = true ∧ b2 = true ∧ b3 = true ∧ b4 = true ∧ b5 = true ∧ b6 = true ∧ b7 = true ∧ b8 = true ∧ b9 = true ∧ b10 = true ∧ b11 = true ∧ b12 = false) ∨ (b1 = true ∧ b2 = true ∧ b3 = true ∧ b4 = true ∧ b5 = true ∧ b6 = true ∧ b7 = true ∧ b8 = true ∧ b9 = true ∧ b10 = true ∧ b11 = true ∧ b12 = true ∧ b14 = false) ∨ (b1 = true ∧ b2 = true ∧ b3 = true ∧ b4 = true ∧ b5 = true ∧ b6 = true ∧ b7 = true ∧ b8 = true ∧ b9 = true ∧ b10 = true ∧ b11 = true ∧ b12 = true ∧ b14 = true) := by
        cases b1 with
        | false =>
         exact .inl rfl
        | true =>
         cases b2 with
         | false =>
          exact .inr (.inl ⟨rfl, rfl⟩)
         | true =>
          cases b3 with
          | false =>
           exact .inr (.inr (.inl ⟨rfl, rfl, rfl⟩))
          | true =>
           cases b4 with
           | false =>
            exact .inr (.inr (.inr (.inl ⟨rfl, rfl, rfl, rfl⟩)))
           | true =>
            cases b5 with
            | false =>
             exact .inr (.inr (.inr (.inr (.inl ⟨rfl, rfl, rfl, rfl, rfl⟩))))
            | true =>
             cases b6 with
             | false =>
              exact .inr (.inr (.inr (.inr (.inr (.inl ⟨rfl, rfl, rfl, rfl, rfl, rfl⟩)))))
             | true =>
              cases b7 with
              | false =>
               exact .inr (.inr (.inr (.inr (.inr (.inr (.inl ⟨rfl, rfl, rfl, rfl, rfl, rfl, rfl⟩))))))
              | true =>
               cases b8 with
               | false =>
                exact .inr (.inr (.inr (.inr (.inr (.inr (.inr (.inl ⟨rfl, rfl, rfl, rfl, rfl, rfl, rfl, rfl⟩)))))))
               | true =>
                cases b9 with
                | false =>
                 exact .inr (.inr (.inr (.inr (.inr (.inr (.inr (.inr (.inl ⟨rfl, rfl, rfl, rfl, rfl, rfl, rfl, rfl, rfl⟩))))))))
                | true =>
                 cases b10 with
                 | false =>
                  exact .inr (.inr (.inr (.inr (.inr (.inr (.inr (.inr (.inr (.inl ⟨rfl, rfl, rfl, rfl, rfl, rfl, rfl, rfl, rfl, rfl⟩)))))))))
                 | true =>
                  cases b11 with
                  | false =>
                   exact .inr (.inr (.inr (.inr (.inr (.inr (.inr (.inr (.inr (.inr (.inl ⟨rfl, rfl, rfl, rfl, rfl, rfl, rfl, rfl, rfl, rfl, rfl⟩))))))))))
                  | true =>
                   cases b12 with
                   | false =>
                    exact .inr (.inr (.inr (.inr (.inr (.inr (.inr (.inr (.inr (.inr (.inr (.inl ⟨rfl, rfl, rfl, rfl, rfl, rfl, rfl, rfl, rfl, rfl, rfl, rfl⟩)))))))))))
                   | true =>
                    cases b14 with
                    | false =>
                     exact .inr (.inr (.inr (.inr (.inr (.inr (.inr (.inr (.inr (.inr (.inr (.inr (.inl ⟨rfl, rfl, rfl, rfl, rfl, rfl, rfl, rfl, rfl, rfl, rfl, rfl, rfl⟩))))))))))))
                    | true =>
                     exact .inr (.inr (.inr (.inr (.inr (.inr (.inr (.inr (.inr (.inr (.inr (.inr (.inr (⟨rfl, rfl, rfl, rfl, rfl, rfl, rfl, rfl, rfl, rfl, rfl, rfl, rfl⟩)))))))))))))
    rcases sp with rfl | ⟨rfl, rfl⟩ | ⟨rfl, rfl, rfl⟩ | ⟨rfl, rfl, rfl, rfl⟩ | ⟨rfl, rfl, rfl, rfl, rfl⟩ | ⟨rfl, rfl, rfl, rfl, rfl, rfl⟩ | ⟨rfl, rfl, rfl, rfl, rfl, rfl, rfl⟩ | ⟨rfl, rfl, rfl, rfl, rfl, rfl, rfl, rfl⟩ | ⟨rfl, rfl, rfl, rfl, rfl, rfl, rfl, rfl, rfl⟩ | ⟨rfl, rfl, rfl, rfl, rfl, rfl, rfl, rfl, rfl, rfl⟩ | ⟨rfl, rfl, rfl, rfl, rfl, rfl, rfl, rfl, rfl, rfl, rfl⟩ | ⟨rfl, rfl, rfl, rfl, rfl, rfl, rfl, rfl, rfl, rfl, rfl, rfl⟩ | ⟨rfl, rfl, rfl, rfl, rfl, rfl, rfl, rfl, rfl, rfl, rfl, rfl, rfl⟩ | ⟨rfl, rfl, rfl, rfl, rfl, rfl, rfl, rfl, rfl, rfl, rfl, rfl, rfl⟩
    all_goals
      simp only [Bool.false_and, Bool.and_false, Bool.true_and, Bool.not_true, Bool.not_false, Bool.false_or, Bool.true_or, Bool.or_false, Bool.or_true, Bool.false_eq_true, if_true, if_false] at hr
      subst hr
      go_enter Try.func11, Try.ntmps11
      go_wp2_with (first
        | ((with_reducible refine gate_dst (N := 1) rfl ?_); refine box_event ?hg (N := 1) ?hd (cs := #[.string u.s, .int .i64 u.o, .int .i64 u.l, .int .i64 u.p, .int .i64 u.r, .int .i64 u.a, .int .i64 u.st, .int .i64 u.g, .int .i64 u.w, .int .i64 u.i]) (t := 23) ?hr ?_; (case hd => rfl); (case hg => rfl); (case hr => first | (go_simp; done) | (go_simp; rfl)); intro g1 hg wx hbox hb; have HF2 := Aside0.mk (Fr.box (by repeat (first | exact HF.out | apply Fr.alloc | apply Fr.drewN | apply Fr.drew)) hg hbox hb); clear HF hb hbox hg; have HF := HF2; clear HF2; (try clear Q1); have Q1 := cells10 (HF.out.blk 0 rfl))
        | (go_at_call 27; (with_reducible refine (K27 _).mono ?_); rintro ee wx ⟨rfl, hb⟩; have HF2 := Aside0.mk (Fr.step (by repeat (first | exact HF.out | apply Fr.alloc | apply Fr.drewN | apply Fr.drew)) hb); clear HF hb; have HF := HF2; clear HF2; (try clear Q1); have Q1 := cells10 (HF.out.blk 0 rfl))
        | (go_at_call 29; (with_reducible refine (K29 _ _).mono ?_); rintro ee wx ⟨rfl, hb⟩; have HF2 := Aside0.mk (Fr.step (by repeat (first | exact HF.out | apply Fr.alloc | apply Fr.drewN | apply Fr.drew)) hb); clear HF hb; have HF := HF2; clear HF2; (try clear Q1); have Q1 := cells10 (HF.out.blk 0 rfl))
        | (go_at_call 30; (with_reducible refine (K30 _).mono ?_); rintro ee wx ⟨rfl, hb⟩; have HF2 := Aside0.mk (Fr.step (by repeat (first | exact HF.out | apply Fr.alloc | apply Fr.drewN | apply Fr.drew)) hb); clear HF hb; have HF := HF2; clear HF2; (try clear Q1); have Q1 := cells10 (HF.out.blk 0 rfl)))
      go_ret
      exact ⟨rfl, HF.out.1⟩
  · have sp : (b1 = false) ∨ (b1 = true ∧ b2 = false) ∨ (b1 = true ∧ b2 = true ∧ b3 = false) ∨ (b1 = true ∧ b2 = true ∧ b3 = true ∧ b4 = false) ∨ (b1 = true ∧ b2 = true ∧ b3 = true ∧ b4 = true ∧ b5 = false) ∨ (b1 = true ∧ b2 = true ∧ b3 = true ∧ b4 = true ∧ b5 = true ∧ b6 = false) ∨ (b1 = true ∧ b2 = true ∧ b3 = true ∧ b4 = true ∧ b5 = true ∧ b6 = true ∧ b7 = false) ∨ (b1 = true ∧ b2 = true ∧ b3 = true ∧ b4 = true ∧ b5 = true ∧ b6 = true ∧ b7 = true ∧ b8 = false) ∨ (b1 = true ∧ b2 = true ∧ b3 = true ∧ b4 = true ∧ b5 = true ∧ b6 = true ∧ b7 = true ∧ b8 = true ∧ b9 = false) ∨ (b1 = true ∧ b2 = true ∧ b3 = true ∧ b4 = true ∧ b5 = true ∧ b6 = true ∧ b7 = true ∧ b8 = true ∧ b9 = true ∧ b10 = false) ∨ (b1 = true ∧ b2 = true ∧ b3 = true ∧ b4 = true ∧ b5 = true ∧ b6 = true ∧ b7 = true ∧ b8 = true ∧ b9 = true ∧ b10 = true ∧ b11 = false) ∨ (b1 = true ∧ b2 = true ∧ b3 = true ∧ b4 = true ∧ b5 = true ∧ b6 = true ∧ b7 = true ∧ b8 = true ∧ b9 = true ∧ b10 = true ∧ b11 = true ∧ b12 = false) ∨ (b1 = true ∧ b2 = true ∧ b3 = true ∧ b4 = true ∧ b5 = true ∧ b6 = true ∧ b7 = true ∧ b8 = true ∧ b9 = true ∧ b10 = true ∧ b11 = true ∧ b12 = true ∧ b15 = false) ∨ (b1 = true ∧ b2 = true ∧ b3 = true ∧ b4 = true ∧ b5 = true ∧ b6 = true ∧ b7 = true ∧ b8 = true ∧ b9 = true ∧ b10 = true ∧ b11 = true ∧ b12 = true ∧ b15 = true) := by
        cases b1 with
        | false =>
         exact .inl rfl
        | true =>
         cases b2 with
         | false =>
          exact .inr (.inl ⟨rfl, rfl⟩)
         | true =>
          cases b3 with
          | false =>
           exact .inr (.inr (.inl ⟨rfl, rfl, rfl⟩))
          | true =>
           cases b4 with
           | false =>
            exact .inr (.inr (.inr (.inl ⟨rfl, rfl, rfl, rfl⟩)))
           | true =>
            cases b5 with
            | false =>
             exact .inr (.inr (.inr (.inr (.inl ⟨rfl, rfl, rfl, rfl, rfl⟩))))
            | true =>
             cases b6 with
             | false =>
              exact .inr (.inr (.inr (.inr (.inr (.inl ⟨rfl, rfl, rfl, rfl, rfl, rfl⟩)))))
             | true =>
              cases b7 with
              | false =>
               exact .inr (.inr (.inr (.inr (.inr (.inr (.inl ⟨rfl, rfl, rfl, rfl, rfl, rfl, rfl⟩))))))
              | true =>
               cases b8 with
               | false =>
                exact .inr (.inr (.inr (.inr (.inr (.inr (.inr (.inl ⟨rfl, rfl, rfl, rfl, rfl, rfl, rfl, rfl⟩)))))))
               | true =>
                cases b9 with
                | false =>
                 exact .inr (.inr (.inr (.inr (.inr (.inr (.inr (.inr (.inl ⟨rfl, rfl, rfl, rfl, rfl, rfl, rfl, rfl, rfl⟩))))))))
                | true =>
                 cases b10 with
                 | false =>
                  exact .inr (.inr (.inr (.inr (.inr (.inr (.inr (.inr (.inr (.inl ⟨rfl, rfl, rfl, rfl, rfl, rfl, rfl, rfl, rfl, rfl⟩)))))))))
                 | true =>
                  cases b11 with
                  | false =>
                   exact .inr (.inr (.inr (.inr (.inr (.inr (.inr (.inr (.inr (.inr (.inl ⟨rfl, rfl, rfl, rfl, rfl, rfl, rfl, rfl, rfl, rfl, rfl⟩))))))))))
                  | true =>
                   cases b12 with
                   | false =>
                    exact .inr (.inr (.inr (.inr (.inr (.inr (.inr (.inr (.inr (.inr (.inr (.inl ⟨rfl, rfl, rfl, rfl, rfl, rfl, rfl, rfl, rfl, rfl, rfl, rfl⟩)))))))))))
                   | true =>
                    cases b15 with
                    | false =>
                     exact .inr (.inr (.inr (.inr (.inr (.inr (.inr (.inr (.inr (.inr (.inr (.inr (.inl ⟨rfl, rfl, rfl, rfl, rfl, rfl, rfl, rfl, rfl, rfl, rfl, rfl, rfl⟩))))))))))))
                    | true =>
                     exact .inr (.inr (.inr (.inr (.inr (.inr (.inr (.inr (.inr (.inr (.inr (.inr (.inr (⟨rfl, rfl, rfl, rfl, rfl, rfl, rfl, rfl, rfl, rfl, rfl, rfl, rfl⟩)))))))))))))
    rcases sp with rfl | ⟨rfl, rfl⟩ | ⟨rfl, rfl, rfl⟩ | ⟨rfl, rfl, rfl, rfl⟩ | ⟨rfl, rfl, rfl, rfl, rfl⟩ | ⟨rfl, rfl, rfl, rfl, rfl, rfl⟩ | ⟨rfl, rfl, rfl, rfl, rfl, rfl, rfl⟩ | ⟨rfl, rfl, rfl, rfl, rfl, rfl, rfl, rfl⟩ | ⟨rfl, rfl, rfl, rfl, rfl, rfl, rfl, rfl, rfl⟩ | ⟨rfl, rfl, rfl, rfl, rfl, rfl, rfl, rfl, rfl, rfl⟩ | ⟨rfl, rfl, rfl, rfl, rfl, rfl, rfl, rfl, rfl, rfl, rfl⟩ | ⟨rfl, rfl, rfl, rfl, rfl, rfl, rfl, rfl, rfl, rfl, rfl, rfl⟩ | ⟨rfl, rfl, rfl, rfl, rfl, rfl, rfl, rfl, rfl, rfl, rfl, rfl, rfl⟩ | ⟨rfl, rfl, rfl, rfl, rfl, rfl, rfl, rfl, rfl, rfl, rfl, rfl, rfl⟩
    all_goals
      simp only [Bool.false_and, Bool.and_false, Bool.true_and, Bool.not_true, Bool.not_false, Bool.false_or, Bool.true_or, Bool.or_false, Bool.or_true, Bool.false_eq_true, if_true, if_false] at hr
      subst hr
      go_enter Try.func11, Try.ntmps11
      go_wp2_with (first
        | ((with_reducible refine gate_dst (N := 1) rfl ?_); refine box_event ?hg (N := 1) ?hd (cs := #[.string u.s, .int .i64 u.o, .int .i64 u.l, .int .i64 u.p, .int .i64 u.r, .int .i64 u.a, .int .i64 u.st, .int .i64 u.g, .int .i64 u.w, .int .i64 u.i]) (t := 23) ?hr ?_; (case hd => rfl); (case hg => rfl); (case hr => first | (go_simp; done) | (go_simp; rfl)); intro g1 hg wx hbox hb; have HF2 := Aside0.mk (Fr.box (by repeat (first | exact HF.out | apply Fr.alloc | apply Fr.drewN | apply Fr.drew)) hg hbox hb); clear HF hb hbox hg; have HF := HF2; clear HF2; (try clear Q1); have Q1 := cells10 (HF.out.blk 0 rfl))
        | (go_at_call 27; (with_reducible refine (K27 _).mono ?_); rintro ee wx ⟨rfl, hb⟩; have HF2 := Aside0.mk (Fr.step (by repeat (first | exact HF.out | apply Fr.alloc | apply Fr.drewN | apply Fr.drew)) hb); clear HF hb; have HF := HF2; clear HF2; (try clear Q1); have Q1 := cells10 (HF.out.blk 0 rfl))
        | (go_at_call 29; (with_reducible refine (K29 _ _).mono ?_); rintro ee wx ⟨rfl, hb⟩; have HF2 := Aside0.mk (Fr.step (by repeat (first | exact HF.out | apply Fr.alloc | apply Fr.drewN | apply Fr.drew)) hb); clear HF hb; have HF := HF2; clear HF2; (try clear Q1); have Q1 := cells10 (HF.out.blk 0 rfl))
        | (go_at_call 30; (with_reducible refine (K30 _).mono ?_); rintro ee wx ⟨rfl, hb⟩; have HF2 := Aside0.mk (Fr.step (by repeat (first | exact HF.out | apply Fr.alloc | apply Fr.drewN | apply Fr.drew)) hb); clear HF hb; have HF := HF2; clear HF2; (try clear Q1); have Q1 := cells10 (HF.out.blk 0 rfl)))
      go_ret
      exact ⟨rfl, HF.out.1⟩
end Go.Proofs.Ytjoclfiefpbgfaa.PUnit
