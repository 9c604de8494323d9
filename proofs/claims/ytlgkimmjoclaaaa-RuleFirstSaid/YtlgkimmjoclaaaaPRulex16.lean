-- PRINTED by printx.py (the kit's print, with contracts that were written by hand in the place of what it does not print). Not trusted: Lean checks it.
import Derived.Test.YtlgkimmjoclaaaaPRulex0
import Derived.Test.YtlgkimmjoclaaaaPRulex1
import Derived.Test.YtlgkimmjoclaaaaPRulex3
import Derived.Test.YtlgkimmjoclaaaaPRulex7
import Derived.Test.YtlgkimmjoclaaaaPRulex10
import Derived.Test.YtlgkimmjoclaaaaPRulex12
import Derived.Test.YtlgkimmjoclaaaaPRulex13
import Derived.Test.YtlgkimmjoclaaaaPRulex14
import Derived.Test.YtlgkimmjoclaaaaPRulex15
namespace Go.Proofs.Ytlgkimmjoclaaaa.PRule
open Go.RowKit Go.Proofs.YtlgkimmjoclaaaaW.PrintWords Go.Proofs.YtlgkimmjoclaaaaW.PrintLast Go.Proofs.YtlgkimmjoclaaaaW.PrintMore
attribute [local go_sem] max2_int min2_int max_two min_two max_three min_three max_four min_four   -- for this text's walks alone
set_option linter.unusedVariables false
set_option linter.unusedSimpArgs false

/-! ### backhaullaw18_awake: function 18 -/

def twoRows : List S23 := [(⟨15, 3, 0, 99, 5⟩ : S23), (⟨15, 3, 0, 1000000000000, 1⟩ : S23)]
def TwoMade (w : World) (e : Ending) (w' : World) : Prop := ∃ (g cap : Nat), e = .returned (.slice (some ⟨g, 0, none⟩) 2 cap) ∧ Kd.C k23 w' (some ⟨g, 0, none⟩) 2 twoRows ∧ 2 ≤ cap ∧ Below w.heap.size w w'
theorem two_any (w : World) : Calls Try.prog 43 #[] w (TwoMade w) := by
  refine (backhaullaw18_two.calls twoRows w rfl).mono ?_
  rintro e w' ⟨v, rfl, hR, hb⟩
  obtain ⟨g, cap, rfl, -⟩ := Kd.R_form hR (by decide)
  obtain ⟨-, hc, hC⟩ := Kd.R_reads' hR
  exact ⟨g, cap, rfl, hC, hc, hb⟩
theorem cells_at {w : World} {g : Nat} {rows : List S23} {n : Nat} {x : S23} {r : List S23} (h : Kd.C k23 w (some ⟨g, 0, none⟩) n rows) (hn : 0 < n) (hx : rows = x :: r) : w.cell? ⟨g, 0, none⟩ = some (.int .i64 x.f0) ∧ w.cell? ⟨g, 1, none⟩ = some (.int .i64 x.f1) ∧ w.cell? ⟨g, 2, none⟩ = some (.int .i64 x.f2) ∧ w.cell? ⟨g, 3, none⟩ = some (.int .i64 x.f3) ∧ w.cell? ⟨g, 4, none⟩ = some (.int .i64 x.f4) := by
  obtain ⟨ad, e, h0, h1, h2, h3, h4⟩ := at_T23 h 0 (by omega) (by omega)
  cases e
  subst hx
  simp [Addr.add, rd_T23] at h0 h1 h2 h3 h4
  exact ⟨h0, h1, h2, h3, h4⟩
theorem C_one {w : World} {A : Option Addr} (h : Kd.C k23 w A 2 twoRows) : Kd.C k23 w A 1 [(⟨15, 3, 0, 99, 5⟩ : S23)] := Kd.C_take (xs := twoRows) (m := 1) h (by decide)
theorem aw_d1 (g c : Nat) (w : World) (h : Kd.C k23 w (some ⟨g, 0, none⟩) 2 twoRows) (hc : 2 ≤ c) : Calls Try.prog 19 #[.slice (some ⟨g, 0, none⟩) 2 c, .agg #[.int .i64 3, .bool false, .int .i64 100]] w fun e w' => e = .returned (.tuple #[.int .i64 1, .int .i64 1, .int .i64 0]) ∧ Below w.heap.size w w' :=
  rule_Decide.calls 10 (some ⟨g, 0, none⟩) c twoRows 3 false 100 1 1 0 w h hc (by decide +kernel)
theorem aw_d2 (g c : Nat) (w : World) (h : Kd.C k23 w (some ⟨g, 0, none⟩) 2 twoRows) (hc : 2 ≤ c) : Calls Try.prog 19 #[.slice (some ⟨g, 0, none⟩) 2 c, .agg #[.int .i64 0, .bool true, .int .i64 99]] w fun e w' => e = .returned (.tuple #[.int .i64 5, .int .i64 0, .int .i64 0]) ∧ Below w.heap.size w w' :=
  rule_Decide.calls 10 (some ⟨g, 0, none⟩) c twoRows 0 true 99 5 0 0 w h hc (by decide +kernel)
theorem aw_d3 (g c : Nat) (w : World) (h : Kd.C k23 w (some ⟨g, 0, none⟩) 2 twoRows) (hc : 2 ≤ c) : Calls Try.prog 19 #[.slice (some ⟨g, 0, none⟩) 1 c, .agg #[.int .i64 0, .bool false, .int .i64 100]] w fun e w' => e = .returned (.tuple #[.int .i64 0, .int .i64 0, .int .i64 36]) ∧ Below w.heap.size w w' :=
  rule_Decide.calls 10 (some ⟨g, 0, none⟩) c [(⟨15, 3, 0, 99, 5⟩ : S23)] 0 false 100 0 0 36 w (C_one h) (by simp; omega) (by decide +kernel)
theorem aw_d4 (g c : Nat) (w : World) (h : Kd.C k23 w (some ⟨g, 0, none⟩) 2 twoRows) (hc : 2 ≤ c) : Calls Try.prog 19 #[.slice (some ⟨g, 0, none⟩) 2 c, .agg #[.int .i64 4, .bool false, .int .i64 0]] w fun e w' => e = .returned (.tuple #[.int .i64 0, .int .i64 0, .int .i64 2]) ∧ Below w.heap.size w w' :=
  rule_Decide.calls 10 (some ⟨g, 0, none⟩) c twoRows 4 false 0 0 0 2 w h hc (by decide +kernel)
theorem two_cells {w : World} {g : Nat} (h : Kd.C k23 w (some ⟨g, 0, none⟩) 2 twoRows) : w.cell? ⟨g, 0, none⟩ = some (.int .i64 15) ∧ w.cell? ⟨g, 1, none⟩ = some (.int .i64 3) ∧ w.cell? ⟨g, 2, none⟩ = some (.int .i64 0) ∧ w.cell? ⟨g, 3, none⟩ = some (.int .i64 99) ∧ w.cell? ⟨g, 4, none⟩ = some (.int .i64 5) := cells_at h (by decide) rfl
def ListMade (xs : List Int) (w : World) (e : Ending) (w' : World) : Prop := ∃ (A : Option Addr) (cap : Nat), e = .returned (.slice A xs.length cap) ∧ Kd.C (Kd.int .i64) w' A xs.length xs ∧ xs.length ≤ cap ∧ Below w.heap.size w w'
theorem aw_f (g c : Nat) (w : World) (h : Kd.C k23 w (some ⟨g, 0, none⟩) 2 twoRows) (hc : 2 ≤ c) : Calls Try.prog 24 #[.slice (some ⟨g, 0, none⟩) 2 c, .agg #[.int .i64 0, .bool false, .int .i64 0]] w (ListMade [0, 1] w) := by
  refine (rule_Fits.calls 10 (some ⟨g, 0, none⟩) c twoRows 0 false 0 [0, 1] w h hc (by decide +kernel)).mono ?_
  rintro e w' ⟨v, rfl, hR, hb⟩
  obtain ⟨A, cap, rfl, hc, hC⟩ := Kd.R_reads hR
  exact ⟨A, cap, rfl, hC, hc, hb⟩
theorem aw_s (A : Option Addr) (c g : Nat) (w : World) (h : Kd.C (Kd.int .i64) w A 2 [0, 1]) (hc : 2 ≤ c) (h0 : w.cell? ⟨g, 0, none⟩ = some (.int .i64 0)) (h1 : w.cell? ⟨g, 1, none⟩ = some (.int .i64 1)) : Calls Try.prog 23 #[.slice A 2 c, .slice (some ⟨g, 0, none⟩) 2 2] w fun e w' => e = .returned (.bool true) ∧ Below w.heap.size w w' := by
  refine (backhaulref02_SameInts.calls 10 A c [0, 1] (some ⟨g, 0, none⟩) 2 [0, 1] true w h hc ?_ (by decide) (by decide +kernel)).mono (fun e w' h => ⟨h.1, h.2.below⟩)
  refine Kd.C_of_reads (enc := Value.int .i64) (d := (0 : Int)) (h1 := fun _ => rfl) ⟨rfl, by decide, fun _ => ⟨_, rfl, ?_⟩⟩
  intro j hj
  rcases j with _ | _ | j
  · exact h0
  · exact h1
  · simp at hj
    omega
theorem aw_m (w : World) : Calls Try.prog 16 #[.agg #[.int .i64 15, .int .i64 3, .int .i64 0, .int .i64 99, .int .i64 5], .agg #[.int .i64 0, .bool false, .int .i64 99]] w fun e w' => e = .returned (.bool true) ∧ Below w.heap.size w w' :=
  rule_Match.calls 15 3 0 99 5 0 false 99 true w (by decide +kernel)
theorem aw_c (w : World) : Calls Try.prog 21 #[.slice none 0 0] w fun e w' => e = .returned (.int .i64 36) ∧ Below w.heap.size w w' :=
  rule_Check.calls 10 none 0 [] 36 w (Kd.C_nil _ _) (by decide) (by decide +kernel)

def backhaullaw18_awake.f : Option Bool := some true
set_option maxHeartbeats 8000000 in
set_option maxRecDepth 100000 in
theorem backhaullaw18_awake.calls (r : Bool) (w : World) (h : backhaullaw18_awake.f = some r) : Calls Try.prog 18 #[] w fun e w' => e = .returned (.bool r) ∧ Below w.heap.size w w' := by
  obtain rfl := Option.some.inj h
  clear h
  have hu23 := Try.underlying23
  have HB := Aside0.mk (Below.refl w.heap.size w)
  go_enter Try.func18, Try.ntmps18
  go_wp2_with (first
    | (go_at_call 43; refine (two_any _).mono ?_; rintro e w' ⟨g, cap, rfl, hC, hcap, hb⟩; obtain ⟨q0, q1, q2, q3, q4⟩ := two_cells hC; have HC := Aside0.mk hC; have hcap1 : (1 : Int) ≤ (cap : Int) := (by omega); have HCAP := Aside0.mk hcap; clear hC hcap; have HB2 := Aside0.mk (below_step (by first | exact HB.out | exact below_alloc HB.out _) hb); clear HB hb; have HB := HB2; clear HB2)
    | (go_at_call 19; (first | (with_reducible refine (aw_d1 _ _ _ HC.out HCAP.out).mono ?_) | (with_reducible refine (aw_d2 _ _ _ HC.out HCAP.out).mono ?_) | (with_reducible refine (aw_d3 _ _ _ HC.out HCAP.out).mono ?_) | (with_reducible refine (aw_d4 _ _ _ HC.out HCAP.out).mono ?_)); rintro e w' ⟨rfl, hb⟩; clear q0 q1 q2 q3 q4 HC HCAP hcap1; have HB2 := Aside0.mk (below_step (by first | exact HB.out | exact below_alloc HB.out _) hb); clear HB hb; have HB := HB2; clear HB2)
    | (go_at_call 16; refine (aw_m _).mono ?_; rintro e w' ⟨rfl, hb⟩; have HB2 := Aside0.mk (below_step (by first | exact HB.out | exact below_alloc HB.out _) hb); clear HB hb; have HB := HB2; clear HB2)
    | (go_at_call 24; refine (aw_f _ _ _ HC.out HCAP.out).mono ?_; rintro e w' ⟨A, cf, rfl, hC2, hcf, hb⟩; clear q0 q1 q2 q3 q4 HC HCAP hcap1; have HF := Aside0.mk hC2; have HCF := Aside0.mk hcf; clear hC2 hcf; have HB2 := Aside0.mk (below_step (by first | exact HB.out | exact below_alloc HB.out _) hb); clear HB hb; have HB := HB2; clear HB2)
    | (go_at_call 23; refine (aw_s _ _ _ _ (Kd.C_alloc HF.out _) HCF.out (by simp) (by simp)).mono ?_; rintro e w' ⟨rfl, hb⟩; clear HF HCF; have HB2 := Aside0.mk (below_step (by first | exact HB.out | exact below_alloc HB.out _) hb); clear HB hb; have HB := HB2; clear HB2)
    | (go_at_call 21; refine (aw_c _).mono ?_; rintro e w' ⟨rfl, hb⟩; have HB2 := Aside0.mk (below_step (by first | exact HB.out | exact below_alloc HB.out _) hb); clear HB hb; have HB := HB2; clear HB2)
    | (go_at_call 11; refine (rule_CheckRow.calls 15 3 0 99 5 0 _ (by decide +kernel)).mono ?_; rintro e w' ⟨rfl, hb⟩; have HB2 := Aside0.mk (below_step (by first | exact HB.out | exact below_alloc HB.out _) hb); clear HB hb; have HB := HB2; clear HB2)
    | (go_at_call 13; refine (rule_CheckFacts.calls 0 false 0 0 _ (by decide +kernel)).mono ?_; rintro e w' ⟨rfl, hb⟩; have HB2 := Aside0.mk (below_step (by first | exact HB.out | exact below_alloc HB.out _) hb); clear HB hb; have HB := HB2; clear HB2))
  go_ret
  exact ⟨rfl, HB.out⟩


end Go.Proofs.Ytlgkimmjoclaaaa.PRule
