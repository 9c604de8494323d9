-- PRINTED by printx.py (the kit's print, with contracts that were written by hand in the place of what it does not print). Not trusted: Lean checks it.
import Derived.Test.YtokoipmbhohoiaaPGradex0
import Derived.Test.YtokoipmbhohoiaaPGradex10
namespace Go.Proofs.Ytokoipmbhohoiaa.PGrade
open Go.RowKit Go.Proofs.YtokoipmbhohoiaaW.PrintWords Go.Proofs.YtokoipmbhohoiaaW.PrintLast Go.Proofs.YtokoipmbhohoiaaW.PrintMore
attribute [local go_sem] max2_int min2_int max_two min_two max_three min_three max_four min_four   -- for this text's walks alone
set_option linter.unusedVariables false
set_option linter.unusedSimpArgs false

/-! ### quiz_Failed: function 27 -/
theorem cell_alloc {w : World} (o : Obj) {a : Addr} {v : Value} (h : w.cell? a = some v) : (w.alloc o).cell? a = some v := (World.cell?_alloc_lt w o a (World.block_lt_of_cell? w a h)).trans h
def nb (a i : Int) : Bool := bits .and .i64 (a / 2 ^ i.toNat) 1 == 0
def noes (a : Int) (n : Nat) : List Int := ((List.range n).map Int.ofNat).filter (fun i => nb a i)
theorem noes_succ (a : Int) (n : Nat) : noes a (n + 1) = noes a n ++ (if nb a n = true then [(n : Int)] else []) := by
  unfold noes
  rw [List.range_succ, List.map_append, List.filter_append]
  congr 1
  simp [List.filter_cons]
theorem noes_length (a : Int) (n : Nat) : (noes a n).length ≤ n := by
  unfold noes
  have := List.length_filter_le (fun i => nb a i) ((List.range n).map Int.ofNat)
  simpa using this
theorem pow_small : ∀ n : Nat, n < 9 → (2 : Int) ^ n ≤ 256 ∧ IntKind.i64.wrap (2 ^ n) = 2 ^ n ∧ (1 : Int) ≤ 2 ^ n := by decide +kernel
set_option maxHeartbeats 1000000 in
theorem no1_calls (a i : Int) (g : Nat) (w : World) (hc : w.cell? ⟨g, 0, none⟩ = some (.int .i64 a)) (h0 : 0 ≤ i) (h1 : i < 8) (h2 : 0 ≤ a) (h3 : a < 256) :
    Calls Try.prog 32 #[.int .i64 i, .pointer (some ⟨g, 0, none⟩)] w fun e w' => e = .returned (.bool (nb a i)) ∧ w' = w := by
  go_enter Try.func32, Try.ntmps32
  go_wp2
  go_ret
  exact ⟨rfl, rfl⟩
def NoMade (a : Int) (w : World) (e : Ending) (w' : World) : Prop := ∃ g : Nat, e = .returned (.func (.func 32) #[] #[.pointer (some ⟨g, 0, none⟩)]) ∧ w'.cell? ⟨g, 0, none⟩ = some (.int .i64 a) ∧ w.heap.size ≤ g ∧ Below w.heap.size w w'
set_option maxHeartbeats 1000000 in
theorem no_calls (a : Int) (w : World) : Calls Try.prog 31 #[.int .i64 a] w (NoMade a w) := by
  go_enter Try.func31, Try.ntmps31
  go_wp2
  go_ret
  exact ⟨w.heap.size, rfl, by simp, Nat.le_refl _, below_alloc (Below.refl _ _) _⟩
def quiz_Failed.f (k : Nat) (l0 : List Int) (a1 : Int) : Option (List Int × Int) := (quiz_Check.f k l0).bind fun t => (if t = 0 then (if l0.length < 9 then (if a1 < 0 then some ([], 2) else if a1 ≥ 2 ^ l0.length then some ([], 2) else some (noes a1 l0.length, 0)) else none) else some ([], t))
theorem quiz_Failed.mono : ∀ a0 a1 k, LeO (quiz_Failed.f k a0 a1) (quiz_Failed.f (k + 1) a0 a1) := by
  intro a0 a1 k
  unfold quiz_Failed.f
  exact LeO.bind (quiz_Check.mono _ _) (fun _ => LeO.refl _)
set_option maxHeartbeats 4000000 in
theorem quiz_Failed.calls (k : Nat) (A0 : Option Addr) (c0 : Nat) (l0 : List Int) (a1 : Int) (r1 : List Int) (r2 : Int) (w : World) (hr0 : Kd.C (Kd.int .i64) w A0 l0.length l0) (hc0 : l0.length ≤ c0) (h : quiz_Failed.f k l0 a1 = some (r1, r2)) :
    Calls Try.prog 27 #[.slice A0 l0.length c0, .int .i64 a1] w fun e w' => ∃ v0_ : Value, e = .returned (.tuple #[v0_, .int .i64 r2]) ∧ Kd.R (Kd.int .i64) 3 w' w.heap.size (fun _ => True) v0_ r1 ∧ Below w.heap.size w w' := by
  have h' := h
  unfold quiz_Failed.f at h'
  clear h
  obtain ⟨t, ht, h⟩ := Option.bind_eq_some_iff.mp h'
  clear h'
  have HR0 := Aside0.mk hr0
  have HC0 := Aside0.mk hc0
  have HT := Aside0.mk ht
  have HB := Aside0.mk (Below.refl w.heap.size w)
  clear hr0 hc0 ht
  by_cases e0 : t = 0
  · subst e0
    rw [if_pos rfl] at h
    by_cases e3 : l0.length < 9
    · rw [if_pos e3] at h
      obtain ⟨e4, e5, e7⟩ := pow_small _ e3
      by_cases e1 : a1 < 0
      · rw [if_pos e1] at h
        simp only [Option.some.injEq, Prod.mk.injEq] at h
        obtain ⟨rfl, rfl⟩ := h
        clear e3 e4 e5 e7
        go_enter Try.func27, Try.ntmps27
        go_wp2_with (first | (go_at_call 17; refine (quiz_Check.calls k _ _ l0 0 _ HR0.out HC0.out HT.out).mono ?_; rintro e w' ⟨rfl, ⟨nd, rfl⟩⟩))
        go_ret2
        exact ⟨_, rfl, Kd.R_nil _ _ _ _ _, pw_below_drewN HB.out _⟩
      · rw [if_neg e1] at h
        by_cases e2 : a1 ≥ 2 ^ l0.length
        · rw [if_pos e2] at h
          simp only [Option.some.injEq, Prod.mk.injEq] at h
          obtain ⟨rfl, rfl⟩ := h
          have e9 : 2 ^ l0.length ≤ a1 := e2
          have l8 : ((l0.length : Nat) : Int) < 9 := by omega
          clear e3 e4 e7 e2
          go_enter Try.func27, Try.ntmps27
          go_wp2_with (first | (go_at_call 17; refine (quiz_Check.calls k _ _ l0 0 _ HR0.out HC0.out HT.out).mono ?_; rintro e w' ⟨rfl, ⟨nd, rfl⟩⟩))
          go_ret2
          exact ⟨_, rfl, Kd.R_nil _ _ _ _ _, pw_below_drewN HB.out _⟩
        · rw [if_neg e2] at h
          simp only [Option.some.injEq, Prod.mk.injEq] at h
          obtain ⟨rfl, rfl⟩ := h
          have E5 := Aside0.mk e5
          have E3 := Aside0.mk e3
          have l8 : ((l0.length : Nat) : Int) < 9 := by omega
          have a8 : a1 < 256 := by omega
          have a0 : 0 ≤ a1 := by omega
          have e6 : a1 < 2 ^ l0.length := by omega
          clear e4 e1 e2 e3 e7
          go_enter Try.func27, Try.ntmps27
          go_wp2_with (first
            | (go_at_call 17; refine (quiz_Check.calls k _ _ l0 0 _ HR0.out HC0.out HT.out).mono ?_; rintro e w' ⟨rfl, hb⟩; replace hb := hb.below; have HB2 := Aside0.mk (below_step HB.out hb); clear HB hb; have HB := HB2; clear HB2)
            | (go_at_call 31; refine (no_calls a1 _).mono ?_; rintro e w' ⟨g, rfl, q0, ge, hb⟩; have GE := Aside0.mk (Nat.le_trans HB.out.size ge); clear ge; have HB2 := Aside0.mk (below_step HB.out hb); clear HB hb; have HB := HB2; clear HB2))
          go_loopg [8, 28] l0.length (fun kq v8 v28 w' => ∃ i : Nat, v28 = .int .i64 i ∧ i ≤ l0.length ∧ Aside0 (kq + i = l0.length) ∧ Aside0 (Kd.R (Kd.int .i64) 3 w' w.heap.size (fun k_ => k_ ≠ g) v8 (noes a1 i)) ∧ w'.cell? ⟨g, 0, none⟩ = some (.int .i64 a1) ∧ Aside0 (Below w.heap.size w w'))
          case atStart => exact ⟨0, rfl, Nat.zero_le _, ⟨rfl⟩, ⟨Kd.R_nil _ _ _ _ _⟩, q0, HB⟩
          case round =>
            clear HB q0
            obtain ⟨i, rfl, hi, HM, HO, q0, HB⟩ := hrel
            by_cases hlt : i < l0.length
            · have hlt' : (i : Int) < (l0.length : Int) := by omega
              have hi8 : (i : Int) < 8 := by omega
              cases hnb : nb a1 (i : Int)
              · have HN := Aside0.mk hnb
                go_wp2_with (first
                  | (go_at_call 32; refine (no1_calls a1 i g _ q0 (by omega) hi8 a0 a8).mono ?_; rintro e w' ⟨rfl, rfl⟩))
                go_roundg (l0.length - (i + 1))
                case measure => have := HM.out; omega
                case rel => exact ⟨i + 1, by simp, by omega, ⟨by omega⟩, ⟨by rw [noes_succ, if_neg (by rw [HN.out]; simp), List.append_nil]; exact HO.out⟩, q0, HB⟩
              · have HN := Aside0.mk hnb
                go_wp2_with (first
                  | (go_at_call 32; refine (no1_calls a1 i g _ q0 (by omega) hi8 a0 a8).mono ?_; rintro e w' ⟨rfl, rfl⟩)
                  | ((with_reducible refine gate_builtin (b := .append) (xs := #[.tmp 34, .tmp 36]) rfl ?_); at_builtin; go_loud (refine Kd.R_append (Kd.int .i64) (w0 := w) w.heap.size rfl (.tmp 34) (.tmp 36) 22 3 (.int .i64 0) 8 rfl Try.underlying22 info3 rfl (by decide) (by omega) u8 (noes a1 i) (i : Int) [.int .i64 (i : Int)] (fun k_ => k_ ≠ g) (fun _ => False) rfl rfl ?aP (fun _ hk => hk.elim) ?aF ?aO ?aB ?aS ?aL ?_); (case aP => exact rfl); (case aB => exact (by repeat (first | exact HB.out | apply below_alloc))); (case aF => exact (fun k_ hk he => by have := World.block_lt_of_cell? _ _ q0; simp at hk this; omega)); (case aO => exact (by (with_reducible repeat (apply Kd.R_alloc)); exact HO.out)); (case aS => exact (below_size (by repeat (first | exact HB.out | apply below_alloc)))); (case aL => have := noes_length a1 i; omega); intro v1 w1 ho hb hg hat; have q1 : w1.cell? ⟨g, 0, none⟩ = some (.int .i64 a1) := (World.cell?_of_block (hg.block g (by have := World.block_lt_of_cell? _ _ q0; simp at this ⊢; omega) (Kd.R_away HO.out (fun _ h => h)))).trans (by first | exact q0 | exact cell_alloc _ q0); have HO2 := Aside0.mk ho; have HB2 := Aside0.mk hb; clear ho hb hg hat HO HB q0))
                go_roundg (l0.length - (i + 1))
                case measure => have := HM.out; omega
                case rel => exact ⟨i + 1, by simp, by omega, ⟨by omega⟩, ⟨by rw [noes_succ, if_pos HN.out]; exact HO2.out⟩, q1, HB2⟩
            · have hge : i = l0.length := by omega
              subst hge
              go_wp2
              go_ret2
              exact ⟨_, rfl, Kd.R_mono HO.out (fun _ _ => trivial), HB.out⟩
    · rw [if_neg e3] at h; simp at h
  · rw [if_neg e0] at h
    simp only [Option.some.injEq, Prod.mk.injEq] at h
    obtain ⟨rfl, rfl⟩ := h
    go_enter Try.func27, Try.ntmps27
    go_wp2_with (first | (go_at_call 17; refine (quiz_Check.calls k _ _ l0 t _ HR0.out HC0.out HT.out).mono ?_; rintro e w' ⟨rfl, ⟨nd, rfl⟩⟩))
    go_ret2
    exact ⟨_, rfl, Kd.R_nil _ _ _ _ _, pw_below_drewN HB.out _⟩



end Go.Proofs.Ytokoipmbhohoiaa.PGrade
