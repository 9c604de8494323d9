/- A slice of steps that came in reads as a list. Conditions: none. -/
import Derived.Test.YtlgkimmjoclaaaaPLifex0
import Derived.Test.YtlgkimmjoclaaaaOpen
import Derived.OpenShut
namespace Go.Proofs.Ytlgkimmjoclaaaa.LifeLaw
open Go.RowKit Go.Proofs.Ytlgkimmjoclaaaa.PLife Go.Proofs.YtlgkimmjoclaaaaW.PrintWords Go.Proofs.YtlgkimmjoclaaaaW.PrintLast Go.Proofs.YtlgkimmjoclaaaaW.PrintMore
set_option linter.unusedVariables false

theorem rows52 {H : Type} {enc : TypeId × Value → H} {w : World} {base : Nat} {spare : Nat → Bool} {held : Bool} {a : Option Addr} {len cap : Nat} {d : DataW H} {p : List MemPlace} (h : DataW.Trod enc Try.prog w base spare held 64 (.slice a len cap) d p) :
    ∃ l : List S52, len = l.length ∧ Kd.C k52 w a l.length l ∧ l.length ≤ cap := by
  obtain ⟨fuel, hf⟩ := h
  rcases Opened.open_slice_fields Try.underlying64 Try.underlying52 (by kernel_rfl) (by kernel_rfl) hf with ⟨hcs, _⟩ | ⟨x, l, c, n, D, Pl, hcs, _, hl, hm, hn, _, hi⟩
  · simp [Value.cells] at hcs
    obtain ⟨rfl, rfl, rfl⟩ := hcs
    exact ⟨[], rfl, Kd.C_nil _ _, Nat.zero_le _⟩
  · simp [Value.cells] at hcs
    obtain ⟨rfl, rfl, rfl⟩ := hcs
    have hln : len ≤ n := by rw [hn]; split <;> omega
    have at_ : ∀ i, ∃ r : S52, i < len → w.cell? (x.add (i * 2 + 0)) = some (.int .i64 r.f0) ∧ w.cell? (x.add (i * 2 + 1)) = some (.int .i64 r.f1) := by
      intro i
      by_cases hlt : i < len
      · obtain ⟨ys, m, _, _, _, hc⟩ := hi i (by omega)
        obtain ⟨v0, y0, c0, _, t0⟩ := hc 0 _ rfl
        obtain ⟨z0, e0, _, _⟩ := DataW.trod_int Try.underlying3 t0
        obtain rfl := (List.cons.inj e0).1
        obtain ⟨v1, y1, c1, _, t1⟩ := hc 1 _ rfl
        obtain ⟨z1, e1, _, _⟩ := DataW.trod_int Try.underlying3 t1
        obtain rfl := (List.cons.inj e1).1
        exact ⟨⟨z0, z1⟩, fun _ => ⟨c0, c1⟩⟩
      · exact ⟨z52, fun h => absurd h hlt⟩
    refine ⟨(List.range len).map (fun i => Classical.choose (at_ i)), by simp, ⟨by simp, by simp only [List.length_map, List.length_range]; unfold maxLen at hm; omega, fun _ => ⟨x, rfl, ?_⟩⟩, by simpa using hl⟩
    intro i r hr
    obtain ⟨hi1, hi2⟩ := List.getElem?_eq_some_iff.1 hr
    simp only [List.length_map, List.length_range] at hi1
    simp only [List.getElem_map, List.getElem_range] at hi2
    have hc := Classical.choose_spec (at_ i) hi1
    rw [hi2] at hc
    refine ⟨[.int .i64 r.f0, .int .i64 r.f1], rfl, k52_mk w r, ?_⟩
    intro j u hu
    show w.cell? (x.add (i * 2 + j)) = some u
    rcases j with _ | _ | j
    · cases hu; exact hc.1
    · cases hu; exact hc.2
    · simp at hu
end Go.Proofs.Ytlgkimmjoclaaaa.LifeLaw
