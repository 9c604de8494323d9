/- The law LifeTells as a plain law: its closed form is true. Conditions: none. -/
import Derived.Test.YtlgkimmjoclaaaaPLifex19
import Derived.Test.YtlgkimmjoclaaaaPLifex20
import Derived.Test.YtlgkimmjoclaaaaLifePlain
namespace Go.Proofs.Ytlgkimmjoclaaaa.LifePlain
open Go.RowKit Go.Proofs.Ytlgkimmjoclaaaa.PLife Go.Proofs.YtlgkimmjoclaaaaW.PrintWords Go.Proofs.YtlgkimmjoclaaaaW.PrintLast Go.Proofs.YtlgkimmjoclaaaaW.PrintMore

theorem awTells (k : Nat) (hk : 60 ≤ k) : backhaullaw24_awake.f k = some true := more backhaullaw24_awake.mono hk (by decide +kernel)

def tail (s w : Int) : Bool := (life_Terminal.f s w == backhaulref24_Terminal.f 300 s w) && ((life_Acts.f s w == backhaulref24_Acts.f 300 s w) && ((life_Least.f 300 s w == backhaulref24_Least.f 700 s w) && ((life_Terminal.f s w).isSome && ((life_Acts.f s w).isSome && ((life_Least.f 300 s w).isSome && (((life_Acts.f s w).bind fun l => backhaulref02_SameInts.f 30 l l) == some true))))))
theorem tails : ∀ p ∈ nodes, tail p.1 p.2 = true := by decide +kernel
theorem tells (s w a b : Int) : backhaullaw24_LifeTells.f 700 s w a b = some true := by
  unfold backhaullaw24_LifeTells.f
  cases h : isN s w with
  | false =>
    rw [next_no h, rnext_no h a b 700 (by decide), check_no h, rnode_no h 700 (by decide), term_no h, rterm_no h 700 (by decide), acts_no h, racts_no h 700 (by decide), least_no h 699, rleast_no h 700 (by decide), awTells 700 (by decide)]
    rfl
  | true =>
    have t := at_nodes (P := fun s w => tail s w = true) tails h
    unfold tail at t
    simp only [Bool.and_eq_true, beq_iff_eq] at t
    obtain ⟨t1, t2, t3, t4, t5, t6, t7⟩ := t
    obtain ⟨z, hz⟩ := Option.isSome_iff_exists.1 t4
    obtain ⟨l, hl⟩ := Option.isSome_iff_exists.1 t5
    obtain ⟨m, hm⟩ := Option.isSome_iff_exists.1 t6
    rw [hz] at t1
    rw [hl] at t2 t7
    rw [hm] at t3
    have u1 := more (backhaulref24_Terminal.mono s w) (show 300 ≤ 700 by decide) t1.symm
    have u2 := more (backhaulref24_Acts.mono s w) (show 300 ≤ 700 by decide) t2.symm
    have u4 := more (life_Least.mono s w) (show 300 ≤ 700 by decide) hm
    have u7 := more (backhaulref02_SameInts.mono l l) (show 30 ≤ 700 by decide) t7
    rw [next_yes h a b 700 (by decide), rnext_yes h a b 700 (by decide), check_yes h, rnode h 700 (by decide), hz, u1, hl, u2, u4, t3.symm, awTells 700 (by decide)]
    simp [u7]

end Go.Proofs.Ytlgkimmjoclaaaa.LifePlain
