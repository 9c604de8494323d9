/- What the functions of the packages rule and backhaulref18 compute, in closed form, and that both agree: plain laws over lists of rows. Conditions: as each says (lists of at most 100). -/
import Derived.Test.YtlgkimmjoclaaaaPRulex0
import Derived.Test.YtlgkimmjoclaaaaPRulex1
import Derived.Test.YtlgkimmjoclaaaaPRulex2
import Derived.Test.YtlgkimmjoclaaaaPRulex3
import Derived.Test.YtlgkimmjoclaaaaPRulex4
import Derived.Test.YtlgkimmjoclaaaaPRulex5
import Derived.Test.YtlgkimmjoclaaaaPRulex6
import Derived.Test.YtlgkimmjoclaaaaPRulex7
import Derived.Test.YtlgkimmjoclaaaaPRulex8
import Derived.Test.YtlgkimmjoclaaaaPRulex9
import Derived.Test.YtlgkimmjoclaaaaPRulex10
import Derived.Test.YtlgkimmjoclaaaaPRulex11
import Derived.Test.YtlgkimmjoclaaaaPRulex12
import Derived.Test.YtlgkimmjoclaaaaPRulex13
import Derived.Test.YtlgkimmjoclaaaaPRulex14
import Derived.Test.YtlgkimmjoclaaaaPRulex15
import Derived.Test.YtlgkimmjoclaaaaPRulex16
import Derived.Test.YtlgkimmjoclaaaaPRulex18
import Derived.Test.YtlgkimmjoclaaaaPRulex19
import Derived.Test.YtlgkimmjoclaaaaPRulex20
namespace Go.Proofs.Ytlgkimmjoclaaaa.RulePlain
open Go.RowKit Go.Proofs.Ytlgkimmjoclaaaa.PRule Go.Proofs.YtlgkimmjoclaaaaW.PrintWords Go.Proofs.YtlgkimmjoclaaaaW.PrintLast Go.Proofs.YtlgkimmjoclaaaaW.PrintMore

theorem w64 {x : Int} (h : -9223372036854775808 ≤ x) (h' : x ≤ 9223372036854775807) : wrap64 x = x := by unfold wrap64; omega
theorem rd_nat (l : List S23) (i : Nat) : rd_T23 l (i : Int) = l.getD i z23 := by unfold rd_T23; simp
theorem drop_at (l : List S23) (i : Nat) (h : i < l.length) : l.drop i = l.getD i z23 :: l.drop (i + 1) := by
  rw [List.drop_eq_getElem_cons h]
  simp [List.getD, h]
theorem getD_mem (l : List S23) (i : Nat) (h : i < l.length) : l.getD i z23 ∈ l := by simp [List.getD, h]

/-! ### a row, facts -/
def okR (r : S23) : Bool := decide ((1 ≤ r.f0 ∧ r.f0 < 16 ∧ 1 ≤ r.f1 ∧ r.f1 ≤ 3) ∧ (0 ≤ r.f2 ∧ r.f2 ≤ r.f3 ∧ r.f3 ≤ 1000000000000) ∧ (1 ≤ r.f4 ∧ r.f4 ≤ 5))
def okF (g a : Int) : Bool := decide (0 ≤ g ∧ g < 4 ∧ 0 ≤ a ∧ a ≤ 1000000000000)
theorem okR_true {r : S23} (h : okR r = true) : (1 ≤ r.f0 ∧ r.f0 < 16 ∧ 1 ≤ r.f1 ∧ r.f1 ≤ 3) ∧ (0 ≤ r.f2 ∧ r.f2 ≤ r.f3 ∧ r.f3 ≤ 1000000000000) ∧ (1 ≤ r.f4 ∧ r.f4 ≤ 5) := of_decide_eq_true h
theorem okF_true {g a : Int} (h : okF g a = true) : 0 ≤ g ∧ g < 4 ∧ 0 ≤ a ∧ a ≤ 1000000000000 := of_decide_eq_true h
theorem okF_eq (g a : Int) : okF g a = (decide (0 ≤ g) && (decide (g < 4) && (decide (0 ≤ a) && decide (a ≤ 1000000000000)))) := by
  unfold okF
  rw [Bool.eq_iff_iff]
  simp
def codeR (r : S23) : Int := if okR r = true then 0 else 36
def codeF (g a : Int) : Int := if okF g a = true then 0 else 2
theorem qRow (a b c d f : Int) : rule_CheckRow.f a b c d f = some (codeR ⟨a, b, c, d, f⟩) := by
  unfold rule_CheckRow.f codeR okR
  simp
theorem rRow (a b c d f : Int) : backhaulref18_CheckRow.f a b c d f = some (codeR ⟨a, b, c, d, f⟩) := by
  have no : ∀ x : Option Int, okR ⟨a, b, c, d, f⟩ = false → x = some 36 → x = some (codeR ⟨a, b, c, d, f⟩) := fun x h e => by rw [e]; unfold codeR; rw [h]; rfl
  unfold backhaulref18_CheckRow.f
  by_cases h1 : a < 1
  · rw [if_pos h1]; exact no _ (by unfold okR; simp; omega) rfl
  rw [if_neg h1]
  by_cases h2 : a > 15
  · rw [if_pos h2]; exact no _ (by unfold okR; simp; omega) rfl
  rw [if_neg h2]
  by_cases h3 : b < 1
  · rw [if_pos h3]; exact no _ (by unfold okR; simp; omega) rfl
  rw [if_neg h3]
  by_cases h4 : b > 3
  · rw [if_pos h4]; exact no _ (by unfold okR; simp; omega) rfl
  rw [if_neg h4]
  by_cases h5 : c < 0
  · rw [if_pos h5]; exact no _ (by unfold okR; simp; omega) rfl
  rw [if_neg h5]
  by_cases h6 : d < c
  · rw [if_pos h6]; exact no _ (by unfold okR; simp; omega) rfl
  rw [if_neg h6]
  by_cases h7 : d > 1000000000000
  · rw [if_pos h7]; exact no _ (by unfold okR; simp; omega) rfl
  rw [if_neg h7]
  by_cases h8 : f < 1
  · rw [if_pos h8]; exact no _ (by unfold okR; simp; omega) rfl
  rw [if_neg h8]
  by_cases h9 : f > 5
  · rw [if_pos h9]; exact no _ (by unfold okR; simp; omega) rfl
  rw [if_neg h9]
  unfold codeR
  rw [if_pos (by unfold okR; simp; omega)]
theorem qFacts (g : Int) (w : Bool) (a : Int) : rule_CheckFacts.f g w a = some (codeF g a) := by
  unfold rule_CheckFacts.f codeF
  rw [okF_eq]
  by_cases h1 : g < 0
  · rw [if_pos h1, decide_eq_false (by omega : ¬ 0 ≤ g)]; rfl
  rw [if_neg h1, decide_eq_true (by omega : 0 ≤ g)]
  by_cases h2 : g ≥ 4
  · rw [if_pos h2, decide_eq_false (by omega : ¬ g < 4)]; rfl
  rw [if_neg h2, decide_eq_true (by omega : g < 4)]
  by_cases h3 : a < 0
  · rw [if_pos h3, decide_eq_false (by omega : ¬ 0 ≤ a)]; rfl
  rw [if_neg h3, decide_eq_true (by omega : 0 ≤ a)]
  by_cases h4 : a > 1000000000000
  · rw [if_pos h4, decide_eq_false (by omega : ¬ a ≤ 1000000000000)]; rfl
  rw [if_neg h4, decide_eq_true (by omega : a ≤ 1000000000000)]; rfl
theorem rFacts (g : Int) (w : Bool) (a : Int) : backhaulref18_CheckFacts.f g w a = some (codeF g a) := by
  unfold backhaulref18_CheckFacts.f codeF
  rw [okF_eq]
  by_cases h1 : g < 0
  · rw [if_pos h1, decide_eq_false (by omega : ¬ 0 ≤ g)]; rfl
  rw [if_neg h1, decide_eq_true (by omega : 0 ≤ g)]
  by_cases h2 : g > 3
  · rw [if_pos h2, decide_eq_false (by omega : ¬ g < 4)]; rfl
  rw [if_neg h2, decide_eq_true (by omega : g < 4)]
  by_cases h3 : a < 0
  · rw [if_pos h3, decide_eq_false (by omega : ¬ 0 ≤ a)]; rfl
  rw [if_neg h3, decide_eq_true (by omega : 0 ≤ a)]
  by_cases h4 : a > 1000000000000
  · rw [if_pos h4, decide_eq_false (by omega : ¬ a ≤ 1000000000000)]; rfl
  rw [if_neg h4, decide_eq_true (by omega : a ≤ 1000000000000)]; rfl

/-! ### does a row fit -/
def bitB (x : Int) (i : Nat) : Bool := decide (x / 2 ^ i % 2 = 1)
def fit (r : S23) (g : Int) (w : Bool) (a : Int) : Bool := bitB r.f0 g.toNat && (bitB r.f1 (if w = true then 1 else 0) && (decide (r.f2 ≤ a) && decide (a ≤ r.f3)))
theorem and_one : ∀ x : Nat, x < 16 → ∀ i : Nat, i < 4 → decide (Go.bits .and .i64 (shr .i64 (x : Int) (i : Int)) 1 = 1) = bitB (x : Int) i := by decide +kernel
theorem and_two : ∀ x : Nat, x < 4 → decide (Go.bits .and .i64 (x : Int) 2 = 0) = !bitB (x : Int) 1 := by decide +kernel
theorem and_low : ∀ x : Nat, x < 4 → decide (Go.bits .and .i64 (x : Int) 1 = 0) = !bitB (x : Int) 0 := by decide +kernel
theorem bit_small : ∀ x : Nat, x < 16 → ∀ i : Nat, i < 4 → backhaulref18_bit.f 6 (x : Int) (i : Int) = some (bitB (x : Int) i) := by decide +kernel
theorem rBit (x i : Int) (h0 : 0 ≤ x) (h1 : x < 16) (h2 : 0 ≤ i) (h3 : i < 4) (k : Nat) (hk : 6 ≤ k) : backhaulref18_bit.f k x i = some (bitB x i.toNat) := by
  obtain ⟨x, rfl⟩ := Int.eq_ofNat_of_zero_le h0
  obtain ⟨i, rfl⟩ := Int.eq_ofNat_of_zero_le h2
  exact at_rounds (backhaulref18_bit.mono _ _) hk (bit_small x (by omega) i (by omega))
theorem qFits (r : S23) (g : Int) (w : Bool) (a : Int) (hr : okR r = true) (hf : okF g a = true) : rule_row_fits.f r.f0 r.f1 r.f2 r.f3 r.f4 g w a = some (fit r g w a) := by
  obtain ⟨⟨r0, r1, r2, r3⟩, -, -⟩ := okR_true hr
  obtain ⟨g0, g1, -, -⟩ := okF_true hf
  obtain ⟨m, w', c, d, e⟩ := r
  simp only at r0 r1 r2 r3 ⊢
  obtain ⟨x, rfl⟩ := Int.eq_ofNat_of_zero_le (by omega : 0 ≤ m)
  obtain ⟨y, rfl⟩ := Int.eq_ofNat_of_zero_le (by omega : 0 ≤ w')
  obtain ⟨i, rfl⟩ := Int.eq_ofNat_of_zero_le g0
  have e1 := and_one x (by omega) i (by omega)
  have e2 := and_two y (by omega)
  have e3 := and_low y (by omega)
  unfold rule_row_fits.f fit
  simp only [Int.toNat_natCast]
  cases w
  · rw [if_neg (by simp), if_pos (by omega)]
    rw [Bool.eq_iff_iff] at e1 e3
    simp only [decide_eq_true_eq] at e1 e3
    cases hb : bitB (x : Int) i
    · rw [if_neg (fun h => by rw [e1.1 h] at hb; simp at hb)]; rfl
    · rw [if_pos (e1.2 hb)]
      cases hb2 : bitB (y : Int) 0
      · rw [if_pos (e3.2 (by rw [hb2]; rfl))]; simp [hb2]
      · rw [if_neg (fun h => by have := e3.1 h; rw [hb2] at this; simp at this)]
        by_cases h4 : a ≥ c
        · rw [if_pos h4, decide_eq_true (by omega : c ≤ a)]; simp [hb2]
        · rw [if_neg h4, decide_eq_false (by omega : ¬ c ≤ a)]; simp [hb2]
  · rw [if_pos rfl, if_pos (by omega)]
    rw [Bool.eq_iff_iff] at e1 e2
    simp only [decide_eq_true_eq] at e1 e2
    cases hb : bitB (x : Int) i
    · rw [if_neg (fun h => by rw [e1.1 h] at hb; simp at hb)]; rfl
    · rw [if_pos (e1.2 hb)]
      cases hb2 : bitB (y : Int) 1
      · rw [if_pos (e2.2 (by rw [hb2]; rfl))]; simp [hb2]
      · rw [if_neg (fun h => by have := e2.1 h; rw [hb2] at this; simp at this)]
        by_cases h4 : a ≥ c
        · rw [if_pos h4, decide_eq_true (by omega : c ≤ a)]; simp [hb2]
        · rw [if_neg h4, decide_eq_false (by omega : ¬ c ≤ a)]; simp [hb2]
def mtch (r : S23) (g : Int) (w : Bool) (a : Int) : Bool := okR r && (okF g a && fit r g w a)
theorem qMatch (r : S23) (g : Int) (w : Bool) (a : Int) : rule_Match.f r.f0 r.f1 r.f2 r.f3 r.f4 g w a = some (mtch r g w a) := by
  unfold rule_Match.f mtch
  rw [qRow, qFacts]
  have e : (⟨r.f0, r.f1, r.f2, r.f3, r.f4⟩ : S23) = r := rfl
  rw [e]
  unfold codeR codeF
  cases hr : okR r
  · rfl
  cases hf : okF g a
  · rfl
  simp only [Option.bind_some, if_true]
  rw [qFits r g w a hr hf]
  simp
theorem rMatch (r : S23) (g : Int) (w : Bool) (a : Int) (k : Nat) (hk : 8 ≤ k) : backhaulref18_Match.f k r.f0 r.f1 r.f2 r.f3 r.f4 g w a = some (mtch r g w a) := by
  obtain ⟨k, rfl⟩ : ∃ m, k = m + 1 := ⟨k - 1, by omega⟩
  unfold backhaulref18_Match.f mtch
  rw [rRow, rFacts]
  have e : (⟨r.f0, r.f1, r.f2, r.f3, r.f4⟩ : S23) = r := rfl
  rw [e]
  unfold codeR codeF
  cases hr : okR r
  · rfl
  cases hf : okF g a
  · rfl
  obtain ⟨⟨r0, r1, r2, r3⟩, -, -⟩ := okR_true hr
  obtain ⟨g0, g1, -, -⟩ := okF_true hf
  simp only [Option.bind_some, if_true, backhaulref18_Match.j0, bne_self_eq_false]
  rw [if_neg (by simp), rBit r.f0 g (by omega) (by omega) g0 g1 k (by omega), rBit r.f1 1 (by omega) (by omega) (by omega) (by omega) k (by omega), rBit r.f1 0 (by omega) (by omega) (by omega) (by omega) k (by omega)]
  unfold fit
  cases w
  · rw [if_neg (by simp)]
    cases hb : bitB r.f0 g.toNat
    · rfl
    cases hb2 : bitB r.f1 0
    · simp [hb2]
    by_cases h4 : r.f2 ≤ a <;> simp [hb2, h4]
  · rw [if_pos rfl]
    cases hb : bitB r.f0 g.toNat
    · rfl
    cases hb2 : bitB r.f1 1
    · simp [hb2]
    by_cases h4 : r.f2 ≤ a <;> simp [hb2, h4]

/-! ### tables -/
def codeT (l : List S23) : Int := if 1 ≤ l.length ∧ l.length ≤ 20 then (if l.all okR = true then 0 else 36) else 36
theorem codeT_cases (l : List S23) : codeT l = 0 ∨ codeT l = 36 := by unfold codeT; split <;> (try split) <;> simp
theorem codeT_zero {l : List S23} (h : codeT l = 0) : 1 ≤ l.length ∧ l.length ≤ 20 ∧ l.all okR = true := by
  unfold codeT at h
  split at h
  · rename_i h1
    split at h
    · rename_i h2
      exact ⟨h1.1, h1.2, h2⟩
    · simp at h
  · simp at h
theorem codeT_mk {l : List S23} (h1 : 1 ≤ l.length) (h2 : l.length ≤ 20) (h3 : l.all okR = true) : codeT l = 0 := by unfold codeT; rw [if_pos ⟨h1, h2⟩, if_pos h3]
theorem all_at {l : List S23} (h : l.all okR = true) (i : Nat) (hi : i < l.length) : okR (l.getD i z23) = true := by
  rw [List.all_eq_true] at h
  exact h _ (getD_mem l i hi)
theorem qCheck_l (l : List S23) (hl : l.length ≤ 100) (d : Nat) : ∀ (k i : Nat), i + d = l.length → d < k → rule_Check.l0 k l (l.length : Int) (i : Int) = some (if (l.drop i).all okR = true then 0 else 36) := by
  induction d with
  | zero =>
    intro k i hi hk
    obtain ⟨k, rfl⟩ : ∃ m, k = m + 1 := ⟨k - 1, by omega⟩
    simp only [rule_Check.l0]
    rw [if_neg (by omega), List.drop_of_length_le (by omega)]
    rfl
  | succ d ih =>
    intro k i hi hk
    obtain ⟨k, rfl⟩ : ∃ m, k = m + 1 := ⟨k - 1, by omega⟩
    have h := ih k (i + 1) (by omega) (by omega)
    simp only [rule_Check.l0]
    rw [if_pos (by omega), if_pos (by omega), if_pos (by omega), rd_nat, drop_at l i (by omega), List.all_cons, w64 (by omega) (by omega), qRow]
    simp only [Option.bind_some, codeR]
    have e : (⟨(l.getD i z23).f0, (l.getD i z23).f1, (l.getD i z23).f2, (l.getD i z23).f3, (l.getD i z23).f4⟩ : S23) = l.getD i z23 := rfl
    rw [e]
    cases hr : okR (l.getD i z23)
    · simp
    · simpa using h
theorem qCheck (l : List S23) (hl : l.length ≤ 100) (k : Nat) (hk : l.length + 2 ≤ k) : rule_Check.f k l = some (codeT l) := by
  obtain ⟨k, rfl⟩ : ∃ m, k = m + 1 := ⟨k - 1, by omega⟩
  unfold rule_Check.f codeT
  by_cases h1 : (l.length : Int) < 1
  · rw [if_pos h1, if_neg (by omega)]; simp [rule_Check.j0]
  rw [if_neg h1]
  by_cases h2 : (l.length : Int) > 20
  · rw [decide_eq_true h2, if_neg (by omega)]; simp [rule_Check.j0]
  rw [decide_eq_false h2, if_pos (by omega)]
  have h := qCheck_l l hl l.length k 0 (by omega) (by omega)
  simpa [rule_Check.j0] using h
theorem rCheck_l (l : List S23) (hl : l.length ≤ 100) (d : Nat) : ∀ (k i : Nat), i + d = l.length → d < k → backhaulref18_Check.l0 k l (i : Int) = some (if (l.drop i).all okR = true then 0 else 36) := by
  induction d with
  | zero =>
    intro k i hi hk
    obtain ⟨k, rfl⟩ : ∃ m, k = m + 1 := ⟨k - 1, by omega⟩
    simp only [backhaulref18_Check.l0]
    rw [if_neg (by omega), List.drop_of_length_le (by omega)]
    rfl
  | succ d ih =>
    intro k i hi hk
    obtain ⟨k, rfl⟩ : ∃ m, k = m + 1 := ⟨k - 1, by omega⟩
    have h := ih k (i + 1) (by omega) (by omega)
    simp only [backhaulref18_Check.l0]
    rw [if_pos (by omega), if_pos (by omega), rd_nat, drop_at l i (by omega), List.all_cons, w64 (by omega) (by omega), rRow]
    simp only [Option.bind_some, codeR]
    have e : (⟨(l.getD i z23).f0, (l.getD i z23).f1, (l.getD i z23).f2, (l.getD i z23).f3, (l.getD i z23).f4⟩ : S23) = l.getD i z23 := rfl
    rw [e]
    cases hr : okR (l.getD i z23)
    · simp
    · simpa using h
theorem rCheck (l : List S23) (hl : l.length ≤ 100) (k : Nat) (hk : l.length + 2 ≤ k) : backhaulref18_Check.f k l = some (codeT l) := by
  obtain ⟨k, rfl⟩ : ∃ m, k = m + 1 := ⟨k - 1, by omega⟩
  unfold backhaulref18_Check.f codeT
  by_cases h1 : (l.length : Int) = 0
  · rw [if_pos h1, if_neg (by omega)]; simp [backhaulref18_Check.j0]
  rw [if_neg h1]
  by_cases h2 : (l.length : Int) > 20
  · rw [decide_eq_true h2, if_neg (by omega)]; simp [backhaulref18_Check.j0]
  rw [decide_eq_false h2, if_pos (by omega)]
  have h := rCheck_l l hl l.length k 0 (by omega) (by omega)
  simpa [backhaulref18_Check.j0] using h
def code (l : List S23) (g a : Int) : Int := if codeT l = 0 then codeF g a else 36
theorem qcheck (l : List S23) (hl : l.length ≤ 100) (g : Int) (w : Bool) (a : Int) (k : Nat) (hk : l.length + 2 ≤ k) : rule_check.f k l g w a = some (code l g a) := by
  unfold rule_check.f code
  rw [qCheck l hl k hk, qFacts]
  rcases codeT_cases l with h | h <;> simp [h]

/-! ### who fits, who decides -/
def fl (g : Int) (w : Bool) (a : Int) : List S23 → Nat → List Int
  | [], _ => []
  | r :: t, i => (if fit r g w a = true then [(i : Int)] else []) ++ fl g w a t (i + 1)
def dec (g : Int) (w : Bool) (a : Int) : List S23 → Nat → Int × Int × Int
  | [], _ => (0, 0, 36)
  | r :: t, i => if fit r g w a = true then (r.f4, (i : Int), 0) else dec g w a t (i + 1)
def fitsL (l : List S23) (g : Int) (w : Bool) (a : Int) : List Int := if codeT l = 0 ∧ okF g a = true then fl g w a l 0 else []
def decide_ (l : List S23) (g : Int) (w : Bool) (a : Int) : Int × Int × Int := if codeT l = 0 then (if okF g a = true then dec g w a l 0 else (0, 0, 2)) else (0, 0, 36)
theorem qDecide_l (l : List S23) (hl : l.length ≤ 100) (g : Int) (w : Bool) (a : Int) (ha : l.all okR = true) (hf : okF g a = true) (d : Nat) : ∀ (k i : Nat), i + d = l.length → d < k →
    rule_Decide.l0 k l (l.length : Int) (i : Int) g w a = some (dec g w a (l.drop i) i) := by
  induction d with
  | zero =>
    intro k i hi hk
    obtain ⟨k, rfl⟩ : ∃ m, k = m + 1 := ⟨k - 1, by omega⟩
    simp only [rule_Decide.l0]
    rw [if_neg (by omega), List.drop_of_length_le (by omega)]
    rfl
  | succ d ih =>
    intro k i hi hk
    obtain ⟨k, rfl⟩ : ∃ m, k = m + 1 := ⟨k - 1, by omega⟩
    have h := ih k (i + 1) (by omega) (by omega)
    simp only [rule_Decide.l0]
    rw [if_pos (by omega), if_pos (by omega), if_pos (by omega), rd_nat, drop_at l i (by omega), w64 (by omega) (by omega), qFits _ g w a (all_at ha i (by omega)) hf]
    simp only [Option.bind_some, dec]
    split
    · rfl
    · exact h
theorem qDecide (l : List S23) (hl : l.length ≤ 100) (g : Int) (w : Bool) (a : Int) (k : Nat) (hk : l.length + 2 ≤ k) : rule_Decide.f k l g w a = some (decide_ l g w a) := by
  unfold rule_Decide.f decide_
  rw [qcheck l hl g w a k hk]
  unfold code codeF
  rcases codeT_cases l with h | h
  · obtain ⟨h1, h2, h3⟩ := codeT_zero h
    cases hf : okF g a
    · simp [h]
    · have e := qDecide_l l hl g w a h3 hf l.length k 0 (by omega) (by omega)
      simp only [h, if_true, Option.bind_some]
      simpa using e
  · simp [h]
theorem fl_length (g : Int) (w : Bool) (a : Int) (l : List S23) : ∀ i, (fl g w a l i).length ≤ l.length := by
  induction l with
  | nil => intro i; simp [fl]
  | cons r t ih =>
    intro i
    have := ih (i + 1)
    simp only [fl, List.length_append, List.length_cons]
    split <;> simp <;> omega
theorem qFits_l (l : List S23) (hl : l.length ≤ 100) (g : Int) (w : Bool) (a : Int) (ha : l.all okR = true) (hf : okF g a = true) (d : Nat) : ∀ (k i : Nat) (out : List Int), i + d = l.length → d < k → out.length ≤ i →
    rule_Fits.l0 k out l (l.length : Int) (i : Int) g w a = some (out ++ fl g w a (l.drop i) i) := by
  induction d with
  | zero =>
    intro k i out hi hk ho
    obtain ⟨k, rfl⟩ : ∃ m, k = m + 1 := ⟨k - 1, by omega⟩
    simp only [rule_Fits.l0]
    rw [if_neg (by omega), List.drop_of_length_le (by omega)]
    simp [fl]
  | succ d ih =>
    intro k i out hi hk ho
    obtain ⟨k, rfl⟩ : ∃ m, k = m + 1 := ⟨k - 1, by omega⟩
    simp only [rule_Fits.l0]
    rw [if_pos (by omega), if_pos (by omega), if_pos (by omega), rd_nat, drop_at l i (by omega), w64 (by omega) (by omega), qFits _ g w a (all_at ha i (by omega)) hf]
    simp only [Option.bind_some, fl]
    split
    · rw [if_pos (by omega), ← List.append_assoc]
      exact ih k (i + 1) _ (by omega) (by omega) (by simp; omega)
    · rw [List.nil_append]
      exact ih k (i + 1) out (by omega) (by omega) (by omega)
theorem qFitsL (l : List S23) (hl : l.length ≤ 100) (g : Int) (w : Bool) (a : Int) (k : Nat) (hk : l.length + 2 ≤ k) : rule_Fits.f k l g w a = some (fitsL l g w a) := by
  unfold rule_Fits.f fitsL
  rw [qcheck l hl g w a k hk]
  unfold code codeF
  rcases codeT_cases l with h | h
  · obtain ⟨h1, h2, h3⟩ := codeT_zero h
    cases hf : okF g a
    · simp [h]
    · have e := qFits_l l hl g w a h3 hf l.length k 0 [] (by omega) (by omega) (by simp)
      simp only [h, if_true, Option.bind_some, and_self]
      simpa using e
  · simp [h]
theorem rFits_l (l : List S23) (hl : l.length ≤ 100) (g : Int) (w : Bool) (a : Int) (hc : codeT l = 0) (hf : okF g a = true) (d : Nat) : ∀ (k i : Nat) (out : List Int), i + d = l.length → 2 * d + l.length + 10 ≤ k → out.length ≤ i →
    backhaulref18_Fits.l0 k l out (i : Int) g w a = some (out ++ fl g w a (l.drop i) i) := by
  obtain ⟨h1, h2, h3⟩ := codeT_zero hc
  induction d with
  | zero =>
    intro k i out hi hk ho
    obtain ⟨k, rfl⟩ : ∃ m, k = m + 2 := ⟨k - 2, by omega⟩
    simp only [backhaulref18_Fits.l0]
    rw [if_neg (by omega), List.drop_of_length_le (by omega)]
    simp [fl, backhaulref18_Fits.j1]
  | succ d ih =>
    intro k i out hi hk ho
    obtain ⟨k, rfl⟩ : ∃ m, k = m + 2 := ⟨k - 2, by omega⟩
    have hm : mtch (l.getD i z23) g w a = fit (l.getD i z23) g w a := by unfold mtch; rw [all_at h3 i (by omega), hf]; simp
    simp only [backhaulref18_Fits.l0]
    rw [if_pos (by omega), rCheck l hl (k + 1) (by omega), hc]
    simp only [Option.bind_some, beq_self_eq_true, backhaulref18_Fits.j1, if_true]
    rw [if_pos (by omega), if_pos (by omega), rd_nat, drop_at l i (by omega), w64 (by omega) (by omega), rMatch _ g w a k (by omega), hm]
    simp only [Option.bind_some, fl]
    split
    · rw [if_pos (by omega), ← List.append_assoc]
      exact ih k (i + 1) _ (by omega) (by omega) (by simp; omega)
    · rw [List.nil_append]
      exact ih k (i + 1) out (by omega) (by omega) (by omega)
theorem rFits_n (l : List S23) (hl : l.length ≤ 100) (g : Int) (w : Bool) (a : Int) (hc : codeT l = 0) (hf : okF g a = false) (d : Nat) : ∀ (k i : Nat), i + d = l.length → 2 * d + l.length + 10 ≤ k →
    backhaulref18_Fits.l0 k l [] (i : Int) g w a = some [] := by
  obtain ⟨h1, h2, h3⟩ := codeT_zero hc
  induction d with
  | zero =>
    intro k i hi hk
    obtain ⟨k, rfl⟩ : ∃ m, k = m + 2 := ⟨k - 2, by omega⟩
    simp only [backhaulref18_Fits.l0]
    rw [if_neg (by omega)]
    simp [backhaulref18_Fits.j1]
  | succ d ih =>
    intro k i hi hk
    obtain ⟨k, rfl⟩ : ∃ m, k = m + 2 := ⟨k - 2, by omega⟩
    have hm : mtch (l.getD i z23) g w a = false := by unfold mtch; rw [hf]; simp
    simp only [backhaulref18_Fits.l0]
    rw [if_pos (by omega), rCheck l hl (k + 1) (by omega), hc]
    simp only [Option.bind_some, beq_self_eq_true, backhaulref18_Fits.j1, if_true]
    rw [if_pos (by omega), if_pos (by omega), rd_nat, w64 (by omega) (by omega), rMatch _ g w a k (by omega), hm]
    simp only [Option.bind_some]
    rw [if_neg (by simp)]
    exact ih k (i + 1) (by omega) (by omega)
theorem rFitsL (l : List S23) (hl : l.length ≤ 100) (g : Int) (w : Bool) (a : Int) (k : Nat) (hk : 3 * l.length + 10 ≤ k) : backhaulref18_Fits.f k l g w a = some (fitsL l g w a) := by
  unfold backhaulref18_Fits.f fitsL
  rcases codeT_cases l with h | h
  · cases hf : okF g a
    · rw [if_neg (by simp)]
      exact rFits_n l hl g w a h hf l.length k 0 (by omega) (by omega)
    · rw [if_pos ⟨h, rfl⟩]
      have e := rFits_l l hl g w a h hf l.length k 0 [] (by omega) (by omega) (by simp)
      simpa using e
  · rw [if_neg (fun hh => by rw [h] at hh; simp at hh)]
    obtain ⟨k, rfl⟩ : ∃ m, k = m + 2 := ⟨k - 2, by omega⟩
    simp only [backhaulref18_Fits.l0]
    by_cases h0 : (0 : Int) < l.length
    · rw [if_pos h0, rCheck l hl (k + 1) (by omega), h]; simp [backhaulref18_Fits.j1]
    · rw [if_neg h0]; simp [backhaulref18_Fits.j1]
theorem dec_fl (g : Int) (w : Bool) (a : Int) (l : List S23) : ∀ (t : List S23) (i : Nat), l.drop i = t → 
    dec g w a t i = (match fl g w a t i with | [] => (0, 0, 36) | x :: _ => ((rd_T23 l x).f4, x, 0)) ∧ (∀ x r, fl g w a t i = x :: r → 0 ≤ x ∧ x < (l.length : Int)) := by
  intro t
  induction t with
  | nil => intro i _; exact ⟨rfl, fun x r h => by simp [fl] at h⟩
  | cons r t ih =>
    intro i hi
    have hlt : i < l.length := by
      rcases Nat.lt_or_ge i l.length with h | h
      · exact h
      · rw [List.drop_of_length_le h] at hi; simp at hi
    have hd := drop_at l i hlt
    rw [hi] at hd
    obtain ⟨h1, h2⟩ := List.cons.inj hd
    have hn := ih (i + 1) h2.symm
    simp only [dec, fl]
    cases hf : fit r g w a
    · simpa using hn
    · simp only [if_true, List.cons_append, List.nil_append]
      rw [rd_nat, ← h1]
      refine ⟨rfl, fun x r' h => ?_⟩
      obtain ⟨rfl, -⟩ := List.cons.inj h
      omega
theorem rDecide (l : List S23) (hl : l.length ≤ 100) (g : Int) (w : Bool) (a : Int) (k : Nat) (hk : 3 * l.length + 10 ≤ k) : backhaulref18_Decide.f k l g w a = some (decide_ l g w a) := by
  unfold backhaulref18_Decide.f decide_
  rw [rCheck l hl k (by omega), rFacts]
  rcases codeT_cases l with h | h
  · cases hf : okF g a
    · simp [h, codeF, hf]
    · obtain ⟨e1, e2⟩ := dec_fl g w a l l 0 rfl
      simp only [h, if_true, Option.bind_some, codeF, hf]
      rw [rFitsL l hl g w a k hk]
      have e3 : fitsL l g w a = fl g w a l 0 := by unfold fitsL; rw [if_pos ⟨h, hf⟩]
      rw [e3, e1]
      simp only [Option.bind_some]
      cases hx : fl g w a l 0 with
      | nil => simp
      | cons x r =>
        have hb := e2 x r hx
        have h0 : rd (x :: r) 0 = x := rfl
        rw [if_neg (by first | (simp; done) | (simp; omega)), if_pos (by first | (simp; done) | (simp; omega)), h0, if_pos hb.1, if_pos hb.2]
  · simp [h]

/-! ### the laws -/
theorem aw : backhaullaw18_awake.f = some true := rfl
theorem same_l (l : List Int) (hl : l.length ≤ 100) (d : Nat) : ∀ (k i : Nat), i + d = l.length → d < k → backhaulref02_SameInts.l0 k l l (i : Int) = some true := by
  induction d with
  | zero =>
    intro k i hi hk
    obtain ⟨k, rfl⟩ : ∃ m, k = m + 1 := ⟨k - 1, by omega⟩
    simp only [backhaulref02_SameInts.l0]
    rw [if_neg (by omega)]
  | succ d ih =>
    intro k i hi hk
    obtain ⟨k, rfl⟩ : ∃ m, k = m + 1 := ⟨k - 1, by omega⟩
    simp only [backhaulref02_SameInts.l0]
    rw [if_pos (by omega), if_pos (by omega), if_pos (by omega), if_pos trivial, w64 (by omega) (by omega)]
    exact ih k (i + 1) (by omega) (by omega)
theorem same (l : List Int) (hl : l.length ≤ 100) (k : Nat) (hk : l.length + 2 ≤ k) : backhaulref02_SameInts.f k l l = some true := by
  unfold backhaulref02_SameInts.f
  rw [if_pos rfl]
  exact same_l l hl l.length k 0 (by omega) (by omega)
end Go.Proofs.Ytlgkimmjoclaaaa.RulePlain
