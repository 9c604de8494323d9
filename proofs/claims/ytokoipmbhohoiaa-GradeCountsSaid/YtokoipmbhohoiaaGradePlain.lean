/- What the functions of the packages quiz, grade, backhaulref16 and backhaulref17 compute, in closed form, and that both agree: plain laws over lists of whole numbers. Conditions: as each says (lists of at most 100). -/
import Derived.Test.YtokoipmbhohoiaaPGradex8
import Derived.Test.YtokoipmbhohoiaaPGradex9
import Derived.Test.YtokoipmbhohoiaaPGradex13
import Derived.Test.YtokoipmbhohoiaaPGradex14
import Derived.Test.YtokoipmbhohoiaaPGradex15
import Derived.Test.YtokoipmbhohoiaaPGradex17
import Derived.Test.YtokoipmbhohoiaaPGradex20
import Derived.Test.YtokoipmbhohoiaaPGradex21
import Derived.Test.YtokoipmbhohoiaaPGradex25
import Derived.Test.YtokoipmbhohoiaaPGradex26
namespace Go.Proofs.Ytokoipmbhohoiaa.GradePlain
set_option linter.unusedSimpArgs false
open Go.RowKit Go.Proofs.Ytokoipmbhohoiaa.PGrade Go.Proofs.YtokoipmbhohoiaaW.PrintWords Go.Proofs.YtokoipmbhohoiaaW.PrintLast Go.Proofs.YtokoipmbhohoiaaW.PrintMore

theorem w64 {x : Int} (h : -9223372036854775808 ≤ x) (h' : x ≤ 9223372036854775807) : wrap64 x = x := by unfold wrap64; omega
theorem w64n {x : Nat} (h : x ≤ 9223372036854775807) : wrap64 (x : Int) = x := w64 (by omega) (by omega)
theorem rd_nat (l : List Int) (i : Nat) : rd l (i : Int) = l.getD i 0 := by unfold rd; simp
theorem drop_at (l : List Int) (i : Nat) (h : i < l.length) : l.drop i = l.getD i 0 :: l.drop (i + 1) := by
  rw [List.drop_eq_getElem_cons h]
  simp [List.getD, h]
def bad (w : Int) : Bool := decide (w < 0) || decide (w > 1000)
theorem bad_false {w : Int} (h : bad w = false) : 0 ≤ w ∧ w ≤ 1000 := by unfold bad at h; simp at h; omega
def chk (l : List Int) : Int := if 1 ≤ l.length ∧ l.length ≤ 8 then (if l.any bad = true then 36 else 0) else 36
theorem chk_cases (l : List Int) : chk l = 0 ∨ chk l = 36 := by unfold chk; split <;> (try split) <;> simp
theorem chk_zero {l : List Int} (h : chk l = 0) : 1 ≤ l.length ∧ l.length ≤ 8 ∧ l.any bad = false := by
  unfold chk at h
  split at h
  · rename_i h1
    split at h
    · simp at h
    · rename_i h2
      exact ⟨h1.1, h1.2, by simpa using h2⟩
  · simp at h
theorem qCheck_l (l : List Int) (hl : l.length ≤ 100) (d : Nat) : ∀ (k i : Nat), i + d = l.length → d < k → quiz_Check.l0 k l (l.length : Int) (i : Int) = some (if (l.drop i).any bad = true then 36 else 0) := by
  induction d with
  | zero =>
    intro k i hi hk
    obtain ⟨k, rfl⟩ : ∃ m, k = m + 1 := ⟨k - 1, by omega⟩
    simp only [quiz_Check.l0]
    rw [if_neg (by omega), List.drop_of_length_le (by omega)]
    rfl
  | succ d ih =>
    intro k i hi hk
    obtain ⟨k, rfl⟩ : ∃ m, k = m + 1 := ⟨k - 1, by omega⟩
    have h := ih k (i + 1) (by omega) (by omega)
    simp only [quiz_Check.l0]
    rw [if_pos (by omega), if_pos (by omega), if_pos (by omega), rd_nat, drop_at l i (by omega), List.any_cons, w64 (by omega) (by omega)]
    by_cases h1 : l.getD i 0 < 0
    · rw [if_pos h1]; simp only [bad, decide_eq_true h1]; rfl
    rw [if_neg h1]
    by_cases h2 : l.getD i 0 > 1000
    · rw [if_pos h2]; simp only [bad, decide_eq_false h1, decide_eq_true h2]; rfl
    rw [if_neg h2]
    have e : bad (l.getD i 0) = false := by simp only [bad, decide_eq_false h1, decide_eq_false h2]; rfl
    rw [e, Bool.false_or]
    exact h
theorem qCheck (l : List Int) (hl : l.length ≤ 100) (k : Nat) (hk : l.length + 2 ≤ k) : quiz_Check.f k l = some (chk l) := by
  obtain ⟨k, rfl⟩ : ∃ m, k = m + 1 := ⟨k - 1, by omega⟩
  unfold quiz_Check.f chk
  by_cases h1 : (l.length : Int) < 1
  · rw [if_pos h1, if_neg (by omega)]; simp [quiz_Check.j0]
  rw [if_neg h1]
  by_cases h2 : (l.length : Int) > 8
  · rw [decide_eq_true h2, if_neg (by omega)]; simp [quiz_Check.j0]
  rw [decide_eq_false h2, if_pos (by omega)]
  have h := qCheck_l l hl l.length k 0 (by omega) (by omega)
  simpa [quiz_Check.j0] using h
theorem rCheck_l (l : List Int) (hl : l.length ≤ 100) (d : Nat) : ∀ (k i : Nat), i + d = l.length → d < k → backhaulref16_Check.l0 k l (i : Int) = some (if (l.drop i).any bad = true then 36 else 0) := by
  induction d with
  | zero =>
    intro k i hi hk
    obtain ⟨k, rfl⟩ : ∃ m, k = m + 1 := ⟨k - 1, by omega⟩
    simp only [backhaulref16_Check.l0]
    rw [if_neg (by omega), List.drop_of_length_le (by omega)]
    rfl
  | succ d ih =>
    intro k i hi hk
    obtain ⟨k, rfl⟩ : ∃ m, k = m + 1 := ⟨k - 1, by omega⟩
    have h := ih k (i + 1) (by omega) (by omega)
    simp only [backhaulref16_Check.l0]
    rw [if_pos (by omega), if_pos (by omega), rd_nat, drop_at l i (by omega), List.any_cons, w64 (by omega) (by omega)]
    by_cases h1 : l.getD i 0 < 0
    · rw [if_pos h1]; simp only [bad, decide_eq_true h1]; rfl
    rw [if_neg h1]
    by_cases h2 : l.getD i 0 > 1000
    · rw [if_pos h2]; simp only [bad, decide_eq_false h1, decide_eq_true h2]; rfl
    rw [if_neg h2]
    have e : bad (l.getD i 0) = false := by simp only [bad, decide_eq_false h1, decide_eq_false h2]; rfl
    rw [e, Bool.false_or]
    exact h
theorem rCheck (l : List Int) (hl : l.length ≤ 100) (k : Nat) (hk : l.length + 2 ≤ k) : backhaulref16_Check.f k l = some (chk l) := by
  obtain ⟨k, rfl⟩ : ∃ m, k = m + 1 := ⟨k - 1, by omega⟩
  unfold backhaulref16_Check.f chk
  by_cases h1 : (l.length : Int) = 0
  · rw [if_pos h1, if_neg (by omega)]; simp [backhaulref16_Check.j0]
  rw [if_neg h1]
  by_cases h2 : (l.length : Int) > 8
  · rw [decide_eq_true h2, if_neg (by omega)]; simp [backhaulref16_Check.j0]
  rw [decide_eq_false h2, if_pos (by omega)]
  have h := rCheck_l l hl l.length k 0 (by omega) (by omega)
  simpa [backhaulref16_Check.j0] using h

/-! ### noes -/
theorem nb_small : ∀ a : Nat, a < 256 → ∀ i : Nat, i < 8 → nb (a : Int) (i : Int) = decide (a / 2 ^ i % 2 = 0) := by decide +kernel
theorem pow_le (n : Nat) (h : n ≤ 8) : (2 : Int) ^ n ≤ 256 ∧ (1 : Int) ≤ 2 ^ n := by
  have := pow_small n (by omega)
  exact ⟨this.1, this.2.2⟩
def fails (l : List Int) (a : Int) : List Int × Int := if chk l = 0 then (if 0 ≤ a ∧ a < 2 ^ l.length then (noes a l.length, 0) else ([], 2)) else ([], 36)
theorem qFailed (l : List Int) (hl : l.length ≤ 100) (a : Int) (k : Nat) (hk : l.length + 2 ≤ k) : quiz_Failed.f k l a = some (fails l a) := by
  unfold quiz_Failed.f fails
  rw [qCheck l hl k hk]
  rcases chk_cases l with h | h
  · obtain ⟨h1, h2, h3⟩ := chk_zero h
    simp only [Option.bind_some, h, if_true]
    rw [if_pos (by omega)]
    by_cases e1 : a < 0
    · rw [if_pos e1, if_neg (by omega)]
    rw [if_neg e1]
    by_cases e2 : a ≥ 2 ^ l.length
    · rw [if_pos e2, if_neg (by omega)]
    · rw [if_neg e2, if_pos (by omega)]
  · simp [h]
theorem noes_len (a : Int) (n : Nat) : (noes a n).length ≤ n := noes_length a n
/-- The reference's own noes: bit by bit. -/
def rnoes (a : Nat) : Nat → List Int
  | 0 => []
  | n + 1 => rnoes a n ++ (if a / 2 ^ n % 2 = 0 then [(n : Int)] else [])
theorem rnoes_length (a n : Nat) : (rnoes a n).length ≤ n := by
  induction n with
  | zero => simp [rnoes]
  | succ n ih =>
    simp only [rnoes, List.length_append]
    split <;> simp <;> omega
theorem rnoes_eq (a : Nat) (ha : a < 256) : ∀ n, n ≤ 8 → rnoes a n = noes (a : Int) n := by
  intro n
  induction n with
  | zero => intro _; rfl
  | succ n ih =>
    intro h
    rw [noes_succ, ← ih (by omega), rnoes, nb_small a ha n (by omega)]
    simp
theorem tmod_nat (a : Nat) : Int.tmod (a : Int) 2 = ((a % 2 : Nat) : Int) := by
  rw [Int.tmod_eq_emod_of_nonneg (by omega)]
  omega
theorem tdiv_nat (a : Nat) : Int.tdiv (a : Int) 2 = ((a / 2 : Nat) : Int) := by
  rw [Int.tdiv_eq_ediv_of_nonneg (by omega)]
  omega
theorem rFailed_l (l : List Int) (hl : l.length ≤ 100) (a : Nat) (ha : a < 9223372036854775808) (d : Nat) : ∀ (k i : Nat), i + d = l.length → d < k →
    backhaulref16_Failed.l0 k l ((a / 2 ^ i : Nat) : Int) (rnoes a i) (i : Int) = some (if a / 2 ^ l.length > 0 then ([], 2) else (rnoes a l.length, 0)) := by
  induction d with
  | zero =>
    intro k i hi hk
    obtain ⟨k, rfl⟩ : ∃ m, k = m + 1 := ⟨k - 1, by omega⟩
    obtain rfl : i = l.length := by omega
    simp only [backhaulref16_Failed.l0]
    rw [if_neg (by omega)]
    by_cases h : a / 2 ^ l.length > 0
    · rw [if_pos (by omega), if_pos h]
    · rw [if_neg (by omega), if_neg h]
  | succ d ih =>
    intro k i hi hk
    obtain ⟨k, rfl⟩ : ∃ m, k = m + 1 := ⟨k - 1, by omega⟩
    have h := ih k (i + 1) (by omega) (by omega)
    have hd : a / 2 ^ i / 2 = a / 2 ^ (i + 1) := by rw [Nat.div_div_eq_div_mul, Nat.pow_succ]
    have hle : a / 2 ^ i ≤ a := Nat.div_le_self _ _
    have hle' : a / 2 ^ (i + 1) ≤ a := Nat.div_le_self _ _
    simp only [backhaulref16_Failed.l0]
    rw [if_pos (by omega), tmod_nat, tdiv_nat, hd, w64 (x := (i : Int) + 1) (by omega) (by omega), w64n (Nat.le_trans hle' (by omega))]
    have hlen := rnoes_length a i
    by_cases h1 : a / 2 ^ i % 2 = 0
    · rw [if_pos (by omega), if_pos (by omega)]
      rw [rnoes, if_pos h1] at h
      exact h
    · rw [if_neg (by omega)]
      rw [rnoes, if_neg h1, List.append_nil] at h
      exact h
theorem pow_cast (n : Nat) : ((2 ^ n : Nat) : Int) = (2 : Int) ^ n := by simp
theorem rFailed (l : List Int) (hl : l.length ≤ 100) (a : Int) (ha : a < 9223372036854775808) (k : Nat) (hk : l.length + 2 ≤ k) : backhaulref16_Failed.f k l a = some (fails l a) := by
  unfold backhaulref16_Failed.f fails
  rw [rCheck l hl k hk]
  rcases chk_cases l with h | h
  · obtain ⟨h1, h2, h3⟩ := chk_zero h
    simp only [Option.bind_some, h, if_true]
    by_cases e1 : a < 0
    · rw [if_pos e1, if_neg (by omega)]
    rw [if_neg e1]
    obtain ⟨n, rfl⟩ := Int.eq_ofNat_of_zero_le (by omega : 0 ≤ a)
    have e := rFailed_l l hl n (by omega) l.length k 0 (by omega) (by omega)
    simp only [Nat.pow_zero, Nat.div_one, rnoes] at e
    refine e.trans ?_
    have hp := pow_le l.length h2
    have hp' := pow_cast l.length
    by_cases e2 : n / 2 ^ l.length > 0
    · have : 2 ^ l.length ≤ n := by
        have := (Nat.div_pos_iff).1 e2
        exact this.2
      rw [if_pos e2, if_neg (by omega)]
    · have : n < 2 ^ l.length := by
        rcases Nat.lt_or_ge n (2 ^ l.length) with h' | h'
        · exact h'
        · exact absurd (Nat.div_pos h' (Nat.two_pow_pos _)) e2
      rw [if_neg e2, if_pos (by omega), rnoes_eq n (by omega) _ h2]
  · simp [h]

/-! ### sums of weights -/
def total (l idx : List Int) : Int := (idx.map (rd l)).sum
theorem total_nil (l : List Int) : total l [] = 0 := rfl
theorem total_cons (l : List Int) (x : Int) (r : List Int) : total l (x :: r) = rd l x + total l r := by simp [total]
theorem total_append (l a b : List Int) : total l (a ++ b) = total l a + total l b := by simp [total, List.sum_append]
def inR (n : Nat) (idx : List Int) : Prop := ∀ x ∈ idx, 0 ≤ x ∧ x < (n : Int)
theorem rd_bd {l : List Int} (h : l.any bad = false) (x : Int) (h0 : 0 ≤ x) (h1 : x < l.length) : 0 ≤ rd l x ∧ rd l x ≤ 1000 := by
  have hx : x.toNat < l.length := by omega
  have hm : rd l x ∈ l := by unfold rd; simp [List.getD, hx]
  rw [List.any_eq_false] at h
  exact bad_false (by simpa using h _ hm)
theorem total_bd {l : List Int} (h : l.any bad = false) (idx : List Int) (hi : inR l.length idx) : 0 ≤ total l idx ∧ total l idx ≤ 1000 * idx.length := by
  induction idx with
  | nil => simp [total]
  | cons x r ih =>
    have h1 := rd_bd h x (hi x (by simp)).1 (hi x (by simp)).2
    have h2 := ih (fun y hy => hi y (by simp [hy]))
    rw [total_cons]
    simp only [List.length_cons]
    omega
theorem noes_inR (a : Int) (n : Nat) : inR n (noes a n) := by
  induction n with
  | zero => intro x hx; simp [noes] at hx
  | succ n ih =>
    intro x hx
    rw [noes_succ, List.mem_append] at hx
    rcases hx with hx | hx
    · have := ih x hx; omega
    · split at hx <;> simp at hx
      omega
theorem qScore_l (l idx : List Int) (hb : l.any bad = false) (hi : inR l.length idx) (hn : idx.length ≤ 100) (d : Nat) : ∀ (k i : Nat) (x : Int), i + d = idx.length → d < k → 0 ≤ x → x ≤ 1000 * i →
    quiz_Score.l0 k l x idx (idx.length : Int) (i : Int) = some (x + total l (idx.drop i), 0) := by
  induction d with
  | zero =>
    intro k i x he hk h0 h1
    obtain ⟨k, rfl⟩ : ∃ m, k = m + 1 := ⟨k - 1, by omega⟩
    simp only [quiz_Score.l0]
    rw [if_neg (by omega), List.drop_of_length_le (by omega), total_nil, Int.add_zero]
  | succ d ih =>
    intro k i x he hk h0 h1
    obtain ⟨k, rfl⟩ : ∃ m, k = m + 1 := ⟨k - 1, by omega⟩
    have hm : idx.getD i 0 ∈ idx := by have hx : i < idx.length := by omega
                                       simp [List.getD, hx]
    obtain ⟨g0, g1⟩ := hi _ hm
    obtain ⟨r0, r1⟩ := rd_bd hb _ g0 g1
    have h := ih k (i + 1) (x + rd l (idx.getD i 0)) (by omega) (by omega) (by omega) (by omega)
    simp only [quiz_Score.l0]
    rw [if_pos (by omega), if_pos (by omega), if_pos (by omega), rd_nat, if_pos g0, if_pos g1, w64 (x := x + _) (by omega) (by omega), w64 (by omega) (by omega), drop_at idx i (by omega), total_cons]
    rw [← Int.add_assoc]
    exact h
theorem rScore_l (l idx : List Int) (e : Int) (hb : l.any bad = false) (hi : inR l.length idx) (hn : idx.length ≤ 100) (d : Nat) : ∀ (k i : Nat) (x : Int), i + d = idx.length → d < k → 0 ≤ x → x ≤ 1000 * i →
    backhaulref16_Score.l0 k l idx e x (i : Int) = some (x + total l (idx.drop i), e) := by
  induction d with
  | zero =>
    intro k i x he hk h0 h1
    obtain ⟨k, rfl⟩ : ∃ m, k = m + 1 := ⟨k - 1, by omega⟩
    simp only [backhaulref16_Score.l0]
    rw [if_neg (by omega), List.drop_of_length_le (by omega), total_nil, Int.add_zero]
  | succ d ih =>
    intro k i x he hk h0 h1
    obtain ⟨k, rfl⟩ : ∃ m, k = m + 1 := ⟨k - 1, by omega⟩
    have hm : idx.getD i 0 ∈ idx := by have hx : i < idx.length := by omega
                                       simp [List.getD, hx]
    obtain ⟨g0, g1⟩ := hi _ hm
    obtain ⟨r0, r1⟩ := rd_bd hb _ g0 g1
    have h := ih k (i + 1) (x + rd l (idx.getD i 0)) (by omega) (by omega) (by omega) (by omega)
    simp only [backhaulref16_Score.l0]
    rw [if_pos (by omega), if_pos (by omega), rd_nat, if_pos g0, if_pos g1, w64 (x := x + _) (by omega) (by omega), w64 (by omega) (by omega), drop_at idx i (by omega), total_cons]
    rw [← Int.add_assoc]
    exact h
def score (l : List Int) (a : Int) : Int × Int := if chk l = 0 then (if 0 ≤ a ∧ a < 2 ^ l.length then (total l (noes a l.length), 0) else (0, 2)) else (0, 36)
theorem fails_ok {l : List Int} {a : Int} (h : chk l = 0) (ha : 0 ≤ a ∧ a < 2 ^ l.length) : fails l a = (noes a l.length, 0) := by unfold fails; rw [if_pos h, if_pos ha]
theorem fails_arg {l : List Int} {a : Int} (h : chk l = 0) (ha : ¬ (0 ≤ a ∧ a < 2 ^ l.length)) : fails l a = ([], 2) := by unfold fails; rw [if_pos h, if_neg ha]
theorem fails_no {l : List Int} {a : Int} (h : chk l = 36) : fails l a = ([], 36) := by unfold fails; rw [if_neg (by omega)]
theorem score_ok {l : List Int} {a : Int} (h : chk l = 0) (ha : 0 ≤ a ∧ a < 2 ^ l.length) : score l a = (total l (noes a l.length), 0) := by unfold score; rw [if_pos h, if_pos ha]
theorem score_arg {l : List Int} {a : Int} (h : chk l = 0) (ha : ¬ (0 ≤ a ∧ a < 2 ^ l.length)) : score l a = (0, 2) := by unfold score; rw [if_pos h, if_neg ha]
theorem score_no {l : List Int} {a : Int} (h : chk l = 36) : score l a = (0, 36) := by unfold score; rw [if_neg (by omega)]
theorem qScore (l : List Int) (hl : l.length ≤ 100) (a : Int) (k : Nat) (hk : l.length + 2 ≤ k) : quiz_Score.f k l a = some (score l a) := by
  unfold quiz_Score.f
  rw [qFailed l hl a k hk]
  rcases chk_cases l with h | h
  · by_cases ha : 0 ≤ a ∧ a < 2 ^ l.length
    · obtain ⟨h1, h2, h3⟩ := chk_zero h
      have hn := noes_len a l.length
      have e := qScore_l l (noes a l.length) h3 (noes_inR _ _) (by omega) (noes a l.length).length k 0 0 (by omega) (by omega) (by omega) (by omega)
      rw [fails_ok h ha, score_ok h ha]
      simpa using e
    · rw [fails_arg h ha, score_arg h ha]; rfl
  · rw [fails_no h, score_no h]; rfl
theorem rScore (l : List Int) (hl : l.length ≤ 100) (a : Int) (ha' : a < 9223372036854775808) (k : Nat) (hk : l.length + 2 ≤ k) : backhaulref16_Score.f k l a = some (score l a) := by
  unfold backhaulref16_Score.f
  rw [rFailed l hl a ha' k hk]
  obtain ⟨k, rfl⟩ : ∃ m, k = m + 1 := ⟨k - 1, by omega⟩
  rcases chk_cases l with h | h
  · by_cases ha : 0 ≤ a ∧ a < 2 ^ l.length
    · obtain ⟨h1, h2, h3⟩ := chk_zero h
      have hn := noes_len a l.length
      have e := rScore_l l (noes a l.length) 0 h3 (noes_inR _ _) (by omega) (noes a l.length).length (k + 1) 0 0 (by omega) (by omega) (by omega) (by omega)
      rw [fails_ok h ha, score_ok h ha]
      simpa using e
    · rw [fails_arg h ha, score_arg h ha]; simp [backhaulref16_Score.l0]
  · rw [fails_no h, score_no h]; simp [backhaulref16_Score.l0]


/-! ### cuts and grades -/
theorem list3 {l : List Int} (h : l.length = 3) : ∃ a b c, l = [a, b, c] := by
  rcases l with _ | ⟨a, _ | ⟨b, _ | ⟨c, _ | ⟨d, r⟩⟩⟩⟩ <;> simp at h
  exact ⟨a, b, c, rfl⟩
def okc (a b c : Int) : Prop := 0 ≤ a ∧ a ≤ b ∧ b ≤ c ∧ c ≤ 8000
instance (a b c : Int) : Decidable (okc a b c) := by unfold okc; infer_instance
def gchk (l : List Int) : Int := match l with | [a, b, c] => if okc a b c then 0 else 36 | _ => 36
theorem gchk_cases (l : List Int) : gchk l = 0 ∨ gchk l = 36 := by unfold gchk; split <;> (try split) <;> simp
theorem gchk_zero {l : List Int} (h : gchk l = 0) : ∃ a b c, l = [a, b, c] ∧ okc a b c := by
  unfold gchk at h
  split at h
  · rename_i a b c
    by_cases e : okc a b c
    · exact ⟨a, b, c, rfl, e⟩
    · rw [if_neg e] at h; simp at h
  · simp at h
theorem gchk_not {a b c : Int} (h : ¬ okc a b c) : gchk [a, b, c] = 36 := by unfold gchk; simp only; rw [if_neg h]
theorem gchk_mk {a b c : Int} (h : okc a b c) : gchk [a, b, c] = 0 := by unfold gchk; simp only; rw [if_pos h]
theorem less (a b : Int) : cmp_Less_int.f a b = some (decide (a < b)) := by
  unfold cmp_Less_int.f cmp_isNaN_int.f
  simp
theorem ww : wrap64 ((3 : Int) - 1) = 2 ∧ wrap64 ((2 : Int) - 1) = 1 ∧ wrap64 ((1 : Int) - 1) = 0 := by decide +kernel
theorem sorted3 (a b c : Int) (k : Nat) (hk : 5 ≤ k) : slices_IsSorted_int_int.f k [a, b, c] = some (decide (a ≤ b ∧ b ≤ c)) := by
  refine at_rounds (slices_IsSorted_int_int.mono [a, b, c]) hk ?_
  obtain ⟨w3, w2, w1⟩ := ww
  have e3 : (([a, b, c] : List Int).length : Int) = 3 := rfl
  have r2 : rd [a, b, c] 2 = c := rfl
  have r1 : rd [a, b, c] 1 = b := rfl
  have r0 : rd [a, b, c] 0 = a := rfl
  unfold slices_IsSorted_int_int.f
  simp only [slices_IsSorted_int_int.l0, e3, w3, w2, w1, r2, r1, r0, less, Option.bind_some]
  by_cases h1 : c < b
  · simp [h1] <;> omega
  · by_cases h2 : b < a
    · simp [h1, h2] <;> omega
    · simp [h1, h2] <;> omega
theorem qGChk (l : List Int) (k : Nat) (hk : 5 ≤ k) : grade_Check.f k l = some (gchk l) := by
  unfold grade_Check.f
  by_cases h : l.length = 3
  · obtain ⟨a, b, c, rfl⟩ := list3 h
    have e3 : (([a, b, c] : List Int).length : Int) = 3 := rfl
    have r2 : rd [a, b, c] 2 = c := rfl
    have r0 : rd [a, b, c] 0 = a := rfl
    obtain ⟨w3, w2, w1⟩ := ww
    rw [sorted3 a b c k hk]
    simp only [e3, w3, r2, r0, Option.bind_some, if_true, decide_eq_true_eq]
    by_cases ho : okc a b c
    · rw [gchk_mk ho]
      unfold okc at ho
      repeat' split
      all_goals first | rfl | (exfalso; omega)
    · rw [gchk_not ho]
      unfold okc at ho
      repeat' split
      all_goals first | rfl | (exfalso; omega)
  · rw [if_neg (by omega)]
    unfold gchk
    split
    · simp at h
    · rfl
theorem rGChk (l : List Int) : backhaulref17_Check.f l = some (gchk l) := by
  unfold backhaulref17_Check.f
  by_cases h : l.length = 3
  · obtain ⟨a, b, c, rfl⟩ := list3 h
    have e3 : (([a, b, c] : List Int).length : Int) = 3 := rfl
    have r2 : rd [a, b, c] 2 = c := rfl
    have r1 : rd [a, b, c] 1 = b := rfl
    have r0 : rd [a, b, c] 0 = a := rfl
    simp only [e3, r2, r1, r0, if_true]
    by_cases ho : okc a b c
    · rw [gchk_mk ho]
      unfold okc at ho
      repeat' split
      all_goals first | rfl | (exfalso; omega)
    · rw [gchk_not ho]
      unfold okc at ho
      repeat' split
      all_goals first | rfl | (exfalso; omega)
  · rw [if_neg (by omega)]
    unfold gchk
    split
    · simp at h
    · rfl
/-- A score's grade. -/
def gr (a b c s : Int) : Int := if s ≤ a then 0 else if s ≤ b then 1 else if s ≤ c then 2 else 3
theorem gr_in (a b c s : Int) : 0 ≤ gr a b c s ∧ gr a b c s < 4 := by unfold gr; repeat' split <;> omega
theorem mid : wrap64 0 = 0 ∧ wrap64 1 = 1 ∧ wrap64 2 = 2 ∧ wrap64 3 = 3 ∧ wrap64 5 = 5 ∧ IntKind.u64.wrap 1 = 1 ∧ IntKind.u64.wrap 3 = 3 ∧ IntKind.u64.wrap 5 = 5 := by decide +kernel
theorem qOf (a b c s : Int) (h : okc a b c) (k : Nat) (hk : 6 ≤ k) : grade_scale_of.f k [a, b, c] s = some (gr a b c s) := by
  refine at_rounds (grade_scale_of.mono [a, b, c] s) hk ?_
  obtain ⟨m0, m1, m2, m3, m4, m5, m6, m7⟩ := mid
  have e3 : (([a, b, c] : List Int).length : Int) = 3 := rfl
  have r2 : ∀ x y z, rd [x, y, z] 2 = z := fun _ _ _ => rfl
  have r1 : ∀ x y z, rd [x, y, z] 1 = y := fun _ _ _ => rfl
  have r0 : ∀ x y z, rd [x, y, z] 0 = x := fun _ _ _ => rfl
  unfold grade_scale_of.f grade_scale_int.f gr
  unfold okc at h
  by_cases h1 : b < s
  · by_cases h2 : c < s
    · simp [grade_scale_int.l0, slices_isNaN_int.f, m0, m1, m2, m3, m4, m5, m6, m7, r2, r1, r0, less, h1, h2, show ¬ s ≤ a by omega, show ¬ s ≤ b by omega, show ¬ s ≤ c by omega]
    · by_cases h3 : c = s <;> simp [grade_scale_int.l0, slices_isNaN_int.f, m0, m1, m2, m3, m4, m5, m6, m7, r2, r1, r0, less, h1, h2, h3, show ¬ s ≤ a by omega, show ¬ s ≤ b by omega, show s ≤ c by omega]
  · by_cases h2 : a < s
    · by_cases h3 : b = s <;> simp [grade_scale_int.l0, slices_isNaN_int.f, m0, m1, m2, m3, m4, m5, m6, m7, r2, r1, r0, less, h1, h2, h3, show ¬ s ≤ a by omega, show s ≤ b by omega]
    · by_cases h3 : a = s <;> simp [grade_scale_int.l0, slices_isNaN_int.f, m0, m1, m2, m3, m4, m5, m6, m7, r2, r1, r0, less, h1, h2, h3, show s ≤ a by omega]
theorem rGrade (a b c s : Int) (k : Nat) (hk : 6 ≤ k) : backhaulref17_Grade.f k [a, b, c] s = some (gr a b c s) := by
  refine at_rounds (backhaulref17_Grade.mono [a, b, c] s) hk ?_
  obtain ⟨m0, m1, m2, m3, m4, m5, m6, m7⟩ := mid
  have e3 : (([a, b, c] : List Int).length : Int) = 3 := rfl
  have r2 : ∀ x y z, rd [x, y, z] 2 = z := fun _ _ _ => rfl
  have r1 : ∀ x y z, rd [x, y, z] 1 = y := fun _ _ _ => rfl
  have r0 : ∀ x y z, rd [x, y, z] 0 = x := fun _ _ _ => rfl
  unfold backhaulref17_Grade.f gr
  by_cases h1 : s ≤ a
  · simp [backhaulref17_Grade.l0, r0, h1]
  · by_cases h2 : s ≤ b
    · simp [backhaulref17_Grade.l0, r0, r1, m1, m2, m3, h1, h2]
    · by_cases h3 : s ≤ c
      · simp [backhaulref17_Grade.l0, r0, r1, r2, m1, m2, m3, h1, h2, h3]
      · simp [backhaulref17_Grade.l0, r0, r1, r2, m1, m2, m3, h1, h2, h3]
def ofv (l : List Int) (s : Int) : Int × Int := match l with | [a, b, c] => if okc a b c then (if 0 ≤ s ∧ s ≤ 8000 then (gr a b c s, 0) else (0, 2)) else (0, 36) | _ => (0, 36)
theorem ofv_no {l : List Int} (h : gchk l = 36) (s : Int) : ofv l s = (0, 36) := by
  unfold ofv
  split
  · rename_i a b c
    by_cases e : okc a b c
    · rw [gchk_mk e] at h; simp at h
    · rw [if_neg e]
  · rfl
theorem ofv_yes {a b c : Int} (h : okc a b c) (s : Int) : ofv [a, b, c] s = if 0 ≤ s ∧ s ≤ 8000 then (gr a b c s, 0) else (0, 2) := by unfold ofv; simp only; rw [if_pos h]
theorem qGOf (l : List Int) (s : Int) (k : Nat) (hk : 6 ≤ k) : grade_Of.f k l s = some (ofv l s) := by
  unfold grade_Of.f
  rw [qGChk l k (by omega)]
  rcases gchk_cases l with h | h
  · obtain ⟨a, b, c, rfl, ho⟩ := gchk_zero h
    rw [ofv_yes ho, h, qOf a b c s ho k hk]
    simp only [Option.bind_some, if_true]
    repeat' split
    all_goals first | rfl | (exfalso; omega)
  · rw [ofv_no h, h]; simp
theorem rGOf (l : List Int) (s : Int) (k : Nat) (hk : 6 ≤ k) : backhaulref17_Of.f k l s = some (ofv l s) := by
  unfold backhaulref17_Of.f
  rw [rGChk l]
  rcases gchk_cases l with h | h
  · obtain ⟨a, b, c, rfl, ho⟩ := gchk_zero h
    rw [ofv_yes ho, h, rGrade a b c s k hk]
    simp only [Option.bind_some, if_true]
    repeat' split
    all_goals first | rfl | (exfalso; omega)
  · rw [ofv_no h, h]; simp
/-! ### spans -/
def lo (a b c n : Int) : Int := if n = 0 then 0 else if n = 1 then a + 1 else if n = 2 then b + 1 else c + 1
def hi (a b c n : Int) : Int := if n = 0 then a else if n = 1 then b else if n = 2 then c else 8000
theorem gr_span {a b c : Int} (h : okc a b c) (s n : Int) (hs : 0 ≤ s ∧ s ≤ 8000) (hn : 0 ≤ n ∧ n < 4) : gr a b c s = n ↔ lo a b c n ≤ s ∧ s ≤ hi a b c n := by
  unfold okc at h
  rcases (by omega : n = 0 ∨ n = 1 ∨ n = 2 ∨ n = 3) with rfl | rfl | rfl | rfl <;> unfold gr lo hi <;> simp <;> (repeat' split) <;> omega
def spn (a b c n : Int) : Int × Int × Int := if lo a b c n > hi a b c n then (1, 0, 0) else (lo a b c n, hi a b c n, 0)
def spv (l : List Int) (n : Int) : Int × Int × Int := match l with | [a, b, c] => if okc a b c then (if 0 ≤ n ∧ n < 4 then spn a b c n else (0, 0, 2)) else (0, 0, 36) | _ => (0, 0, 36)
theorem spv_no {l : List Int} (h : gchk l = 36) (n : Int) : spv l n = (0, 0, 36) := by
  unfold spv
  split
  · rename_i a b c
    by_cases e : okc a b c
    · rw [gchk_mk e] at h; simp at h
    · rw [if_neg e]
  · rfl
theorem spv_yes {a b c : Int} (h : okc a b c) (n : Int) : spv [a, b, c] n = if 0 ≤ n ∧ n < 4 then spn a b c n else (0, 0, 2) := by unfold spv; simp only; rw [if_pos h]
theorem qSpan (l : List Int) (n : Int) (k : Nat) (hk : 8 ≤ k) : grade_Span.f k l n = some (spv l n) := by
  refine at_rounds (grade_Span.mono l n) hk ?_
  unfold grade_Span.f
  rw [qGChk l 8 (by omega)]
  rcases gchk_cases l with h | h
  · obtain ⟨a, b, c, rfl, ho⟩ := gchk_zero h
    rw [spv_yes ho, h]
    have ho' := ho
    unfold okc at ho'
    have wa : wrap64 (a + 1) = a + 1 := w64 (by omega) (by omega)
    have wb : wrap64 (b + 1) = b + 1 := w64 (by omega) (by omega)
    have wc : wrap64 (c + 1) = c + 1 := w64 (by omega) (by omega)
    obtain ⟨w3, w2, w1⟩ := ww
    obtain ⟨m0, m1, m2, m3, -⟩ := mid
    have e3 : (([a, b, c] : List Int).length : Int) = 3 := rfl
    have r2 : rd [a, b, c] 2 = c := rfl
    have r1 : rd [a, b, c] 1 = b := rfl
    have r0 : rd [a, b, c] 0 = a := rfl
    by_cases hn : 0 ≤ n ∧ n < 4
    · rw [if_pos hn]
      rcases (by omega : n = 0 ∨ n = 1 ∨ n = 2 ∨ n = 3) with rfl | rfl | rfl | rfl
      · simp only [grade_Span.j0, grade_Span.j1, r0, spn, lo, hi, e3, Option.bind_some, m0, m1, m2, m3] <;> simp [m0, m1, m2, m3, r0] <;> (repeat' split) <;> simp_all <;> omega
      · simp only [grade_Span.j0, grade_Span.j1, r0, r1, w1, wa, spn, lo, hi, e3, Option.bind_some, m0, m1, m2, m3] <;> simp [m0, m1, m2, m3, r0, r1, w1, wa] <;> (repeat' split) <;> simp_all <;> omega
      · simp only [grade_Span.j0, grade_Span.j1, r1, r2, w2, wb, spn, lo, hi, e3, Option.bind_some, m0, m1, m2, m3] <;> simp [m0, m1, m2, m3, r1, r2, w2, wb] <;> (repeat' split) <;> simp_all <;> omega
      · simp only [grade_Span.j0, grade_Span.j1, r2, w3, wc, spn, lo, hi, e3, Option.bind_some, m0, m1, m2, m3] <;> simp [m0, m1, m2, m3, r2, w3, wc] <;> (repeat' split) <;> simp_all <;> omega
    · rw [if_neg hn]
      simp only [Option.bind_some, if_true]
      by_cases h0 : n < 0
      · rw [if_pos h0]; rfl
      · rw [if_neg h0, show decide (n ≥ 4) = true from decide_eq_true (by omega)]; rfl
  · rw [spv_no h, h]; simp
theorem rSpan_l {a b c : Int} (h : okc a b c) (n : Int) (hn : 0 ≤ n ∧ n < 4) (d : Nat) : ∀ (k x : Nat), x + d = 8001 → d + 8 ≤ k → 
    backhaulref17_Span.l0 k [a, b, c] n (if lo a b c n ≤ hi a b c n ∧ lo a b c n < x then lo a b c n else 1) (if lo a b c n ≤ hi a b c n ∧ lo a b c n < x then (if hi a b c n < x then hi a b c n else (x : Int) - 1) else 0) (x : Int) = some (spn a b c n) := by
  have hl : 0 ≤ lo a b c n ∧ hi a b c n ≤ 8000 := by
    unfold okc at h
    unfold lo hi
    repeat' split
    all_goals omega
  induction d with
  | zero =>
    intro k x hx hk
    obtain ⟨k, rfl⟩ := Nat.exists_eq_succ_of_ne_zero (by omega : k ≠ 0)
    simp only [backhaulref17_Span.l0]
    rw [if_neg (by omega)]
    unfold spn
    by_cases e : lo a b c n > hi a b c n
    · rw [if_pos e, if_neg (by omega), if_neg (by omega)]
    · rw [if_neg e, if_pos (by omega), if_pos (by omega), if_pos (by omega)]
  | succ d ih =>
    intro k x hx hk
    obtain ⟨k, rfl⟩ := Nat.exists_eq_succ_of_ne_zero (by omega : k ≠ 0)
    have ih' := ih k (x + 1) (by omega) (by omega)
    have g := gr_span h (x : Int) n (by omega) hn
    have wx : wrap64 ((x : Int) + 1) = ((x + 1 : Nat) : Int) := by rw [w64 (by omega) (by omega)]; omega
    simp only [backhaulref17_Span.l0]
    rw [if_pos (by omega), rGrade a b c x k (by omega), wx]
    simp only [Option.bind_some]
    generalize hL : lo a b c n = L at *
    generalize hH : hi a b c n = H at *
    by_cases e : gr a b c x = n
    · rw [if_pos e]
      have g1 := g.1 e
      by_cases e2 : L < x
      · rw [if_pos (show L ≤ H ∧ L < (x : Int) by omega), if_pos (show L ≤ H ∧ L < (x : Int) by omega), if_neg (show ¬ H < (x : Int) by omega), if_neg (by omega)]
        rw [if_pos (by omega), if_pos (by omega)] at ih'
        by_cases e3 : H < ((x + 1 : Nat) : Int)
        · rw [if_pos e3] at ih'; rw [show (x : Int) = H by omega]; rw [show (((x + 1 : Nat)) : Int) = H + 1 by omega] at ih'; rw [show (((x + 1 : Nat)) : Int) = H + 1 by omega]; exact ih'
        · rw [if_neg e3] at ih'; rw [show (((x + 1 : Nat)) : Int) - 1 = (x : Int) by omega] at ih'; exact ih'
      · rw [if_neg (show ¬ (L ≤ H ∧ L < (x : Int)) by omega), if_neg (show ¬ (L ≤ H ∧ L < (x : Int)) by omega), if_pos (by omega)]
        rw [if_pos (by omega), if_pos (by omega)] at ih'
        have eL : L = (x : Int) := by omega
        by_cases e3 : H < ((x + 1 : Nat) : Int)
        · rw [if_pos e3] at ih'; rw [show H = (x : Int) by omega, eL] at ih'; exact ih'
        · rw [if_neg e3] at ih'; rw [show (((x + 1 : Nat)) : Int) - 1 = (x : Int) by omega, eL] at ih'; exact ih'
    · rw [if_neg e]
      have g2 : ¬ (L ≤ (x : Int) ∧ (x : Int) ≤ H) := fun q => e (g.2 q)
      by_cases e2 : L ≤ H ∧ L < (x : Int)
      · rw [if_pos e2, if_pos e2, if_pos (show H < (x : Int) by omega)]
        rw [if_pos (by omega), if_pos (by omega), if_pos (by omega)] at ih'
        exact ih'
      · rw [if_neg e2, if_neg e2]
        rw [if_neg (by omega), if_neg (by omega)] at ih'
        exact ih'
theorem rSpan (l : List Int) (n : Int) (k : Nat) (hk : 8012 ≤ k) : backhaulref17_Span.f k l n = some (spv l n) := by
  refine at_rounds (backhaulref17_Span.mono l n) hk ?_
  unfold backhaulref17_Span.f
  rw [rGChk l]
  rcases gchk_cases l with h | h
  · obtain ⟨a, b, c, rfl, ho⟩ := gchk_zero h
    rw [spv_yes ho, h]
    simp only [Option.bind_some, if_true]
    by_cases hn : 0 ≤ n ∧ n < 4
    · rw [if_pos hn, if_neg (by omega), show decide (n > 3) = false from decide_eq_false (by omega)]
      have e := rSpan_l ho n hn 8001 8011 0 (by omega) (by omega)
      have hl : 0 ≤ lo a b c n := by
        unfold okc at ho
        unfold lo
        repeat' split
        all_goals omega
      rw [if_neg (by omega), if_neg (by omega)] at e
      simp only [backhaulref17_Span.j0, Bool.false_eq_true, if_false]
      exact e
    · rw [if_neg hn]
      by_cases h0 : n < 0
      · rw [if_pos h0]; rfl
      · rw [if_neg h0, show decide (n > 3) = true from decide_eq_true (by omega)]; rfl
  · rw [spv_no h, h]; simp
theorem aw (k : Nat) (h : 60 ≤ k) : backhaullaw17_awake.f k = some true := at_rounds backhaullaw17_awake.mono h (by decide +kernel)
end Go.Proofs.Ytokoipmbhohoiaa.GradePlain
