/- What the functions of the packages quiz and backhaulref16 compute, in closed form, and that both agree: plain laws over lists of whole numbers. Conditions: as each says (lists of at most 100). -/
import Derived.Test.YtpoafdckkmecnaaPQuizx14
import Derived.Test.YtpoafdckkmecnaaPQuizx15
import Derived.Test.YtpoafdckkmecnaaPQuizx16
namespace Go.Proofs.Ytpoafdckkmecnaa.QuizPlain
open Go.RowKit Go.Proofs.Ytpoafdckkmecnaa.PQuiz Go.Proofs.YtpoafdckkmecnaaW.PrintWords Go.Proofs.YtpoafdckkmecnaaW.PrintLast Go.Proofs.YtpoafdckkmecnaaW.PrintMore

theorem w64 {x : Int} (h : -9223372036854775808 ≤ x) (h' : x ≤ 9223372036854775807) : wrap64 x = x := by unfold wrap64; omega
theorem w64n {x : Nat} (h : x ≤ 9223372036854775807) : wrap64 (x : Int) = x := w64 (by omega) (by omega)
theorem rd_nat (l : List Int) (i : Nat) : rd l (i : Int) = l.getD i 0 := by unfold rd; simp
theorem drop_at (l : List Int) (i : Nat) (h : i < l.length) : l.drop i = l.getD i 0 :: l.drop (i + 1) := by
  rw [List.drop_eq_getElem_cons h]
  simp [List.getD, h]
def bad (w : Int) : Bool := decide (w < 0) || decide (w > 1000)
theorem bad_false {w : Int} (h : bad w = false) : 0 ≤ w ∧ w ≤ 1000 := by unfold bad at h; simp at h; omega
def chk (l : List Int) : Int := if 1 ≤ l.length ∧ l.length ≤ 8 then (if l.any bad = true then 36 else 0) else 36
theorem chk_cases (l : List Int) : chk l = 0 ∨ chk l = 36 := by unfold chk; split <;> (try split) <;> simp
theorem chk_zero {l : List Int} (h : chk l = 0) : 1 ≤ l.length ∧ l.length ≤ 8 ∧ l.any bad = false := by
  unfold chk at h
  split at h
  · rename_i h1
    split at h
    · simp at h
    · rename_i h2
      exact ⟨h1.1, h1.2, by simpa using h2⟩
  · simp at h
theorem qCheck_l (l : List Int) (hl : l.length ≤ 100) (d : Nat) : ∀ (k i : Nat), i + d = l.length → d < k → quiz_Check.l0 k l (l.length : Int) (i : Int) = some (if (l.drop i).any bad = true then 36 else 0) := by
  induction d with
  | zero =>
    intro k i hi hk
    obtain ⟨k, rfl⟩ : ∃ m, k = m + 1 := ⟨k - 1, by omega⟩
    simp only [quiz_Check.l0]
    rw [if_neg (by omega), List.drop_of_length_le (by omega)]
    rfl
  | succ d ih =>
    intro k i hi hk
    obtain ⟨k, rfl⟩ : ∃ m, k = m + 1 := ⟨k - 1, by omega⟩
    have h := ih k (i + 1) (by omega) (by omega)
    simp only [quiz_Check.l0]
    rw [if_pos (by omega), if_pos (by omega), if_pos (by omega), rd_nat, drop_at l i (by omega), List.any_cons, w64 (by omega) (by omega)]
    by_cases h1 : l.getD i 0 < 0
    · rw [if_pos h1]; simp only [bad, decide_eq_true h1]; rfl
    rw [if_neg h1]
    by_cases h2 : l.getD i 0 > 1000
    · rw [if_pos h2]; simp only [bad, decide_eq_false h1, decide_eq_true h2]; rfl
    rw [if_neg h2]
    have e : bad (l.getD i 0) = false := by simp only [bad, decide_eq_false h1, decide_eq_false h2]; rfl
    rw [e, Bool.false_or]
    exact h
theorem qCheck (l : List Int) (hl : l.length ≤ 100) (k : Nat) (hk : l.length + 2 ≤ k) : quiz_Check.f k l = some (chk l) := by
  obtain ⟨k, rfl⟩ : ∃ m, k = m + 1 := ⟨k - 1, by omega⟩
  unfold quiz_Check.f chk
  by_cases h1 : (l.length : Int) < 1
  · rw [if_pos h1, if_neg (by omega)]; simp [quiz_Check.j0]
  rw [if_neg h1]
  by_cases h2 : (l.length : Int) > 8
  · rw [decide_eq_true h2, if_neg (by omega)]; simp [quiz_Check.j0]
  rw [decide_eq_false h2, if_pos (by omega)]
  have h := qCheck_l l hl l.length k 0 (by omega) (by omega)
  simpa [quiz_Check.j0] using h
theorem rCheck_l (l : List Int) (hl : l.length ≤ 100) (d : Nat) : ∀ (k i : Nat), i + d = l.length → d < k → backhaulref16_Check.l0 k l (i : Int) = some (if (l.drop i).any bad = true then 36 else 0) := by
  induction d with
  | zero =>
    intro k i hi hk
    obtain ⟨k, rfl⟩ : ∃ m, k = m + 1 := ⟨k - 1, by omega⟩
    simp only [backhaulref16_Check.l0]
    rw [if_neg (by omega), List.drop_of_length_le (by omega)]
    rfl
  | succ d ih =>
    intro k i hi hk
    obtain ⟨k, rfl⟩ : ∃ m, k = m + 1 := ⟨k - 1, by omega⟩
    have h := ih k (i + 1) (by omega) (by omega)
    simp only [backhaulref16_Check.l0]
    rw [if_pos (by omega), if_pos (by omega), rd_nat, drop_at l i (by omega), List.any_cons, w64 (by omega) (by omega)]
    by_cases h1 : l.getD i 0 < 0
    · rw [if_pos h1]; simp only [bad, decide_eq_true h1]; rfl
    rw [if_neg h1]
    by_cases h2 : l.getD i 0 > 1000
    · rw [if_pos h2]; simp only [bad, decide_eq_false h1, decide_eq_true h2]; rfl
    rw [if_neg h2]
    have e : bad (l.getD i 0) = false := by simp only [bad, decide_eq_false h1, decide_eq_false h2]; rfl
    rw [e, Bool.false_or]
    exact h
theorem rCheck (l : List Int) (hl : l.length ≤ 100) (k : Nat) (hk : l.length + 2 ≤ k) : backhaulref16_Check.f k l = some (chk l) := by
  obtain ⟨k, rfl⟩ : ∃ m, k = m + 1 := ⟨k - 1, by omega⟩
  unfold backhaulref16_Check.f chk
  by_cases h1 : (l.length : Int) = 0
  · rw [if_pos h1, if_neg (by omega)]; simp [backhaulref16_Check.j0]
  rw [if_neg h1]
  by_cases h2 : (l.length : Int) > 8
  · rw [decide_eq_true h2, if_neg (by omega)]; simp [backhaulref16_Check.j0]
  rw [decide_eq_false h2, if_pos (by omega)]
  have h := rCheck_l l hl l.length k 0 (by omega) (by omega)
  simpa [backhaulref16_Check.j0] using h

/-! ### noes -/
theorem nb_small : ∀ a : Nat, a < 256 → ∀ i : Nat, i < 8 → nb (a : Int) (i : Int) = decide (a / 2 ^ i % 2 = 0) := by decide +kernel
theorem pow_le (n : Nat) (h : n ≤ 8) : (2 : Int) ^ n ≤ 256 ∧ (1 : Int) ≤ 2 ^ n := by
  have := pow_small n (by omega)
  exact ⟨this.1, this.2.2⟩
def fails (l : List Int) (a : Int) : List Int × Int := if chk l = 0 then (if 0 ≤ a ∧ a < 2 ^ l.length then (noes a l.length, 0) else ([], 2)) else ([], 36)
theorem qFailed (l : List Int) (hl : l.length ≤ 100) (a : Int) (k : Nat) (hk : l.length + 2 ≤ k) : quiz_Failed.f k l a = some (fails l a) := by
  unfold quiz_Failed.f fails
  rw [qCheck l hl k hk]
  rcases chk_cases l with h | h
  · obtain ⟨h1, h2, h3⟩ := chk_zero h
    simp only [Option.bind_some, h, if_true]
    rw [if_pos (by omega)]
    by_cases e1 : a < 0
    · rw [if_pos e1, if_neg (by omega)]
    rw [if_neg e1]
    by_cases e2 : a ≥ 2 ^ l.length
    · rw [if_pos e2, if_neg (by omega)]
    · rw [if_neg e2, if_pos (by omega)]
  · simp [h]
theorem noes_len (a : Int) (n : Nat) : (noes a n).length ≤ n := noes_length a n
/-- The reference's own noes: bit by bit. -/
def rnoes (a : Nat) : Nat → List Int
  | 0 => []
  | n + 1 => rnoes a n ++ (if a / 2 ^ n % 2 = 0 then [(n : Int)] else [])
theorem rnoes_length (a n : Nat) : (rnoes a n).length ≤ n := by
  induction n with
  | zero => simp [rnoes]
  | succ n ih =>
    simp only [rnoes, List.length_append]
    split <;> simp <;> omega
theorem rnoes_eq (a : Nat) (ha : a < 256) : ∀ n, n ≤ 8 → rnoes a n = noes (a : Int) n := by
  intro n
  induction n with
  | zero => intro _; rfl
  | succ n ih =>
    intro h
    rw [noes_succ, ← ih (by omega), rnoes, nb_small a ha n (by omega)]
    simp
theorem tmod_nat (a : Nat) : Int.tmod (a : Int) 2 = ((a % 2 : Nat) : Int) := by
  rw [Int.tmod_eq_emod_of_nonneg (by omega)]
  omega
theorem tdiv_nat (a : Nat) : Int.tdiv (a : Int) 2 = ((a / 2 : Nat) : Int) := by
  rw [Int.tdiv_eq_ediv_of_nonneg (by omega)]
  omega
theorem rFailed_l (l : List Int) (hl : l.length ≤ 100) (a : Nat) (ha : a < 9223372036854775808) (d : Nat) : ∀ (k i : Nat), i + d = l.length → d < k →
    backhaulref16_Failed.l0 k l ((a / 2 ^ i : Nat) : Int) (rnoes a i) (i : Int) = some (if a / 2 ^ l.length > 0 then ([], 2) else (rnoes a l.length, 0)) := by
  induction d with
  | zero =>
    intro k i hi hk
    obtain ⟨k, rfl⟩ : ∃ m, k = m + 1 := ⟨k - 1, by omega⟩
    obtain rfl : i = l.length := by omega
    simp only [backhaulref16_Failed.l0]
    rw [if_neg (by omega)]
    by_cases h : a / 2 ^ l.length > 0
    · rw [if_pos (by omega), if_pos h]
    · rw [if_neg (by omega), if_neg h]
  | succ d ih =>
    intro k i hi hk
    obtain ⟨k, rfl⟩ : ∃ m, k = m + 1 := ⟨k - 1, by omega⟩
    have h := ih k (i + 1) (by omega) (by omega)
    have hd : a / 2 ^ i / 2 = a / 2 ^ (i + 1) := by rw [Nat.div_div_eq_div_mul, Nat.pow_succ]
    have hle : a / 2 ^ i ≤ a := Nat.div_le_self _ _
    have hle' : a / 2 ^ (i + 1) ≤ a := Nat.div_le_self _ _
    simp only [backhaulref16_Failed.l0]
    rw [if_pos (by omega), tmod_nat, tdiv_nat, hd, w64 (x := (i : Int) + 1) (by omega) (by omega), w64n (Nat.le_trans hle' (by omega))]
    have hlen := rnoes_length a i
    by_cases h1 : a / 2 ^ i % 2 = 0
    · rw [if_pos (by omega), if_pos (by omega)]
      rw [rnoes, if_pos h1] at h
      exact h
    · rw [if_neg (by omega)]
      rw [rnoes, if_neg h1, List.append_nil] at h
      exact h
theorem pow_cast (n : Nat) : ((2 ^ n : Nat) : Int) = (2 : Int) ^ n := by simp
theorem rFailed (l : List Int) (hl : l.length ≤ 100) (a : Int) (ha : a < 9223372036854775808) (k : Nat) (hk : l.length + 2 ≤ k) : backhaulref16_Failed.f k l a = some (fails l a) := by
  unfold backhaulref16_Failed.f fails
  rw [rCheck l hl k hk]
  rcases chk_cases l with h | h
  · obtain ⟨h1, h2, h3⟩ := chk_zero h
    simp only [Option.bind_some, h, if_true]
    by_cases e1 : a < 0
    · rw [if_pos e1, if_neg (by omega)]
    rw [if_neg e1]
    obtain ⟨n, rfl⟩ := Int.eq_ofNat_of_zero_le (by omega : 0 ≤ a)
    have e := rFailed_l l hl n (by omega) l.length k 0 (by omega) (by omega)
    simp only [Nat.pow_zero, Nat.div_one, rnoes] at e
    refine e.trans ?_
    have hp := pow_le l.length h2
    have hp' := pow_cast l.length
    by_cases e2 : n / 2 ^ l.length > 0
    · have : 2 ^ l.length ≤ n := by
        have := (Nat.div_pos_iff).1 e2
        exact this.2
      rw [if_pos e2, if_neg (by omega)]
    · have : n < 2 ^ l.length := by
        rcases Nat.lt_or_ge n (2 ^ l.length) with h' | h'
        · exact h'
        · exact absurd (Nat.div_pos h' (Nat.two_pow_pos _)) e2
      rw [if_neg e2, if_pos (by omega), rnoes_eq n (by omega) _ h2]
  · simp [h]

/-! ### sums of weights -/
def total (l idx : List Int) : Int := (idx.map (rd l)).sum
theorem total_nil (l : List Int) : total l [] = 0 := rfl
theorem total_cons (l : List Int) (x : Int) (r : List Int) : total l (x :: r) = rd l x + total l r := by simp [total]
theorem total_append (l a b : List Int) : total l (a ++ b) = total l a + total l b := by simp [total, List.sum_append]
def inR (n : Nat) (idx : List Int) : Prop := ∀ x ∈ idx, 0 ≤ x ∧ x < (n : Int)
theorem rd_bd {l : List Int} (h : l.any bad = false) (x : Int) (h0 : 0 ≤ x) (h1 : x < l.length) : 0 ≤ rd l x ∧ rd l x ≤ 1000 := by
  have hx : x.toNat < l.length := by omega
  have hm : rd l x ∈ l := by unfold rd; simp [List.getD, hx]
  rw [List.any_eq_false] at h
  exact bad_false (by simpa using h _ hm)
theorem total_bd {l : List Int} (h : l.any bad = false) (idx : List Int) (hi : inR l.length idx) : 0 ≤ total l idx ∧ total l idx ≤ 1000 * idx.length := by
  induction idx with
  | nil => simp [total]
  | cons x r ih =>
    have h1 := rd_bd h x (hi x (by simp)).1 (hi x (by simp)).2
    have h2 := ih (fun y hy => hi y (by simp [hy]))
    rw [total_cons]
    simp only [List.length_cons]
    omega
theorem noes_inR (a : Int) (n : Nat) : inR n (noes a n) := by
  induction n with
  | zero => intro x hx; simp [noes] at hx
  | succ n ih =>
    intro x hx
    rw [noes_succ, List.mem_append] at hx
    rcases hx with hx | hx
    · have := ih x hx; omega
    · split at hx <;> simp at hx
      omega
theorem qScore_l (l idx : List Int) (hb : l.any bad = false) (hi : inR l.length idx) (hn : idx.length ≤ 100) (d : Nat) : ∀ (k i : Nat) (x : Int), i + d = idx.length → d < k → 0 ≤ x → x ≤ 1000 * i →
    quiz_Score.l0 k l x idx (idx.length : Int) (i : Int) = some (x + total l (idx.drop i), 0) := by
  induction d with
  | zero =>
    intro k i x he hk h0 h1
    obtain ⟨k, rfl⟩ : ∃ m, k = m + 1 := ⟨k - 1, by omega⟩
    simp only [quiz_Score.l0]
    rw [if_neg (by omega), List.drop_of_length_le (by omega), total_nil, Int.add_zero]
  | succ d ih =>
    intro k i x he hk h0 h1
    obtain ⟨k, rfl⟩ : ∃ m, k = m + 1 := ⟨k - 1, by omega⟩
    have hm : idx.getD i 0 ∈ idx := by have hx : i < idx.length := by omega
                                       simp [List.getD, hx]
    obtain ⟨g0, g1⟩ := hi _ hm
    obtain ⟨r0, r1⟩ := rd_bd hb _ g0 g1
    have h := ih k (i + 1) (x + rd l (idx.getD i 0)) (by omega) (by omega) (by omega) (by omega)
    simp only [quiz_Score.l0]
    rw [if_pos (by omega), if_pos (by omega), if_pos (by omega), rd_nat, if_pos g0, if_pos g1, w64 (x := x + _) (by omega) (by omega), w64 (by omega) (by omega), drop_at idx i (by omega), total_cons]
    rw [← Int.add_assoc]
    exact h
theorem rScore_l (l idx : List Int) (e : Int) (hb : l.any bad = false) (hi : inR l.length idx) (hn : idx.length ≤ 100) (d : Nat) : ∀ (k i : Nat) (x : Int), i + d = idx.length → d < k → 0 ≤ x → x ≤ 1000 * i →
    backhaulref16_Score.l0 k l idx e x (i : Int) = some (x + total l (idx.drop i), e) := by
  induction d with
  | zero =>
    intro k i x he hk h0 h1
    obtain ⟨k, rfl⟩ : ∃ m, k = m + 1 := ⟨k - 1, by omega⟩
    simp only [backhaulref16_Score.l0]
    rw [if_neg (by omega), List.drop_of_length_le (by omega), total_nil, Int.add_zero]
  | succ d ih =>
    intro k i x he hk h0 h1
    obtain ⟨k, rfl⟩ : ∃ m, k = m + 1 := ⟨k - 1, by omega⟩
    have hm : idx.getD i 0 ∈ idx := by have hx : i < idx.length := by omega
                                       simp [List.getD, hx]
    obtain ⟨g0, g1⟩ := hi _ hm
    obtain ⟨r0, r1⟩ := rd_bd hb _ g0 g1
    have h := ih k (i + 1) (x + rd l (idx.getD i 0)) (by omega) (by omega) (by omega) (by omega)
    simp only [backhaulref16_Score.l0]
    rw [if_pos (by omega), if_pos (by omega), rd_nat, if_pos g0, if_pos g1, w64 (x := x + _) (by omega) (by omega), w64 (by omega) (by omega), drop_at idx i (by omega), total_cons]
    rw [← Int.add_assoc]
    exact h
def score (l : List Int) (a : Int) : Int × Int := if chk l = 0 then (if 0 ≤ a ∧ a < 2 ^ l.length then (total l (noes a l.length), 0) else (0, 2)) else (0, 36)
theorem fails_ok {l : List Int} {a : Int} (h : chk l = 0) (ha : 0 ≤ a ∧ a < 2 ^ l.length) : fails l a = (noes a l.length, 0) := by unfold fails; rw [if_pos h, if_pos ha]
theorem fails_arg {l : List Int} {a : Int} (h : chk l = 0) (ha : ¬ (0 ≤ a ∧ a < 2 ^ l.length)) : fails l a = ([], 2) := by unfold fails; rw [if_pos h, if_neg ha]
theorem fails_no {l : List Int} {a : Int} (h : chk l = 36) : fails l a = ([], 36) := by unfold fails; rw [if_neg (by omega)]
theorem score_ok {l : List Int} {a : Int} (h : chk l = 0) (ha : 0 ≤ a ∧ a < 2 ^ l.length) : score l a = (total l (noes a l.length), 0) := by unfold score; rw [if_pos h, if_pos ha]
theorem score_arg {l : List Int} {a : Int} (h : chk l = 0) (ha : ¬ (0 ≤ a ∧ a < 2 ^ l.length)) : score l a = (0, 2) := by unfold score; rw [if_pos h, if_neg ha]
theorem score_no {l : List Int} {a : Int} (h : chk l = 36) : score l a = (0, 36) := by unfold score; rw [if_neg (by omega)]
theorem qScore (l : List Int) (hl : l.length ≤ 100) (a : Int) (k : Nat) (hk : l.length + 2 ≤ k) : quiz_Score.f k l a = some (score l a) := by
  unfold quiz_Score.f
  rw [qFailed l hl a k hk]
  rcases chk_cases l with h | h
  · by_cases ha : 0 ≤ a ∧ a < 2 ^ l.length
    · obtain ⟨h1, h2, h3⟩ := chk_zero h
      have hn := noes_len a l.length
      have e := qScore_l l (noes a l.length) h3 (noes_inR _ _) (by omega) (noes a l.length).length k 0 0 (by omega) (by omega) (by omega) (by omega)
      rw [fails_ok h ha, score_ok h ha]
      simpa using e
    · rw [fails_arg h ha, score_arg h ha]; rfl
  · rw [fails_no h, score_no h]; rfl
theorem rScore (l : List Int) (hl : l.length ≤ 100) (a : Int) (ha' : a < 9223372036854775808) (k : Nat) (hk : l.length + 2 ≤ k) : backhaulref16_Score.f k l a = some (score l a) := by
  unfold backhaulref16_Score.f
  rw [rFailed l hl a ha' k hk]
  obtain ⟨k, rfl⟩ : ∃ m, k = m + 1 := ⟨k - 1, by omega⟩
  rcases chk_cases l with h | h
  · by_cases ha : 0 ≤ a ∧ a < 2 ^ l.length
    · obtain ⟨h1, h2, h3⟩ := chk_zero h
      have hn := noes_len a l.length
      have e := rScore_l l (noes a l.length) 0 h3 (noes_inR _ _) (by omega) (noes a l.length).length (k + 1) 0 0 (by omega) (by omega) (by omega) (by omega)
      rw [fails_ok h ha, score_ok h ha]
      simpa using e
    · rw [fails_arg h ha, score_arg h ha]; simp [backhaulref16_Score.l0]
  · rw [fails_no h, score_no h]; simp [backhaulref16_Score.l0]

/-! ### the worst score -/
def worst (l : List Int) : Int := if chk l = 0 then total l (noes 0 l.length) else 0
theorem qWorst (l : List Int) (hl : l.length ≤ 100) (k : Nat) (hk : l.length + 2 ≤ k) : quiz_Worst.f k l = some (worst l) := by
  unfold quiz_Worst.f worst
  rw [qScore l hl 0 k hk]
  rcases chk_cases l with h | h
  · obtain ⟨h1, h2, h3⟩ := chk_zero h
    have := pow_le l.length h2
    rw [score_ok h ⟨by omega, by omega⟩, if_pos h]; rfl
  · rw [score_no h, if_neg (by omega)]; rfl
theorem nb_zero (i : Nat) (h : i < 8) : nb 0 (i : Int) = true := by
  have := nb_small 0 (by omega) i h
  simpa using this
theorem total_noes_succ (l : List Int) (a : Int) (n : Nat) : total l (noes a (n + 1)) = total l (noes a n) + (if nb a n = true then rd l (n : Int) else 0) := by
  rw [noes_succ, total_append]
  split <;> simp [total]
theorem rWorst_l (l : List Int) (hl : l.length ≤ 8) (hc : chk l = 0) (d : Nat) : ∀ (k i : Nat), i + d = l.length → d + l.length + 3 ≤ k → 
    backhaulref16_Worst.l0 k l (total l (noes 0 i)) (i : Int) = some (total l (noes 0 l.length)) := by
  obtain ⟨h1, h2, h3⟩ := chk_zero hc
  induction d with
  | zero =>
    intro k i he hk
    obtain ⟨k, rfl⟩ : ∃ m, k = m + 1 := ⟨k - 1, by omega⟩
    obtain rfl : i = l.length := by omega
    simp only [backhaulref16_Worst.l0]
    rw [if_neg (by omega)]
  | succ d ih =>
    intro k i he hk
    obtain ⟨k, rfl⟩ : ∃ m, k = m + 1 := ⟨k - 1, by omega⟩
    have h := ih k (i + 1) (by omega) (by omega)
    have hb := total_bd h3 (noes 0 i) (fun x hx => by have := noes_inR 0 i x hx; omega)
    have hn := noes_len 0 i
    have hr := rd_bd h3 (i : Int) (by omega) (by omega)
    simp only [backhaulref16_Worst.l0]
    rw [if_pos (by omega), rCheck l (by omega) k (by omega), hc]
    simp only [Option.bind_some, if_true]
    rw [if_pos (by omega), w64 (x := total l (noes 0 i) + _) (by omega) (by omega), w64 (by omega) (by omega)]
    rw [total_noes_succ, nb_zero i (by omega), if_pos rfl] at h
    exact h
theorem rWorst (l : List Int) (hl : l.length ≤ 100) (k : Nat) (hk : 2 * l.length + 3 ≤ k) : backhaulref16_Worst.f k l = some (worst l) := by
  unfold backhaulref16_Worst.f worst
  rcases chk_cases l with h | h
  · obtain ⟨h1, h2, h3⟩ := chk_zero h
    rw [if_pos h]
    exact rWorst_l l h2 h l.length k 0 (by omega) (by omega)
  · rw [if_neg (by omega)]
    obtain ⟨k, rfl⟩ : ∃ m, k = m + 1 := ⟨k - 1, by omega⟩
    simp only [backhaulref16_Worst.l0]
    by_cases h0 : (0 : Int) < l.length
    · rw [if_pos h0, rCheck l hl k (by omega), h]; rfl
    · rw [if_neg h0]

/-! ### answers out of noes -/
def vals (n : Nat) : Int → List Int → Option Int
  | _, [] => some 0
  | last, f :: r => if f ≤ last ∨ (n : Int) ≤ f then none else (vals n f r).map fun t => 2 ^ f.toNat + t
def answers (l F : List Int) : Int × Int := if chk l = 0 then (match vals l.length (-1) F with | some t => (2 ^ l.length - 1 - t, 0) | none => (0, 2)) else (0, 36)
theorem andNot_nat : ∀ n : Nat, n ≤ 8 → ∀ f : Nat, f < n → ∀ T : Nat, T < 2 ^ f → bits .andNot .i64 ((2 ^ n - 1 - T : Nat) : Int) ((2 ^ f : Nat) : Int) = ((2 ^ n - 1 - T - 2 ^ f : Nat) : Int) := by decide +kernel
theorem shl_nat : ∀ f : Nat, f < 9 → shl .i64 1 (f : Int) = ((2 ^ f : Nat) : Int) := by decide +kernel
theorem pow_mono {i j : Nat} (h : i ≤ j) : (2 : Nat) ^ i ≤ 2 ^ j := Nat.pow_le_pow_right (by omega) h
theorem pow_up (n : Nat) : (2 : Nat) ^ (n + 1) = 2 * 2 ^ n := by rw [Nat.pow_succ]; omega
theorem qAnswers_l (l F : List Int) (hl : l.length ≤ 8) (hF : F.length ≤ 100) (d : Nat) : ∀ (k i T : Nat) (last : Int), i + d = F.length → d < k → -1 ≤ last → last < l.length → T < 2 ^ (last + 1).toNat →
    quiz_Answers.l0 k l ((2 ^ l.length - 1 - T : Nat) : Int) last F (F.length : Int) (i : Int) = some (match vals l.length last (F.drop i) with | some t => (2 ^ l.length - 1 - (T : Int) - t, 0) | none => (0, 2)) := by
  induction d with
  | zero =>
    intro k i T last he hk h0 h1 hT
    obtain ⟨k, rfl⟩ : ∃ m, k = m + 1 := ⟨k - 1, by omega⟩
    have hm := pow_mono (show (last + 1).toNat ≤ l.length by omega)
    have hc := pow_cast l.length
    simp only [quiz_Answers.l0]
    rw [if_neg (by omega), List.drop_of_length_le (by omega)]
    simp only [vals, Int.sub_zero]
    congr 2
    omega
  | succ d ih =>
    intro k i T last he hk h0 h1 hT
    obtain ⟨k, rfl⟩ : ∃ m, k = m + 1 := ⟨k - 1, by omega⟩
    simp only [quiz_Answers.l0]
    rw [if_pos (by omega), if_pos (by omega), if_pos (by omega), rd_nat, drop_at F i (by omega), w64 (x := (i : Int) + 1) (by omega) (by omega)]
    generalize F.getD i 0 = f
    by_cases e1 : f ≤ last
    · rw [if_pos e1]; simp only [vals]; rw [if_pos (.inl e1)]
    rw [if_neg e1]
    by_cases e2 : f ≥ (l.length : Int)
    · rw [if_pos e2]; simp only [vals]; rw [if_pos (.inr e2)]
    rw [if_neg e2, if_pos (by omega)]
    obtain ⟨g, rfl⟩ := Int.eq_ofNat_of_zero_le (by omega : 0 ≤ f)
    have hm := pow_mono (show (last + 1).toNat ≤ g by omega)
    have hu := pow_up g
    have hg : (2 : Nat) ^ (g + 1) ≤ 2 ^ l.length := pow_mono (by omega)
    have e3 := andNot_nat l.length hl g (by omega) T (by omega)
    have e4 : Go.bits .andNot .i64 ((2 ^ l.length - 1 - T : Nat) : Int) (shl .i64 1 (g : Int)) = ((2 ^ l.length - 1 - (T + 2 ^ g) : Nat) : Int) := by
      rw [shl_nat g (by omega), e3]
      congr 1
      omega
    have h := ih k (i + 1) (T + 2 ^ g) (g : Int) (by omega) (by omega) (by omega) (by omega) (by rw [show ((g : Int) + 1).toNat = g + 1 by omega]; omega)
    rw [e4]
    refine h.trans ?_
    simp only [vals]
    rw [if_neg (by omega)]
    have hp := pow_cast g
    cases hv : vals l.length (g : Int) (F.drop (i + 1)) with
    | none => rfl
    | some t =>
      simp only [Option.map_some, Int.toNat_natCast]
      congr 2
      omega
theorem qAnswers (l F : List Int) (hl : l.length ≤ 100) (hF : F.length ≤ 100) (k : Nat) (hk : l.length + 2 ≤ k) (hk' : F.length + 2 ≤ k) : quiz_Answers.f k l F = some (answers l F) := by
  unfold quiz_Answers.f answers
  rw [qCheck l hl k hk]
  rcases chk_cases l with h | h
  · obtain ⟨h1, h2, h3⟩ := chk_zero h
    have hp := pow_le l.length h2
    have hc := pow_cast l.length
    have e := qAnswers_l l F h2 hF F.length k 0 0 (-1) (by omega) (by omega) (by omega) (by omega) (by simp)
    have e1 : wrap64 ((shl .i64 1 (l.length : Int)) - 1) = ((2 ^ l.length - 1 - 0 : Nat) : Int) := by
      rw [shl_nat l.length (by omega), w64 (by omega) (by omega)]
      omega
    simp only [Option.bind_some, h, if_true]
    rw [e1]
    simpa using e
  · simp [h]
theorem rAnswers_l1 (l F : List Int) (hl : l.length ≤ 8) (hF : F.length ≤ 100) (d : Nat) : ∀ (k i c : Nat) (x t : Int), i + d = l.length → d < k → c ≤ F.length → 0 ≤ x → x ≤ ((2 ^ i : Nat) : Int) → vals l.length ((i : Int) - 1) (F.drop c) = some t →
    backhaulref16_Answers.l1 k l F x ((2 ^ i : Nat) : Int) (c : Int) (i : Int) = some (x + ((2 ^ l.length : Nat) : Int) - ((2 ^ i : Nat) : Int) - t, 0) := by
  induction d with
  | zero =>
    intro k i c x t he hk hc h0 h1 hv
    obtain ⟨k, rfl⟩ : ∃ m, k = m + 1 := ⟨k - 1, by omega⟩
    obtain rfl : i = l.length := by omega
    have ht : t = 0 := by
      cases hd : F.drop c with
      | nil => rw [hd] at hv; simp [vals] at hv; omega
      | cons f r => rw [hd] at hv; simp only [vals] at hv; rw [if_pos (by omega)] at hv; simp at hv
    simp only [backhaulref16_Answers.l1]
    rw [if_neg (by omega)]
    congr 2
    omega
  | succ d ih =>
    intro k i c x t he hk hc h0 h1 hv
    obtain ⟨k, rfl⟩ : ∃ m, k = m + 1 := ⟨k - 1, by omega⟩
    have hu := pow_up i
    have hg : (2 : Nat) ^ (i + 1) ≤ 2 ^ 8 := pow_mono (by omega)
    have ww : wrap64 (2 * ((2 ^ i : Nat) : Int)) = ((2 ^ (i + 1) : Nat) : Int) := by rw [w64 (by omega) (by omega)]; omega
    simp only [backhaulref16_Answers.l1]
    rw [if_pos (by omega), ww, w64 (x := (i : Int) + 1) (by omega) (by omega), w64 (x := x + _) (by omega) (by omega)]
    by_cases hcl : c < F.length
    · rw [if_pos (by omega), if_pos (by omega), rd_nat, w64 (x := (c : Int) + 1) (by omega) (by omega)]
      rw [drop_at F c hcl] at hv
      have hcopy := hv
      simp only [vals] at hv
      by_cases hq : F.getD c 0 ≤ (i : Int) - 1 ∨ (l.length : Int) ≤ F.getD c 0
      · rw [if_pos hq] at hv; simp at hv
      rw [if_neg hq] at hv
      by_cases he1 : F.getD c 0 = (i : Int)
      · rw [if_pos he1]
        rw [he1] at hv
        cases hv2 : vals l.length (i : Int) (F.drop (c + 1)) with
        | none => rw [hv2] at hv; simp at hv
        | some t' =>
          rw [hv2] at hv
          simp only [Option.map_some, Option.some.injEq, Int.toNat_natCast] at hv
          have hp := pow_cast i
          have h := ih k (i + 1) (c + 1) x t' (by omega) (by omega) (by omega) h0 (by omega) (by rw [show ((i + 1 : Nat) : Int) - 1 = i by omega]; exact hv2)
          refine h.trans ?_
          congr 2
          omega
      · rw [if_neg he1]
        have h := ih k (i + 1) c (x + ((2 ^ i : Nat) : Int)) t (by omega) (by omega) hc (by omega) (by omega) (by
          rw [show ((i + 1 : Nat) : Int) - 1 = i by omega, drop_at F c hcl]
          simp only [vals] at hcopy ⊢
          rw [if_neg hq] at hcopy
          rw [if_neg (by omega)]
          exact hcopy)
        refine h.trans ?_
        congr 2
        omega
    · rw [if_neg (by omega)]
      have hd : F.drop c = [] := List.drop_of_length_le (by omega)
      have h := ih k (i + 1) c (x + ((2 ^ i : Nat) : Int)) t (by omega) (by omega) hc (by omega) (by omega) (by rw [hd] at hv ⊢; exact hv)
      refine h.trans ?_
      congr 2
      omega
theorem rAnswers_l0 (l F : List Int) (hl : l.length ≤ 8) (hF : F.length ≤ 100) (d : Nat) : ∀ (k i : Nat) (last : Int), i + d = F.length → d + l.length + 2 ≤ k → -1 ≤ last → (i = 0 → last = -1) → (0 < i → last = F.getD (i - 1) 0) →
    (∃ k', l.length < k' ∧ (vals l.length last (F.drop i)).isSome = true ∧ backhaulref16_Answers.l0 k l F (i : Int) = backhaulref16_Answers.l1 k' l F 0 1 0 0) ∨ (vals l.length last (F.drop i) = none ∧ backhaulref16_Answers.l0 k l F (i : Int) = some (0, 2)) := by
  induction d with
  | zero =>
    intro k i last he hk h0 h1 h2
    obtain ⟨k, rfl⟩ : ∃ m, k = m + 1 := ⟨k - 1, by omega⟩
    refine .inl ⟨k, by omega, ?_, ?_⟩
    · rw [List.drop_of_length_le (by omega)]; rfl
    · simp only [backhaulref16_Answers.l0]; rw [if_neg (by omega)]
  | succ d ih =>
    intro k i last he hk h0 h1 h2
    obtain ⟨k, rfl⟩ : ∃ m, k = m + 1 := ⟨k - 1, by omega⟩
    simp only [backhaulref16_Answers.l0]
    rw [if_pos (by omega), if_pos (by omega), rd_nat, drop_at F i (by omega), w64 (x := (i : Int) + 1) (by omega) (by omega)]
    have hn := ih k (i + 1) (F.getD i 0) (by omega) (by omega)
    rw [show i + 1 - 1 = i by omega] at hn
    simp only [vals]
    generalize F.getD i 0 = f at hn ⊢
    by_cases e1 : f < 0
    · rw [if_pos e1, if_pos (by omega)]; exact .inr ⟨rfl, rfl⟩
    rw [if_neg e1]
    by_cases e2 : f ≥ (l.length : Int)
    · rw [if_pos e2, if_pos (.inr e2)]; exact .inr ⟨rfl, rfl⟩
    rw [if_neg e2]
    by_cases e3 : 0 < i
    · rw [if_pos (show (i : Int) > 0 by omega), if_pos (show 0 ≤ wrap64 ((i : Int) - 1) by rw [w64 (by omega) (by omega)]; omega), if_pos (show wrap64 ((i : Int) - 1) < (F.length : Int) by rw [w64 (by omega) (by omega)]; omega)]
      have e4 : rd F (wrap64 ((i : Int) - 1)) = last := by
        rw [w64 (by omega) (by omega), show (i : Int) - 1 = ((i - 1 : Nat) : Int) by omega, rd_nat, h2 e3]
      rw [e4]
      by_cases e5 : f ≤ last
      · rw [if_pos e5, if_pos (.inl e5)]; exact .inr ⟨rfl, rfl⟩
      · rw [if_neg e5, if_neg (by omega)]
        rcases hn (by omega) (by omega) (fun _ => rfl) with ⟨k', g1, g2, g3⟩ | ⟨g1, g2⟩
        · exact .inl ⟨k', g1, by simpa using g2, g3⟩
        · exact .inr ⟨by simp [g1], g2⟩
    · rw [if_neg (show ¬ (i : Int) > 0 by omega)]
      have := h1 (by omega)
      rw [if_neg (by omega)]
      rcases hn (by omega) (by omega) (fun _ => rfl) with ⟨k', g1, g2, g3⟩ | ⟨g1, g2⟩
      · exact .inl ⟨k', g1, by simpa using g2, g3⟩
      · exact .inr ⟨by simp [g1], g2⟩
theorem rAnswers (l F : List Int) (hl : l.length ≤ 100) (hF : F.length ≤ 100) (k : Nat) (hk : l.length + F.length + 4 ≤ k) : backhaulref16_Answers.f k l F = some (answers l F) := by
  unfold backhaulref16_Answers.f answers
  rw [rCheck l hl k (by omega)]
  rcases chk_cases l with h | h
  · obtain ⟨h1, h2, h3⟩ := chk_zero h
    simp only [Option.bind_some, h, if_true]
    rcases rAnswers_l0 l F h2 hF F.length k 0 (-1) (by omega) (by omega) (by omega) (fun _ => rfl) (fun h => by omega) with ⟨k', g1, g2, g3⟩ | ⟨g1, g2⟩
    · obtain ⟨t, ht⟩ := Option.isSome_iff_exists.1 g2
      have e := rAnswers_l1 l F h2 hF l.length k' 0 0 0 t (by omega) (by omega) (by omega) (by omega) (by simp) (by simpa using ht)
      have hp := pow_cast l.length
      rw [List.drop_zero] at ht
      rw [ht]
      refine g3.trans ?_
      refine Eq.trans (by simpa using e) ?_
      congr 2
    · rw [List.drop_zero] at g1
      rw [g1]
      exact g2
  · simp [h]

theorem aw (k : Nat) (h : 20 ≤ k) : backhaullaw16_awake.f k = some true := at_rounds backhaullaw16_awake.mono h (by decide +kernel)
theorem u64w {x : Int} (h : 0 ≤ x) (h' : x < 18446744073709551616) : IntKind.u64.wrap x = x := by
  simp [IntKind.wrap, IntKind.bits, IntKind.signed]
  omega
theorem noes_all : ∀ n : Nat, n ≤ 8 → noes ((2 ^ n - 1 : Nat) : Int) n = [] := by decide +kernel
theorem total_le {l : List Int} (h : l.any bad = false) (h8 : l.length ≤ 8) (a : Int) (n : Nat) (hn : n ≤ l.length) : 0 ≤ total l (noes a n) ∧ total l (noes a n) ≤ total l (noes 0 n) := by
  induction n with
  | zero => simp [noes, total]
  | succ n ih =>
    have h1 := ih (by omega)
    have h2 := rd_bd h (n : Int) (by omega) (by omega)
    rw [total_noes_succ, total_noes_succ, nb_zero n (by omega), if_pos rfl]
    split <;> omega
/-- Any answers come back of their noes. -/
theorem back_nat : ∀ n : Nat, n ≤ 8 → ∀ a : Nat, a < 2 ^ n → vals n (-1) (noes (a : Int) n) = some ((2 ^ n - 1 - a : Nat) : Int) := by decide +kernel
theorem answers_back {l : List Int} {a : Int} (h : chk l = 0) (ha : 0 ≤ a ∧ a < 2 ^ l.length) : answers l (noes a l.length) = (a, 0) := by
  obtain ⟨h1, h2, h3⟩ := chk_zero h
  obtain ⟨n, rfl⟩ := Int.eq_ofNat_of_zero_le ha.1
  have hc := pow_cast l.length
  have e := back_nat l.length h2 n (by omega)
  unfold answers
  rw [if_pos h, e]
  simp only
  congr 1
  omega
/-- One more no. -/
theorem more_nat : ∀ a : Nat, a < 256 → ∀ t : Nat, t < 8 → a / 2 ^ t % 2 = 1 → ∀ i : Nat, i < 8 → ((a - 2 ^ t) / 2 ^ i % 2 = 0) = (a / 2 ^ i % 2 = 0 ∨ i = t) := by
  intro a ha t ht h i hi
  have e : ∀ a : Nat, a < 256 → ∀ t : Nat, t < 8 → a / 2 ^ t % 2 = 1 → ∀ i : Nat, i < 8 → decide ((a - 2 ^ t) / 2 ^ i % 2 = 0) = (decide (a / 2 ^ i % 2 = 0) || decide (i = t)) := by decide +kernel
  have := e a ha t ht h i hi
  rw [Bool.eq_iff_iff] at this
  simp at this
  exact propext (by simpa using this)
theorem total_more {l : List Int} (a t : Nat) (ha : a < 256) (ht : t < 8) (h : a / 2 ^ t % 2 = 1) (n : Nat) (hn : n ≤ 8) : total l (noes ((a - 2 ^ t : Nat) : Int) n) = total l (noes (a : Int) n) + (if t < n then rd l (t : Int) else 0) := by
  induction n with
  | zero => simp [noes, total]
  | succ n ih =>
    have h1 := ih (by omega)
    have hm := more_nat a ha t ht h n (by omega)
    rw [total_noes_succ, total_noes_succ, h1, nb_small a ha n (by omega), nb_small (a - 2 ^ t) (Nat.lt_of_le_of_lt (Nat.sub_le _ _) ha) n (by omega)]
    by_cases hq : n = t
    · subst hq
      rw [if_neg (Nat.lt_irrefl _), decide_eq_true (by rw [hm]; exact .inr rfl), if_pos rfl, decide_eq_false (by omega), if_pos (Nat.lt_succ_self _)]
      simp
    · have : decide ((a - 2 ^ t) / 2 ^ n % 2 = 0) = decide (a / 2 ^ n % 2 = 0) := by
        rw [Bool.eq_iff_iff]; simp only [decide_eq_true_eq]; rw [hm]; simp [hq]
      rw [this]
      generalize (if decide (a / 2 ^ n % 2 = 0) = true then rd l (n : Int) else 0) = z
      by_cases hlt : t < n
      · rw [if_pos hlt, if_pos (by omega)]; omega
      · rw [if_neg hlt, if_neg (by omega)]; omega
end Go.Proofs.Ytpoafdckkmecnaa.QuizPlain
