/- What grade.Count and backhaulref17.Count compute, and that both agree; the counts together are the number of answers. Conditions: lists of at most 100. -/
import Derived.Test.YtokoipmbhohoiaaGradePlain
set_option linter.unusedVariables false
namespace Go.Proofs.Ytokoipmbhohoiaa.GradePlain
open Go.RowKit Go.Proofs.Ytokoipmbhohoiaa.PGrade Go.Proofs.YtokoipmbhohoiaaW.PrintWords Go.Proofs.YtokoipmbhohoiaaW.PrintLast Go.Proofs.YtokoipmbhohoiaaW.PrintMore

abbrev Q4 := Int × Int × Int × Int
def up (v : Q4) (g : Int) : Q4 := bump v.1 v.2.1 v.2.2.1 v.2.2.2 g
def cnt (l : List Int) (a b c : Int) : Nat → Int → Q4 → Q4
  | 0, _, v => v
  | d + 1, i, v => cnt l a b c d (i + 1) (up v (gr a b c (score l i).1))
theorem two_pow (n : Nat) (h : n ≤ 8) : (2 : Int) ^ n = ((2 ^ n : Nat) : Int) ∧ 2 ^ n ≤ 256 := by
  refine ⟨(pow_cast n).symm, ?_⟩
  have := Nat.pow_le_pow_right (n := 2) (by omega) h
  simpa using this
theorem qCount_l (l : List Int) (a b c : Int) (hc : chk l = 0) (ho : okc a b c) (d : Nat) : ∀ (k : Nat) (i : Nat) (v : Q4), i + d = 2 ^ l.length → d + 20 ≤ k → 
    grade_Count.l0 k l [a, b, c] (2 ^ l.length) (i : Int) v.1 v.2.1 v.2.2.1 v.2.2.2 = some ((cnt l a b c d (i : Int) v).1, (cnt l a b c d (i : Int) v).2.1, (cnt l a b c d (i : Int) v).2.2.1, (cnt l a b c d (i : Int) v).2.2.2, 0) := by
  obtain ⟨h1, h8, _⟩ := chk_zero hc
  obtain ⟨hp, hq⟩ := two_pow l.length h8
  induction d with
  | zero =>
    intro k i v hi hk
    obtain ⟨k, rfl⟩ := Nat.exists_eq_succ_of_ne_zero (by omega : k ≠ 0)
    simp only [grade_Count.l0]
    rw [if_neg (by rw [hp]; omega)]
    rfl
  | succ d ih =>
    intro k i v hi hk
    obtain ⟨k, rfl⟩ := Nat.exists_eq_succ_of_ne_zero (by omega : k ≠ 0)
    have hs := score_ok (a := (i : Int)) hc ⟨by omega, by rw [hp]; omega⟩
    have wi : wrap64 ((i : Int) + 1) = ((i + 1 : Nat) : Int) := by unfold wrap64; omega
    have hg := gr_in a b c (score l i).1
    have he : (score l i).2 = 0 := by rw [hs]
    simp only [grade_Count.l0]
    rw [if_pos (by rw [hp]; omega), qScore l (by omega) i k (by omega)]
    simp only [Option.bind_some]
    rw [if_pos he, qOf a b c _ ho k (by omega)]
    simp only [Option.bind_some]
    rw [if_pos hg, wi]
    have := ih k (i + 1) (up v (gr a b c (score l i).1)) (by omega) (by omega)
    simp only [cnt]
    rw [show ((i : Int) + 1) = ((i + 1 : Nat) : Int) by omega]
    exact this
theorem rCount_l (l : List Int) (a b c : Int) (hc : chk l = 0) (ho : okc a b c) (d : Nat) : ∀ (k : Nat) (i : Nat) (v : Q4), i + d = 2 ^ l.length → d + 20 ≤ k → 
    backhaulref17_Count.l0 k l [a, b, c] (2 ^ l.length) (i : Int) v.1 v.2.1 v.2.2.1 v.2.2.2 = some ((cnt l a b c d (i : Int) v).1, (cnt l a b c d (i : Int) v).2.1, (cnt l a b c d (i : Int) v).2.2.1, (cnt l a b c d (i : Int) v).2.2.2, 0) := by
  obtain ⟨h1, h8, _⟩ := chk_zero hc
  obtain ⟨hp, hq⟩ := two_pow l.length h8
  induction d with
  | zero =>
    intro k i v hi hk
    obtain ⟨k, rfl⟩ := Nat.exists_eq_succ_of_ne_zero (by omega : k ≠ 0)
    simp only [backhaulref17_Count.l0]
    rw [if_neg (by rw [hp]; omega)]
    rfl
  | succ d ih =>
    intro k i v hi hk
    obtain ⟨k, rfl⟩ := Nat.exists_eq_succ_of_ne_zero (by omega : k ≠ 0)
    have hg := gr_in a b c (score l i).1
    have wi : wrap64 ((i : Int) + 1) = ((i + 1 : Nat) : Int) := by unfold wrap64; omega
    simp only [backhaulref17_Count.l0]
    rw [if_pos (by rw [hp]; omega), rScore l (by omega) i (by omega) k (by omega)]
    simp only [Option.bind_some]
    rw [rGrade a b c _ k (by omega)]
    simp only [Option.bind_some]
    rw [if_pos hg, wi]
    have := ih k (i + 1) (up v (gr a b c (score l i).1)) (by omega) (by omega)
    simp only [cnt]
    rw [show ((i : Int) + 1) = ((i + 1 : Nat) : Int) by omega]
    exact this
def cntv (l m : List Int) : Int × Int × Int × Int × Int := if chk l = 0 then (match m with | [a, b, c] => if okc a b c then (let v := cnt l a b c (2 ^ l.length) 0 (0, 0, 0, 0); (v.1, v.2.1, v.2.2.1, v.2.2.2, 0)) else (0, 0, 0, 0, 36) | _ => (0, 0, 0, 0, 36)) else (0, 0, 0, 0, 36)
theorem cntv_yes {l : List Int} {a b c : Int} (h : chk l = 0) (ho : okc a b c) : cntv l [a, b, c] = ((cnt l a b c (2 ^ l.length) 0 (0, 0, 0, 0)).1, (cnt l a b c (2 ^ l.length) 0 (0, 0, 0, 0)).2.1, (cnt l a b c (2 ^ l.length) 0 (0, 0, 0, 0)).2.2.1, (cnt l a b c (2 ^ l.length) 0 (0, 0, 0, 0)).2.2.2, 0) := by
  unfold cntv; rw [if_pos h]; simp only; rw [if_pos ho]
theorem cntv_no {l m : List Int} (h : chk l = 36 ∨ gchk m = 36) : cntv l m = (0, 0, 0, 0, 36) := by
  unfold cntv
  by_cases e : chk l = 0
  · rw [if_pos e]
    have g : gchk m = 36 := h.resolve_left (by omega)
    split
    · rename_i a b c
      by_cases o : okc a b c
      · rw [gchk_mk o] at g; simp at g
      · rw [if_neg o]
    · rfl
  · rw [if_neg e]
theorem qCount (l m : List Int) (hl : l.length ≤ 100) (k : Nat) (hk : 300 ≤ k) : grade_Count.f k l m = some (cntv l m) := by
  unfold grade_Count.f
  rw [qCheck l hl k (by omega)]
  rcases chk_cases l with h | h
  · obtain ⟨h1, h8, _⟩ := chk_zero h
    obtain ⟨hp, hq⟩ := two_pow l.length h8
    simp only [Option.bind_some]
    rw [h, if_pos rfl, qGChk m k (by omega)]
    simp only [Option.bind_some]
    rcases gchk_cases m with g | g
    · obtain ⟨a, b, c, rfl, ho⟩ := gchk_zero g
      rw [g, if_pos rfl, if_pos (by omega), cntv_yes h ho]
      exact qCount_l l a b c h ho (2 ^ l.length) k 0 (0, 0, 0, 0) (by omega) (by omega)
    · rw [g, if_neg (by decide), cntv_no (Or.inr g)]
  · simp only [Option.bind_some]
    rw [h, if_neg (by decide), cntv_no (Or.inl h)]
theorem rCount (l m : List Int) (hl : l.length ≤ 100) (k : Nat) (hk : 300 ≤ k) : backhaulref17_Count.f k l m = some (cntv l m) := by
  unfold backhaulref17_Count.f
  rw [rCheck l hl k (by omega)]
  rcases chk_cases l with h | h
  · obtain ⟨h1, h8, _⟩ := chk_zero h
    obtain ⟨hp, hq⟩ := two_pow l.length h8
    simp only [Option.bind_some]
    rw [h, if_pos rfl, rGChk m]
    simp only [Option.bind_some]
    rcases gchk_cases m with g | g
    · obtain ⟨a, b, c, rfl, ho⟩ := gchk_zero g
      rw [g, if_pos rfl, if_pos (by omega), cntv_yes h ho]
      exact rCount_l l a b c h ho (2 ^ l.length) k 0 (0, 0, 0, 0) (by omega) (by omega)
    · rw [g, if_neg (by decide), cntv_no (Or.inr g)]
  · simp only [Option.bind_some]
    rw [h, if_neg (by decide), cntv_no (Or.inl h)]
def pos4 (v : Q4) : Prop := 0 ≤ v.1 ∧ 0 ≤ v.2.1 ∧ 0 ≤ v.2.2.1 ∧ 0 ≤ v.2.2.2
def sum4 (v : Q4) : Int := v.1 + v.2.1 + v.2.2.1 + v.2.2.2
theorem up_sum (v : Q4) (g : Int) (hp : pos4 v) (hs : sum4 v ≤ 1000) : pos4 (up v g) ∧ sum4 (up v g) = sum4 v + 1 := by
  obtain ⟨x, y, z, u⟩ := v
  unfold pos4 sum4 up bump at *
  simp only at *
  have a1 : wrap64 (x + 1) = x + 1 := w64 (by omega) (by omega)
  have a2 : wrap64 (y + 1) = y + 1 := w64 (by omega) (by omega)
  have a3 : wrap64 (z + 1) = z + 1 := w64 (by omega) (by omega)
  have a4 : wrap64 (u + 1) = u + 1 := w64 (by omega) (by omega)
  rw [a1, a2, a3, a4]
  repeat' split
  all_goals (simp only; omega)
theorem cnt_sum (l : List Int) (a b c : Int) (d : Nat) : ∀ (i : Int) (v : Q4), pos4 v → sum4 v + d ≤ 1000 → pos4 (cnt l a b c d i v) ∧ sum4 (cnt l a b c d i v) = sum4 v + d := by
  induction d with
  | zero => intro i v hp _; exact ⟨hp, by simp [cnt]⟩
  | succ d ih =>
    intro i v hp hs
    obtain ⟨p, q⟩ := up_sum v (gr a b c (score l i).1) hp (by omega)
    obtain ⟨p2, q2⟩ := ih (i + 1) _ p (by omega)
    simp only [cnt]
    exact ⟨p2, by omega⟩
end Go.Proofs.Ytokoipmbhohoiaa.GradePlain
