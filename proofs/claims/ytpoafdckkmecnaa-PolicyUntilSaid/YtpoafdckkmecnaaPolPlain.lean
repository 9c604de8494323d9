/- What the functions of the packages policy and backhaulref20 compute, in closed form, and that both agree: plain laws over whole numbers, no program in sight. Conditions: as each says. -/
import Derived.Test.YtpoafdckkmecnaaPPolx
namespace Go.Proofs.Ytpoafdckkmecnaa.PPol
open Go.RowKit Go.Proofs.YtpoafdckkmecnaaW.PrintWords Go.Proofs.YtpoafdckkmecnaaW.PrintLast Go.Proofs.YtpoafdckkmecnaaW.PrintMore

def okI (a b c d : Int) : Bool := decide ((1 ≤ a ∧ a ≤ 999999) ∧ (1 ≤ b ∧ b ≤ 999999) ∧ (0 ≤ c ∧ c ≤ 1000000) ∧ (0 ≤ d ∧ d ≤ 1000000))
def tI (t : Int) : Bool := decide (0 ≤ t ∧ t ≤ 1000000)
def top (t : Int) : Int := if t > 1000000 then 1000000 else t

theorem w64 {x : Int} (h : -9223372036854775808 ≤ x) (h' : x ≤ 9223372036854775807) : wrap64 x = x := by unfold wrap64; omega
theorem pTime (t : Int) : policy_Time.f t = some (tI t) := by
  unfold policy_Time.f policy_span_has.f tI
  by_cases h : 0 ≤ t <;> simp [h]
theorem rTime (t : Int) : backhaulref20_Time.f t = some (tI t) := by
  unfold backhaulref20_Time.f tI
  by_cases h : 0 ≤ t <;> simp [h]
theorem pCheck (a b c d : Int) : policy_Check.f a b c d = some (if okI a b c d = true then 0 else 2) := by
  unfold policy_Check.f okI
  simp
theorem okI_true {a b c d : Int} (h : okI a b c d = true) : (1 ≤ a ∧ a ≤ 999999) ∧ (1 ≤ b ∧ b ≤ 999999) ∧ (0 ≤ c ∧ c ≤ 1000000) ∧ (0 ≤ d ∧ d ≤ 1000000) := of_decide_eq_true h
theorem tI_true {t : Int} (h : tI t = true) : 0 ≤ t ∧ t ≤ 1000000 := of_decide_eq_true h
theorem okI_eq (a b c d : Int) : okI a b c d = (decide (1 ≤ a) && (decide (a ≤ 999999) && (decide (1 ≤ b) && (decide (b ≤ 999999) && (tI c && tI d))))) := by
  unfold okI tI
  rw [Bool.eq_iff_iff]
  simp
  omega
theorem rCheck (a b c d : Int) : backhaulref20_Check.f a b c d = some (if okI a b c d = true then 0 else 2) := by
  unfold backhaulref20_Check.f
  rw [okI_eq]
  by_cases h1 : a < 1
  · rw [if_pos h1, decide_eq_false (by omega : ¬ 1 ≤ a)]; rfl
  rw [if_neg h1, decide_eq_true (by omega : 1 ≤ a)]
  by_cases h2 : a > 999999
  · rw [if_pos h2, decide_eq_false (by omega : ¬ a ≤ 999999)]; rfl
  rw [if_neg h2, decide_eq_true (by omega : a ≤ 999999)]
  by_cases h3 : b < 1
  · rw [if_pos h3, decide_eq_false (by omega : ¬ 1 ≤ b)]; rfl
  rw [if_neg h3, decide_eq_true (by omega : 1 ≤ b)]
  by_cases h4 : b > 999999
  · rw [if_pos h4, decide_eq_false (by omega : ¬ b ≤ 999999)]; rfl
  rw [if_neg h4, decide_eq_true (by omega : b ≤ 999999), rTime, rTime]
  cases tI c <;> cases tI d <;> rfl
theorem mn_top {x : Int} : mn x 1000000 = top x := by unfold mn top; by_cases h : 1000000 < x <;> simp [h]
theorem pUntil (a b c d s : Int) : policy_Until.f a b c d s = some (if okI a b c d = true ∧ tI s = true then (top (s + c), top (s + d), 0) else (0, 0, 2)) := by
  unfold policy_Until.f
  rw [pCheck, pTime]
  cases h : okI a b c d
  · rfl
  cases h' : tI s
  · rfl
  have h1 := okI_true h
  have h2 := tI_true h'
  simp only [Option.bind_some, if_true, and_self]
  rw [w64 (by omega) (by omega), w64 (by omega) (by omega), mn_top, mn_top]
theorem rTop (t : Int) : backhaulref20_top.f t = some (top t) := by unfold backhaulref20_top.f top; split <;> rfl
theorem rUntil (a b c d s : Int) : backhaulref20_Until.f 1 a b c d s = some (if okI a b c d = true ∧ tI s = true then (top (s + c), top (s + d), 0) else (0, 0, 2)) := by
  unfold backhaulref20_Until.f
  rw [rCheck, rTime]
  cases h : okI a b c d
  · rfl
  cases h' : tI s
  · rfl
  have h1 := okI_true h
  have h2 := tI_true h'
  simp only [Option.bind_some, if_true, and_self, Bool.not_true, backhaulref20_Until.j0]
  rw [w64 (by omega) (by omega), w64 (by omega) (by omega), rTop, rTop]
  rfl
def pass (s n : Int) : Int × Int := if tI s = true ∧ tI n = true then (if s + n > 1000000 then (0, 39) else (s + n, 0)) else (0, 2)
theorem pPass (s n : Int) : policy_Pass.f 1 s n = some (pass s n) := by
  unfold policy_Pass.f pass
  rw [pTime, pTime]
  cases h : tI s
  · rfl
  cases h' : tI n
  · rfl
  have h1 := tI_true h
  have h2 := tI_true h'
  simp only [Option.bind_some, if_true, and_self, Bool.not_true, policy_Pass.j0]
  rw [w64 (by omega) (by omega)]
  by_cases h3 : s + n > 1000000
  · simp [h3]
  · simp [h3]
theorem rPass (s n : Int) : backhaulref20_Pass.f 1 s n = some (pass s n) := by
  unfold backhaulref20_Pass.f pass
  rw [rTime, rTime]
  cases h : tI s
  · rfl
  cases h' : tI n
  · rfl
  have h1 := tI_true h
  have h2 := tI_true h'
  simp only [Option.bind_some, if_true, and_self, Bool.not_true, backhaulref20_Pass.j0]
  rw [w64 (by omega) (by omega)]
  by_cases h3 : s + n > 1000000
  · simp [h3]
  · simp [h3]
def mayB (a b c d s n : Int) : Bool := okI a b c d && tI s && tI n && decide (s ≤ n)
theorem rMay (a b c d s n : Int) : backhaulref20_may.f a b c d s n = some (mayB a b c d s n) := by
  unfold backhaulref20_may.f mayB
  rw [rCheck, rTime, rTime]
  cases okI a b c d
  · rfl
  cases tI s
  · rfl
  cases tI n
  · rfl
  simp
theorem mayB_true {a b c d s n : Int} (h : mayB a b c d s n = true) : ((1 ≤ a ∧ a ≤ 999999) ∧ (1 ≤ b ∧ b ≤ 999999) ∧ (0 ≤ c ∧ c ≤ 1000000) ∧ (0 ≤ d ∧ d ≤ 1000000)) ∧ (0 ≤ s ∧ s ≤ 1000000) ∧ (0 ≤ n ∧ n ≤ 1000000) ∧ s ≤ n := by
  unfold mayB okI tI at h
  simp at h
  omega
def opn (a b c d s n : Int) : Bool := mayB a b c d s n && decide (n - s ≤ c)
def cov (a b c d s n : Int) : Bool := mayB a b c d s n && decide (n - s ≤ d)
theorem pOpen (a b c d s n : Int) : policy_Open.f a b c d s n = some (opn a b c d s n) := by
  unfold policy_Open.f opn mayB okI tI
  congr 1
  rw [Bool.eq_iff_iff]
  simp
  omega
theorem pCovered (a b c d s n : Int) : policy_Covered.f a b c d s n = some (cov a b c d s n) := by
  unfold policy_Covered.f cov mayB okI tI
  congr 1
  rw [Bool.eq_iff_iff]
  simp
  omega
theorem rOpen (a b c d s n : Int) : backhaulref20_Open.f a b c d s n = some (opn a b c d s n) := by
  unfold backhaulref20_Open.f opn
  rw [rMay]
  cases h : mayB a b c d s n
  · rfl
  have h1 := mayB_true h
  simp only [Option.bind_some, if_true, Bool.true_and]
  rw [w64 (by omega) (by omega)]
  congr 1
  rw [Bool.eq_iff_iff]
  simp
  omega
theorem rCovered (a b c d s n : Int) : backhaulref20_Covered.f a b c d s n = some (cov a b c d s n) := by
  unfold backhaulref20_Covered.f cov
  rw [rMay]
  cases h : mayB a b c d s n
  · rfl
  have h1 := mayB_true h
  simp only [Option.bind_some, if_true, Bool.true_and]
  rw [w64 (by omega) (by omega)]
  congr 1
  rw [Bool.eq_iff_iff]
  simp
  omega

/-- Up to the time that is told it is open, behind it not. -/
theorem opn_until {a b c d s n : Int} (h : okI a b c d = true) (h' : tI s = true) (h1 : s ≤ n) (h2 : n ≤ 1000000) : opn a b c d s n = decide (n ≤ top (s + c)) := by
  have e := tI_true h'
  have g := okI_true h
  have hn : tI n = true := by unfold tI; simp; omega
  unfold opn mayB
  rw [h, h', hn, decide_eq_true h1, Bool.eq_iff_iff]
  unfold top
  split <;> simp <;> omega
theorem cov_until {a b c d s n : Int} (h : okI a b c d = true) (h' : tI s = true) (h1 : s ≤ n) (h2 : n ≤ 1000000) : cov a b c d s n = decide (n ≤ top (s + d)) := by
  have e := tI_true h'
  have g := okI_true h
  have hn : tI n = true := by unfold tI; simp; omega
  unfold cov mayB
  rw [h, h', hn, decide_eq_true h1, Bool.eq_iff_iff]
  unfold top
  split <;> simp <;> omega
theorem opn_not {a b c d s n : Int} (h : ¬ (okI a b c d = true ∧ tI s = true)) : opn a b c d s n = false := by
  unfold opn mayB
  revert h
  cases okI a b c d <;> cases tI s <;> simp
theorem cov_not {a b c d s n : Int} (h : ¬ (okI a b c d = true ∧ tI s = true)) : cov a b c d s n = false := by
  unfold cov mayB
  revert h
  cases okI a b c d <;> cases tI s <;> simp
theorem opn_out {a b c d s n : Int} (h : n < s ∨ 1000000 < n) : opn a b c d s n = false := by
  unfold opn mayB tI
  simp
  omega
theorem cov_out {a b c d s n : Int} (h : n < s ∨ 1000000 < n) : cov a b c d s n = false := by
  unfold cov mayB tI
  simp
  omega
theorem top_ge {s c : Int} (h : 0 ≤ c) (h' : s ≤ 1000000) : s ≤ top (s + c) := by unfold top; split <;> omega
/-- What is open at a time is so at each one between. -/
theorem opn_between {a b c d s n m : Int} (h : opn a b c d s n = true) (h1 : s ≤ m) (h2 : m ≤ n) : opn a b c d s m = true := by
  unfold opn mayB okI tI at *
  simp at *
  omega
/-- A longer window isn't shut earlier. -/
theorem opn_longer {a b c d s n : Int} (h : opn a b c d s n = true) (hc : c < 1000000) : opn a b (c + 1) d s n = true := by
  unfold opn mayB okI tI at *
  simp at *
  omega
end Go.Proofs.Ytpoafdckkmecnaa.PPol
