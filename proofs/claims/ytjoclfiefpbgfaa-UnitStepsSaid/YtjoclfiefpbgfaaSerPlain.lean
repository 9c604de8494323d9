/- What serial.Check and backhaulref01.Check answer, as one closed form: plain laws. Conditions: as each says. -/
import Derived.Test.YtjoclfiefpbgfaaPM0
namespace Go.Proofs.Ytjoclfiefpbgfaa.SerPlain
open Go.RowKit Go.Proofs.Ytjoclfiefpbgfaa.PUnit Go.Proofs.YtjoclfiefpbgfaaW.PrintWords Go.Proofs.YtjoclfiefpbgfaaW.PrintLast Go.Proofs.YtjoclfiefpbgfaaW.PrintMore

theorem leO_add {α : Type} (g : Nat → Option α) (h : ∀ k, LeO (g k) (g (k + 1))) (a b : Nat) : LeO (g a) (g (a + b)) := by
  induction b with
  | zero => exact LeO.refl _
  | succ b ih => intro r hr; exact h _ _ (ih r hr)
theorem more {α : Type} {g : Nat → Option α} (h : ∀ k, LeO (g k) (g (k + 1))) {a k : Nat} {r : α} (hk : a ≤ k) (e : g a = some r) : g k = some r := by
  obtain ⟨b, rfl⟩ := Nat.exists_eq_add_of_le hk
  exact leO_add g h a b r e
def endsDash (s : ByteArray) : Bool := decide (1 ≤ s.size) && (bt s ((s.size : Int) - 1) == 45)
theorem suffix_f (s : ByteArray) (hs : s.size ≤ 140737488355328) : strings_HasSuffix.f s ⟨#[45]⟩ = some (endsDash s) := by
  unfold strings_HasSuffix.f stringslite_HasSuffix.f endsDash
  have e1 : ((⟨#[45]⟩ : ByteArray).size : Int) = 1 := rfl
  rw [e1]
  by_cases h : 1 ≤ s.size
  · have hw : wrap64 ((s.size : Int) - 1) = ((s.size - 1 : Nat) : Int) := by unfold wrap64; omega
    rw [if_pos (by omega), hw, if_pos (by omega), if_pos (by omega)]
    have e2 : (s.extract ((s.size - 1 : Nat) : Int).toNat s.size).toList = [s[s.size - 1]'(by omega)] := by
      rw [ByteArray.toList_eq]
      apply List.ext_getElem
      · simp; omega
      · intro i h1 h2
        simp at h2
        subst h2
        simp
        rfl
    rw [e2]
    have e3 : (⟨#[45]⟩ : ByteArray).toList = [45] := by rw [ByteArray.toList_eq]
    rw [e3]
    have e4 : bt s ((s.size : Int) - 1) = ((s[s.size - 1]'(by omega)).toNat : Int) := by
      rw [← bt_at s ((s.size : Int) - 1) (by omega)]
      congr 3
      omega
    rw [e4]
    simp only [Option.bind_some, Option.some.injEq]
    rw [decide_eq_true h, Bool.true_and]
    cases hb : ((((s[s.size - 1]'(by omega)).toNat : Int) == 45)) with
    | true =>
      have : s[s.size - 1]'(by omega) = 45 := by
        rw [beq_iff_eq] at hb
        exact UInt8.toNat_inj.1 (by show _ = 45; omega)
      rw [this]
      rfl
    | false =>
      have : s[s.size - 1]'(by omega) ≠ 45 := by
        intro e
        rw [e] at hb
        exact absurd hb (by decide)
      rw [beq_eq_false_iff_ne]
      intro e
      exact this (List.cons.inj e).1
  · rw [if_neg (by omega), decide_eq_false h]
    rfl
/-- May a text be a serial? -/
def okSer (s : ByteArray) : Bool := okS s (endsDash s)
def serE (s : ByteArray) : Int := if okSer s = true then 0 else 9
theorem check_f (s : ByteArray) (hs : s.size ≤ 200) : serial_Check.f s = some (serE s) := by
  unfold serial_Check.f
  rw [if_pos hs, suffix_f s (by omega)]
  rfl
theorem class_f (x : Int) (k : Nat) (hk : 5 ≤ k) : backhaulref01_Class.f k x = some (cls x) := by
  obtain ⟨k, rfl⟩ : ∃ m, k = m + 2 := ⟨k - 2, by omega⟩
  unfold cls backhaulref01_Class.f
  simp only [backhaulref01_Class.j0, backhaulref01_Class.j1]
  repeat' split
  all_goals (first | rfl | (simp at * <;> omega))
def upB (b : Int) : Int := if b ≥ 97 then (if b ≤ 122 then (b - 32) % 256 else b) else b
theorem upB_eq {b : Int} (h0 : 0 ≤ b) (h1 : b < 128) : upB b = upR b := by
  cases h : low b with
  | true => rw [upR_low h]; simp [low] at h; unfold upB; rw [if_pos h.1, if_pos h.2]; omega
  | false => rw [upR_not h]; simp [low] at h; unfold upB; by_cases hb : b ≥ 97; rw [if_pos hb, if_neg (by have := h hb; omega)]; rw [if_neg hb]
theorem cls_dash {b : Int} : cls b = 3 ↔ b = 45 := by
  unfold cls
  constructor
  · intro h
    repeat' split at h
    all_goals (first | omega | (exfalso; omega))
  · intro h
    subst h
    rfl
theorem bt_of (s : ByteArray) (i : Nat) (h : i < s.size) : bt s (i : Int) = ((s[i]'h).toNat : Int) := (bt_at s (i : Int) (by simpa using h)).symm
/-- The document's loop. -/
theorem fold_l (s : ByteArray) (hs : s.size ≤ 200) (d : Nat) : ∀ (k i : Nat) (c : Int) (acc : List Int), i + d = s.size → 2 * d + 7 ≤ k → acc.length ≤ i → (i = 0 → c = 3 ∧ bt s 0 ≠ 45) → (0 < i → c = cls (bt s ((i : Int) - 1))) →
    backhaulref01_Fold.l0 k s acc (i : Int) = some (if okL c ((bts s).drop i) = true then (strOfNums (acc ++ ((bts s).drop i).map upB), 0) else (⟨#[]⟩, 9)) := by
  induction d with
  | zero =>
    intro k i c acc hi hk _ _ _
    obtain ⟨k, rfl⟩ : ∃ m, k = m + 1 := ⟨k - 1, by omega⟩
    simp only [backhaulref01_Fold.l0]
    rw [if_neg (by omega), List.drop_eq_nil_of_le (by rw [bts_length]; omega)]
    simp [okL]
  | succ d ih =>
    intro k i c acc hi hk hacc hz hp
    have hlt : i < s.size := by omega
    obtain ⟨k, rfl⟩ : ∃ m, k = m + 2 := ⟨k - 2, by omega⟩
    have hw : wrap32 (bt s (i : Int)) = bt s (i : Int) := by
      have := bt_range s (i : Int)
      unfold wrap32
      omega
    have hb : bt s (i : Int) = ((s[i]'hlt).toNat : Int) := bt_of s i hlt
    have w1 : wrap64 ((i : Int) + 1) = ((i + 1 : Nat) : Int) := by unfold wrap64; omega
    have rest : ∀ x, x = upB (bt s (i : Int)) → backhaulref01_Fold.l0 k s (acc ++ [x]) ((i + 1 : Nat) : Int) = some (if okL (cls (bt s (i : Int))) ((bts s).drop (i + 1)) = true then (strOfNums (acc ++ (x :: ((bts s).drop (i + 1)).map upB)), 0) else (⟨#[]⟩, 9)) := by
      intro x hx
      rw [ih k (i + 1) (cls (bt s (i : Int))) (acc ++ [x]) (by omega) (by omega) (by simp; omega) (fun h => by omega) (fun _ => by congr 2; omega)]
      rw [List.append_assoc]
      rfl
    have tail : ∀ (f : Bool), okR (bt s (i : Int)) c = !f → backhaulref01_Fold.j2 (k + 1) s acc (i : Int) (bt s (i : Int)) f = some (if okL c ((bts s).drop i) = true then (strOfNums (acc ++ ((bts s).drop i).map upB), 0) else (⟨#[]⟩, 9)) := by
      intro f hf
      rw [bts_drop s i hlt, ← hb]
      simp only [backhaulref01_Fold.j2, okL, List.map_cons]
      cases f with
      | true => rw [if_pos rfl, hf]; rfl
      | false =>
        rw [if_neg (by decide), hf]
        simp only [Bool.not_false, Bool.true_and]
        have ha : acc.length < 140737488355328 := by omega
        have r := rest (upB (bt s (i : Int))) rfl
        rw [w1, ← r]
        simp only [if_pos ha]
        unfold upB
        by_cases h1 : bt s (i : Int) ≥ 97
        · rw [if_pos h1, if_pos h1]
          by_cases h2 : bt s (i : Int) ≤ 122
          · rw [if_pos h2, if_pos h2]
          · rw [if_neg h2, if_neg h2]
        · rw [if_neg h1, if_neg h1]
    simp only [backhaulref01_Fold.l0]
    rw [if_pos (by omega), if_pos (by omega), hw, class_f _ (k + 1) (by omega)]
    simp only [Option.bind_some]
    by_cases h0 : cls (bt s (i : Int)) = 0
    · rw [if_pos h0]
      exact tail true (by unfold okR; rw [h0]; rfl)
    · rw [if_neg h0]
      by_cases h45 : bt s (i : Int) = 45
      · rw [if_pos h45]
        have hi0 : 0 < i := by
          by_cases e : i = 0
          · subst e; exact absurd h45 (hz rfl).2
          · omega
        have w2 : wrap64 ((i : Int) - 1) = (i : Int) - 1 := by unfold wrap64; omega
        rw [w2, if_pos (by omega), if_pos (by omega)]
        refine tail _ ?_
        have hc := hp hi0
        unfold okR
        rw [cls_dash.2 h45, hc]
        cases e : (bt s ((i : Int) - 1) == 45) with
        | true => rw [cls_dash.2 (by simpa using e)]; rfl
        | false =>
          have : cls (bt s ((i : Int) - 1)) ≠ 3 := fun h => by rw [cls_dash.1 h] at e; exact absurd e (by decide)
          simp [this]
      · rw [if_neg h45]
        refine tail false ?_
        unfold okR
        have : cls (bt s (i : Int)) ≠ 3 := fun h => h45 (cls_dash.1 h)
        simp [h0, this]
theorem bts_strOfNums (l : List Int) (h : ∀ n ∈ l, 0 ≤ n ∧ n < 256) : bts (strOfNums l) = l := by
  rw [bts_data]
  unfold strOfNums
  simp
  conv => rhs; rw [← List.map_id l]
  apply List.map_congr_left
  intro n hn
  have := h n hn
  simp
  omega
theorem map_up_same (l : List Int) (hb : ∀ b ∈ l, 0 ≤ b ∧ b < 128) : l.map upB = l ↔ l.all (fun b => !low b) = true := by
  induction l with
  | nil => simp
  | cons x l ih =>
    have hx := hb x List.mem_cons_self
    have ih := ih (fun b h => hb b (List.mem_cons_of_mem _ h))
    rw [List.map_cons, List.all_cons, Bool.and_eq_true, ← ih, upB_eq hx.1 hx.2]
    cases h : low x with
    | true =>
      rw [upR_low h]
      constructor
      · intro e; exfalso; have := (List.cons.inj e).1; omega
      · intro e; exact absurd e.1 (by decide)
    | false =>
      rw [upR_not h]
      simp
theorem size_bts (s : ByteArray) : (bts s).length = s.size := bts_length s
/-- The document's Check, at a text of at most 200 bytes. -/
theorem rcheck_f (s : ByteArray) (hs : s.size ≤ 200) (k : Nat) (hk : 60 ≤ k) : backhaulref01_Check.f k s = some (serE s) := by
  obtain ⟨k, rfl⟩ : ∃ m, k = m + 1 := ⟨k - 1, by omega⟩
  have bad : okSer s = false → backhaulref01_Fold.f (k + 1) s = some (⟨#[]⟩, 9) → backhaulref01_Check.f (k + 1) s = some (serE s) := by
    intro h1 h2
    unfold backhaulref01_Check.f serE
    rw [h2, h1]
    rfl
  have nok : ∀ b, okSer s = b → (okL 3 (bts s) = false ∨ ¬ 1 ≤ s.size ∨ ¬ s.size ≤ 16 ∨ endsDash s = true) → b = false := by
    intro b hb h
    cases b with
    | false => rfl
    | true =>
      exfalso
      unfold okSer okS at hb
      simp only [Bool.and_eq_true, decide_eq_true_eq, Bool.not_eq_true'] at hb
      obtain ⟨a1, a2, a3, a4, a5⟩ := hb
      rcases h with h | h | h | h
      · rw [a1] at h; cases h
      · exact h a2
      · exact h a3
      · rw [a4] at h; cases h
  by_cases h1 : (s.size : Int) = 0
  · refine bad (nok _ rfl (.inr (.inl (by omega)))) ?_
    unfold backhaulref01_Fold.f
    rw [if_pos h1]
    rfl
  · by_cases h2 : (s.size : Int) > 16
    · refine bad (nok _ rfl (.inr (.inr (.inl (by omega))))) ?_
      unfold backhaulref01_Fold.f
      rw [if_neg h1, if_pos h2]
      rfl
    · have hw : wrap64 ((s.size : Int) - 1) = (s.size : Int) - 1 := by unfold wrap64; omega
      by_cases h3 : bt s 0 = 45
      · refine bad (nok _ rfl (.inl ?_)) ?_
        · have e := bts_drop s 0 (by omega)
          rw [List.drop_zero] at e
          rw [e, okL, ← bt_of s 0 (by omega)]
          show (okR (bt s 0) 3 && _) = false
          rw [h3]
          rfl
        · unfold backhaulref01_Fold.f
          rw [if_neg h1, if_neg h2, if_pos (by omega), if_pos h3]
          rfl
      · have hf : backhaulref01_Fold.f (k + 1) s = backhaulref01_Fold.j0 (k + 1) s (bt s ((s.size : Int) - 1) == 45) := by
          unfold backhaulref01_Fold.f
          rw [if_neg h1, if_neg h2, if_pos (by omega), if_neg h3, hw, if_pos (by omega), if_pos (by omega)]
        have hd : endsDash s = (bt s ((s.size : Int) - 1) == 45) := by
          unfold endsDash
          rw [decide_eq_true (by omega), Bool.true_and]
        cases h4 : (bt s ((s.size : Int) - 1) == 45) with
        | true =>
          refine bad (nok _ rfl (.inr (.inr (.inr (by rw [hd, h4]))))) ?_
          rw [hf, h4]
          rfl
        | false =>
          rw [h4] at hf hd
          have hl := fold_l s hs s.size k 0 3 [] (by omega) (by omega) (by simp) (fun _ => ⟨rfl, h3⟩) (fun h => by omega)
          have hj : backhaulref01_Fold.j0 (k + 1) s false = backhaulref01_Fold.l0 k s [] 0 := by simp [backhaulref01_Fold.j0]
          rw [hj] at hf
          rw [show ((0 : Nat) : Int) = 0 from rfl] at hl
          rw [hl, List.drop_zero, List.nil_append] at hf
          cases h5 : okL 3 (bts s) with
          | false =>
            rw [h5] at hf
            exact bad (nok _ rfl (.inl h5)) hf
          | true =>
            rw [h5, if_pos rfl] at hf
            have hr : ∀ b ∈ bts s, 0 ≤ b ∧ b < 128 := fun b hb => ⟨bts_nonneg s b hb, okL_ascii _ _ h5 b hb⟩
            have hu : ∀ n ∈ (bts s).map upB, 0 ≤ n ∧ n < 256 := by
              intro n hn
              obtain ⟨b, hb, rfl⟩ := List.mem_map.1 hn
              have h6 := hr b hb
              rw [upB_eq h6.1 h6.2]
              have := upR_range h6.1 h6.2
              omega
            have eb := bts_strOfNums _ hu
            have same : strOfNums ((bts s).map upB) = s ↔ (bts s).all (fun b => !low b) = true := by
              rw [← map_up_same _ hr]
              constructor
              · intro e; rw [e] at eb; exact eb.symm
              · intro e; apply bts_inj; rw [eb, e]
            have ho : okSer s = (bts s).all (fun b => !low b) := by
              unfold okSer okS
              rw [h5, hd, decide_eq_true (by omega), decide_eq_true (by omega)]
              rfl
            unfold backhaulref01_Check.f serE
            rw [hf, ho]
            simp only [Option.bind_some, if_true]
            by_cases h7 : strOfNums ((bts s).map upB) = s
            · rw [if_pos (by rw [h7]), same.1 h7]; rfl
            · rw [if_neg (fun e => h7 (ba_inj e)), if_neg (fun e => h7 (same.2 e))]
end Go.Proofs.Ytjoclfiefpbgfaa.SerPlain
