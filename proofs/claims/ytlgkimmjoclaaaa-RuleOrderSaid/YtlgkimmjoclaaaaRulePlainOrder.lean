/- The law RuleOrder as a plain law over lists of rows: its closed form is true. Conditions: none. -/
import Derived.Test.YtlgkimmjoclaaaaPRulex23
import Derived.Test.YtlgkimmjoclaaaaRulePlain
namespace Go.Proofs.Ytlgkimmjoclaaaa.RulePlain
open Go.RowKit Go.Proofs.Ytlgkimmjoclaaaa.PRule Go.Proofs.YtlgkimmjoclaaaaW.PrintWords Go.Proofs.YtlgkimmjoclaaaaW.PrintLast Go.Proofs.YtlgkimmjoclaaaaW.PrintMore

/-- Who decides stands in the table; the rows up to it decide alike. -/
theorem dec_some {g : Int} {w : Bool} {m : Int} : ∀ (t : List S23) (i : Nat), (dec g w m t i).2.2 = 0 → ∃ n, n < t.length ∧ (dec g w m t i).2.1 = ((i + n : Nat) : Int) ∧ dec g w m (t.take (n + 1)) i = dec g w m t i ∧ fit (t.getD n z23) g w m = true ∧ (dec g w m t i).1 = (t.getD n z23).f4 := by
  intro t
  induction t with
  | nil => intro i h; simp [dec] at h
  | cons r t ih =>
    intro i h
    simp only [dec] at h ⊢
    cases hf : fit r g w m
    · rw [hf, if_neg (by simp)] at h
      obtain ⟨n, h1, h2, h3, h4, h5⟩ := ih (i + 1) h
      refine ⟨n + 1, by simp; omega, ?_, ?_, ?_, ?_⟩
      · rw [if_neg (by simp), h2]; omega
      · rw [List.take_succ_cons]
        simp only [dec]
        rw [hf, if_neg (by simp), if_neg (by simp), h3]
      · simpa using h4
      · rw [if_neg (by simp)]; simpa using h5
    · exact ⟨0, by simp, by rw [if_pos rfl]; simp, by simp [dec, hf], by simpa using hf, by rw [if_pos rfl]; simp⟩
/-- A row that doesn't fit, taken out, changes no way. -/
theorem dec_out {g : Int} {w : Bool} {m : Int} : ∀ (t : List S23) (n i j : Nat), n < t.length → fit (t.getD n z23) g w m = false → (dec g w m (t.take n ++ t.drop (n + 1)) i).1 = (dec g w m t j).1 ∧ (dec g w m (t.take n ++ t.drop (n + 1)) i).2.2 = (dec g w m t j).2.2 := by
  have shift : ∀ (t : List S23) (i j : Nat), (dec g w m t i).1 = (dec g w m t j).1 ∧ (dec g w m t i).2.2 = (dec g w m t j).2.2 := by
    intro t
    induction t with
    | nil => intro i j; exact ⟨rfl, rfl⟩
    | cons r t ih =>
      intro i j
      simp only [dec]
      split
      · exact ⟨rfl, rfl⟩
      · exact ih _ _
  intro t
  induction t with
  | nil => intro n i j h; simp at h
  | cons r t ih =>
    intro n i j h hf
    cases n with
    | zero =>
      simp only [List.take_zero, List.nil_append, List.drop_succ_cons, List.drop_zero, dec]
      rw [if_neg (by simpa using hf)]
      exact shift t _ _
    | succ n =>
      simp only [List.take_succ_cons, List.drop_succ_cons, List.cons_append, dec]
      split
      · exact ⟨rfl, rfl⟩
      · exact ih n _ _ (by simpa using h) (by simpa using hf)
theorem small_sum {x y : Nat} (h0 : x ≤ 100) (h1 : y ≤ 100) : x + y < 3518437208883 := by omega
theorem out_step (l : List S23) (g : Int) (w : Bool) (m : Int) (k q : Nat) (s : Int) (v : Int × Int × Int) (hk : 350 ≤ k) (hq : q < l.length) (hl : l.length ≤ 100) (hd : decide_ (l.take q ++ l.drop (q + 1)) g w m = v) (h1 : v.1 = s) (h2 : v.2.2 = 0) :
    backhaullaw18_RuleOrder.j2 (k + 1) l (q : Int) s false g w m = some true := by
  have hs : (l.take q ++ l.drop (q + 1)).length ≤ 100 := by
    rw [List.length_append, List.length_take, List.length_drop]
    omega
  have ew : wrap64 ((q : Int) + 1) = ((q + 1 : Nat) : Int) := by rw [w64 (by omega) (by omega)]; omega
  have tq : ((q : Int)).toNat = q := Int.toNat_natCast q
  have tq1 : (((q + 1 : Nat) : Int)).toNat = q + 1 := Int.toNat_natCast (q + 1)
  have el : ([] ++ l.take q) ++ l.drop (q + 1) = l.take q ++ l.drop (q + 1) := rfl
  have b1 : (l.take q).length ≤ 100 := by rw [List.length_take]; exact Nat.le_trans (Nat.min_le_right _ _) hl
  have b2 : (l.drop (q + 1)).length ≤ 100 := by rw [List.length_drop]; exact Nat.le_trans (Nat.sub_le _ _) hl
  have b3 : ([] ++ l.take q).length ≤ 100 := b1
  have c1 : ([] : List S23).length + (l.take q).length < 3518437208883 := small_sum (Nat.zero_le _) b1
  have c2 : ([] ++ l.take q).length + (l.drop (q + 1)).length < 3518437208883 := small_sum b3 b2
  have e := qDecide _ hs g w m k (by omega)
  simp only [backhaullaw18_RuleOrder.j2]
  rw [if_neg (by simp), Option.bind_some, if_pos (by omega), if_pos (by omega), tq, Option.bind_some, if_pos c1, Option.bind_some, ew, if_pos (by omega), if_pos (by omega), tq1, Option.bind_some, if_pos c2, el, e, hd, Option.bind_some, h1, h2, if_pos rfl, if_pos rfl]
  rfl
theorem orders (l : List S23) (g : Int) (w : Bool) (m : Int) (out : Int) (k : Nat) (hk : 350 ≤ k) : backhaullaw18_RuleOrder.f (k + 3) l g w m out = some true := by
  unfold backhaullaw18_RuleOrder.f
  by_cases hl : (l.length : Int) > 100
  · rw [if_pos hl]; rfl
  have hl' : l.length ≤ 100 := by omega
  rw [if_neg hl, qDecide l hl' g w m (k + 3) (by omega)]
  simp only [Option.bind_some]
  by_cases he : (decide_ l g w m).2.2 = 0
  · rw [if_pos he]
    have hc : codeT l = 0 := by
      rcases codeT_cases l with h | h
      · exact h
      · unfold decide_ at he; rw [if_neg (by omega)] at he; simp at he
    have hf : okF g m = true := by
      cases hf : okF g m
      · unfold decide_ at he; rw [if_pos hc, hf] at he; simp at he
      · rfl
    obtain ⟨h1, h2, h3⟩ := codeT_zero hc
    have e : decide_ l g w m = dec g w m l 0 := by unfold decide_; rw [if_pos hc, if_pos hf]
    rw [e] at he ⊢
    obtain ⟨n, n1, n2, n3, n4, n5⟩ := dec_some l 0 he
    rw [Nat.zero_add] at n2
    have all_of : ∀ t : List S23, (∀ x ∈ t, x ∈ l) → t.all okR = true := fun t ht => by
      rw [List.all_eq_true] at h3 ⊢
      exact fun x hx => h3 x (ht x hx)
    have d1 : decide_ (l.take (n + 1)) g w m = dec g w m l 0 := by
      unfold decide_
      rw [if_pos (codeT_mk (by rw [List.length_take]; omega) (by rw [List.length_take]; omega) (all_of _ (fun x hx => List.mem_of_mem_take hx))), if_pos hf, n3]
    rw [if_neg (by omega), decide_eq_false (by omega)]
    simp only [backhaullaw18_RuleOrder.j0]
    rw [if_neg (by simp), n2, w64 (by omega) (by omega), if_pos (by omega), if_pos (by omega), show ((n : Int) + 1).toNat = n + 1 by omega, qDecide _ (by rw [List.length_take]; omega) g w m (k + 2) (by rw [List.length_take]; omega), d1]
    simp only [Option.bind_some, if_true, n2, he, bne_self_eq_false]
    simp only [backhaullaw18_RuleOrder.j1]
    rw [if_neg (by simp)]
    have done : ∀ s, backhaullaw18_RuleOrder.j2 (k + 1) l out s true g w m = some true := by
      intro s
      simp only [backhaullaw18_RuleOrder.j2, if_true]
      rfl
    by_cases o1 : out < 0
    · rw [if_pos o1, done]
    rw [if_neg o1]
    by_cases o2 : out ≥ (l.length : Int)
    · rw [if_pos o2, done]
    obtain ⟨q, rfl⟩ := Int.eq_ofNat_of_zero_le (by omega : 0 ≤ out)
    have hm : mtch (l.getD q z23) g w m = fit (l.getD q z23) g w m := by unfold mtch; rw [all_at h3 q (by omega), hf]; simp
    rw [if_neg o2, if_pos (by omega), if_pos (by omega), rd_nat, qMatch, hm]
    simp only [Option.bind_some]
    cases hq : fit (l.getD q z23) g w m
    · have hnq : n ≠ q := fun h => by rw [h, hq] at n4; simp at n4
      have hl2 : (l.take q ++ l.drop (q + 1)).length + 1 = l.length := by rw [List.length_append, List.length_take, List.length_drop]; omega
      have d2 := dec_out (g := g) (w := w) (m := m) l q 0 0 (by omega) hq
      have d3 : decide_ (l.take q ++ l.drop (q + 1)) g w m = dec g w m (l.take q ++ l.drop (q + 1)) 0 := by
        unfold decide_
        rw [if_pos (codeT_mk (by omega) (by omega) (all_of _ (fun x hx => by
          rcases List.mem_append.1 hx with hx | hx
          · exact List.mem_of_mem_take hx
          · exact List.mem_of_mem_drop hx))), if_pos hf]
      exact out_step l g w m k q _ _ hk (by omega) hl' d3 d2.1 (d2.2.trans he)
    · exact done _
  · rw [if_neg he]; rfl

/-! ### a slice of rows that came in -/
end Go.Proofs.Ytlgkimmjoclaaaa.RulePlain
