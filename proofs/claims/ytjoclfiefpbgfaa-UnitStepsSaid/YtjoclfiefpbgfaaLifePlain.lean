/- What the functions of the packages life and backhaulref24 compute at a node and at what is no node, and that both agree: plain laws. Conditions: as each says. -/
import Derived.Test.YtjoclfiefpbgfaaPM0
import Derived.Test.YtjoclfiefpbgfaaPM1
namespace Go.Proofs.Ytjoclfiefpbgfaa.LifePlain
open Go.RowKit Go.Proofs.Ytjoclfiefpbgfaa.PUnit Go.Proofs.YtjoclfiefpbgfaaW.PrintWords Go.Proofs.YtjoclfiefpbgfaaW.PrintLast Go.Proofs.YtjoclfiefpbgfaaW.PrintMore

theorem leO_add {α : Type} (g : Nat → Option α) (h : ∀ k, LeO (g k) (g (k + 1))) (a b : Nat) : LeO (g a) (g (a + b)) := by
  induction b with
  | zero => exact LeO.refl _
  | succ b ih => intro r hr; exact h _ _ (ih r hr)
theorem more {α : Type} {g : Nat → Option α} (h : ∀ k, LeO (g k) (g (k + 1))) {a k : Nat} {r : α} (hk : a ≤ k) (e : g a = some r) : g k = some r := by
  obtain ⟨b, rfl⟩ := Nat.exists_eq_add_of_le hk
  exact leO_add g h a b r e

/-- The nodes. -/
def nodes : List (Int × Int) := [(1, 0), (2, 0), (3, 2), (3, 3), (4, 2), (5, 3), (6, 1), (6, 2), (7, 3), (8, 4), (8, 3), (9, 5), (9, 2)]
def isN (s w : Int) : Bool := nodes.contains (s, w)
theorem isN_mem {s w : Int} : isN s w = true ↔ (s, w) ∈ nodes := by simp [isN]
/-- What holds at each of the nodes holds at all. -/
theorem at_nodes {P : Int → Int → Prop} (h : ∀ p ∈ nodes, P p.1 p.2) {s w : Int} (hn : isN s w = true) : P s w := h (s, w) (isN_mem.1 hn)

theorem no_node {s w : Int} (h : isN s w = false) : ¬ (s = 1 ∧ w = 0) ∧ ¬ (s = 2 ∧ w = 0) ∧ ¬ (s = 3 ∧ w = 2) ∧ ¬ (s = 3 ∧ w = 3) ∧ ¬ (s = 4 ∧ w = 2) ∧ ¬ (s = 5 ∧ w = 3) ∧ ¬ (s = 6 ∧ w = 1) ∧ ¬ (s = 6 ∧ w = 2) ∧ ¬ (s = 7 ∧ w = 3) ∧ ¬ (s = 8 ∧ w = 4) ∧ ¬ (s = 8 ∧ w = 3) ∧ ¬ (s = 9 ∧ w = 5) ∧ ¬ (s = 9 ∧ w = 2) := by
  refine ⟨?_, ?_, ?_, ?_, ?_, ?_, ?_, ?_, ?_, ?_, ?_, ?_, ?_⟩ <;> (rintro ⟨rfl, rfl⟩; exact absurd h (by decide))

/-! ### what is no node -/
theorem term_no {s w : Int} (h : isN s w = false) : life_Terminal.f s w = some false := by
  obtain ⟨_, _, _, _, _, _, n1, n2, n3, n4, n5, n6, n7⟩ := no_node h
  unfold life_Terminal.f
  by_cases h6 : s = 6
  · subst h6; rw [if_pos rfl, if_neg (fun e => n1 ⟨rfl, e⟩)]; simp; exact fun e => n2 ⟨rfl, e⟩
  · rw [if_neg h6]
    by_cases h7 : s = 7
    · subst h7; rw [if_pos rfl]; simp; exact fun e => n3 ⟨rfl, e⟩
    · rw [if_neg h7]
      by_cases h8 : s = 8
      · subst h8; rw [if_pos rfl, if_neg (fun e => n4 ⟨rfl, e⟩)]; simp; exact fun e => n5 ⟨rfl, e⟩
      · rw [if_neg h8]
        by_cases h9 : s = 9
        · subst h9; rw [if_pos rfl, if_neg (fun e => n6 ⟨rfl, e⟩)]; simp; exact fun e => n7 ⟨rfl, e⟩
        · rw [if_neg h9]
theorem and_no {s w a b : Int} (h : ¬ (s = a ∧ w = b)) : (s == a && (w == b)) = false := by
  cases hc : (s == a && (w == b)) with
  | false => rfl
  | true => rw [Bool.and_eq_true, beq_iff_eq, beq_iff_eq] at hc; exact absurd hc h
theorem acts_no {s w : Int} (h : isN s w = false) : life_Acts.f s w = some [] := by
  obtain ⟨n1, n2, n3, n4, n5, n6, _⟩ := no_node h
  unfold life_Acts.f
  rw [and_no n1, and_no n2, and_no n3, and_no n4, and_no n5, and_no n6]
  rfl
theorem check_no {s w : Int} (h : isN s w = false) : life_Check.f s w = some 33 := by
  unfold life_Check.f
  rw [term_no h, acts_no h]
  rfl
theorem rd_at (l : List S69) (i : Nat) (h : i < l.length) : rd_T69 l (i : Int) = l[i] := by simp [rd_T69, h]
theorem w1 {i : Nat} (h : i < 100) : wrap64 ((i : Int) + 1) = ((i + 1 : Nat) : Int) := by unfold wrap64; omega
/-- The loop that asks for a node: no edge of what is left leads from it or to it. -/
theorem node_l (s w : Int) (l : List S69) (hl : l.length ≤ 50) (d : Nat) : ∀ (k i : Nat), i + d = l.length → d < k → (∀ j, i ≤ j → (hj : j < l.length) → ¬ (l[j].f0 = s ∧ l[j].f1 = w) ∧ ¬ (l[j].f4 = s ∧ l[j].f5 = w)) → backhaulref24_Node.l0 k s w l (i : Int) = some false := by
  induction d with
  | zero =>
    intro k i hi hk _
    obtain ⟨k, rfl⟩ := Nat.exists_eq_succ_of_ne_zero (by omega : k ≠ 0)
    simp only [backhaulref24_Node.l0]
    rw [if_neg (by omega)]
  | succ d ih =>
    intro k i hi hk hno
    obtain ⟨k, rfl⟩ := Nat.exists_eq_succ_of_ne_zero (by omega : k ≠ 0)
    have hlt : i < l.length := by omega
    obtain ⟨a, b⟩ := hno i (Nat.le_refl _) hlt
    have rest := ih k (i + 1) (by omega) (by omega) (fun j hj hjl => hno j (by omega) hjl)
    simp only [backhaulref24_Node.l0]
    rw [if_pos (by omega), if_pos (by omega), rd_at l i hlt, w1 (by omega), rest]
    by_cases c0 : l[i].f0 = s <;> by_cases c1 : l[i].f1 = w <;> by_cases c4 : l[i].f4 = s <;> by_cases c5 : l[i].f5 = w <;> simp [c0, c1, c4, c5] <;> first | exact a ⟨c0, c1⟩ | exact b ⟨c4, c5⟩
def edges : List S69 := [(⟨1, 0, 1, 0, 2, 0⟩ : S69), (⟨2, 0, 2, 1, 6, 1⟩ : S69), (⟨2, 0, 2, 2, 3, 2⟩ : S69), (⟨2, 0, 2, 3, 3, 3⟩ : S69), (⟨2, 0, 2, 4, 8, 4⟩ : S69), (⟨2, 0, 2, 5, 9, 5⟩ : S69), (⟨3, 2, 3, 0, 4, 2⟩ : S69), (⟨4, 2, 4, 0, 6, 2⟩ : S69), (⟨4, 2, 5, 0, 9, 2⟩ : S69), (⟨4, 2, 6, 0, 3, 2⟩ : S69), (⟨3, 3, 7, 0, 5, 3⟩ : S69), (⟨5, 3, 8, 0, 7, 3⟩ : S69), (⟨5, 3, 9, 0, 8, 3⟩ : S69)]
theorem edges_f : backhaulref24_Edges.f = some edges := rfl
theorem edges_nodes : ∀ j, (hj : j < edges.length) → isN edges[j].f0 edges[j].f1 = true ∧ isN edges[j].f4 edges[j].f5 = true := by decide
theorem edges_no {s w : Int} (h : isN s w = false) : ∀ j, (hj : j < edges.length) → ¬ (edges[j].f0 = s ∧ edges[j].f1 = w) ∧ ¬ (edges[j].f4 = s ∧ edges[j].f5 = w) := by
  intro j hj
  obtain ⟨a, b⟩ := edges_nodes j hj
  refine ⟨?_, ?_⟩
  · rintro ⟨rfl, rfl⟩; rw [a] at h; simp at h
  · rintro ⟨rfl, rfl⟩; rw [b] at h; simp at h
theorem rnode_no {s w : Int} (h : isN s w = false) (k : Nat) (hk : 20 ≤ k) : backhaulref24_Node.f k s w = some false := by
  unfold backhaulref24_Node.f
  rw [edges_f]
  exact node_l s w edges (by decide) 13 k 0 rfl (by omega) (fun j _ hj => edges_no h j hj)
theorem rnode {s w : Int} (h : isN s w = true) (k : Nat) (hk : 20 ≤ k) : backhaulref24_Node.f k s w = some true :=
  more (backhaulref24_Node.mono s w) hk (at_nodes (P := fun s w => backhaulref24_Node.f 20 s w = some true) (by decide +kernel) h)
/-- The acts that the edges tell from what is no node: none. -/
theorem racts_l (s w : Int) (l : List S69) (hl : l.length ≤ 50) (acc : List Int) (hno : ∀ j, (hj : j < l.length) → ¬ (l[j].f0 = s ∧ l[j].f1 = w)) (d : Nat) : ∀ (k i : Nat) (act : Int), i + d = l.length → d < k → backhaulref24_Acts.l1 k s w l acc act (i : Int) = backhaulref24_Acts.l0 (k - d - 1) s w l acc (wrap64 (act + 1)) := by
  induction d with
  | zero =>
    intro k i act hi hk
    obtain ⟨k, rfl⟩ := Nat.exists_eq_succ_of_ne_zero (by omega : k ≠ 0)
    simp only [backhaulref24_Acts.l1]
    rw [if_neg (by omega)]
    rfl
  | succ d ih =>
    intro k i act hi hk
    obtain ⟨k, rfl⟩ := Nat.exists_eq_succ_of_ne_zero (by omega : k ≠ 0)
    have hlt : i < l.length := by omega
    have a := hno i hlt
    have rest := ih k (i + 1) act (by omega) (by omega)
    have e : k + 1 - (d + 1) - 1 = k - d - 1 := by omega
    simp only [backhaulref24_Acts.l1, Nat.succ_eq_add_one]
    rw [if_pos (by omega), if_pos (by omega), rd_at l i hlt, w1 (by omega), rest, e]
    by_cases c0 : l[i].f0 = s <;> by_cases c1 : l[i].f1 = w <;> simp [c0, c1]
    exact absurd ⟨c0, c1⟩ a
theorem racts_no {s w : Int} (h : isN s w = false) : ∀ (k : Nat), 200 ≤ k → backhaulref24_Acts.f k s w = some [] := by
  intro k hk
  refine more (backhaulref24_Acts.mono s w) hk ?_
  have go : ∀ (k : Nat) (act : Int), 14 ≤ k → act ≤ 9 → backhaulref24_Acts.l0 (k + 1) s w edges [] act = backhaulref24_Acts.l0 (k - 14) s w edges [] (wrap64 (act + 1)) := by
    intro k act hk ha
    simp only [backhaulref24_Acts.l0]
    rw [if_pos ha]
    exact racts_l s w edges (by decide) [] (fun j hj => (edges_no h j hj).1) 13 k 0 act rfl (by omega)
  unfold backhaulref24_Acts.f
  rw [edges_f]
  show backhaulref24_Acts.l0 200 s w edges [] 1 = some []
  rw [go 199 1 (by decide) (by decide), show wrap64 (1 + 1) = 2 from (by decide +kernel), go 184 2 (by decide) (by decide), show wrap64 (2 + 1) = 3 from (by decide +kernel), go 169 3 (by decide) (by decide), show wrap64 (3 + 1) = 4 from (by decide +kernel), go 154 4 (by decide) (by decide), show wrap64 (4 + 1) = 5 from (by decide +kernel), go 139 5 (by decide) (by decide), show wrap64 (5 + 1) = 6 from (by decide +kernel), go 124 6 (by decide) (by decide), show wrap64 (6 + 1) = 7 from (by decide +kernel), go 109 7 (by decide) (by decide), show wrap64 (7 + 1) = 8 from (by decide +kernel), go 94 8 (by decide) (by decide), show wrap64 (8 + 1) = 9 from (by decide +kernel), go 79 9 (by decide) (by decide), show wrap64 (9 + 1) = 10 from (by decide +kernel)]
  show backhaulref24_Acts.l0 (64 + 1) s w edges [] 10 = some []
  simp only [backhaulref24_Acts.l0]
  rw [if_neg (by decide)]
theorem rterm_no {s w : Int} (h : isN s w = false) (k : Nat) (hk : 20 ≤ k) : backhaulref24_Terminal.f k s w = some false := by
  unfold backhaulref24_Terminal.f; rw [rnode_no h k hk]; rfl
theorem next_no {s w : Int} (h : isN s w = false) (a b : Int) (k : Nat) : life_Next.f k s w a b = some (0, 0, 33) := by
  unfold life_Next.f; rw [check_no h]; rfl
theorem rnext_no {s w : Int} (h : isN s w = false) (a b : Int) (k : Nat) (hk : 20 ≤ k) : backhaulref24_Next.f k s w a b = some (0, 0, 33) := by
  unfold backhaulref24_Next.f; rw [rnode_no h k hk]; rfl

/-! ### the nodes -/
theorem check_yes {s w : Int} (h : isN s w = true) : life_Check.f s w = some 0 := at_nodes (P := fun s w => life_Check.f s w = some 0) (by decide +kernel) h
/-- Where a step leads: the document's answer, at 60 rounds. -/
def step (s w a b : Int) : Int × Int × Int := (backhaulref24_Next.f 60 s w a b).getD (0, 0, 1)
def good (s w a b : Int) : Bool := (life_Next.f 60 s w a b == some (step s w a b)) && ((backhaulref24_Next.f 60 s w a b == some (step s w a b)) && (((step s w a b).2.2 != 0 || isN (step s w a b).1 (step s w a b).2.1) && (life_Terminal.f s w != some true || (step s w a b).2.2 != 0)))
theorem good_in : ∀ p ∈ nodes, ∀ a ∈ [1, 2, 3, 4, 5, 6, 7, 8, 9], ∀ b ∈ [0, 1, 2, 3, 4, 5, 6], good p.1 p.2 a b = true := by decide +kernel
theorem by_small : ∀ i, i < 13 → 0 ≤ (edges.getD i z69).f3 ∧ (edges.getD i z69).f3 ≤ 5 := by decide
theorem by_edges (i : Int) : 0 ≤ (rd_T69 edges i).f3 ∧ (rd_T69 edges i).f3 ≤ 5 := by
  unfold rd_T69
  by_cases h : i.toNat < 13
  · exact by_small _ h
  · have e : edges.getD i.toNat z69 = z69 := by
      have hl : edges.length = 13 := rfl
      simp [List.getD, List.getElem?_eq_none (show edges.length ≤ i.toNat by omega)]
    rw [e]
    decide
theorem rnext_by (s w a b c : Int) (hb : ∀ i, (rd_T69 edges i).f3 ≠ b) (hc : ∀ i, (rd_T69 edges i).f3 ≠ c) : ∀ k, (∀ t i, backhaulref24_Next.l0 k s w a b edges t i = backhaulref24_Next.l0 k s w a c edges t i) ∧ (∀ t i x, backhaulref24_Next.j2 k s w a b edges t i x = backhaulref24_Next.j2 k s w a c edges t i x) := by
  intro k
  induction k with
  | zero => exact ⟨fun _ _ => by simp [backhaulref24_Next.l0], fun _ _ _ => by simp [backhaulref24_Next.j2]⟩
  | succ k ih =>
    obtain ⟨i0, i1⟩ := ih
    refine ⟨fun t i => ?_, fun t i x => ?_⟩
    · simp only [backhaulref24_Next.l0, i1]
    · simp only [backhaulref24_Next.j2, i0, if_neg (hb i), if_neg (hc i)]
theorem rnext_six (s w a b : Int) (hb : b < 0 ∨ 6 < b) (k : Nat) : backhaulref24_Next.f k s w a b = backhaulref24_Next.f k s w a 6 := by
  have h := rnext_by s w a b 6 (fun i => by have := by_edges i; omega) (fun i => by have := by_edges i; omega)
  have hj : ∀ k x, backhaulref24_Next.j0 k s w a b x = backhaulref24_Next.j0 k s w a 6 x := by
    intro k x
    cases k with
    | zero => simp [backhaulref24_Next.j0]
    | succ k => simp only [backhaulref24_Next.j0, edges_f, Option.bind_some, (h k).1]
  unfold backhaulref24_Next.f
  simp only [hj]
theorem next_six (s w a b : Int) (hb : b < 0 ∨ 6 < b) (k : Nat) : life_Next.f k s w a b = life_Next.f k s w a 6 := by
  have hj : ∀ k x, life_Next.j0 k x s w a b = life_Next.j0 k x s w a 6 := by
    intro k x
    cases k with
    | zero => simp [life_Next.j0]
    | succ k =>
      simp only [life_Next.j0]
      have e : (if b < 1 then some ((0 : Int), (0 : Int), (2 : Int)) else if b > 5 then some (0, 0, 2) else (life_decided.f b).bind fun t139 => some (t139, b, 0)) = some (0, 0, 2) := by
        rcases hb with h | h
        · rw [if_pos (by omega)]
        · rw [if_neg (by omega), if_pos (by omega)]
      rw [e]
      rfl
  unfold life_Next.f
  simp only [hj]
theorem good_six (s w a b : Int) (hb : b < 0 ∨ 6 < b) : good s w a b = good s w a 6 := by
  unfold good step
  rw [next_six s w a b hb, rnext_six s w a b hb]
theorem good_act {s w : Int} (h : isN s w = true) (a b : Int) (ha : a < 1 ∨ 9 < a) : good s w a b = true := by
  have e1 : life_Next.f 60 s w a b = some (0, 0, 30) := by
    unfold life_Next.f
    rw [check_yes h]
    simp only [Option.bind_some, if_true]
    rcases ha with h1 | h1
    · rw [if_pos h1]; rfl
    · rw [if_neg (by omega), show decide (a > 9) = true from decide_eq_true h1]; rfl
  have e2 : backhaulref24_Next.f 60 s w a b = some (0, 0, 30) := by
    unfold backhaulref24_Next.f
    rw [rnode h 60 (by decide)]
    simp only [Option.bind_some, if_true]
    rcases ha with h1 | h1
    · rw [if_pos h1]; rfl
    · rw [if_neg (by omega), show decide (a > 9) = true from decide_eq_true h1]; rfl
  unfold good step
  rw [e1, e2]
  simp
theorem good_all {s w : Int} (h : isN s w = true) (a b : Int) : good s w a b = true := by
  by_cases ha : a < 1 ∨ 9 < a
  · exact good_act h a b ha
  · have ha2 : a ∈ [1, 2, 3, 4, 5, 6, 7, 8, 9] := by simp; omega
    by_cases hb : b < 0 ∨ 6 < b
    · rw [good_six s w a b hb]
      exact good_in (s, w) (isN_mem.1 h) a ha2 6 (by decide)
    · have hb2 : b ∈ [0, 1, 2, 3, 4, 5, 6] := by simp; omega
      exact good_in (s, w) (isN_mem.1 h) a ha2 b hb2
theorem step_yes {s w : Int} (h : isN s w = true) (a b : Int) : life_Next.f 60 s w a b = some (step s w a b) ∧ backhaulref24_Next.f 60 s w a b = some (step s w a b) ∧ ((step s w a b).2.2 = 0 → isN (step s w a b).1 (step s w a b).2.1 = true) ∧ (life_Terminal.f s w = some true → (step s w a b).2.2 ≠ 0) := by
  have g := good_all h a b
  unfold good at g
  simp only [Bool.and_eq_true, Bool.or_eq_true, beq_iff_eq, bne_iff_ne, ne_eq] at g
  obtain ⟨g1, g2, g3, g4⟩ := g
  exact ⟨g1, g2, fun e => g3.resolve_left (fun n => n e), fun e => g4.resolve_left (fun n => n e)⟩
theorem next_yes {s w : Int} (h : isN s w = true) (a b : Int) (k : Nat) (hk : 60 ≤ k) : life_Next.f k s w a b = some (step s w a b) := more (life_Next.mono s w a b) hk (step_yes h a b).1
theorem rnext_yes {s w : Int} (h : isN s w = true) (a b : Int) (k : Nat) (hk : 60 ≤ k) : backhaulref24_Next.f k s w a b = some (step s w a b) := more (backhaulref24_Next.mono s w a b) hk (step_yes h a b).2.1

end Go.Proofs.Ytjoclfiefpbgfaa.LifePlain
