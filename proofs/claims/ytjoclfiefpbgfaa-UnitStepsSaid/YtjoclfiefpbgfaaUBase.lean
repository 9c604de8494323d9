/- A unit as a record, what the functions of unit and backhaulref25 tell of it in closed form, and what is known of the boxes of a walk. Plain. Conditions: as each says. -/
import Derived.Test.YtjoclfiefpbgfaaSerPlain
import Derived.Test.YtjoclfiefpbgfaaLifePlain
namespace Go.Proofs.Ytjoclfiefpbgfaa.PUnit
open Go.RowKit Go.Proofs.YtjoclfiefpbgfaaW.PrintWords Go.Proofs.YtjoclfiefpbgfaaW.PrintLast Go.Proofs.YtjoclfiefpbgfaaW.PrintMore
open SerPlain LifePlain

structure U where
  (s : ByteArray)
  (o l p r a st g w i : Int)
def zU : U := ⟨⟨#[]⟩, 0, 0, 0, 0, 0, 0, 0, 0, 0⟩
def idb (n : Int) : Bool := decide (1 ≤ n) && decide (n ≤ 999999)
def U.stands (u : U) : Bool := idb u.o && (idb u.r && (decide (0 ≤ u.l) && (decide (u.l < 8) && (decide (0 ≤ u.p) && (decide (u.p < 20) && (decide (0 ≤ u.a) && decide (u.a ≤ 1000000)))))))
def U.graded (u : U) : Bool := if u.st = 1 then u.g == 0 else decide (0 ≤ u.g) && decide (u.g < 4)
def U.held (u : U) : Bool := if u.st = 4 ∨ u.st = 5 then idb u.i else u.i == 0
def chk (u : U) : Bool := okSer u.s && (isN u.st u.w && (u.stands && (u.graded && u.held)))
def chkE (u : U) : Int := if chk u = true then 0 else 40
def movF (u : U) (act way : Int) : U × Int :=
  if chk u = true then (if (LifePlain.step u.st u.w act way).2.2 = 0 then ({ u with st := (LifePlain.step u.st u.w act way).1, w := (LifePlain.step u.st u.w act way).2.1 }, 0) else (zU, (LifePlain.step u.st u.w act way).2.2)) else (zU, 40)
def seeF (u : U) (g : Int) : U × Int :=
  if (movF u 1 0).2 = 0 then (if 0 ≤ g ∧ g < 4 then ({ (movF u 1 0).1 with g := g }, 0) else (zU, 2)) else (zU, (movF u 1 0).2)
def enterF (u : U) (act n : Int) : U × Int :=
  if chk u = true then (if act = 3 ∨ act = 7 then (if (movF u act 0).2 = 0 then (if idb n = true then ({ (movF u act 0).1 with i := n }, 0) else (zU, 31)) else (zU, (movF u act 0).2)) else (zU, 30)) else (zU, 40)
def leaveF (u : U) (act : Int) : U × Int :=
  if chk u = true then (if act = 4 ∨ act = 5 ∨ act = 6 ∨ act = 8 ∨ act = 9 then (if (movF u act 0).2 = 0 then ({ (movF u act 0).1 with i := 0 }, 0) else (zU, (movF u act 0).2)) else (zU, 30)) else (zU, 40)
def nodeF (u : U) : Int × Int := if chk u = true then (u.st, u.w) else (0, 0)
def termb (s w : Int) : Bool := life_Terminal.f s w == some true
def doneF (u : U) : Bool := chk u && termb u.st u.w
def newU (s : ByteArray) (o l p r a : Int) : U := ⟨s, o, l, p, r, a, 1, 0, 0, 0⟩
def newF (s : ByteArray) (o l p r a : Int) : U × Int := if okSer s = true then (if chk (newU s o l p r a) = true then (newU s o l p r a, 0) else (zU, 2)) else (zU, 9)

/-! ### boxes -/
/-- Since w the memory of W has grown by blocks behind w's alone; the boxes of L stand there. -/
def Fr (w : World) (L : List (Nat × Array Value × Nat)) (W : World) : Prop :=
  Below w.heap.size w W ∧ (∀ x ∈ L, W.heap[x.1]? = some (.cells x.2.1 x.2.2 (0, 0)) ∧ w.heap.size ≤ x.1) ∧ (L.map (·.1)).Nodup
section
variable {w W W1 : World} {L : List (Nat × Array Value × Nat)} {g t k : Nat} {cs cs' : Array Value}
theorem Fr.nil (w : World) : Fr w [] w := ⟨Below.refl _ _, fun _ h => by simp at h, by simp⟩
theorem Fr.step (h : Fr w L W) (hb : Below W.heap.size W W1) : Fr w L W1 :=
  ⟨below_step h.1 hb, fun x hx => ⟨blk_below (h.2.1 x hx).1 hb, (h.2.1 x hx).2⟩, h.2.2⟩
theorem Fr.drew (h : Fr w L W) : Fr w L W.drew := ⟨below_drew h.1, h.2⟩
theorem Fr.drewN (h : Fr w L W) (n : Nat) : Fr w L (W.drewN n) := ⟨pw_below_drewN h.1 n, h.2⟩
theorem Fr.alloc (h : Fr w L W) (o : Obj) : Fr w L (W.alloc o) := h.step (below_alloc (Below.refl _ _) o)
theorem Fr.box (h : Fr w L W) (hg : g = W.heap.size) (hbox : W1.heap[g]? = some (.cells cs t (0, 0))) (hb : Below W.heap.size W W1) : Fr w ((g, cs, t) :: L) W1 := by
  have h1 := h.step hb
  refine ⟨h1.1, fun x hx => ?_, ?_⟩
  · rcases List.mem_cons.1 hx with rfl | hx
    · exact ⟨hbox, by rw [hg]; exact below_size h.1⟩
    · exact h1.2.1 x hx
  · rw [List.map_cons, List.nodup_cons]
    refine ⟨fun hm => ?_, h.2.2⟩
    obtain ⟨x, hx, e⟩ := List.mem_map.1 hm
    have := blk_lt (h.2.1 x hx).1
    omega
theorem Fr.blk (h : Fr w L W) (k : Nat) (hk : L[k]? = some (g, cs, t)) : W.heap[g]? = some (.cells cs t (0, 0)) := (h.2.1 _ (List.mem_of_getElem? hk)).1
theorem Fr.ge (h : Fr w L W) (k : Nat) (hk : L[k]? = some (g, cs, t)) : w.heap.size ≤ g := (h.2.1 _ (List.mem_of_getElem? hk)).2
theorem Fr.put (h : Fr w L W) (k : Nat) (hk : L[k]? = some (g, cs, t)) (hw : W1.heap[g]? = some (.cells cs' t (0, 0))) (hb : Below g W W1) (ho : ∀ j, j ≠ g → W1.heap[j]? = W.heap[j]?) :
    Fr w (L.set k (g, cs', t)) W1 := by
  have hge := h.ge k hk
  obtain ⟨hkl, hke⟩ := List.getElem?_eq_some_iff.1 hk
  have nd := h.2.2
  refine ⟨?_, fun x hx => ?_, ?_⟩
  · exact h.1.trans (hb.mono hge)
  · obtain ⟨j, hj, e⟩ := List.getElem_of_mem hx
    rw [List.getElem_set] at e
    rw [List.length_set] at hj
    by_cases hjk : k = j
    · rw [if_pos hjk] at e
      subst e
      exact ⟨hw, hge⟩
    · rw [if_neg hjk] at e
      have hm : x ∈ L := by rw [← e]; exact List.getElem_mem hj
      have hne : x.1 ≠ g := by
        intro e2
        have a1 : (L.map (·.1))[j]'(by rw [List.length_map]; exact hj) = (L.map (·.1))[k]'(by rw [List.length_map]; exact hkl) := by
          rw [List.getElem_map, List.getElem_map, e, hke]
          exact e2
        have p := List.pairwise_iff_getElem.1 nd
        rcases Nat.lt_or_gt_of_ne hjk with q | q
        · exact p k j _ _ q a1.symm
        · exact p j k _ _ q a1
      exact ⟨(ho _ hne).trans (h.2.1 x hm).1, (h.2.1 x hm).2⟩
  · have e : (L.set k (g, cs', t)).map (·.1) = L.map (·.1) := by
      apply List.ext_getElem
      · simp
      · intro j h1 h2
        rw [List.getElem_map, List.getElem_map, List.getElem_set]
        by_cases hjk : k = j
        · subst hjk
          rw [if_pos rfl, hke]
        · rw [if_neg hjk]
    rw [e]
    exact nd
end
/-- A row of values stored from cell i on. -/
def putRow (W : World) (g : Nat) : Nat → List Value → World
  | _, [] => W
  | i, v :: vs => putRow (W.setCell ⟨g, i, none⟩ v) g (i + 1) vs
theorem putRow_other (g j : Nat) (hj : j ≠ g) (vs : List Value) : ∀ (W : World) (i : Nat), (putRow W g i vs).heap[j]? = W.heap[j]? := by
  induction vs with
  | nil => intro W i; rfl
  | cons v vs ih => intro W i; rw [putRow, ih]; exact Below.heap_setCell W ⟨g, i, none⟩ v j hj
theorem putRow_below (g : Nat) (vs : List Value) : ∀ (W : World) (i : Nat), Below g W (putRow W g i vs) := by
  induction vs with
  | nil => intro W i; exact Below.refl _ _
  | cons v vs ih => intro W i; rw [putRow]; exact Below.trans ((Below.refl g W).setCell (Nat.le_refl g) v) (ih _ _)
def setFrom (cs : Array Value) : Nat → List Value → Array Value
  | _, [] => cs
  | i, v :: vs => setFrom (cs.setIfInBounds i v) (i + 1) vs
theorem putRow_blk {g t : Nat} (vs : List Value) : ∀ (W : World) (i : Nat) (cs : Array Value), W.heap[g]? = some (.cells cs t (0, 0)) → (putRow W g i vs).heap[g]? = some (.cells (setFrom cs i vs) t (0, 0)) := by
  induction vs with
  | nil => intro W i cs h; exact h
  | cons v vs ih => intro W i cs h; rw [putRow, setFrom]; exact ih _ _ _ (blk_set h i v)
theorem Fr.row {w W W1 : World} {L : List (Nat × Array Value × Nat)} {g t i : Nat} {cs cs' : Array Value} {vs : List Value} (h : Fr w L W) (k : Nat) (hw : W1 = putRow W g i vs) (hk : L[k]? = some (g, cs, t)) (hc : setFrom cs i vs = cs') : Fr w (L.set k (g, cs', t)) W1 := by
  subst hw
  refine h.put k hk ?_ (putRow_below g vs W i) (fun j hj => putRow_other g j hj vs W i)
  rw [← hc]
  exact putRow_blk vs W i cs (h.blk k hk)
theorem cells10 {W : World} {g t : Nat} {c0 c1 c2 c3 c4 c5 c6 c7 c8 c9 : Value} (h : W.heap[g]? = some (.cells #[c0, c1, c2, c3, c4, c5, c6, c7, c8, c9] t (0, 0))) :
    W.cell? ⟨g, 0, none⟩ = some c0 ∧ W.cell? ⟨g, 1, none⟩ = some c1 ∧ W.cell? ⟨g, 2, none⟩ = some c2 ∧ W.cell? ⟨g, 3, none⟩ = some c3 ∧ W.cell? ⟨g, 4, none⟩ = some c4 ∧ W.cell? ⟨g, 5, none⟩ = some c5 ∧ W.cell? ⟨g, 6, none⟩ = some c6 ∧ W.cell? ⟨g, 7, none⟩ = some c7 ∧ W.cell? ⟨g, 8, none⟩ = some c8 ∧ W.cell? ⟨g, 9, none⟩ = some c9 ∧ W.frozen? ⟨g, 0, none⟩ = false ∧ W.frozen? ⟨g, 1, none⟩ = false ∧ W.frozen? ⟨g, 2, none⟩ = false ∧ W.frozen? ⟨g, 3, none⟩ = false ∧ W.frozen? ⟨g, 4, none⟩ = false ∧ W.frozen? ⟨g, 5, none⟩ = false ∧ W.frozen? ⟨g, 6, none⟩ = false ∧ W.frozen? ⟨g, 7, none⟩ = false ∧ W.frozen? ⟨g, 8, none⟩ = false ∧ W.frozen? ⟨g, 9, none⟩ = false :=
  ⟨(blk_cell h 0).trans rfl, (blk_cell h 1).trans rfl, (blk_cell h 2).trans rfl, (blk_cell h 3).trans rfl, (blk_cell h 4).trans rfl, (blk_cell h 5).trans rfl, (blk_cell h 6).trans rfl, (blk_cell h 7).trans rfl, (blk_cell h 8).trans rfl, (blk_cell h 9).trans rfl, blk_frozen h 0, blk_frozen h 1, blk_frozen h 2, blk_frozen h 3, blk_frozen h 4, blk_frozen h 5, blk_frozen h 6, blk_frozen h 7, blk_frozen h 8, blk_frozen h 9⟩
theorem cells2 {W : World} {g t : Nat} {c0 c1 : Value} (h : W.heap[g]? = some (.cells #[c0, c1] t (0, 0))) :
    W.cell? ⟨g, 0, none⟩ = some c0 ∧ W.cell? ⟨g, 1, none⟩ = some c1 ∧ W.frozen? ⟨g, 0, none⟩ = false ∧ W.frozen? ⟨g, 1, none⟩ = false :=
  ⟨(blk_cell h 0).trans rfl, (blk_cell h 1).trans rfl, blk_frozen h 0, blk_frozen h 1⟩
theorem putRow10 (W : World) (g : Nat) (v0 v1 v2 v3 v4 v5 v6 v7 v8 v9 : Value) : ((((((((((W.setCell ⟨g, 0, none⟩ v0).setCell ⟨g, 1, none⟩ v1).setCell ⟨g, 2, none⟩ v2).setCell ⟨g, 3, none⟩ v3).setCell ⟨g, 4, none⟩ v4).setCell ⟨g, 5, none⟩ v5).setCell ⟨g, 6, none⟩ v6).setCell ⟨g, 7, none⟩ v7).setCell ⟨g, 8, none⟩ v8).setCell ⟨g, 9, none⟩ v9) = putRow W g 0 [v0, v1, v2, v3, v4, v5, v6, v7, v8, v9] := by simp only [putRow, Nat.zero_add, Nat.reduceAdd]
theorem setFrom10 (c0 c1 c2 c3 c4 c5 c6 c7 c8 c9 v0 v1 v2 v3 v4 v5 v6 v7 v8 v9 : Value) : setFrom #[c0, c1, c2, c3, c4, c5, c6, c7, c8, c9] 0 [v0, v1, v2, v3, v4, v5, v6, v7, v8, v9] = #[v0, v1, v2, v3, v4, v5, v6, v7, v8, v9] := by
  simp only [setFrom, List.setIfInBounds_toArray, List.set_cons_zero, List.set_cons_succ, Nat.zero_add, Nat.reduceAdd]
theorem Fr.row10 {w W W1 : World} {L : List (Nat × Array Value × Nat)} {g t : Nat} {c0 c1 c2 c3 c4 c5 c6 c7 c8 c9 v0 v1 v2 v3 v4 v5 v6 v7 v8 v9 : Value} (h : Fr w L W) (k : Nat) (hw : W1 = ((((((((((W.setCell ⟨g, 0, none⟩ v0).setCell ⟨g, 1, none⟩ v1).setCell ⟨g, 2, none⟩ v2).setCell ⟨g, 3, none⟩ v3).setCell ⟨g, 4, none⟩ v4).setCell ⟨g, 5, none⟩ v5).setCell ⟨g, 6, none⟩ v6).setCell ⟨g, 7, none⟩ v7).setCell ⟨g, 8, none⟩ v8).setCell ⟨g, 9, none⟩ v9)) (hk : L[k]? = some (g, #[c0, c1, c2, c3, c4, c5, c6, c7, c8, c9], t)) :
    Fr w (L.set k (g, #[v0, v1, v2, v3, v4, v5, v6, v7, v8, v9], t)) W1 := by
  rw [putRow10] at hw
  rw [← setFrom10 c0 c1 c2 c3 c4 c5 c6 c7 c8 c9 v0 v1 v2 v3 v4 v5 v6 v7 v8 v9]
  exact Fr.row h k hw hk rfl
theorem Fr.row2 {w W W1 : World} {L : List (Nat × Array Value × Nat)} {g t : Nat} {c0 c1 v0 v1 : Value} (h : Fr w L W) (k : Nat) (hw : W1 = (W.setCell ⟨g, 0, none⟩ v0).setCell ⟨g, 1, none⟩ v1) (hk : L[k]? = some (g, #[c0, c1], t)) :
    Fr w (L.set k (g, #[v0, v1], t)) W1 := Fr.row (i := 0) (vs := [v0, v1]) h k (hw.trans (by simp only [putRow])) hk rfl
theorem Fr.cell {w W W1 : World} {L : List (Nat × Array Value × Nat)} {g t i : Nat} {cs cs' : Array Value} {v : Value} (h : Fr w L W) (k : Nat) (hw : W1 = W.setCell ⟨g, i, none⟩ v) (hk : L[k]? = some (g, cs, t)) (hc : cs.setIfInBounds i v = cs') :
    Fr w (L.set k (g, cs', t)) W1 := Fr.row (i := i) (vs := [v]) h k (hw.trans (by simp only [putRow])) hk hc
end Go.Proofs.Ytjoclfiefpbgfaa.PUnit
