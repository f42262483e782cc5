/- Six new cells in any order, in a region that draws. Written by wip/c2/mkalloc.py. -/
import Derived.Test.YtgapkifgddjijaaHxKit
set_option linter.unusedSimpArgs false
set_option linter.unusedVariables false
namespace Go.Proofs.Ytgapkifgddjijaa.Hx
open Go Go.RowKit Go.Proofs.YtgapkifgddjijaaW.PrintWords Go.Proofs.YtgapkifgddjijaaW.PrintLast Go.Proofs.YtgapkifgddjijaaW.PrintMore
def allocs (o : Obj) : Nat → World → World
  | 0, w => w
  | k + 1, w => (allocs o k w).alloc o
theorem allocs_below (o : Obj) : ∀ (k : Nat) (w : World), Below w.heap.size w (allocs o k w)
  | 0, w => Below.refl _ _
  | k + 1, w => below_alloc (allocs_below o k w) o
theorem allocs_size (o : Obj) : ∀ (k : Nat) (w : World), (allocs o k w).heap.size = w.heap.size + k
  | 0, w => rfl
  | k + 1, w => by
    have h : ((allocs o k w).alloc o).heap.size = (allocs o k w).heap.size + 1 := by first | (simp; done) | (unfold World.alloc; simp; done) | rfl
    show ((allocs o k w).alloc o).heap.size = _
    rw [h, allocs_size o k w, Nat.add_assoc]
theorem allocs_blk (o : Obj) : ∀ (k : Nat) (w : World) (p : Nat), p < k → (allocs o k w).heap[w.heap.size + p]? = some o
  | 0, w, p, h => absurd h (Nat.not_lt_zero _)
  | k + 1, w, p, h => by
    show ((allocs o k w).alloc o).heap[w.heap.size + p]? = some o
    by_cases hp : p = k
    · subst hp
      have := blk_new (allocs o p w) o
      rwa [allocs_size] at this
    · exact blk_alloc (allocs_blk o k w p (by omega)) o
def pos : List Nat → Nat → Nat
  | [], _ => 0
  | j :: r, i => if i = j then r.length else pos r i
theorem pos_lt : ∀ (D : List Nat) (i : Nat), i ∈ D → pos D i < D.length
  | [], i, h => by cases h
  | j :: r, i, h => by
    rw [pos, List.length_cons]
    by_cases hi : i = j
    · rw [if_pos hi]; omega
    · rw [if_neg hi]
      have := pos_lt r i ((List.mem_cons.1 h).resolve_left hi)
      omega
theorem pos_inj : ∀ (D : List Nat) (i j : Nat), i ∈ D → j ∈ D → i ≠ j → pos D i ≠ pos D j
  | [], i, j, h, _, _ => by cases h
  | k :: r, i, j, hi, hj, hne => by
    rw [pos, pos]
    by_cases h1 : i = k
    · have h2 : ¬ j = k := fun h => hne (h1.trans h.symm)
      rw [if_pos h1, if_neg h2]
      have := pos_lt r j ((List.mem_cons.1 hj).resolve_left h2)
      omega
    · rw [if_neg h1]
      by_cases h2 : j = k
      · rw [if_pos h2]
        have := pos_lt r i ((List.mem_cons.1 hi).resolve_left h1)
        omega
      · rw [if_neg h2]
        exact pos_inj r i j ((List.mem_cons.1 hi).resolve_left h1) ((List.mem_cons.1 hj).resolve_left h2) hne
theorem nd_le : ∀ (D L : List Nat), D.Nodup → (∀ x ∈ D, x ∈ L) → D.length ≤ L.length
  | [], L, _, _ => Nat.zero_le _
  | x :: D, L, hn, hs => by
    have hx := hs x List.mem_cons_self
    rw [List.nodup_cons] at hn
    have h := nd_le D (L.erase x) hn.2 (fun y hy => (List.mem_erase_of_ne (fun e => hn.1 (by rw [← e]; exact hy))).2 (hs y (List.mem_cons_of_mem _ hy)))
    rw [List.length_erase_of_mem hx] at h
    have : 0 < L.length := List.length_pos_of_mem hx
    rw [List.length_cons]
    omega
def ptrAt (n : Nat) : Value := .pointer (some ⟨n, 0, none⟩)
def VV (s : Nat) (D : List Nat) (i : Nat) : Value := if i ∈ D then ptrAt (s + pos D i) else undef
def LL (D : List Nat) : Array Bool := #[true, true, true, true, true, true, decide (6 ∈ D), decide (7 ∈ D), decide (8 ∈ D), decide (9 ∈ D), decide (10 ∈ D), decide (11 ∈ D), false, false, false, false, false, false]
def AA (a : Act) (s : Nat) (D : List Nat) : Act := putAll a [(2, VV s D 6), (3, VV s D 7), (4, VV s D 8), (5, VV s D 9), (6, VV s D 10), (7, VV s D 11)]
theorem VV_this (s : Nat) (D : List Nat) (j : Nat) : VV s (j :: D) j = ptrAt (s + D.length) := by
  unfold VV
  rw [if_pos List.mem_cons_self, pos, if_pos rfl]
theorem VV_other (s : Nat) (D : List Nat) (i j : Nat) (h : i ≠ j) : VV s (j :: D) i = VV s D i := by
  unfold VV
  by_cases hi : i ∈ D
  · rw [if_pos hi, if_pos (List.mem_cons_of_mem _ hi), pos, if_neg h]
  · rw [if_neg hi, if_neg (fun hm => hi ((List.mem_cons.1 hm).resolve_left h))]
theorem VV_in (s : Nat) (D : List Nat) (i : Nat) (h : i ∈ D) : VV s D i = ptrAt (s + pos D i) := by
  unfold VV
  rw [if_pos h]
theorem put_comm (a : Act) (n m : Nat) (x y : Value) (h : n ≠ m) : (a.put (some n) x).put (some m) y = (a.put (some m) y).put (some n) x := by
  unfold Act.put
  simp only
  rw [Array.setIfInBounds_comm _ _ h]
theorem put_same (a : Act) (n : Nat) (x y : Value) : (a.put (some n) x).put (some n) y = a.put (some n) y := by
  unfold Act.put
  simp
theorem AA_step (a : Act) (s : Nat) (D : List Nat) (j : Nat) (h1 : 6 ≤ j) (h2 : j ≤ 11) : (AA a s D).put (some (j - 4)) (ptrAt (s + D.length)) = AA a s (j :: D) := by
  have hc : j = 6 ∨ j = 7 ∨ j = 8 ∨ j = 9 ∨ j = 10 ∨ j = 11 := by omega
  rcases hc with rfl | rfl | rfl | rfl | rfl | rfl
  · unfold AA
    rw [VV_this, VV_other s D 7 6 (by decide), VV_other s D 8 6 (by decide), VV_other s D 9 6 (by decide), VV_other s D 10 6 (by decide), VV_other s D 11 6 (by decide)]
    simp only [putAll]
    rw [put_comm _ 7 2 _ _ (by decide), put_comm _ 6 2 _ _ (by decide), put_comm _ 5 2 _ _ (by decide), put_comm _ 4 2 _ _ (by decide), put_comm _ 3 2 _ _ (by decide), put_same]
  · unfold AA
    rw [VV_this, VV_other s D 6 7 (by decide), VV_other s D 8 7 (by decide), VV_other s D 9 7 (by decide), VV_other s D 10 7 (by decide), VV_other s D 11 7 (by decide)]
    simp only [putAll]
    rw [put_comm _ 7 3 _ _ (by decide), put_comm _ 6 3 _ _ (by decide), put_comm _ 5 3 _ _ (by decide), put_comm _ 4 3 _ _ (by decide), put_same]
  · unfold AA
    rw [VV_this, VV_other s D 6 8 (by decide), VV_other s D 7 8 (by decide), VV_other s D 9 8 (by decide), VV_other s D 10 8 (by decide), VV_other s D 11 8 (by decide)]
    simp only [putAll]
    rw [put_comm _ 7 4 _ _ (by decide), put_comm _ 6 4 _ _ (by decide), put_comm _ 5 4 _ _ (by decide), put_same]
  · unfold AA
    rw [VV_this, VV_other s D 6 9 (by decide), VV_other s D 7 9 (by decide), VV_other s D 8 9 (by decide), VV_other s D 10 9 (by decide), VV_other s D 11 9 (by decide)]
    simp only [putAll]
    rw [put_comm _ 7 5 _ _ (by decide), put_comm _ 6 5 _ _ (by decide), put_same]
  · unfold AA
    rw [VV_this, VV_other s D 6 10 (by decide), VV_other s D 7 10 (by decide), VV_other s D 8 10 (by decide), VV_other s D 9 10 (by decide), VV_other s D 11 10 (by decide)]
    simp only [putAll]
    rw [put_comm _ 7 6 _ _ (by decide), put_same]
  · unfold AA
    rw [VV_this, VV_other s D 6 11 (by decide), VV_other s D 7 11 (by decide), VV_other s D 8 11 (by decide), VV_other s D 9 11 (by decide), VV_other s D 10 11 (by decide)]
    simp only [putAll]
    rw [put_same]
theorem LL_step (D : List Nat) (j : Nat) (h1 : 6 ≤ j) (h2 : j ≤ 11) : (LL D).setIfInBounds j true = LL (j :: D) := by
  have hc : j = 6 ∨ j = 7 ∨ j = 8 ∨ j = 9 ∨ j = 10 ∨ j = 11 := by omega
  rcases hc with rfl | rfl | rfl | rfl | rfl | rfl <;> (unfold LL; simp)
def rdyl (b6 b7 b8 b9 b10 b11 : Bool) : List Nat := (if b6 = true then ([] : List Nat) else [6])++(if b7 = true then ([] : List Nat) else [7])++(if b8 = true then ([] : List Nat) else [8])++(if b9 = true then ([] : List Nat) else [9])++(if b10 = true then ([] : List Nat) else [10])++(if b11 = true then ([] : List Nat) else [11])
theorem rdyl_ne (b6 b7 b8 b9 b10 b11 : Bool) (h : (b6 && b7 && b8 && b9 && b10 && b11) = false) : rdyl b6 b7 b8 b9 b10 b11 ≠ [] := by
  cases b6 <;> cases b7 <;> cases b8 <;> cases b9 <;> cases b10 <;> cases b11 <;> first | (exact absurd h (by decide)) | (unfold rdyl; simp)
theorem rdyl_mem (b6 b7 b8 b9 b10 b11 : Bool) (j : Nat) (h : j ∈ rdyl b6 b7 b8 b9 b10 b11) : (j = 6 ∧ b6 = false) ∨ (j = 7 ∧ b7 = false) ∨ (j = 8 ∧ b8 = false) ∨ (j = 9 ∧ b9 = false) ∨ (j = 10 ∧ b10 = false) ∨ (j = 11 ∧ b11 = false) := by
  unfold rdyl at h
  simp only [List.mem_append] at h
  rcases h with ((((h | h) | h) | h) | h) | h
  · by_cases hb : b6 = true
    · rw [if_pos hb] at h; cases h
    · rw [if_neg hb] at h
      have := List.mem_singleton.1 h
      exact Or.inl ⟨this, Bool.eq_false_iff.2 hb⟩
  · by_cases hb : b7 = true
    · rw [if_pos hb] at h; cases h
    · rw [if_neg hb] at h
      have := List.mem_singleton.1 h
      exact Or.inr (Or.inl ⟨this, Bool.eq_false_iff.2 hb⟩)
  · by_cases hb : b8 = true
    · rw [if_pos hb] at h; cases h
    · rw [if_neg hb] at h
      have := List.mem_singleton.1 h
      exact Or.inr (Or.inr (Or.inl ⟨this, Bool.eq_false_iff.2 hb⟩))
  · by_cases hb : b9 = true
    · rw [if_pos hb] at h; cases h
    · rw [if_neg hb] at h
      have := List.mem_singleton.1 h
      exact Or.inr (Or.inr (Or.inr (Or.inl ⟨this, Bool.eq_false_iff.2 hb⟩)))
  · by_cases hb : b10 = true
    · rw [if_pos hb] at h; cases h
    · rw [if_neg hb] at h
      have := List.mem_singleton.1 h
      exact Or.inr (Or.inr (Or.inr (Or.inr (Or.inl ⟨this, Bool.eq_false_iff.2 hb⟩))))
  · by_cases hb : b11 = true
    · rw [if_pos hb] at h; cases h
    · rw [if_neg hb] at h
      have := List.mem_singleton.1 h
      exact Or.inr (Or.inr (Or.inr (Or.inr (Or.inr (⟨this, Bool.eq_false_iff.2 hb⟩)))))
theorem allocs6 {P : Program} {md : Region.Mode} {ops : Array Oper} {Q : Exit → Act → World → Prop} {S : World → Prop} {ds : List Nat} {f : Nat} (a : Act) (w0 : World) (z : Array Value) (ty : TypeId)
    (hop : ∀ i : Nat, 6 ≤ i → i ≤ 11 → ∃ o : Oper, ops[i]? = some o ∧ o.dst = some (i - 4) ∧ o.guard = none ∧ ∀ (a : Act) (w : World), (execOp a.eval o).run P w = .ok (.value (ptrAt w.heap.size)) (w.alloc (.cells z ty (0, 0))))
    (hds : ∀ i : Nat, 6 ≤ i → i ≤ 11 → i ∉ ds)
    (hready : ∀ b6 b7 b8 b9 b10 b11 : Bool, (b6 && b7 && b8 && b9 && b10 && b11) = false → Region.ready md ops #[true, true, true, true, true, true, b6, b7, b8, b9, b10, b11, false, false, false, false, false, false] = rdyl b6 b7 b8 b9 b10 b11)
    (hS : ∀ w' : World, Below w0.heap.size w0 w' → S w') (ha : AA a w0.heap.size [] = a)
    (hcont : ∀ (g2 g3 g4 g5 g6 g7 : Nat) (w' : World), Below w0.heap.size w0 w' → (∀ g ∈ [g2, g3, g4, g5, g6, g7], w0.heap.size ≤ g ∧ w'.heap[g]? = some (.cells z ty (0, 0))) → [g2, g3, g4, g5, g6, g7].Nodup →
      wpAnyLast P md ops Q S ds f #[true, true, true, true, true, true, true, true, true, true, true, true, false, false, false, false, false, false] (putAll a [(2, ptrAt g2), (3, ptrAt g3), (4, ptrAt g4), (5, ptrAt g5), (6, ptrAt g6), (7, ptrAt g7)]) w') :
    wpAnyLast P md ops Q S ds (6 + f) #[true, true, true, true, true, true, false, false, false, false, false, false, false, false, false, false, false, false] a w0 := by
  have step : ∀ (n : Nat) (D : List Nat), D.Nodup → (∀ x ∈ D, 6 ≤ x ∧ x ≤ 11) → D.length + n = 6 → wpAnyLast P md ops Q S ds (n + f) (LL D) (AA a w0.heap.size D) (allocs (.cells z ty (0, 0)) D.length w0) := by
    intro n
    induction n with
    | zero =>
      intro D hn hb hl
      have hall : ∀ i, 6 ≤ i → i ≤ 11 → i ∈ D := by
        intro i h1 h2
        apply Classical.byContradiction
        intro hi
        have := nd_le D (([6, 7, 8, 9, 10, 11] : List Nat).erase i) hn (fun x hx => (List.mem_erase_of_ne (fun e => hi (by rw [← e]; exact hx))).2 (by have := hb x hx; simp only [List.mem_cons, List.not_mem_nil, or_false]; omega))
        rw [List.length_erase_of_mem (by simp only [List.mem_cons, List.not_mem_nil, or_false]; omega)] at this
        have h5 : ([6, 7, 8, 9, 10, 11] : List Nat).length = 6 := rfl
        omega
      have hc := hcont (w0.heap.size + pos D 6) (w0.heap.size + pos D 7) (w0.heap.size + pos D 8) (w0.heap.size + pos D 9) (w0.heap.size + pos D 10) (w0.heap.size + pos D 11) (allocs (.cells z ty (0, 0)) D.length w0) (allocs_below _ _ _) (fun g hg => by
        simp only [List.mem_cons, List.not_mem_nil, or_false] at hg
        rcases hg with rfl | rfl | rfl | rfl | rfl | rfl <;> exact ⟨Nat.le_add_right _ _, allocs_blk _ _ _ _ (pos_lt D _ (hall _ (by decide) (by decide)))⟩) (by
        have ne := fun (i j : Nat) (h1 : 6 ≤ i ∧ i ≤ 11) (h2 : 6 ≤ j ∧ j ≤ 11) (h : i ≠ j) => pos_inj D i j (hall i h1.1 h1.2) (hall j h2.1 h2.2) h
        have n6_7 := ne 6 7 ⟨by decide, by decide⟩ ⟨by decide, by decide⟩ (by decide)
        have n6_8 := ne 6 8 ⟨by decide, by decide⟩ ⟨by decide, by decide⟩ (by decide)
        have n6_9 := ne 6 9 ⟨by decide, by decide⟩ ⟨by decide, by decide⟩ (by decide)
        have n6_10 := ne 6 10 ⟨by decide, by decide⟩ ⟨by decide, by decide⟩ (by decide)
        have n6_11 := ne 6 11 ⟨by decide, by decide⟩ ⟨by decide, by decide⟩ (by decide)
        have n7_8 := ne 7 8 ⟨by decide, by decide⟩ ⟨by decide, by decide⟩ (by decide)
        have n7_9 := ne 7 9 ⟨by decide, by decide⟩ ⟨by decide, by decide⟩ (by decide)
        have n7_10 := ne 7 10 ⟨by decide, by decide⟩ ⟨by decide, by decide⟩ (by decide)
        have n7_11 := ne 7 11 ⟨by decide, by decide⟩ ⟨by decide, by decide⟩ (by decide)
        have n8_9 := ne 8 9 ⟨by decide, by decide⟩ ⟨by decide, by decide⟩ (by decide)
        have n8_10 := ne 8 10 ⟨by decide, by decide⟩ ⟨by decide, by decide⟩ (by decide)
        have n8_11 := ne 8 11 ⟨by decide, by decide⟩ ⟨by decide, by decide⟩ (by decide)
        have n9_10 := ne 9 10 ⟨by decide, by decide⟩ ⟨by decide, by decide⟩ (by decide)
        have n9_11 := ne 9 11 ⟨by decide, by decide⟩ ⟨by decide, by decide⟩ (by decide)
        have n10_11 := ne 10 11 ⟨by decide, by decide⟩ ⟨by decide, by decide⟩ (by decide)
        simp only [List.nodup_cons, List.mem_cons, List.not_mem_nil, or_false, not_false_eq_true, List.nodup_nil, and_true]
        omega)
      unfold LL AA
      rw [decide_eq_true (hall 6 (by decide) (by decide)), decide_eq_true (hall 7 (by decide) (by decide)), decide_eq_true (hall 8 (by decide) (by decide)), decide_eq_true (hall 9 (by decide) (by decide)), decide_eq_true (hall 10 (by decide) (by decide)), decide_eq_true (hall 11 (by decide) (by decide)), VV_in _ D 6 (hall 6 (by decide) (by decide)), VV_in _ D 7 (hall 7 (by decide) (by decide)), VV_in _ D 8 (hall 8 (by decide) (by decide)), VV_in _ D 9 (hall 9 (by decide) (by decide)), VV_in _ D 10 (hall 10 (by decide) (by decide)), VV_in _ D 11 (hall 11 (by decide) (by decide)), Nat.zero_add]
      exact hc
    | succ n ih =>
      intro D hn hb hl
      have hfalse : (decide (6 ∈ D) && decide (7 ∈ D) && decide (8 ∈ D) && decide (9 ∈ D) && decide (10 ∈ D) && decide (11 ∈ D)) = false := by
        apply Bool.eq_false_iff.2
        intro h
        simp only [Bool.and_eq_true, decide_eq_true_eq] at h
        have := nd_le [6, 7, 8, 9, 10, 11] D (by decide) (fun x hx => by
          simp only [List.mem_cons, List.not_mem_nil, or_false] at hx
          rcases hx with rfl | rfl | rfl | rfl | rfl | rfl
          · exact h.1.1.1.1.1
          · exact h.1.1.1.1.2
          · exact h.1.1.1.2
          · exact h.1.1.2
          · exact h.1.2
          · exact h.2)
        have h5 : ([6, 7, 8, 9, 10, 11] : List Nat).length = 6 := rfl
        omega
      rw [show n + 1 + f = (n + f) + 1 by omega]
      refine wpAnyLast_ready (hready _ _ _ _ _ _ hfalse) (rdyl_ne _ _ _ _ _ _ hfalse) (fun j hj => ?_)
      have hj2 : 6 ≤ j ∧ j ≤ 11 ∧ j ∉ D := by
        rcases rdyl_mem _ _ _ _ _ _ j hj with ⟨rfl, h⟩ | ⟨rfl, h⟩ | ⟨rfl, h⟩ | ⟨rfl, h⟩ | ⟨rfl, h⟩ | ⟨rfl, h⟩ <;> exact ⟨by decide, by decide, of_decide_eq_false h⟩
      obtain ⟨o, ho, hd, hg, hrun⟩ := hop j hj2.1 hj2.2.1
      refine AllReadyL.cons ho (hds j hj2.1 hj2.2.1) (fun K hK => ?_) AllReadyL.nil j List.mem_cons_self
      refine value_ (by simp [Region.wanted, hg]) rfl (hrun _ _) ?_
      refine hK.out _ _ (hS _ (below_alloc (allocs_below _ _ _) _)) (fun _ => ?_)
      rw [hd, allocs_size, LL_step D j hj2.1 hj2.2.1, AA_step a _ D j hj2.1 hj2.2.1]
      exact ih (j :: D) (List.nodup_cons.2 ⟨hj2.2.2, hn⟩) (fun x hx => by
        rcases List.mem_cons.1 hx with rfl | hx
        · exact ⟨hj2.1, hj2.2.1⟩
        · exact hb x hx) (by rw [List.length_cons]; omega)
  have h0 := step 6 [] List.nodup_nil (fun x hx => by cases hx) rfl
  rw [ha] at h0
  exact h0
end Go.Proofs.Ytgapkifgddjijaa.Hx
