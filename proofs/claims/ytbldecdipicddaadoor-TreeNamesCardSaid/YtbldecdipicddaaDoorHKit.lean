/- General lemmas for walks by hand (laid by wip/s1/mkkit.py). -/
import Derived.Test.YtbldecdipicddaaDoorTabs
set_option linter.unusedSimpArgs false
set_option linter.unusedVariables false
namespace Go.Proofs.YtbldecdipicddaaDoor.Hand
open Go Go.RowKit Go.Proofs.YtbldecdipicddaaDoorW.PrintWords Go.Proofs.YtbldecdipicddaaDoorW.PrintLast
theorem storeVar_list {P : Program} (w : World) (ty g o : Nat) (vs : List Value) (hi : (P.info? ty).map (·.size) = some vs.length) (h1 : ∀ v ∈ vs, v.oneCell' = true)
    (hc : ∀ j, j < vs.length → (w.cell? ⟨g, o + 0 + j, none⟩).isSome = true) (hf : ∀ j, j < vs.length → w.frozen? ⟨g, o + 0 + j, none⟩ = false) :
    (storeVar ty ⟨g, o, none⟩ (.agg vs.toArray)).run P w = .ok () (w.setCells g o vs) := by
  have := run_storeCells_cells (P := P) g o vs 0 w hc hf h1
  cases hq : P.info? ty with
  | none => simp [hq] at hi
  | some i =>
    have hs : vs.length = i.size := by simp [hq] at hi; omega
    simp [storeVar, sizeOf, typeInfo, hq, Value.cells, hs, this]
theorem far_setCells {ga g t : Nat} {cs : Array Value} (hne : ga ≠ g) : ∀ (vs : List Value) (o : Nat) (w : World), w.heap[ga]? = some (.cells cs t (0, 0)) → (w.setCells g o vs).heap[ga]? = some (.cells cs t (0, 0))
  | [], _, _, h => h
  | v :: r, o, _, h => far_setCells hne r (o + 1) _ (blk_far h (p := ⟨g, o, none⟩) hne v)
theorem below_setCells {w0 : World} {g : Nat} (hg : w0.heap.size ≤ g) : ∀ (vs : List Value) (o : Nat) (w : World), Below w0.heap.size w0 w → Below w0.heap.size w0 (w.setCells g o vs)
  | [], _, _, h => h
  | v :: r, o, _, h => below_setCells hg r (o + 1) _ (below_set (j := o) (v := v) h hg)
theorem blk_setCells {g t : Nat} (post : List Value) : ∀ (vs old pre : List Value) (w : World), old.length = vs.length → w.heap[g]? = some (.cells (pre ++ old ++ post).toArray t (0, 0)) → (w.setCells g pre.length vs).heap[g]? = some (.cells (pre ++ vs ++ post).toArray t (0, 0))
  | [], old, pre, w, hl, h => by
    obtain rfl : old = [] := List.length_eq_zero_iff.1 hl
    exact h
  | v :: r, old, pre, w, hl, h => by
    obtain ⟨x, old', rfl⟩ : ∃ x o', old = x :: o' := by
      cases old with
      | nil => cases hl
      | cons x o' => exact ⟨x, o', rfl⟩
    have h1 := blk_put (cs' := ((pre ++ [v]) ++ old' ++ post).toArray) h pre.length v (by simp)
    have h2 := blk_setCells post r old' (pre ++ [v]) (w.setCell ⟨g, pre.length, none⟩ v) (by simpa using hl) h1
    rw [List.length_append, List.length_singleton] at h2
    have e : pre ++ [v] ++ r ++ post = pre ++ (v :: r) ++ post := by simp
    rw [e] at h2
    exact h2
theorem storeVar_blk {P : Program} {w : World} {g t : Nat} {cs : Array Value} (h : w.heap[g]? = some (.cells cs t (0, 0))) (ty o : Nat) (vs : List Value) (hi : (P.info? ty).map (·.size) = some vs.length) (h1 : vs.all (·.oneCell') = true) (hl : o + vs.length ≤ cs.size) :
    (storeVar ty ⟨g, o, none⟩ (.agg vs.toArray)).run P w = .ok () (w.setCells g o vs) := by
  refine storeVar_list w ty g o vs hi (fun v hv => List.all_eq_true.1 h1 v hv) (fun j hj => ?_) (fun j hj => blk_frozen h _)
  rw [blk_cell h, Array.getElem?_eq_getElem (by omega)]
  rfl
/-- A store of a whole struct or array, as one step. -/
theorem storeN_event {P : Program} {ops : Array Oper} {o : Oper} {rest : List Oper} {a : Act} {Q : Exit → Act → World → Prop} {W w1 : World} {T : TypeId} {p : Tmp} {v : Operand} (hgd : o.guard = none) (ho : o.op = .store T (.tmp p) v) (hN : o.dst = none) {g off : Nat} {vs : Array Value}
    (hx : a.eval (.tmp p) = .pointer (some ⟨g, off, none⟩)) (hy : a.eval v = .agg vs) (hs : (storeVar T ⟨g, off, none⟩ (.agg vs)).run P W = .ok () w1) (h : wpList P ops Q rest a w1) : wpList P ops Q (o :: rest) a W := by
  refine wpList_plain hgd fun K hK => ?_
  unfold Oper.wp execOp
  simp only [ho, hx, hy, Instr.storeAt, Instr.sureAddr, Sem.run_bind, Sem.run_pure, Result.andThen_ok, hs]
  show K (a.put o.dst undef) w1
  rw [hN]
  exact hK _ _ h
@[go_sem ↓ high] theorem run_storeVar_25_0 (g : Nat) (k0 k1 k2 k3 k4 k5 k6 k7 k8 k9 k10 k11 k12 k13 k14 k15 k16 k17 k18 k19 k20 k21 k22 k23 k24 : IntKind) (n0 n1 n2 n3 n4 n5 n6 n7 n8 n9 n10 n11 n12 n13 n14 n15 n16 n17 n18 n19 n20 n21 n22 n23 n24 : Int) (w : World) (c0 : (w.cell? ⟨g, 0, none⟩).isSome = true) (f0 : w.frozen? ⟨g, 0, none⟩ = false) (c1 : (w.cell? ⟨g, 1, none⟩).isSome = true) (f1 : w.frozen? ⟨g, 1, none⟩ = false) (c2 : (w.cell? ⟨g, 2, none⟩).isSome = true) (f2 : w.frozen? ⟨g, 2, none⟩ = false) (c3 : (w.cell? ⟨g, 3, none⟩).isSome = true) (f3 : w.frozen? ⟨g, 3, none⟩ = false) (c4 : (w.cell? ⟨g, 4, none⟩).isSome = true) (f4 : w.frozen? ⟨g, 4, none⟩ = false) (c5 : (w.cell? ⟨g, 5, none⟩).isSome = true) (f5 : w.frozen? ⟨g, 5, none⟩ = false) (c6 : (w.cell? ⟨g, 6, none⟩).isSome = true) (f6 : w.frozen? ⟨g, 6, none⟩ = false) (c7 : (w.cell? ⟨g, 7, none⟩).isSome = true) (f7 : w.frozen? ⟨g, 7, none⟩ = false) (c8 : (w.cell? ⟨g, 8, none⟩).isSome = true) (f8 : w.frozen? ⟨g, 8, none⟩ = false) (c9 : (w.cell? ⟨g, 9, none⟩).isSome = true) (f9 : w.frozen? ⟨g, 9, none⟩ = false) (c10 : (w.cell? ⟨g, 10, none⟩).isSome = true) (f10 : w.frozen? ⟨g, 10, none⟩ = false) (c11 : (w.cell? ⟨g, 11, none⟩).isSome = true) (f11 : w.frozen? ⟨g, 11, none⟩ = false) (c12 : (w.cell? ⟨g, 12, none⟩).isSome = true) (f12 : w.frozen? ⟨g, 12, none⟩ = false) (c13 : (w.cell? ⟨g, 13, none⟩).isSome = true) (f13 : w.frozen? ⟨g, 13, none⟩ = false) (c14 : (w.cell? ⟨g, 14, none⟩).isSome = true) (f14 : w.frozen? ⟨g, 14, none⟩ = false) (c15 : (w.cell? ⟨g, 15, none⟩).isSome = true) (f15 : w.frozen? ⟨g, 15, none⟩ = false) (c16 : (w.cell? ⟨g, 16, none⟩).isSome = true) (f16 : w.frozen? ⟨g, 16, none⟩ = false) (c17 : (w.cell? ⟨g, 17, none⟩).isSome = true) (f17 : w.frozen? ⟨g, 17, none⟩ = false) (c18 : (w.cell? ⟨g, 18, none⟩).isSome = true) (f18 : w.frozen? ⟨g, 18, none⟩ = false) (c19 : (w.cell? ⟨g, 19, none⟩).isSome = true) (f19 : w.frozen? ⟨g, 19, none⟩ = false) (c20 : (w.cell? ⟨g, 20, none⟩).isSome = true) (f20 : w.frozen? ⟨g, 20, none⟩ = false) (c21 : (w.cell? ⟨g, 21, none⟩).isSome = true) (f21 : w.frozen? ⟨g, 21, none⟩ = false) (c22 : (w.cell? ⟨g, 22, none⟩).isSome = true) (f22 : w.frozen? ⟨g, 22, none⟩ = false) (c23 : (w.cell? ⟨g, 23, none⟩).isSome = true) (f23 : w.frozen? ⟨g, 23, none⟩ = false) (c24 : (w.cell? ⟨g, 24, none⟩).isSome = true) (f24 : w.frozen? ⟨g, 24, none⟩ = false) :
    (storeVar 25 ⟨g, 0, none⟩ (.agg #[.int k0 n0, .int k1 n1, .int k2 n2, .int k3 n3, .int k4 n4, .int k5 n5, .int k6 n6, .int k7 n7, .int k8 n8, .int k9 n9, .int k10 n10, .int k11 n11, .int k12 n12, .int k13 n13, .int k14 n14, .int k15 n15, .int k16 n16, .int k17 n17, .int k18 n18, .int k19 n19, .int k20 n20, .int k21 n21, .int k22 n22, .int k23 n23, .int k24 n24])).run Tryd.prog w = .ok () (((((((((((((((((((((((((w.setCell ⟨g, 0, none⟩ (.int k0 n0)).setCell ⟨g, 1, none⟩ (.int k1 n1)).setCell ⟨g, 2, none⟩ (.int k2 n2)).setCell ⟨g, 3, none⟩ (.int k3 n3)).setCell ⟨g, 4, none⟩ (.int k4 n4)).setCell ⟨g, 5, none⟩ (.int k5 n5)).setCell ⟨g, 6, none⟩ (.int k6 n6)).setCell ⟨g, 7, none⟩ (.int k7 n7)).setCell ⟨g, 8, none⟩ (.int k8 n8)).setCell ⟨g, 9, none⟩ (.int k9 n9)).setCell ⟨g, 10, none⟩ (.int k10 n10)).setCell ⟨g, 11, none⟩ (.int k11 n11)).setCell ⟨g, 12, none⟩ (.int k12 n12)).setCell ⟨g, 13, none⟩ (.int k13 n13)).setCell ⟨g, 14, none⟩ (.int k14 n14)).setCell ⟨g, 15, none⟩ (.int k15 n15)).setCell ⟨g, 16, none⟩ (.int k16 n16)).setCell ⟨g, 17, none⟩ (.int k17 n17)).setCell ⟨g, 18, none⟩ (.int k18 n18)).setCell ⟨g, 19, none⟩ (.int k19 n19)).setCell ⟨g, 20, none⟩ (.int k20 n20)).setCell ⟨g, 21, none⟩ (.int k21 n21)).setCell ⟨g, 22, none⟩ (.int k22 n22)).setCell ⟨g, 23, none⟩ (.int k23 n23)).setCell ⟨g, 24, none⟩ (.int k24 n24)) := by
  have hc : ∀ j, j < 0 + 25 → (w.cell? ⟨g, 0 + 0 + j, none⟩).isSome = true := fun j hj => match j, hj with
    | 0, _ => c0
    | 1, _ => c1
    | 2, _ => c2
    | 3, _ => c3
    | 4, _ => c4
    | 5, _ => c5
    | 6, _ => c6
    | 7, _ => c7
    | 8, _ => c8
    | 9, _ => c9
    | 10, _ => c10
    | 11, _ => c11
    | 12, _ => c12
    | 13, _ => c13
    | 14, _ => c14
    | 15, _ => c15
    | 16, _ => c16
    | 17, _ => c17
    | 18, _ => c18
    | 19, _ => c19
    | 20, _ => c20
    | 21, _ => c21
    | 22, _ => c22
    | 23, _ => c23
    | 24, _ => c24
    | j + 25, h => absurd h (by omega)
  have hf : ∀ j, j < 0 + 25 → w.frozen? ⟨g, 0 + 0 + j, none⟩ = false := fun j hj => match j, hj with
    | 0, _ => f0
    | 1, _ => f1
    | 2, _ => f2
    | 3, _ => f3
    | 4, _ => f4
    | 5, _ => f5
    | 6, _ => f6
    | 7, _ => f7
    | 8, _ => f8
    | 9, _ => f9
    | 10, _ => f10
    | 11, _ => f11
    | 12, _ => f12
    | 13, _ => f13
    | 14, _ => f14
    | 15, _ => f15
    | 16, _ => f16
    | 17, _ => f17
    | 18, _ => f18
    | 19, _ => f19
    | 20, _ => f20
    | 21, _ => f21
    | 22, _ => f22
    | 23, _ => f23
    | 24, _ => f24
    | j + 25, h => absurd h (by omega)
  exact storeVar_list (P := Tryd.prog) w 25 g 0 [.int k0 n0, .int k1 n1, .int k2 n2, .int k3 n3, .int k4 n4, .int k5 n5, .int k6 n6, .int k7 n7, .int k8 n8, .int k9 n9, .int k10 n10, .int k11 n11, .int k12 n12, .int k13 n13, .int k14 n14, .int k15 n15, .int k16 n16, .int k17 n17, .int k18 n18, .int k19 n19, .int k20 n20, .int k21 n21, .int k22 n22, .int k23 n23, .int k24 n24] (by kernel_rfl) (fun v hv => by simp only [List.mem_cons, List.not_mem_nil, or_false] at hv; rcases hv with rfl | rfl | rfl | rfl | rfl | rfl | rfl | rfl | rfl | rfl | rfl | rfl | rfl | rfl | rfl | rfl | rfl | rfl | rfl | rfl | rfl | rfl | rfl | rfl | rfl <;> rfl) (fun j hj => hc j (by simpa using hj)) (fun j hj => hf j (by simpa using hj))
@[go_sem ↓ high] theorem run_storeVar_23_0 (g : Nat) (k0 k1 k2 k3 k4 k5 k6 k7 k8 k9 k10 k11 k12 k13 k14 k15 k16 k17 k18 k19 : IntKind) (n0 n1 n2 n3 n4 n5 n6 n7 n8 n9 n10 n11 n12 n13 n14 n15 n16 n17 n18 n19 : Int) (w : World) (c0 : (w.cell? ⟨g, 0, none⟩).isSome = true) (f0 : w.frozen? ⟨g, 0, none⟩ = false) (c1 : (w.cell? ⟨g, 1, none⟩).isSome = true) (f1 : w.frozen? ⟨g, 1, none⟩ = false) (c2 : (w.cell? ⟨g, 2, none⟩).isSome = true) (f2 : w.frozen? ⟨g, 2, none⟩ = false) (c3 : (w.cell? ⟨g, 3, none⟩).isSome = true) (f3 : w.frozen? ⟨g, 3, none⟩ = false) (c4 : (w.cell? ⟨g, 4, none⟩).isSome = true) (f4 : w.frozen? ⟨g, 4, none⟩ = false) (c5 : (w.cell? ⟨g, 5, none⟩).isSome = true) (f5 : w.frozen? ⟨g, 5, none⟩ = false) (c6 : (w.cell? ⟨g, 6, none⟩).isSome = true) (f6 : w.frozen? ⟨g, 6, none⟩ = false) (c7 : (w.cell? ⟨g, 7, none⟩).isSome = true) (f7 : w.frozen? ⟨g, 7, none⟩ = false) (c8 : (w.cell? ⟨g, 8, none⟩).isSome = true) (f8 : w.frozen? ⟨g, 8, none⟩ = false) (c9 : (w.cell? ⟨g, 9, none⟩).isSome = true) (f9 : w.frozen? ⟨g, 9, none⟩ = false) (c10 : (w.cell? ⟨g, 10, none⟩).isSome = true) (f10 : w.frozen? ⟨g, 10, none⟩ = false) (c11 : (w.cell? ⟨g, 11, none⟩).isSome = true) (f11 : w.frozen? ⟨g, 11, none⟩ = false) (c12 : (w.cell? ⟨g, 12, none⟩).isSome = true) (f12 : w.frozen? ⟨g, 12, none⟩ = false) (c13 : (w.cell? ⟨g, 13, none⟩).isSome = true) (f13 : w.frozen? ⟨g, 13, none⟩ = false) (c14 : (w.cell? ⟨g, 14, none⟩).isSome = true) (f14 : w.frozen? ⟨g, 14, none⟩ = false) (c15 : (w.cell? ⟨g, 15, none⟩).isSome = true) (f15 : w.frozen? ⟨g, 15, none⟩ = false) (c16 : (w.cell? ⟨g, 16, none⟩).isSome = true) (f16 : w.frozen? ⟨g, 16, none⟩ = false) (c17 : (w.cell? ⟨g, 17, none⟩).isSome = true) (f17 : w.frozen? ⟨g, 17, none⟩ = false) (c18 : (w.cell? ⟨g, 18, none⟩).isSome = true) (f18 : w.frozen? ⟨g, 18, none⟩ = false) (c19 : (w.cell? ⟨g, 19, none⟩).isSome = true) (f19 : w.frozen? ⟨g, 19, none⟩ = false) :
    (storeVar 23 ⟨g, 0, none⟩ (.agg #[.int k0 n0, .int k1 n1, .int k2 n2, .int k3 n3, .int k4 n4, .int k5 n5, .int k6 n6, .int k7 n7, .int k8 n8, .int k9 n9, .int k10 n10, .int k11 n11, .int k12 n12, .int k13 n13, .int k14 n14, .int k15 n15, .int k16 n16, .int k17 n17, .int k18 n18, .int k19 n19])).run Tryd.prog w = .ok () ((((((((((((((((((((w.setCell ⟨g, 0, none⟩ (.int k0 n0)).setCell ⟨g, 1, none⟩ (.int k1 n1)).setCell ⟨g, 2, none⟩ (.int k2 n2)).setCell ⟨g, 3, none⟩ (.int k3 n3)).setCell ⟨g, 4, none⟩ (.int k4 n4)).setCell ⟨g, 5, none⟩ (.int k5 n5)).setCell ⟨g, 6, none⟩ (.int k6 n6)).setCell ⟨g, 7, none⟩ (.int k7 n7)).setCell ⟨g, 8, none⟩ (.int k8 n8)).setCell ⟨g, 9, none⟩ (.int k9 n9)).setCell ⟨g, 10, none⟩ (.int k10 n10)).setCell ⟨g, 11, none⟩ (.int k11 n11)).setCell ⟨g, 12, none⟩ (.int k12 n12)).setCell ⟨g, 13, none⟩ (.int k13 n13)).setCell ⟨g, 14, none⟩ (.int k14 n14)).setCell ⟨g, 15, none⟩ (.int k15 n15)).setCell ⟨g, 16, none⟩ (.int k16 n16)).setCell ⟨g, 17, none⟩ (.int k17 n17)).setCell ⟨g, 18, none⟩ (.int k18 n18)).setCell ⟨g, 19, none⟩ (.int k19 n19)) := by
  have hc : ∀ j, j < 0 + 20 → (w.cell? ⟨g, 0 + 0 + j, none⟩).isSome = true := fun j hj => match j, hj with
    | 0, _ => c0
    | 1, _ => c1
    | 2, _ => c2
    | 3, _ => c3
    | 4, _ => c4
    | 5, _ => c5
    | 6, _ => c6
    | 7, _ => c7
    | 8, _ => c8
    | 9, _ => c9
    | 10, _ => c10
    | 11, _ => c11
    | 12, _ => c12
    | 13, _ => c13
    | 14, _ => c14
    | 15, _ => c15
    | 16, _ => c16
    | 17, _ => c17
    | 18, _ => c18
    | 19, _ => c19
    | j + 20, h => absurd h (by omega)
  have hf : ∀ j, j < 0 + 20 → w.frozen? ⟨g, 0 + 0 + j, none⟩ = false := fun j hj => match j, hj with
    | 0, _ => f0
    | 1, _ => f1
    | 2, _ => f2
    | 3, _ => f3
    | 4, _ => f4
    | 5, _ => f5
    | 6, _ => f6
    | 7, _ => f7
    | 8, _ => f8
    | 9, _ => f9
    | 10, _ => f10
    | 11, _ => f11
    | 12, _ => f12
    | 13, _ => f13
    | 14, _ => f14
    | 15, _ => f15
    | 16, _ => f16
    | 17, _ => f17
    | 18, _ => f18
    | 19, _ => f19
    | j + 20, h => absurd h (by omega)
  exact storeVar_list (P := Tryd.prog) w 23 g 0 [.int k0 n0, .int k1 n1, .int k2 n2, .int k3 n3, .int k4 n4, .int k5 n5, .int k6 n6, .int k7 n7, .int k8 n8, .int k9 n9, .int k10 n10, .int k11 n11, .int k12 n12, .int k13 n13, .int k14 n14, .int k15 n15, .int k16 n16, .int k17 n17, .int k18 n18, .int k19 n19] (by kernel_rfl) (fun v hv => by simp only [List.mem_cons, List.not_mem_nil, or_false] at hv; rcases hv with rfl | rfl | rfl | rfl | rfl | rfl | rfl | rfl | rfl | rfl | rfl | rfl | rfl | rfl | rfl | rfl | rfl | rfl | rfl | rfl <;> rfl) (fun j hj => hc j (by simpa using hj)) (fun j hj => hf j (by simpa using hj))
@[go_sem ↓ high] theorem run_storeVar_23_5 (g : Nat) (k0 k1 k2 k3 k4 k5 k6 k7 k8 k9 k10 k11 k12 k13 k14 k15 k16 k17 k18 k19 : IntKind) (n0 n1 n2 n3 n4 n5 n6 n7 n8 n9 n10 n11 n12 n13 n14 n15 n16 n17 n18 n19 : Int) (w : World) (c0 : (w.cell? ⟨g, 5, none⟩).isSome = true) (f0 : w.frozen? ⟨g, 5, none⟩ = false) (c1 : (w.cell? ⟨g, 6, none⟩).isSome = true) (f1 : w.frozen? ⟨g, 6, none⟩ = false) (c2 : (w.cell? ⟨g, 7, none⟩).isSome = true) (f2 : w.frozen? ⟨g, 7, none⟩ = false) (c3 : (w.cell? ⟨g, 8, none⟩).isSome = true) (f3 : w.frozen? ⟨g, 8, none⟩ = false) (c4 : (w.cell? ⟨g, 9, none⟩).isSome = true) (f4 : w.frozen? ⟨g, 9, none⟩ = false) (c5 : (w.cell? ⟨g, 10, none⟩).isSome = true) (f5 : w.frozen? ⟨g, 10, none⟩ = false) (c6 : (w.cell? ⟨g, 11, none⟩).isSome = true) (f6 : w.frozen? ⟨g, 11, none⟩ = false) (c7 : (w.cell? ⟨g, 12, none⟩).isSome = true) (f7 : w.frozen? ⟨g, 12, none⟩ = false) (c8 : (w.cell? ⟨g, 13, none⟩).isSome = true) (f8 : w.frozen? ⟨g, 13, none⟩ = false) (c9 : (w.cell? ⟨g, 14, none⟩).isSome = true) (f9 : w.frozen? ⟨g, 14, none⟩ = false) (c10 : (w.cell? ⟨g, 15, none⟩).isSome = true) (f10 : w.frozen? ⟨g, 15, none⟩ = false) (c11 : (w.cell? ⟨g, 16, none⟩).isSome = true) (f11 : w.frozen? ⟨g, 16, none⟩ = false) (c12 : (w.cell? ⟨g, 17, none⟩).isSome = true) (f12 : w.frozen? ⟨g, 17, none⟩ = false) (c13 : (w.cell? ⟨g, 18, none⟩).isSome = true) (f13 : w.frozen? ⟨g, 18, none⟩ = false) (c14 : (w.cell? ⟨g, 19, none⟩).isSome = true) (f14 : w.frozen? ⟨g, 19, none⟩ = false) (c15 : (w.cell? ⟨g, 20, none⟩).isSome = true) (f15 : w.frozen? ⟨g, 20, none⟩ = false) (c16 : (w.cell? ⟨g, 21, none⟩).isSome = true) (f16 : w.frozen? ⟨g, 21, none⟩ = false) (c17 : (w.cell? ⟨g, 22, none⟩).isSome = true) (f17 : w.frozen? ⟨g, 22, none⟩ = false) (c18 : (w.cell? ⟨g, 23, none⟩).isSome = true) (f18 : w.frozen? ⟨g, 23, none⟩ = false) (c19 : (w.cell? ⟨g, 24, none⟩).isSome = true) (f19 : w.frozen? ⟨g, 24, none⟩ = false) :
    (storeVar 23 ⟨g, 5, none⟩ (.agg #[.int k0 n0, .int k1 n1, .int k2 n2, .int k3 n3, .int k4 n4, .int k5 n5, .int k6 n6, .int k7 n7, .int k8 n8, .int k9 n9, .int k10 n10, .int k11 n11, .int k12 n12, .int k13 n13, .int k14 n14, .int k15 n15, .int k16 n16, .int k17 n17, .int k18 n18, .int k19 n19])).run Tryd.prog w = .ok () ((((((((((((((((((((w.setCell ⟨g, 5, none⟩ (.int k0 n0)).setCell ⟨g, 6, none⟩ (.int k1 n1)).setCell ⟨g, 7, none⟩ (.int k2 n2)).setCell ⟨g, 8, none⟩ (.int k3 n3)).setCell ⟨g, 9, none⟩ (.int k4 n4)).setCell ⟨g, 10, none⟩ (.int k5 n5)).setCell ⟨g, 11, none⟩ (.int k6 n6)).setCell ⟨g, 12, none⟩ (.int k7 n7)).setCell ⟨g, 13, none⟩ (.int k8 n8)).setCell ⟨g, 14, none⟩ (.int k9 n9)).setCell ⟨g, 15, none⟩ (.int k10 n10)).setCell ⟨g, 16, none⟩ (.int k11 n11)).setCell ⟨g, 17, none⟩ (.int k12 n12)).setCell ⟨g, 18, none⟩ (.int k13 n13)).setCell ⟨g, 19, none⟩ (.int k14 n14)).setCell ⟨g, 20, none⟩ (.int k15 n15)).setCell ⟨g, 21, none⟩ (.int k16 n16)).setCell ⟨g, 22, none⟩ (.int k17 n17)).setCell ⟨g, 23, none⟩ (.int k18 n18)).setCell ⟨g, 24, none⟩ (.int k19 n19)) := by
  have hc : ∀ j, j < 0 + 20 → (w.cell? ⟨g, 5 + 0 + j, none⟩).isSome = true := fun j hj => match j, hj with
    | 0, _ => c0
    | 1, _ => c1
    | 2, _ => c2
    | 3, _ => c3
    | 4, _ => c4
    | 5, _ => c5
    | 6, _ => c6
    | 7, _ => c7
    | 8, _ => c8
    | 9, _ => c9
    | 10, _ => c10
    | 11, _ => c11
    | 12, _ => c12
    | 13, _ => c13
    | 14, _ => c14
    | 15, _ => c15
    | 16, _ => c16
    | 17, _ => c17
    | 18, _ => c18
    | 19, _ => c19
    | j + 20, h => absurd h (by omega)
  have hf : ∀ j, j < 0 + 20 → w.frozen? ⟨g, 5 + 0 + j, none⟩ = false := fun j hj => match j, hj with
    | 0, _ => f0
    | 1, _ => f1
    | 2, _ => f2
    | 3, _ => f3
    | 4, _ => f4
    | 5, _ => f5
    | 6, _ => f6
    | 7, _ => f7
    | 8, _ => f8
    | 9, _ => f9
    | 10, _ => f10
    | 11, _ => f11
    | 12, _ => f12
    | 13, _ => f13
    | 14, _ => f14
    | 15, _ => f15
    | 16, _ => f16
    | 17, _ => f17
    | 18, _ => f18
    | 19, _ => f19
    | j + 20, h => absurd h (by omega)
  exact storeVar_list (P := Tryd.prog) w 23 g 5 [.int k0 n0, .int k1 n1, .int k2 n2, .int k3 n3, .int k4 n4, .int k5 n5, .int k6 n6, .int k7 n7, .int k8 n8, .int k9 n9, .int k10 n10, .int k11 n11, .int k12 n12, .int k13 n13, .int k14 n14, .int k15 n15, .int k16 n16, .int k17 n17, .int k18 n18, .int k19 n19] (by kernel_rfl) (fun v hv => by simp only [List.mem_cons, List.not_mem_nil, or_false] at hv; rcases hv with rfl | rfl | rfl | rfl | rfl | rfl | rfl | rfl | rfl | rfl | rfl | rfl | rfl | rfl | rfl | rfl | rfl | rfl | rfl | rfl <;> rfl) (fun j hj => hc j (by simpa using hj)) (fun j hj => hf j (by simpa using hj))
@[go_sem ↓ high] theorem run_storeVar_42_0 (g : Nat) (k0 k1 k2 k3 k4 : IntKind) (n0 n1 n2 n3 n4 : Int) (w : World) (c0 : (w.cell? ⟨g, 0, none⟩).isSome = true) (f0 : w.frozen? ⟨g, 0, none⟩ = false) (c1 : (w.cell? ⟨g, 1, none⟩).isSome = true) (f1 : w.frozen? ⟨g, 1, none⟩ = false) (c2 : (w.cell? ⟨g, 2, none⟩).isSome = true) (f2 : w.frozen? ⟨g, 2, none⟩ = false) (c3 : (w.cell? ⟨g, 3, none⟩).isSome = true) (f3 : w.frozen? ⟨g, 3, none⟩ = false) (c4 : (w.cell? ⟨g, 4, none⟩).isSome = true) (f4 : w.frozen? ⟨g, 4, none⟩ = false) :
    (storeVar 42 ⟨g, 0, none⟩ (.agg #[.int k0 n0, .int k1 n1, .int k2 n2, .int k3 n3, .int k4 n4])).run Tryd.prog w = .ok () (((((w.setCell ⟨g, 0, none⟩ (.int k0 n0)).setCell ⟨g, 1, none⟩ (.int k1 n1)).setCell ⟨g, 2, none⟩ (.int k2 n2)).setCell ⟨g, 3, none⟩ (.int k3 n3)).setCell ⟨g, 4, none⟩ (.int k4 n4)) := by
  have hc : ∀ j, j < 0 + 5 → (w.cell? ⟨g, 0 + 0 + j, none⟩).isSome = true := fun j hj => match j, hj with
    | 0, _ => c0
    | 1, _ => c1
    | 2, _ => c2
    | 3, _ => c3
    | 4, _ => c4
    | j + 5, h => absurd h (by omega)
  have hf : ∀ j, j < 0 + 5 → w.frozen? ⟨g, 0 + 0 + j, none⟩ = false := fun j hj => match j, hj with
    | 0, _ => f0
    | 1, _ => f1
    | 2, _ => f2
    | 3, _ => f3
    | 4, _ => f4
    | j + 5, h => absurd h (by omega)
  exact storeVar_list (P := Tryd.prog) w 42 g 0 [.int k0 n0, .int k1 n1, .int k2 n2, .int k3 n3, .int k4 n4] (by kernel_rfl) (fun v hv => by simp only [List.mem_cons, List.not_mem_nil, or_false] at hv; rcases hv with rfl | rfl | rfl | rfl | rfl <;> rfl) (fun j hj => hc j (by simpa using hj)) (fun j hj => hf j (by simpa using hj))
@[go_sem ↓ high] theorem run_storeVar_98_0 (g : Nat) (k0 k1 k2 k3 k4 : IntKind) (n0 n1 n2 n3 n4 : Int) (w : World) (c0 : (w.cell? ⟨g, 0, none⟩).isSome = true) (f0 : w.frozen? ⟨g, 0, none⟩ = false) (c1 : (w.cell? ⟨g, 1, none⟩).isSome = true) (f1 : w.frozen? ⟨g, 1, none⟩ = false) (c2 : (w.cell? ⟨g, 2, none⟩).isSome = true) (f2 : w.frozen? ⟨g, 2, none⟩ = false) (c3 : (w.cell? ⟨g, 3, none⟩).isSome = true) (f3 : w.frozen? ⟨g, 3, none⟩ = false) (c4 : (w.cell? ⟨g, 4, none⟩).isSome = true) (f4 : w.frozen? ⟨g, 4, none⟩ = false) :
    (storeVar 98 ⟨g, 0, none⟩ (.agg #[.int k0 n0, .int k1 n1, .int k2 n2, .int k3 n3, .int k4 n4])).run Tryd.prog w = .ok () (((((w.setCell ⟨g, 0, none⟩ (.int k0 n0)).setCell ⟨g, 1, none⟩ (.int k1 n1)).setCell ⟨g, 2, none⟩ (.int k2 n2)).setCell ⟨g, 3, none⟩ (.int k3 n3)).setCell ⟨g, 4, none⟩ (.int k4 n4)) := by
  have hc : ∀ j, j < 0 + 5 → (w.cell? ⟨g, 0 + 0 + j, none⟩).isSome = true := fun j hj => match j, hj with
    | 0, _ => c0
    | 1, _ => c1
    | 2, _ => c2
    | 3, _ => c3
    | 4, _ => c4
    | j + 5, h => absurd h (by omega)
  have hf : ∀ j, j < 0 + 5 → w.frozen? ⟨g, 0 + 0 + j, none⟩ = false := fun j hj => match j, hj with
    | 0, _ => f0
    | 1, _ => f1
    | 2, _ => f2
    | 3, _ => f3
    | 4, _ => f4
    | j + 5, h => absurd h (by omega)
  exact storeVar_list (P := Tryd.prog) w 98 g 0 [.int k0 n0, .int k1 n1, .int k2 n2, .int k3 n3, .int k4 n4] (by kernel_rfl) (fun v hv => by simp only [List.mem_cons, List.not_mem_nil, or_false] at hv; rcases hv with rfl | rfl | rfl | rfl | rfl <;> rfl) (fun j hj => hc j (by simpa using hj)) (fun j hj => hf j (by simpa using hj))
@[go_sem ↓ high] theorem run_storeVar_74_0 (g : Nat) (k0 k1 k2 k3 : IntKind) (n0 n1 n2 n3 : Int) (w : World) (c0 : (w.cell? ⟨g, 0, none⟩).isSome = true) (f0 : w.frozen? ⟨g, 0, none⟩ = false) (c1 : (w.cell? ⟨g, 1, none⟩).isSome = true) (f1 : w.frozen? ⟨g, 1, none⟩ = false) (c2 : (w.cell? ⟨g, 2, none⟩).isSome = true) (f2 : w.frozen? ⟨g, 2, none⟩ = false) (c3 : (w.cell? ⟨g, 3, none⟩).isSome = true) (f3 : w.frozen? ⟨g, 3, none⟩ = false) :
    (storeVar 74 ⟨g, 0, none⟩ (.agg #[.int k0 n0, .int k1 n1, .int k2 n2, .int k3 n3])).run Tryd.prog w = .ok () ((((w.setCell ⟨g, 0, none⟩ (.int k0 n0)).setCell ⟨g, 1, none⟩ (.int k1 n1)).setCell ⟨g, 2, none⟩ (.int k2 n2)).setCell ⟨g, 3, none⟩ (.int k3 n3)) := by
  have hc : ∀ j, j < 0 + 4 → (w.cell? ⟨g, 0 + 0 + j, none⟩).isSome = true := fun j hj => match j, hj with
    | 0, _ => c0
    | 1, _ => c1
    | 2, _ => c2
    | 3, _ => c3
    | j + 4, h => absurd h (by omega)
  have hf : ∀ j, j < 0 + 4 → w.frozen? ⟨g, 0 + 0 + j, none⟩ = false := fun j hj => match j, hj with
    | 0, _ => f0
    | 1, _ => f1
    | 2, _ => f2
    | 3, _ => f3
    | j + 4, h => absurd h (by omega)
  exact storeVar_list (P := Tryd.prog) w 74 g 0 [.int k0 n0, .int k1 n1, .int k2 n2, .int k3 n3] (by kernel_rfl) (fun v hv => by simp only [List.mem_cons, List.not_mem_nil, or_false] at hv; rcases hv with rfl | rfl | rfl | rfl <;> rfl) (fun j hj => hc j (by simpa using hj)) (fun j hj => hf j (by simpa using hj))
theorem loadVar_list {P : Program} (w : World) (ty g o : Nat) (vs : List Value) (hi : (P.info? ty).map (·.size) = some vs.length) (ha : (isAgg ty).run P w = .ok true w)
    (hc : ∀ (j : Nat) (v : Value), vs[j]? = some v → w.cell? ⟨g, o + j, none⟩ = some v) : (loadVar ty ⟨g, o, none⟩).run P w = .ok (.agg vs.toArray) w := by
  have hadd : ∀ j : Nat, (⟨g, o, none⟩ : Addr).add j = ⟨g, o + j, none⟩ := fun j => by simp [Addr.add]
  have hl := run_loadCells_list (P := P) w ⟨g, o, none⟩ vs (fun j v hj => by rw [hadd]; exact hc j v hj)
  cases hq : P.info? ty with
  | none => simp [hq] at hi
  | some i =>
    have hs : vs.length = i.size := by simp [hq] at hi; omega
    unfold loadVar
    rw [hs] at hl
    simp only [Sem.run_bind, ha, Result.andThen_ok, if_true, sizeOf, typeInfo]
    simp [hq, hl]
theorem loadN_run {P : Program} {o : Oper} {a : Act} {W : World} {T : TypeId} {x : Operand} {v : Value} {g off : Nat} (ho : o.op = .load T x) (hx : a.eval x = .pointer (some ⟨g, off, none⟩)) (hs : (loadVar T ⟨g, off, none⟩).run P W = .ok v W) : (execOp a.eval o).run P W = .ok (.value v) W := by
  unfold execOp
  simp only [ho, hx, Instr.loadAt, Instr.sureAddr, Sem.run_bind, Sem.run_pure, Result.andThen_ok, hs]
/-- A load of a whole struct or array, as one step. -/
theorem loadN_event {P : Program} {ops : Array Oper} {o : Oper} {rest : List Oper} {a : Act} {Q : Exit → Act → World → Prop} {W : World} {T : TypeId} {x : Operand} {v : Value} {g off : Nat} (hgd : o.guard = none) (ho : o.op = .load T x)
    (hx : a.eval x = .pointer (some ⟨g, off, none⟩)) (hs : (loadVar T ⟨g, off, none⟩).run P W = .ok v W) (h : wpList P ops Q rest (a.put o.dst v) W) : wpList P ops Q (o :: rest) a W := by
  refine wpList_plain hgd fun K hK => ?_
  unfold Oper.wp
  rw [loadN_run ho hx hs]
  exact hK _ _ h
theorem run_loadVar_23_5 {g : Nat} {k0 k1 k2 k3 k4 k5 k6 k7 k8 k9 k10 k11 k12 k13 k14 k15 k16 k17 k18 k19 : IntKind} {n0 n1 n2 n3 n4 n5 n6 n7 n8 n9 n10 n11 n12 n13 n14 n15 n16 n17 n18 n19 : Int} {w : World} (c0 : w.cell? ⟨g, 5, none⟩ = some (.int k0 n0)) (c1 : w.cell? ⟨g, 6, none⟩ = some (.int k1 n1)) (c2 : w.cell? ⟨g, 7, none⟩ = some (.int k2 n2)) (c3 : w.cell? ⟨g, 8, none⟩ = some (.int k3 n3)) (c4 : w.cell? ⟨g, 9, none⟩ = some (.int k4 n4)) (c5 : w.cell? ⟨g, 10, none⟩ = some (.int k5 n5)) (c6 : w.cell? ⟨g, 11, none⟩ = some (.int k6 n6)) (c7 : w.cell? ⟨g, 12, none⟩ = some (.int k7 n7)) (c8 : w.cell? ⟨g, 13, none⟩ = some (.int k8 n8)) (c9 : w.cell? ⟨g, 14, none⟩ = some (.int k9 n9)) (c10 : w.cell? ⟨g, 15, none⟩ = some (.int k10 n10)) (c11 : w.cell? ⟨g, 16, none⟩ = some (.int k11 n11)) (c12 : w.cell? ⟨g, 17, none⟩ = some (.int k12 n12)) (c13 : w.cell? ⟨g, 18, none⟩ = some (.int k13 n13)) (c14 : w.cell? ⟨g, 19, none⟩ = some (.int k14 n14)) (c15 : w.cell? ⟨g, 20, none⟩ = some (.int k15 n15)) (c16 : w.cell? ⟨g, 21, none⟩ = some (.int k16 n16)) (c17 : w.cell? ⟨g, 22, none⟩ = some (.int k17 n17)) (c18 : w.cell? ⟨g, 23, none⟩ = some (.int k18 n18)) (c19 : w.cell? ⟨g, 24, none⟩ = some (.int k19 n19)) :
    (loadVar 23 ⟨g, 5, none⟩).run Tryd.prog w = .ok (.agg #[.int k0 n0, .int k1 n1, .int k2 n2, .int k3 n3, .int k4 n4, .int k5 n5, .int k6 n6, .int k7 n7, .int k8 n8, .int k9 n9, .int k10 n10, .int k11 n11, .int k12 n12, .int k13 n13, .int k14 n14, .int k15 n15, .int k16 n16, .int k17 n17, .int k18 n18, .int k19 n19]) w := by
  refine loadVar_list (P := Tryd.prog) w 23 g 5 [.int k0 n0, .int k1 n1, .int k2 n2, .int k3 n3, .int k4 n4, .int k5 n5, .int k6 n6, .int k7 n7, .int k8 n8, .int k9 n9, .int k10 n10, .int k11 n11, .int k12 n12, .int k13 n13, .int k14 n14, .int k15 n15, .int k16 n16, .int k17 n17, .int k18 n18, .int k19 n19] (by kernel_rfl) (by kernel_rfl) (fun j v hj => ?_)
  match j, hj with
  | 0, hj => exact (Option.some.inj hj) ▸ c0
  | 1, hj => exact (Option.some.inj hj) ▸ c1
  | 2, hj => exact (Option.some.inj hj) ▸ c2
  | 3, hj => exact (Option.some.inj hj) ▸ c3
  | 4, hj => exact (Option.some.inj hj) ▸ c4
  | 5, hj => exact (Option.some.inj hj) ▸ c5
  | 6, hj => exact (Option.some.inj hj) ▸ c6
  | 7, hj => exact (Option.some.inj hj) ▸ c7
  | 8, hj => exact (Option.some.inj hj) ▸ c8
  | 9, hj => exact (Option.some.inj hj) ▸ c9
  | 10, hj => exact (Option.some.inj hj) ▸ c10
  | 11, hj => exact (Option.some.inj hj) ▸ c11
  | 12, hj => exact (Option.some.inj hj) ▸ c12
  | 13, hj => exact (Option.some.inj hj) ▸ c13
  | 14, hj => exact (Option.some.inj hj) ▸ c14
  | 15, hj => exact (Option.some.inj hj) ▸ c15
  | 16, hj => exact (Option.some.inj hj) ▸ c16
  | 17, hj => exact (Option.some.inj hj) ▸ c17
  | 18, hj => exact (Option.some.inj hj) ▸ c18
  | 19, hj => exact (Option.some.inj hj) ▸ c19
  | j + 20, hj => simp at hj
theorem Cint_at {k : IntKind} {w : World} {A : Option Addr} {n : Nat} {xs : List Int} (h : Kd.C (Kd.int k) w A n xs) (i : Nat) (hi : i < xs.length) : ∃ ad, A = some ad ∧ w.cell? (ad.add i) = some (.int k (xs.getD i 0)) := by
  obtain ⟨ad, e, hc⟩ := h.2.2 (by have := h.1; omega)
  obtain ⟨c, hl, hp, hcell⟩ := hc i _ (List.getElem?_eq_getElem hi)
  have hp' : c = [.int k xs[i]] := hp
  subst hp'
  refine ⟨ad, e, ?_⟩
  have := hcell 0 _ rfl
  rw [show i * (Kd.int k).sz + 0 = i by show i * 1 + 0 = i; omega] at this
  rw [this, List.getD_eq_getElem?_getD, List.getElem?_eq_getElem hi]
  rfl
theorem info5p : (Tryd.prog.info? 5).map (fun i => (i.zero, i.size, i.bytes)) = some (some (.int .u8 0), 1, 1) := by kernel_rfl
theorem C_get {k : IntKind} {w : World} {ad : Addr} {n m : Nat} {xs : List Int} (h : Kd.C (Kd.int k) w (some ad) n xs) (hl : xs.length = m) (i : Nat) (hi : i < m) : w.cell? (ad.add i) = some (.int k (xs.getD i 0)) := by
  subst hl
  obtain ⟨_, e, hc⟩ := Cint_at h i hi
  cases e
  exact hc
theorem C_get0 {k : IntKind} {w : World} {ad : Addr} {n m : Nat} {xs : List Int} (h : Kd.C (Kd.int k) w (some ad) n xs) (hl : xs.length = m) (hi : 0 < m) : w.cell? ad = some (.int k (xs.getD 0 0)) := by
  have := C_get h hl 0 hi
  rwa [Addr.add_zero'] at this
theorem C_getb {k : IntKind} {w : World} {ad : Addr} {n m : Nat} {xs : List Int} (h : Kd.C (Kd.int k) w (some ad) n xs) (hl : xs.length = m) (i : Nat) (hi : i < m) {b : Int} (hb : xs.getD i 0 = b) : w.cell? (ad.add i) = some (.int k b) := hb ▸ C_get h hl i hi
theorem C_getb0 {k : IntKind} {w : World} {ad : Addr} {n m : Nat} {xs : List Int} (h : Kd.C (Kd.int k) w (some ad) n xs) (hl : xs.length = m) (hi : 0 < m) {b : Int} (hb : xs.getD 0 0 = b) : w.cell? ad = some (.int k b) := hb ▸ C_get0 h hl hi
theorem storeN_run {P : Program} {o : Oper} {a : Act} {W w1 : World} {T : TypeId} {p : Tmp} {v : Operand} (ho : o.op = .store T (.tmp p) v) {g off : Nat} {vs : List Value}
    (hx : a.eval (.tmp p) = .pointer (some ⟨g, off, none⟩)) (hy : a.eval v = .agg vs.toArray) (hs : (storeVar T ⟨g, off, none⟩ (.agg vs.toArray)).run P W = .ok () w1) : (execOp a.eval o).run P W = .ok .skip w1 := by
  unfold execOp
  simp only [ho, hx, hy, Instr.storeAt, Instr.sureAddr, Sem.run_bind, Sem.run_pure, Result.andThen_ok, hs]
theorem row_form {k : IntKind} {e : Nat} {w' : World} {v : Value} {xs : List Int} {b n : Nat} {ok : Nat → Prop} (h : Kd.R (Kd.int k) e w' b ok v xs) (hn : xs.length = n) (h0 : 0 < n) : ∃ g cap, v = .slice (some ⟨g, 0, none⟩) n cap ∧ n ≤ cap ∧ Kd.C (Kd.int k) w' (some ⟨g, 0, none⟩) n xs := by
  subst hn
  obtain ⟨g, cap, rfl, _⟩ := Kd.R_form h h0
  obtain ⟨_, h2, h3⟩ := Kd.R_reads' h
  exact ⟨g, cap, rfl, h2, h3⟩
theorem conv_of {W : World} {A : Option Addr} {n c : Nat} {xs : List Int} (h : Kd.C (Kd.int .u8) W A n xs) : (convert 26 9 (.slice A n c)).run Tryd.prog W = .ok (.string (strOfNums xs)) W := Kd.C_string Tryd.underlying26 Tryd.underlying5 Tryd.underlying9 h
theorem reps_ints {w : World} {b : Nat} {ok : Nat → Prop} (k : IntKind) : ∀ xs : List Int, Reps ((Kd.int k).M w b ok) 1 xs (xs.map (Value.int k))
  | [] => Reps.none _ _
  | x :: xs => Reps.one (show Kd.M (Kd.int k) _ _ _ x [.int k x] from rfl) (reps_ints k xs)
theorem R_setCells {e g t b : Nat} {cs : Array Value} {v : Value} {xs : List Int} {k : IntKind} {ok : Nat → Prop} (hne : e ≠ t) : ∀ (vs : List Value) (o : Nat) (W : World), Kd.R (Kd.int k) e W b ok v xs → W.heap[g]? = some (.cells cs t (0, 0)) → Kd.R (Kd.int k) e (W.setCells g o vs) b ok v xs := by
  intro vs
  induction vs generalizing cs with
  | nil => exact fun _ _ h _ => h
  | cons x vs ih =>
    intro o W h hb
    exact ih (o + 1) _ (Kd.R_mono (Kd.R_far (p := ⟨g, o, none⟩) (Kd.R_types h hb (fun q hq => by rcases List.mem_cons.1 hq with rfl | h'; exact hne; cases h')) (fun _ hk => hk.2) x) (fun _ hk => hk.1)) (blk_set hb o x)
end Go.Proofs.YtbldecdipicddaaDoor.Hand
