/- The walk of the law HeaderNames. Written by wip/s1/mknames26.py. -/
import Derived.Test.YtbldecdipicddaaDoorRowForm
import Derived.Test.YtbldecdipicddaaDoorHEq
import Derived.Great.BuildSlice
set_option linter.unusedSimpArgs false
set_option linter.unusedVariables false
namespace Go.Proofs.YtbldecdipicddaaDoor.Hand
open Go Go.RowKit Go.Proofs.YtbldecdipicddaaDoorW.PrintWords Go.Proofs.YtbldecdipicddaaDoorW.PrintLast Go.Proofs.YtbldecdipicddaaDoorW.PrintMore
/-- The cells of a header with no digest. -/
def hz (x : Int × Int × Int × Int × Int) : List Value := [.int .u8 x.1, .int .i64 x.2.1, .int .i64 x.2.2.1, .int .i64 x.2.2.2.1, .int .i64 x.2.2.2.2, .int .u8 0, .int .u8 0, .int .u8 0, .int .u8 0, .int .u8 0, .int .u8 0, .int .u8 0, .int .u8 0, .int .u8 0, .int .u8 0, .int .u8 0, .int .u8 0, .int .u8 0, .int .u8 0, .int .u8 0, .int .u8 0, .int .u8 0, .int .u8 0, .int .u8 0, .int .u8 0]
theorem hz_len : ∀ HS : List (Int × Int × Int × Int × Int), (HS.flatMap hz).length = HS.length * 25
  | [] => rfl
  | x :: HS => by
    rw [List.flatMap_cons, List.length_append, hz_len HS, List.length_cons, show (hz x).length = 25 from rfl]
    omega
theorem elem_load {w : World} {g t : Nat} (HS : List (Int × Int × Int × Int × Int)) (h : w.heap[g]? = some (.cells (HS.flatMap hz).toArray t (0, 0))) (i : Nat) (hi : i < HS.length) : (loadVar 25 ⟨g, i * 25, none⟩).run Tryd.prog w = .ok (.agg (hz HS[i]).toArray) w := by
  have e : HS.flatMap hz = (HS.take i).flatMap hz ++ hz HS[i] ++ (HS.drop (i + 1)).flatMap hz := by
    conv => lhs; rw [← List.take_append_drop i HS, List.drop_eq_getElem_cons hi]
    rw [List.flatMap_append, List.flatMap_cons, List.append_assoc]
  rw [e] at h
  have := loadVar_sub (pre := (HS.take i).flatMap hz) (vs := hz HS[i]) (post := (HS.drop (i + 1)).flatMap hz) h 25 (by kernel_rfl) (by kernel_rfl)
  rwa [hz_len, List.length_take, Nat.min_eq_left (Nat.le_of_lt hi)] at this
theorem lits_event {P : Program} {ops : Array Oper} {o : Oper} {rest : List Oper} {a : Act} {Q : Exit → Act → World → Prop} {W : World} (hgd : o.guard = none) {N : Tmp} (_hd : o.dst = some N) (t e : TypeId) (n : Nat) (parts : Array (Nat × Operand)) (ho : o.op = .buildSlice t n parts) (cells : Array Value) (z : Value) (sz : Nat)
    (hu : P.underlying t = some (.slice e)) (hinfo : (P.info? e).map (fun i => (i.zero, i.size)) = some (some z, sz)) (hsmall : ¬ n * sz > 2 ^ 24) (hpos : ¬ n * sz = 0)
    (hf : Instr.fill (fun i => some (i * sz, sz)) ((Array.range (n * sz)).map (z.cells[· % z.cells.size]!)) (parts.map fun (i, x) => (i, a.eval x)).toList = some cells)
    (h : ∀ g, g = W.heap.size → ∀ w1, w1.heap[g]? = some (.cells cells e (0, 0)) → Below W.heap.size W w1 → wpList P ops Q rest (a.put o.dst (.slice (some ⟨g, 0, none⟩) n n)) w1) : wpList P ops Q (o :: rest) a W := by
  obtain ⟨i0, hi, hzz⟩ := Option.map_eq_some_iff.1 hinfo
  simp only [Prod.mk.injEq] at hzz
  obtain ⟨hz0, rfl⟩ := hzz
  exact wpList_buildSlice hgd t e n parts ho cells i0 z hu hi hz0 hsmall hpos hf (h _ rfl _ (blk_new W _) (below_alloc (Below.refl _ _) _))
theorem load_sum' {w : World} {g : Nat} {m a b c d : Int} {d0 d1 d2 d3 d4 d5 d6 d7 d8 d9 d10 d11 d12 d13 d14 d15 d16 d17 d18 d19 : Int} (h : w.heap[g]? = some (.cells #[.int .u8 m, .int .i64 a, .int .i64 b, .int .i64 c, .int .i64 d, .int .u8 d0, .int .u8 d1, .int .u8 d2, .int .u8 d3, .int .u8 d4, .int .u8 d5, .int .u8 d6, .int .u8 d7, .int .u8 d8, .int .u8 d9, .int .u8 d10, .int .u8 d11, .int .u8 d12, .int .u8 d13, .int .u8 d14, .int .u8 d15, .int .u8 d16, .int .u8 d17, .int .u8 d18, .int .u8 d19] 25 (0, 0))) : (loadVar 23 ⟨g, 5, none⟩).run Tryd.prog w = .ok (.agg #[.int .u8 d0, .int .u8 d1, .int .u8 d2, .int .u8 d3, .int .u8 d4, .int .u8 d5, .int .u8 d6, .int .u8 d7, .int .u8 d8, .int .u8 d9, .int .u8 d10, .int .u8 d11, .int .u8 d12, .int .u8 d13, .int .u8 d14, .int .u8 d15, .int .u8 d16, .int .u8 d17, .int .u8 d18, .int .u8 d19]) w :=
  run_loadVar_23_5 ((blk_cell h 5).trans rfl) ((blk_cell h 6).trans rfl) ((blk_cell h 7).trans rfl) ((blk_cell h 8).trans rfl) ((blk_cell h 9).trans rfl) ((blk_cell h 10).trans rfl) ((blk_cell h 11).trans rfl) ((blk_cell h 12).trans rfl) ((blk_cell h 13).trans rfl) ((blk_cell h 14).trans rfl) ((blk_cell h 15).trans rfl) ((blk_cell h 16).trans rfl) ((blk_cell h 17).trans rfl) ((blk_cell h 18).trans rfl) ((blk_cell h 19).trans rfl) ((blk_cell h 20).trans rfl) ((blk_cell h 21).trans rfl) ((blk_cell h 22).trans rfl) ((blk_cell h 23).trans rfl) ((blk_cell h 24).trans rfl)
theorem bytes_mk' {w : World} {g t : Nat} {l : List Int} (hb : w.heap[g]? = some (.cells (l.map (Value.int .u8)).toArray t (0, 0))) (hn : l.length ≤ 9223372036854775807) : Kd.C (Kd.int .u8) w (some ⟨g, 0, none⟩) l.length l := by
  refine Kd.C_of_reads (d := (0 : Int)) (h1 := fun _ => rfl) ⟨rfl, hn, fun _ => ⟨⟨g, 0, none⟩, rfl, fun j hj => ?_⟩⟩
  have e : (⟨g, 0, none⟩ : Addr).add j = ⟨g, j, none⟩ := by
    by_cases h : j = 0
    · subst h; rfl
    · simp [Addr.add, h]
  rw [e, blk_cell hb]
  simp [List.getD_eq_getElem?_getD, List.getElem?_map, hj]
def GC : Array Value := #[.int .u8 1, .int .i64 0, .int .i64 0, .int .i64 1, .int .i64 1, .int .u8 0, .int .u8 0, .int .u8 0, .int .u8 0, .int .u8 0, .int .u8 0, .int .u8 0, .int .u8 0, .int .u8 0, .int .u8 0, .int .u8 0, .int .u8 0, .int .u8 0, .int .u8 0, .int .u8 0, .int .u8 0, .int .u8 0, .int .u8 0, .int .u8 0, .int .u8 0, .int .u8 2, .int .i64 15, .int .i64 4096, .int .i64 4096, .int .i64 4095, .int .u8 0, .int .u8 0, .int .u8 0, .int .u8 0, .int .u8 0, .int .u8 0, .int .u8 0, .int .u8 0, .int .u8 0, .int .u8 0, .int .u8 0, .int .u8 0, .int .u8 0, .int .u8 0, .int .u8 0, .int .u8 0, .int .u8 0, .int .u8 0, .int .u8 0, .int .u8 0, .int .u8 2, .int .i64 0, .int .i64 8190, .int .i64 2, .int .i64 1, .int .u8 0, .int .u8 0, .int .u8 0, .int .u8 0, .int .u8 0, .int .u8 0, .int .u8 0, .int .u8 0, .int .u8 0, .int .u8 0, .int .u8 0, .int .u8 0, .int .u8 0, .int .u8 0, .int .u8 0, .int .u8 0, .int .u8 0, .int .u8 0, .int .u8 0, .int .u8 0]
def BC : Array Value := #[.int .u8 0, .int .i64 0, .int .i64 0, .int .i64 0, .int .i64 0, .int .u8 0, .int .u8 0, .int .u8 0, .int .u8 0, .int .u8 0, .int .u8 0, .int .u8 0, .int .u8 0, .int .u8 0, .int .u8 0, .int .u8 0, .int .u8 0, .int .u8 0, .int .u8 0, .int .u8 0, .int .u8 0, .int .u8 0, .int .u8 0, .int .u8 0, .int .u8 0, .int .u8 3, .int .i64 0, .int .i64 0, .int .i64 1, .int .i64 1, .int .u8 0, .int .u8 0, .int .u8 0, .int .u8 0, .int .u8 0, .int .u8 0, .int .u8 0, .int .u8 0, .int .u8 0, .int .u8 0, .int .u8 0, .int .u8 0, .int .u8 0, .int .u8 0, .int .u8 0, .int .u8 0, .int .u8 0, .int .u8 0, .int .u8 0, .int .u8 0, .int .u8 1, .int .i64 0, .int .i64 0, .int .i64 2, .int .i64 1, .int .u8 0, .int .u8 0, .int .u8 0, .int .u8 0, .int .u8 0, .int .u8 0, .int .u8 0, .int .u8 0, .int .u8 0, .int .u8 0, .int .u8 0, .int .u8 0, .int .u8 0, .int .u8 0, .int .u8 0, .int .u8 0, .int .u8 0, .int .u8 0, .int .u8 0, .int .u8 0, .int .u8 1, .int .i64 0, .int .i64 0, .int .i64 1, .int .i64 2, .int .u8 0, .int .u8 0, .int .u8 0, .int .u8 0, .int .u8 0, .int .u8 0, .int .u8 0, .int .u8 0, .int .u8 0, .int .u8 0, .int .u8 0, .int .u8 0, .int .u8 0, .int .u8 0, .int .u8 0, .int .u8 0, .int .u8 0, .int .u8 0, .int .u8 0, .int .u8 0, .int .u8 2, .int .i64 0, .int .i64 0, .int .i64 1, .int .i64 1, .int .u8 0, .int .u8 0, .int .u8 0, .int .u8 0, .int .u8 0, .int .u8 0, .int .u8 0, .int .u8 0, .int .u8 0, .int .u8 0, .int .u8 0, .int .u8 0, .int .u8 0, .int .u8 0, .int .u8 0, .int .u8 0, .int .u8 0, .int .u8 0, .int .u8 0, .int .u8 0, .int .u8 2, .int .i64 0, .int .i64 0, .int .i64 2, .int .i64 0, .int .u8 0, .int .u8 0, .int .u8 0, .int .u8 0, .int .u8 0, .int .u8 0, .int .u8 0, .int .u8 0, .int .u8 0, .int .u8 0, .int .u8 0, .int .u8 0, .int .u8 0, .int .u8 0, .int .u8 0, .int .u8 0, .int .u8 0, .int .u8 0, .int .u8 0, .int .u8 0, .int .u8 1, .int .i64 16, .int .i64 0, .int .i64 1, .int .i64 1, .int .u8 0, .int .u8 0, .int .u8 0, .int .u8 0, .int .u8 0, .int .u8 0, .int .u8 0, .int .u8 0, .int .u8 0, .int .u8 0, .int .u8 0, .int .u8 0, .int .u8 0, .int .u8 0, .int .u8 0, .int .u8 0, .int .u8 0, .int .u8 0, .int .u8 0, .int .u8 0, .int .u8 1, .int .i64 (-1), .int .i64 0, .int .i64 1, .int .i64 1, .int .u8 0, .int .u8 0, .int .u8 0, .int .u8 0, .int .u8 0, .int .u8 0, .int .u8 0, .int .u8 0, .int .u8 0, .int .u8 0, .int .u8 0, .int .u8 0, .int .u8 0, .int .u8 0, .int .u8 0, .int .u8 0, .int .u8 0, .int .u8 0, .int .u8 0, .int .u8 0, .int .u8 1, .int .i64 0, .int .i64 (-1), .int .i64 1, .int .i64 1, .int .u8 0, .int .u8 0, .int .u8 0, .int .u8 0, .int .u8 0, .int .u8 0, .int .u8 0, .int .u8 0, .int .u8 0, .int .u8 0, .int .u8 0, .int .u8 0, .int .u8 0, .int .u8 0, .int .u8 0, .int .u8 0, .int .u8 0, .int .u8 0, .int .u8 0, .int .u8 0, .int .u8 1, .int .i64 0, .int .i64 8192, .int .i64 1, .int .i64 1, .int .u8 0, .int .u8 0, .int .u8 0, .int .u8 0, .int .u8 0, .int .u8 0, .int .u8 0, .int .u8 0, .int .u8 0, .int .u8 0, .int .u8 0, .int .u8 0, .int .u8 0, .int .u8 0, .int .u8 0, .int .u8 0, .int .u8 0, .int .u8 0, .int .u8 0, .int .u8 0, .int .u8 1, .int .i64 0, .int .i64 0, .int .i64 4097, .int .i64 4097, .int .u8 0, .int .u8 0, .int .u8 0, .int .u8 0, .int .u8 0, .int .u8 0, .int .u8 0, .int .u8 0, .int .u8 0, .int .u8 0, .int .u8 0, .int .u8 0, .int .u8 0, .int .u8 0, .int .u8 0, .int .u8 0, .int .u8 0, .int .u8 0, .int .u8 0, .int .u8 0, .int .u8 1, .int .i64 0, .int .i64 9223372036854775807, .int .i64 1, .int .i64 1, .int .u8 0, .int .u8 0, .int .u8 0, .int .u8 0, .int .u8 0, .int .u8 0, .int .u8 0, .int .u8 0, .int .u8 0, .int .u8 0, .int .u8 0, .int .u8 0, .int .u8 0, .int .u8 0, .int .u8 0, .int .u8 0, .int .u8 0, .int .u8 0, .int .u8 0, .int .u8 0]
set_option maxHeartbeats 6400000 in
set_option maxRecDepth 100000 in
theorem names26_walk (d0 d1 d2 d3 d4 d5 d6 d7 d8 d9 d10 d11 d12 d13 d14 d15 d16 d17 d18 d19 : Int) (w : World) (hT : TabQ w ∧ TabW w)
    (hG : ∀ i, i < 3 → ∃ (m a b c d : Int) (X : List Int), X.length = 28 ∧ (∀ (W : World) (g t : Nat), W.heap[g]? = some (.cells GC t (0, 0)) → (loadVar 25 ⟨g, i * 25, none⟩).run Tryd.prog W = .ok (.agg #[.int .u8 m, .int .i64 a, .int .i64 b, .int .i64 c, .int .i64 d, .int .u8 0, .int .u8 0, .int .u8 0, .int .u8 0, .int .u8 0, .int .u8 0, .int .u8 0, .int .u8 0, .int .u8 0, .int .u8 0, .int .u8 0, .int .u8 0, .int .u8 0, .int .u8 0, .int .u8 0, .int .u8 0, .int .u8 0, .int .u8 0, .int .u8 0, .int .u8 0]) W) ∧ (∀ W : World, TabW W → Calls Tryd.prog 21 #[.agg #[.int .u8 m, .int .i64 a, .int .i64 b, .int .i64 c, .int .i64 d, .int .u8 0, .int .u8 0, .int .u8 0, .int .u8 0, .int .u8 0, .int .u8 0, .int .u8 0, .int .u8 0, .int .u8 0, .int .u8 0, .int .u8 0, .int .u8 0, .int .u8 0, .int .u8 0, .int .u8 0, .int .u8 0, .int .u8 0, .int .u8 0, .int .u8 0, .int .u8 0]] W fun e w' => ∃ v0_ : Value, e = .returned (.tuple #[v0_, .int .i64 0]) ∧ Kd.R (Kd.int .u8) 5 w' W.heap.size (fun _ => True) v0_ X ∧ Below W.heap.size W w') ∧ (∀ (W : World) (g c' : Nat), TabW W → Kd.C (Kd.int .u8) W (some ⟨g, 0, none⟩) 28 X → 28 ≤ c' → Calls Tryd.prog 23 #[.slice (some ⟨g, 0, none⟩) 28 c'] W fun e w' => e = .returned (.tuple #[.agg #[.int .u8 m, .int .i64 a, .int .i64 b, .int .i64 c, .int .i64 d, .int .u8 0, .int .u8 0, .int .u8 0, .int .u8 0, .int .u8 0, .int .u8 0, .int .u8 0, .int .u8 0, .int .u8 0, .int .u8 0, .int .u8 0, .int .u8 0, .int .u8 0, .int .u8 0, .int .u8 0, .int .u8 0, .int .u8 0, .int .u8 0, .int .u8 0, .int .u8 0], .int .i64 0]) ∧ Below W.heap.size W w') ∧ (∀ W : World, Calls Tryd.prog 25 #[.agg #[.int .u8 m, .int .i64 a, .int .i64 b, .int .i64 c, .int .i64 d, .int .u8 0, .int .u8 0, .int .u8 0, .int .u8 0, .int .u8 0, .int .u8 0, .int .u8 0, .int .u8 0, .int .u8 0, .int .u8 0, .int .u8 0, .int .u8 0, .int .u8 0, .int .u8 0, .int .u8 0, .int .u8 0, .int .u8 0, .int .u8 0, .int .u8 0, .int .u8 0]] W fun e w' => e = .returned (.int .i64 0) ∧ Below W.heap.size W w'))
    (hB : ∀ i, i < 12 → ∃ m a b c d : Int, (∀ (W : World) (g t : Nat), W.heap[g]? = some (.cells BC t (0, 0)) → (loadVar 25 ⟨g, i * 25, none⟩).run Tryd.prog W = .ok (.agg #[.int .u8 m, .int .i64 a, .int .i64 b, .int .i64 c, .int .i64 d, .int .u8 0, .int .u8 0, .int .u8 0, .int .u8 0, .int .u8 0, .int .u8 0, .int .u8 0, .int .u8 0, .int .u8 0, .int .u8 0, .int .u8 0, .int .u8 0, .int .u8 0, .int .u8 0, .int .u8 0, .int .u8 0, .int .u8 0, .int .u8 0, .int .u8 0, .int .u8 0]) W) ∧ (∀ W : World, Calls Tryd.prog 21 #[.agg #[.int .u8 m, .int .i64 a, .int .i64 b, .int .i64 c, .int .i64 d, .int .u8 0, .int .u8 0, .int .u8 0, .int .u8 0, .int .u8 0, .int .u8 0, .int .u8 0, .int .u8 0, .int .u8 0, .int .u8 0, .int .u8 0, .int .u8 0, .int .u8 0, .int .u8 0, .int .u8 0, .int .u8 0, .int .u8 0, .int .u8 0, .int .u8 0, .int .u8 0]] W fun e w' => ∃ v0_ : Value, e = .returned (.tuple #[v0_, .int .i64 8]) ∧ Below W.heap.size W w') ∧ (∀ W : World, TabQ W ∧ TabW W → Calls Tryd.prog 50 #[.agg #[.int .u8 m, .int .i64 a, .int .i64 b, .int .i64 c, .int .i64 d, .int .u8 0, .int .u8 0, .int .u8 0, .int .u8 0, .int .u8 0, .int .u8 0, .int .u8 0, .int .u8 0, .int .u8 0, .int .u8 0, .int .u8 0, .int .u8 0, .int .u8 0, .int .u8 0, .int .u8 0, .int .u8 0, .int .u8 0, .int .u8 0, .int .u8 0, .int .u8 0], .slice none 0 0] W fun e w' => e = .returned (.tuple #[.agg #[.int .u8 0, .int .u8 0, .int .u8 0, .int .u8 0, .int .u8 0, .int .u8 0, .int .u8 0, .int .u8 0, .int .u8 0, .int .u8 0, .int .u8 0, .int .u8 0, .int .u8 0, .int .u8 0, .int .u8 0, .int .u8 0, .int .u8 0, .int .u8 0, .int .u8 0, .int .u8 0], .int .i64 8]) ∧ Below W.heap.size W w') ∧ (∀ W : World, TabQ W ∧ TabW W → Calls Tryd.prog 52 #[.agg #[.int .u8 m, .int .i64 a, .int .i64 b, .int .i64 c, .int .i64 d, .int .u8 0, .int .u8 0, .int .u8 0, .int .u8 0, .int .u8 0, .int .u8 0, .int .u8 0, .int .u8 0, .int .u8 0, .int .u8 0, .int .u8 0, .int .u8 0, .int .u8 0, .int .u8 0, .int .u8 0, .int .u8 0, .int .u8 0, .int .u8 0, .int .u8 0, .int .u8 0], .slice none 0 0] W fun e w' => e = .returned (.tuple #[.agg #[.int .u8 0, .int .i64 0, .int .i64 0, .int .i64 0, .int .i64 0, .int .u8 0, .int .u8 0, .int .u8 0, .int .u8 0, .int .u8 0, .int .u8 0, .int .u8 0, .int .u8 0, .int .u8 0, .int .u8 0, .int .u8 0, .int .u8 0, .int .u8 0, .int .u8 0, .int .u8 0, .int .u8 0, .int .u8 0, .int .u8 0, .int .u8 0, .int .u8 0], .int .i64 8]) ∧ Below W.heap.size W w') ∧ (∀ W : World, TabQ W ∧ TabW W → Calls Tryd.prog 54 #[.agg #[.int .u8 m, .int .i64 a, .int .i64 b, .int .i64 c, .int .i64 d, .int .u8 0, .int .u8 0, .int .u8 0, .int .u8 0, .int .u8 0, .int .u8 0, .int .u8 0, .int .u8 0, .int .u8 0, .int .u8 0, .int .u8 0, .int .u8 0, .int .u8 0, .int .u8 0, .int .u8 0, .int .u8 0, .int .u8 0, .int .u8 0, .int .u8 0, .int .u8 0], .slice none 0 0] W fun e w' => e = .returned (.tuple #[.bool false, .int .i64 8]) ∧ Below W.heap.size W w') ∧ (∀ W : World, Calls Tryd.prog 25 #[.agg #[.int .u8 m, .int .i64 a, .int .i64 b, .int .i64 c, .int .i64 d, .int .u8 0, .int .u8 0, .int .u8 0, .int .u8 0, .int .u8 0, .int .u8 0, .int .u8 0, .int .u8 0, .int .u8 0, .int .u8 0, .int .u8 0, .int .u8 0, .int .u8 0, .int .u8 0, .int .u8 0, .int .u8 0, .int .u8 0, .int .u8 0, .int .u8 0, .int .u8 0]] W fun e w' => e = .returned (.int .i64 8) ∧ Below W.heap.size W w'))
    (hex : ∀ W : World, Calls Tryd.prog 56 #[] W fun e w' => e = .returned (.agg #[.int .u8 1, .int .i64 3, .int .i64 512, .int .i64 16, .int .i64 16, .int .u8 0, .int .u8 0, .int .u8 0, .int .u8 0, .int .u8 0, .int .u8 0, .int .u8 0, .int .u8 0, .int .u8 0, .int .u8 0, .int .u8 0, .int .u8 0, .int .u8 0, .int .u8 0, .int .u8 0, .int .u8 0, .int .u8 0, .int .u8 0, .int .u8 0, .int .u8 0]) ∧ Below W.heap.size W w')
    (h19 : ∀ (W : World) (A1 : Option Addr) (c1 : Nat), TabQ W ∧ TabW W → Calls Tryd.prog 50 #[.agg #[.int .u8 1, .int .i64 3, .int .i64 512, .int .i64 16, .int .i64 16, .int .u8 0, .int .u8 0, .int .u8 0, .int .u8 0, .int .u8 0, .int .u8 0, .int .u8 0, .int .u8 0, .int .u8 0, .int .u8 0, .int .u8 0, .int .u8 0, .int .u8 0, .int .u8 0, .int .u8 0, .int .u8 0, .int .u8 0, .int .u8 0, .int .u8 0, .int .u8 0], .slice A1 15 c1] W fun e w' => e = .returned (.tuple #[.agg #[.int .u8 0, .int .u8 0, .int .u8 0, .int .u8 0, .int .u8 0, .int .u8 0, .int .u8 0, .int .u8 0, .int .u8 0, .int .u8 0, .int .u8 0, .int .u8 0, .int .u8 0, .int .u8 0, .int .u8 0, .int .u8 0, .int .u8 0, .int .u8 0, .int .u8 0, .int .u8 0], .int .i64 2]) ∧ Below W.heap.size W w')
    (h20 : ∀ (W : World) (A1 : Option Addr) (c1 : Nat), TabQ W ∧ TabW W → Calls Tryd.prog 52 #[.agg #[.int .u8 1, .int .i64 3, .int .i64 512, .int .i64 16, .int .i64 16, .int .u8 0, .int .u8 0, .int .u8 0, .int .u8 0, .int .u8 0, .int .u8 0, .int .u8 0, .int .u8 0, .int .u8 0, .int .u8 0, .int .u8 0, .int .u8 0, .int .u8 0, .int .u8 0, .int .u8 0, .int .u8 0, .int .u8 0, .int .u8 0, .int .u8 0, .int .u8 0], .slice A1 17 c1] W fun e w' => e = .returned (.tuple #[.agg #[.int .u8 0, .int .i64 0, .int .i64 0, .int .i64 0, .int .i64 0, .int .u8 0, .int .u8 0, .int .u8 0, .int .u8 0, .int .u8 0, .int .u8 0, .int .u8 0, .int .u8 0, .int .u8 0, .int .u8 0, .int .u8 0, .int .u8 0, .int .u8 0, .int .u8 0, .int .u8 0, .int .u8 0, .int .u8 0, .int .u8 0, .int .u8 0, .int .u8 0], .int .i64 2]) ∧ Below W.heap.size W w')
    (h21 : ∀ (W : World) (A1 : Option Addr) (c1 : Nat), TabQ W ∧ TabW W → Calls Tryd.prog 54 #[.agg #[.int .u8 1, .int .i64 3, .int .i64 512, .int .i64 16, .int .i64 16, .int .u8 0, .int .u8 0, .int .u8 0, .int .u8 0, .int .u8 0, .int .u8 0, .int .u8 0, .int .u8 0, .int .u8 0, .int .u8 0, .int .u8 0, .int .u8 0, .int .u8 0, .int .u8 0, .int .u8 0, .int .u8 0, .int .u8 0, .int .u8 0, .int .u8 0, .int .u8 0], .slice A1 17 c1] W fun e w' => e = .returned (.tuple #[.bool false, .int .i64 0]) ∧ Below W.heap.size W w')
    (h22 : ∀ (W : World) (A1 : Option Addr) (c1 : Nat), TabQ W ∧ TabW W → Kd.C (Kd.int .u8) W A1 16 (List.replicate 16 0) → Calls Tryd.prog 52 #[.agg #[.int .u8 1, .int .i64 3, .int .i64 512, .int .i64 16, .int .i64 16, .int .u8 0, .int .u8 0, .int .u8 0, .int .u8 0, .int .u8 0, .int .u8 0, .int .u8 0, .int .u8 0, .int .u8 0, .int .u8 0, .int .u8 0, .int .u8 0, .int .u8 0, .int .u8 0, .int .u8 0, .int .u8 0, .int .u8 0, .int .u8 0, .int .u8 0, .int .u8 0], .slice A1 16 c1] W fun e w' => e = .returned (.tuple #[.agg #[.int .u8 1, .int .i64 3, .int .i64 512, .int .i64 16, .int .i64 16, .int .u8 d0, .int .u8 d1, .int .u8 d2, .int .u8 d3, .int .u8 d4, .int .u8 d5, .int .u8 d6, .int .u8 d7, .int .u8 d8, .int .u8 d9, .int .u8 d10, .int .u8 d11, .int .u8 d12, .int .u8 d13, .int .u8 d14, .int .u8 d15, .int .u8 d16, .int .u8 d17, .int .u8 d18, .int .u8 d19], .int .i64 0]) ∧ Below W.heap.size W w')
    (h23 : ∀ (W : World) (A1 : Option Addr) (c1 : Nat), TabQ W ∧ TabW W → Kd.C (Kd.int .u8) W A1 16 (List.replicate 16 0) → Calls Tryd.prog 54 #[.agg #[.int .u8 1, .int .i64 3, .int .i64 512, .int .i64 16, .int .i64 16, .int .u8 d0, .int .u8 d1, .int .u8 d2, .int .u8 d3, .int .u8 d4, .int .u8 d5, .int .u8 d6, .int .u8 d7, .int .u8 d8, .int .u8 d9, .int .u8 d10, .int .u8 d11, .int .u8 d12, .int .u8 d13, .int .u8 d14, .int .u8 d15, .int .u8 d16, .int .u8 d17, .int .u8 d18, .int .u8 d19], .slice A1 16 c1] W fun e w' => e = .returned (.tuple #[.bool true, .int .i64 0]) ∧ Below W.heap.size W w')
    (h24 : ∀ (W : World) (A1 : Option Addr) (c1 : Nat), TabQ W ∧ TabW W → Kd.C (Kd.int .u8) W A1 16 [0, 0, 0, 0, 0, 0, 0, 0, 0, 0, 0, 0, 0, 0, 0, 1] → Calls Tryd.prog 54 #[.agg #[.int .u8 1, .int .i64 3, .int .i64 512, .int .i64 16, .int .i64 16, .int .u8 d0, .int .u8 d1, .int .u8 d2, .int .u8 d3, .int .u8 d4, .int .u8 d5, .int .u8 d6, .int .u8 d7, .int .u8 d8, .int .u8 d9, .int .u8 d10, .int .u8 d11, .int .u8 d12, .int .u8 d13, .int .u8 d14, .int .u8 d15, .int .u8 d16, .int .u8 d17, .int .u8 d18, .int .u8 d19], .slice A1 16 c1] W fun e w' => e = .returned (.tuple #[.bool false, .int .i64 0]) ∧ Below W.heap.size W w')
    (h25 : ∀ (W : World) (A1 : Option Addr) (c1 : Nat), TabQ W → Kd.C (Kd.int .u8) W A1 ([1, 3, 2, 0, 0, 16, 0, 16] ++ List.replicate (Int.toNat 16) (0 : Int)).length ([1, 3, 2, 0, 0, 16, 0, 16] ++ List.replicate (Int.toNat 16) (0 : Int)) → ([1, 3, 2, 0, 0, 16, 0, 16] ++ List.replicate (Int.toNat 16) (0 : Int)).length ≤ c1 → Calls Tryd.prog 44 #[.slice A1 ([1, 3, 2, 0, 0, 16, 0, 16] ++ List.replicate (Int.toNat 16) (0 : Int)).length c1] W fun e w' => e = .returned (.tuple #[.agg #[.int .u8 d0, .int .u8 d1, .int .u8 d2, .int .u8 d3, .int .u8 d4, .int .u8 d5, .int .u8 d6, .int .u8 d7, .int .u8 d8, .int .u8 d9, .int .u8 d10, .int .u8 d11, .int .u8 d12, .int .u8 d13, .int .u8 d14, .int .u8 d15, .int .u8 d16, .int .u8 d17, .int .u8 d18, .int .u8 d19], .int .i64 0]) ∧ Below W.heap.size W w')
    (h26 : ∀ (W : World) (g c1 : Nat), TabW W → Kd.C (Kd.int .u8) W (some ⟨g, 0, none⟩) 28 (List.replicate 28 0) → 28 ≤ c1 → Calls Tryd.prog 23 #[.slice (some ⟨g, 0, none⟩) 28 c1] W fun e w' => e = .returned (.tuple #[.agg #[.int .u8 0, .int .i64 0, .int .i64 0, .int .i64 0, .int .i64 0, .int .u8 0, .int .u8 0, .int .u8 0, .int .u8 0, .int .u8 0, .int .u8 0, .int .u8 0, .int .u8 0, .int .u8 0, .int .u8 0, .int .u8 0, .int .u8 0, .int .u8 0, .int .u8 0, .int .u8 0, .int .u8 0, .int .u8 0, .int .u8 0, .int .u8 0, .int .u8 0], .int .i64 12]) ∧ Below W.heap.size W w')
    (h27 : ∀ (W : World) (g c1 : Nat), Calls Tryd.prog 23 #[.slice (some ⟨g, 0, none⟩) 29 c1] W fun e w' => e = .returned (.tuple #[.agg #[.int .u8 0, .int .i64 0, .int .i64 0, .int .i64 0, .int .i64 0, .int .u8 0, .int .u8 0, .int .u8 0, .int .u8 0, .int .u8 0, .int .u8 0, .int .u8 0, .int .u8 0, .int .u8 0, .int .u8 0, .int .u8 0, .int .u8 0, .int .u8 0, .int .u8 0, .int .u8 0, .int .u8 0, .int .u8 0, .int .u8 0, .int .u8 0, .int .u8 0], .int .i64 12]) ∧ Below W.heap.size W w')
    (hal : ∀ W : World, TabW W → Calls Tryd.prog 27 #[] W fun e w' => e = .returned (.bool true) ∧ Below W.heap.size W w') :
    Calls Tryd.prog 15 #[] w fun e w' => e = .returned (.bool true) ∧ Below w.heap.size w w' := by
  have HhT := Aside0.mk hT
  have HhG := Aside0.mk hG
  have HhB := Aside0.mk hB
  have Hhex := Aside0.mk hex
  have Hh19 := Aside0.mk h19
  have Hh20 := Aside0.mk h20
  have Hh21 := Aside0.mk h21
  have Hh22 := Aside0.mk h22
  have Hh23 := Aside0.mk h23
  have Hh24 := Aside0.mk h24
  have Hh25 := Aside0.mk h25
  have Hh26 := Aside0.mk h26
  have Hh27 := Aside0.mk h27
  have Hhal := Aside0.mk hal
  clear hT hG hB hex h19 h20 h21 h22 h23 h24 h25 h26 h27 hal
  go_enter Tryd.func15, Tryd.ntmps15
  try dsimp only [List.append]
  go_wp2_with (first | ((with_reducible refine gate_dst (N := 38) rfl ?_); refine lits_event rfl (N := 38) rfl 83 25 3 _ rfl GC (.agg #[.int .u8 0, .int .i64 0, .int .i64 0, .int .i64 0, .int .i64 0, .int .u8 0, .int .u8 0, .int .u8 0, .int .u8 0, .int .u8 0, .int .u8 0, .int .u8 0, .int .u8 0, .int .u8 0, .int .u8 0, .int .u8 0, .int .u8 0, .int .u8 0, .int .u8 0, .int .u8 0, .int .u8 0, .int .u8 0, .int .u8 0, .int .u8 0, .int .u8 0]) 25 Tryd.underlying83 (by kernel_rfl) (by decide) (by decide) (by kernel_rfl) ?_; intro g1 hgg1 w2 hhg1 hbg1; have H5 := Aside0.mk hhg1; have G3 : w.heap.size ≤ g1 := Nat.le_of_eq hgg1.symm; have B4 := Aside0.mk (hbg1); clear hgg1 hhg1 hbg1; generalize Value.agg #[.int .u8 1, .int .i64 0, .int .i64 0, .int .i64 1, .int .i64 1, .int .u8 0, .int .u8 0, .int .u8 0, .int .u8 0, .int .u8 0, .int .u8 0, .int .u8 0, .int .u8 0, .int .u8 0, .int .u8 0, .int .u8 0, .int .u8 0, .int .u8 0, .int .u8 0, .int .u8 0, .int .u8 0, .int .u8 0, .int .u8 0, .int .u8 0, .int .u8 0] = V6; generalize Value.agg #[.int .u8 2, .int .i64 15, .int .i64 4096, .int .i64 4096, .int .i64 4095, .int .u8 0, .int .u8 0, .int .u8 0, .int .u8 0, .int .u8 0, .int .u8 0, .int .u8 0, .int .u8 0, .int .u8 0, .int .u8 0, .int .u8 0, .int .u8 0, .int .u8 0, .int .u8 0, .int .u8 0, .int .u8 0, .int .u8 0, .int .u8 0, .int .u8 0, .int .u8 0] = V7; generalize Value.agg #[.int .u8 2, .int .i64 0, .int .i64 8190, .int .i64 2, .int .i64 1, .int .u8 0, .int .u8 0, .int .u8 0, .int .u8 0, .int .u8 0, .int .u8 0, .int .u8 0, .int .u8 0, .int .u8 0, .int .u8 0, .int .u8 0, .int .u8 0, .int .u8 0, .int .u8 0, .int .u8 0, .int .u8 0, .int .u8 0, .int .u8 0, .int .u8 0, .int .u8 0] = V8) | ((with_reducible refine gate_dst (N := 51) rfl ?_); refine lits_event rfl (N := 51) rfl 83 25 12 _ rfl BC (.agg #[.int .u8 0, .int .i64 0, .int .i64 0, .int .i64 0, .int .i64 0, .int .u8 0, .int .u8 0, .int .u8 0, .int .u8 0, .int .u8 0, .int .u8 0, .int .u8 0, .int .u8 0, .int .u8 0, .int .u8 0, .int .u8 0, .int .u8 0, .int .u8 0, .int .u8 0, .int .u8 0, .int .u8 0, .int .u8 0, .int .u8 0, .int .u8 0, .int .u8 0]) 25 Tryd.underlying83 (by kernel_rfl) (by decide) (by decide) (by kernel_rfl) ?_; intro g9 hgg9 w10 hhg9 hbg9; have H15 := Aside0.mk hhg9; have N11 : g1 ≠ g9 := Nat.ne_of_lt (Nat.lt_of_lt_of_eq (blk_lt H5.out) hgg9.symm); have G12 : w.heap.size ≤ g9 := Nat.le_trans B4.out.size (Nat.le_of_eq hgg9.symm); have B13 := Aside0.mk (below_step B4.out hbg9); have H14 := Aside0.mk (blk_below H5.out hbg9); clear hgg9 hhg9 hbg9 B4 H5; generalize Value.agg #[.int .u8 0, .int .i64 0, .int .i64 0, .int .i64 0, .int .i64 0, .int .u8 0, .int .u8 0, .int .u8 0, .int .u8 0, .int .u8 0, .int .u8 0, .int .u8 0, .int .u8 0, .int .u8 0, .int .u8 0, .int .u8 0, .int .u8 0, .int .u8 0, .int .u8 0, .int .u8 0, .int .u8 0, .int .u8 0, .int .u8 0, .int .u8 0, .int .u8 0] = V16; generalize Value.agg #[.int .u8 3, .int .i64 0, .int .i64 0, .int .i64 1, .int .i64 1, .int .u8 0, .int .u8 0, .int .u8 0, .int .u8 0, .int .u8 0, .int .u8 0, .int .u8 0, .int .u8 0, .int .u8 0, .int .u8 0, .int .u8 0, .int .u8 0, .int .u8 0, .int .u8 0, .int .u8 0, .int .u8 0, .int .u8 0, .int .u8 0, .int .u8 0, .int .u8 0] = V17; generalize Value.agg #[.int .u8 1, .int .i64 0, .int .i64 0, .int .i64 2, .int .i64 1, .int .u8 0, .int .u8 0, .int .u8 0, .int .u8 0, .int .u8 0, .int .u8 0, .int .u8 0, .int .u8 0, .int .u8 0, .int .u8 0, .int .u8 0, .int .u8 0, .int .u8 0, .int .u8 0, .int .u8 0, .int .u8 0, .int .u8 0, .int .u8 0, .int .u8 0, .int .u8 0] = V18; generalize Value.agg #[.int .u8 1, .int .i64 0, .int .i64 0, .int .i64 1, .int .i64 2, .int .u8 0, .int .u8 0, .int .u8 0, .int .u8 0, .int .u8 0, .int .u8 0, .int .u8 0, .int .u8 0, .int .u8 0, .int .u8 0, .int .u8 0, .int .u8 0, .int .u8 0, .int .u8 0, .int .u8 0, .int .u8 0, .int .u8 0, .int .u8 0, .int .u8 0, .int .u8 0] = V19; generalize Value.agg #[.int .u8 2, .int .i64 0, .int .i64 0, .int .i64 1, .int .i64 1, .int .u8 0, .int .u8 0, .int .u8 0, .int .u8 0, .int .u8 0, .int .u8 0, .int .u8 0, .int .u8 0, .int .u8 0, .int .u8 0, .int .u8 0, .int .u8 0, .int .u8 0, .int .u8 0, .int .u8 0, .int .u8 0, .int .u8 0, .int .u8 0, .int .u8 0, .int .u8 0] = V20; generalize Value.agg #[.int .u8 2, .int .i64 0, .int .i64 0, .int .i64 2, .int .i64 0, .int .u8 0, .int .u8 0, .int .u8 0, .int .u8 0, .int .u8 0, .int .u8 0, .int .u8 0, .int .u8 0, .int .u8 0, .int .u8 0, .int .u8 0, .int .u8 0, .int .u8 0, .int .u8 0, .int .u8 0, .int .u8 0, .int .u8 0, .int .u8 0, .int .u8 0, .int .u8 0] = V21; generalize Value.agg #[.int .u8 1, .int .i64 16, .int .i64 0, .int .i64 1, .int .i64 1, .int .u8 0, .int .u8 0, .int .u8 0, .int .u8 0, .int .u8 0, .int .u8 0, .int .u8 0, .int .u8 0, .int .u8 0, .int .u8 0, .int .u8 0, .int .u8 0, .int .u8 0, .int .u8 0, .int .u8 0, .int .u8 0, .int .u8 0, .int .u8 0, .int .u8 0, .int .u8 0] = V22; generalize Value.agg #[.int .u8 1, .int .i64 (-1), .int .i64 0, .int .i64 1, .int .i64 1, .int .u8 0, .int .u8 0, .int .u8 0, .int .u8 0, .int .u8 0, .int .u8 0, .int .u8 0, .int .u8 0, .int .u8 0, .int .u8 0, .int .u8 0, .int .u8 0, .int .u8 0, .int .u8 0, .int .u8 0, .int .u8 0, .int .u8 0, .int .u8 0, .int .u8 0, .int .u8 0] = V23; generalize Value.agg #[.int .u8 1, .int .i64 0, .int .i64 (-1), .int .i64 1, .int .i64 1, .int .u8 0, .int .u8 0, .int .u8 0, .int .u8 0, .int .u8 0, .int .u8 0, .int .u8 0, .int .u8 0, .int .u8 0, .int .u8 0, .int .u8 0, .int .u8 0, .int .u8 0, .int .u8 0, .int .u8 0, .int .u8 0, .int .u8 0, .int .u8 0, .int .u8 0, .int .u8 0] = V24; generalize Value.agg #[.int .u8 1, .int .i64 0, .int .i64 8192, .int .i64 1, .int .i64 1, .int .u8 0, .int .u8 0, .int .u8 0, .int .u8 0, .int .u8 0, .int .u8 0, .int .u8 0, .int .u8 0, .int .u8 0, .int .u8 0, .int .u8 0, .int .u8 0, .int .u8 0, .int .u8 0, .int .u8 0, .int .u8 0, .int .u8 0, .int .u8 0, .int .u8 0, .int .u8 0] = V25; generalize Value.agg #[.int .u8 1, .int .i64 0, .int .i64 0, .int .i64 4097, .int .i64 4097, .int .u8 0, .int .u8 0, .int .u8 0, .int .u8 0, .int .u8 0, .int .u8 0, .int .u8 0, .int .u8 0, .int .u8 0, .int .u8 0, .int .u8 0, .int .u8 0, .int .u8 0, .int .u8 0, .int .u8 0, .int .u8 0, .int .u8 0, .int .u8 0, .int .u8 0, .int .u8 0] = V26; generalize Value.agg #[.int .u8 1, .int .i64 0, .int .i64 9223372036854775807, .int .i64 1, .int .i64 1, .int .u8 0, .int .u8 0, .int .u8 0, .int .u8 0, .int .u8 0, .int .u8 0, .int .u8 0, .int .u8 0, .int .u8 0, .int .u8 0, .int .u8 0, .int .u8 0, .int .u8 0, .int .u8 0, .int .u8 0, .int .u8 0, .int .u8 0, .int .u8 0, .int .u8 0, .int .u8 0] = V27))
  go_loopg [3] 3 (fun n v3 w' => ∃ (i : Nat), v3 = .int .i64 (i : Int) ∧ Aside0 (i + n = 3) ∧ Aside0 (w'.heap[g1]? = some (.cells GC 25 (0, 0))) ∧ Aside0 (w'.heap[g9]? = some (.cells BC 25 (0, 0))) ∧ Aside0 (Below w.heap.size w w'))
  case atStart => exact ⟨0, rfl, ⟨rfl⟩, H14, H15, B13⟩
  case round =>
    clear H14 H15 B13
    obtain ⟨i, rfl, HK, HGC, HBC, BB⟩ := hrel
    by_cases hk : i < 3
    · obtain ⟨go, rfl⟩ : ∃ k, gk = k + 1 := ⟨gk - 1, by have := HK.out; omega⟩
      obtain ⟨m, a, b, c, d, X, hx, hld, henc, hpar, hck⟩ := HhG.out i hk
      have Hhx := Aside0.mk hx
      have Hhld := Aside0.mk hld
      have Hhenc := Aside0.mk henc
      have Hhpar := Aside0.mk hpar
      have Hhck := Aside0.mk hck
      have hqA : ∀ (d' : Nat) (W : World), (Op.equalIn (d' + 3) 25 (.agg #[.int .u8 m, .int .i64 a, .int .i64 b, .int .i64 c, .int .i64 d, .int .u8 0, .int .u8 0, .int .u8 0, .int .u8 0, .int .u8 0, .int .u8 0, .int .u8 0, .int .u8 0, .int .u8 0, .int .u8 0, .int .u8 0, .int .u8 0, .int .u8 0, .int .u8 0, .int .u8 0, .int .u8 0, .int .u8 0, .int .u8 0, .int .u8 0, .int .u8 0]) (.agg #[.int .u8 m, .int .i64 a, .int .i64 b, .int .i64 c, .int .i64 d, .int .u8 0, .int .u8 0, .int .u8 0, .int .u8 0, .int .u8 0, .int .u8 0, .int .u8 0, .int .u8 0, .int .u8 0, .int .u8 0, .int .u8 0, .int .u8 0, .int .u8 0, .int .u8 0, .int .u8 0, .int .u8 0, .int .u8 0, .int .u8 0, .int .u8 0, .int .u8 0])).run Tryd.prog W = .ok true W := fun d' W => (eqA25 d' W m m a a b b c c d d 0 0 0 0 0 0 0 0 0 0 0 0 0 0 0 0 0 0 0 0 0 0 0 0 0 0 0 0 0 0 0 0 0 0 0 0 0 0 0 0).trans (by simp)
      have t1 : ((i : Int) < 3) = True := eq_true (by omega)
      have t2 : (i < 3) = True := eq_true hk
      have t3 : (0 ≤ (i : Int)) = True := eq_true (by omega)
      clear hx hld henc hpar hck hk
      go_wp2_with (first | ((with_reducible refine gate_dst (N := 62) rfl ?_); refine loadG_event (T := 25) (by rfl) rfl rfl (Hhld.out _ _ _ HGC.out) ?_))
      refine (Hhenc.out wr (HhT.out.2.at BB.out)).mono ?_
      rintro e w401 ⟨v_, rfl, hR_, hb_⟩
      have B402 := Aside0.mk (below_step BB.out hb_)
      have H403 := Aside0.mk (blk_below HGC.out hb_)
      have H404 := Aside0.mk (blk_below HBC.out hb_)
      clear hb_ BB HGC HBC
      obtain ⟨r4, c_r4, rfl, hle_, hC_⟩ := row_formK (n := 28) hR_ (Hhx.out) (by decide)
      have R405 := Aside0.mk hC_
      have L406 := Aside0.mk hle_
      clear hC_ hle_ hR_
      go_wp2_with fail
      refine (Hhpar.out w401 r4 c_r4 (HhT.out.2.at B402.out) (Kd.C_below R405.out (Below.refl _ _)) L406.out).mono ?_
      rintro e w407 ⟨rfl, hb_⟩
      have B408 := Aside0.mk (below_step B402.out hb_)
      have B409 := Aside0.mk (hb_)
      have H410 := Aside0.mk (blk_below H403.out hb_)
      have H411 := Aside0.mk (blk_below H404.out hb_)
      clear hb_ B402 H403 H404
      go_wp2_with (first | ((with_reducible refine gate_dst (N := 6) rfl ?_); refine box_event ?hg (N := 6) ?hd (cs := #[.int .u8 0, .int .i64 0, .int .i64 0, .int .i64 0, .int .i64 0, .int .u8 0, .int .u8 0, .int .u8 0, .int .u8 0, .int .u8 0, .int .u8 0, .int .u8 0, .int .u8 0, .int .u8 0, .int .u8 0, .int .u8 0, .int .u8 0, .int .u8 0, .int .u8 0, .int .u8 0, .int .u8 0, .int .u8 0, .int .u8 0, .int .u8 0, .int .u8 0]) (t := 25) ?hr ?_; (case hd => rfl); (case hg => rfl); (case hr => first | (go_simp; done) | (go_simp; rfl)); intro g412 hgg412 w413 hhg412 hbg412; have H422 := Aside0.mk hhg412; have N414 : g1 ≠ g412 := Nat.ne_of_lt (Nat.lt_of_lt_of_eq (blk_lt H410.out) hgg412.symm); have N415 : g9 ≠ g412 := Nat.ne_of_lt (Nat.lt_of_lt_of_eq (blk_lt H411.out) hgg412.symm); have G416 : w.heap.size ≤ g412 := Nat.le_trans B408.out.size (Nat.le_of_eq hgg412.symm); have G417 : w401.heap.size ≤ g412 := Nat.le_trans B409.out.size (Nat.le_of_eq hgg412.symm); have B418 := Aside0.mk (below_step B408.out hbg412); have B419 := Aside0.mk (below_step B409.out hbg412); have H420 := Aside0.mk (blk_below H410.out hbg412); have H421 := Aside0.mk (blk_below H411.out hbg412); clear hgg412 hhg412 hbg412 B408 B409 H410 H411) | ((with_reducible refine gate_store (t := 25) (p := _) rfl ?_); refine storeN_event (T := 25) rfl rfl rfl rfl rfl (storeVar_blk H422.out 25 0 [.int .u8 m, .int .i64 a, .int .i64 b, .int .i64 c, .int .i64 d, .int .u8 0, .int .u8 0, .int .u8 0, .int .u8 0, .int .u8 0, .int .u8 0, .int .u8 0, .int .u8 0, .int .u8 0, .int .u8 0, .int .u8 0, .int .u8 0, .int .u8 0, .int .u8 0, .int .u8 0, .int .u8 0, .int .u8 0, .int .u8 0, .int .u8 0, .int .u8 0] (by kernel_rfl) rfl (by simp)) ?_; have H424 := Aside0.mk (show (World.setCells w413 g412 0 [.int .u8 m, .int .i64 a, .int .i64 b, .int .i64 c, .int .i64 d, .int .u8 0, .int .u8 0, .int .u8 0, .int .u8 0, .int .u8 0, .int .u8 0, .int .u8 0, .int .u8 0, .int .u8 0, .int .u8 0, .int .u8 0, .int .u8 0, .int .u8 0, .int .u8 0, .int .u8 0, .int .u8 0, .int .u8 0, .int .u8 0, .int .u8 0, .int .u8 0]).heap[g412]? = some (.cells #[.int .u8 m, .int .i64 a, .int .i64 b, .int .i64 c, .int .i64 d, .int .u8 0, .int .u8 0, .int .u8 0, .int .u8 0, .int .u8 0, .int .u8 0, .int .u8 0, .int .u8 0, .int .u8 0, .int .u8 0, .int .u8 0, .int .u8 0, .int .u8 0, .int .u8 0, .int .u8 0, .int .u8 0, .int .u8 0, .int .u8 0, .int .u8 0, .int .u8 0] 25 (0, 0)) from blk_setCells [] [.int .u8 m, .int .i64 a, .int .i64 b, .int .i64 c, .int .i64 d, .int .u8 0, .int .u8 0, .int .u8 0, .int .u8 0, .int .u8 0, .int .u8 0, .int .u8 0, .int .u8 0, .int .u8 0, .int .u8 0, .int .u8 0, .int .u8 0, .int .u8 0, .int .u8 0, .int .u8 0, .int .u8 0, .int .u8 0, .int .u8 0, .int .u8 0, .int .u8 0] [.int .u8 0, .int .i64 0, .int .i64 0, .int .i64 0, .int .i64 0, .int .u8 0, .int .u8 0, .int .u8 0, .int .u8 0, .int .u8 0, .int .u8 0, .int .u8 0, .int .u8 0, .int .u8 0, .int .u8 0, .int .u8 0, .int .u8 0, .int .u8 0, .int .u8 0, .int .u8 0, .int .u8 0, .int .u8 0, .int .u8 0, .int .u8 0, .int .u8 0] [] w413 rfl H422.out); have H425 := Aside0.mk (far_setCells N414 [.int .u8 m, .int .i64 a, .int .i64 b, .int .i64 c, .int .i64 d, .int .u8 0, .int .u8 0, .int .u8 0, .int .u8 0, .int .u8 0, .int .u8 0, .int .u8 0, .int .u8 0, .int .u8 0, .int .u8 0, .int .u8 0, .int .u8 0, .int .u8 0, .int .u8 0, .int .u8 0, .int .u8 0, .int .u8 0, .int .u8 0, .int .u8 0, .int .u8 0] 0 w413 H420.out); have H426 := Aside0.mk (far_setCells N415 [.int .u8 m, .int .i64 a, .int .i64 b, .int .i64 c, .int .i64 d, .int .u8 0, .int .u8 0, .int .u8 0, .int .u8 0, .int .u8 0, .int .u8 0, .int .u8 0, .int .u8 0, .int .u8 0, .int .u8 0, .int .u8 0, .int .u8 0, .int .u8 0, .int .u8 0, .int .u8 0, .int .u8 0, .int .u8 0, .int .u8 0, .int .u8 0, .int .u8 0] 0 w413 H421.out); have B427 := Aside0.mk (below_setCells G416 [.int .u8 m, .int .i64 a, .int .i64 b, .int .i64 c, .int .i64 d, .int .u8 0, .int .u8 0, .int .u8 0, .int .u8 0, .int .u8 0, .int .u8 0, .int .u8 0, .int .u8 0, .int .u8 0, .int .u8 0, .int .u8 0, .int .u8 0, .int .u8 0, .int .u8 0, .int .u8 0, .int .u8 0, .int .u8 0, .int .u8 0, .int .u8 0, .int .u8 0] 0 w413 B418.out); have B428 := Aside0.mk (below_setCells G417 [.int .u8 m, .int .i64 a, .int .i64 b, .int .i64 c, .int .i64 d, .int .u8 0, .int .u8 0, .int .u8 0, .int .u8 0, .int .u8 0, .int .u8 0, .int .u8 0, .int .u8 0, .int .u8 0, .int .u8 0, .int .u8 0, .int .u8 0, .int .u8 0, .int .u8 0, .int .u8 0, .int .u8 0, .int .u8 0, .int .u8 0, .int .u8 0, .int .u8 0] 0 w413 B419.out); clear H422 H420 H421 B418 B419; generalize World.setCells w413 g412 0 [.int .u8 m, .int .i64 a, .int .i64 b, .int .i64 c, .int .i64 d, .int .u8 0, .int .u8 0, .int .u8 0, .int .u8 0, .int .u8 0, .int .u8 0, .int .u8 0, .int .u8 0, .int .u8 0, .int .u8 0, .int .u8 0, .int .u8 0, .int .u8 0, .int .u8 0, .int .u8 0, .int .u8 0, .int .u8 0, .int .u8 0, .int .u8 0, .int .u8 0] = w423 at H425 H426 H424 B427 B428 ⊢))
      have H430 := Aside0.mk (blk_drew H425.out)
      have H431 := Aside0.mk (blk_drew H426.out)
      have H432 := Aside0.mk (blk_drew H424.out)
      have B433 := Aside0.mk (below_drew B427.out)
      have B434 := Aside0.mk (below_drew B428.out)
      clear H425 H426 H424 B427 B428
      refine start_ (n := 22) (S := fun w' => (loadVar 25 ⟨g1, i * 25, none⟩).run Tryd.prog w' = .ok (.agg #[.int .u8 m, .int .i64 a, .int .i64 b, .int .i64 c, .int .i64 d, .int .u8 0, .int .u8 0, .int .u8 0, .int .u8 0, .int .u8 0, .int .u8 0, .int .u8 0, .int .u8 0, .int .u8 0, .int .u8 0, .int .u8 0, .int .u8 0, .int .u8 0, .int .u8 0, .int .u8 0, .int .u8 0, .int .u8 0, .int .u8 0, .int .u8 0, .int .u8 0]) w' ∧ (loadVar 25 ⟨g412, 0, none⟩).run Tryd.prog w' = .ok (.agg #[.int .u8 m, .int .i64 a, .int .i64 b, .int .i64 c, .int .i64 d, .int .u8 0, .int .u8 0, .int .u8 0, .int .u8 0, .int .u8 0, .int .u8 0, .int .u8 0, .int .u8 0, .int .u8 0, .int .u8 0, .int .u8 0, .int .u8 0, .int .u8 0, .int .u8 0, .int .u8 0, .int .u8 0, .int .u8 0, .int .u8 0, .int .u8 0, .int .u8 0]) w') (ds := []) #[false, false, false, false, false, false, false, false, false, false, false, false, false, false, false, false, false, false, false, false, false, false] (by kernel_rfl) rfl rfl ⟨(Hhld.out _ _ _ H430.out), (run_loadVar_row _ _ _ _ _ (0, 0) _ H432.out Tryd.underlying25 rfl (by kernel_rfl))⟩ (fun hHeld => ?_)
      generalize World.drew w423 = w429 at H430 H431 H432 B433 B434 hHeld ⊢
      refine pure_ (i := 0) (N := some 71) (v := ?_) (a' := ?_) #[true, false, false, false, false, false, false, false, false, false, false, false, false, false, false, false, false, false, false, false, false, false] rfl rfl (by kernel_rfl) (fun _ _ _ h => h) (Or.inl ⟨by rfl, ?_⟩) ?_ ?_
      rotate_left
      · intro w'
        go_simp
        with_reducible rfl
      rotate_left
      · simp only [Act.put, List.setIfInBounds_toArray, List.set_cons_zero, List.set_cons_succ, i64_w, i32_w]
        rfl
      refine pure_ (i := 1) (N := some 72) (v := ?_) (a' := ?_) #[true, true, false, false, false, false, false, false, false, false, false, false, false, false, false, false, false, false, false, false, false, false] rfl rfl (by kernel_rfl) (fun _ _ _ h => h) (Or.inl ⟨by rfl, ?_⟩) ?_ ?_
      rotate_left
      · intro w'
        go_simp
        with_reducible rfl
      rotate_left
      · simp only [Act.put, List.setIfInBounds_toArray, List.set_cons_zero, List.set_cons_succ, i64_w, i32_w]
        rfl
      refine pure_ (i := 2) (N := some 73) (v := ?_) (a' := ?_) #[true, true, true, false, false, false, false, false, false, false, false, false, false, false, false, false, false, false, false, false, false, false] rfl rfl (by kernel_rfl) (fun _ _ _ h => h) (Or.inl ⟨by rfl, ?_⟩) ?_ ?_
      rotate_left
      · intro w'
        go_simp
        with_reducible rfl
      rotate_left
      · simp only [Act.put, List.setIfInBounds_toArray, List.set_cons_zero, List.set_cons_succ, i64_w, i32_w]
        rfl
      refine take_ (i := 3) (N := some 74) (v := ?_) (a' := ?_) #[true, true, true, true, false, false, false, false, false, false, false, false, false, false, false, false, false, false, false, false, false, false] rfl rfl (by kernel_rfl) (fun _ _ _ h => h) (Or.inl ⟨by rfl, ?_⟩) hHeld ?_ ?_
      rotate_left
      · rintro w' ⟨s0, s1⟩
        refine (loadN_run (T := 25) rfl rfl s0).trans ?_
        with_reducible rfl
      rotate_left
      · simp only [Act.put, List.setIfInBounds_toArray, List.set_cons_zero, List.set_cons_succ, i64_w, i32_w]
        rfl
      refine one_ (i := 4) (N := some 75) #[true, true, true, true, true, false, false, false, false, false, false, false, false, false, false, false, false, false, false, false, false, false] rfl rfl (by kernel_rfl) (by decide) (fun K hK => ?_)
      refine goes_ Tryd.func25 (by kernel_rfl) rfl #[.agg #[.int .u8 m, .int .i64 a, .int .i64 b, .int .i64 c, .int .i64 d, .int .u8 0, .int .u8 0, .int .u8 0, .int .u8 0, .int .u8 0, .int .u8 0, .int .u8 0, .int .u8 0, .int .u8 0, .int .u8 0, .int .u8 0, .int .u8 0, .int .u8 0, .int .u8 0, .int .u8 0, .int .u8 0, .int .u8 0, .int .u8 0, .int .u8 0, .int .u8 0]] (by rfl) rfl rfl (by simp only [List.map_toArray, List.map_cons, List.map_nil]; rfl) ?_
      with_reducible refine (Hhck.out w429).mono ?_
      rintro e_ w435 ⟨rfl, hb_⟩
      refine ⟨_, rfl, ?_⟩
      have B436 := Aside0.mk (below_step B433.out hb_)
      have B437 := Aside0.mk (below_step B434.out hb_)
      have H438 := Aside0.mk (blk_below H430.out hb_)
      have H439 := Aside0.mk (blk_below H431.out hb_)
      have H440 := Aside0.mk (blk_below H432.out hb_)
      clear hb_ B433 B434 H430 H431 H432
      refine hK.out _ _ ⟨(Hhld.out _ _ _ H438.out), (run_loadVar_row _ _ _ _ _ (0, 0) _ H440.out Tryd.underlying25 rfl (by kernel_rfl))⟩ (fun hHeld => ?_)
      clear hK K
      refine norm_ (a' := ?_) ?_ ?_
      rotate_left
      · show Act.put _ (some 75) _ = _
        simp only [Act.put, List.setIfInBounds_toArray, List.set_cons_zero, List.set_cons_succ, i64_w, i32_w]
        rfl
      refine pure_ (i := 5) (N := some 76) (v := ?_) (a' := ?_) #[true, true, true, true, true, true, false, false, false, false, false, false, false, false, false, false, false, false, false, false, false, false] rfl rfl (by kernel_rfl) (fun _ _ _ h => h) (Or.inl ⟨by rfl, ?_⟩) ?_ ?_
      rotate_left
      · intro w'
        go_simp
        with_reducible rfl
      rotate_left
      · simp only [Act.put, List.setIfInBounds_toArray, List.set_cons_zero, List.set_cons_succ, i64_w, i32_w]
        rfl
      refine pure_ (i := 6) (N := some 77) (v := ?_) (a' := ?_) #[true, true, true, true, true, true, true, false, false, false, false, false, false, false, false, false, false, false, false, false, false, false] rfl rfl (by kernel_rfl) (fun _ _ _ h => h) (Or.inl ⟨by rfl, ?_⟩) ?_ ?_
      rotate_left
      · intro w'
        go_simp
        with_reducible rfl
      rotate_left
      · simp only [Act.put, List.setIfInBounds_toArray, List.set_cons_zero, List.set_cons_succ, i64_w, i32_w]
        rfl
      refine pure_ (i := 7) (N := some 78) (v := ?_) (a' := ?_) #[true, true, true, true, true, true, true, true, false, false, false, false, false, false, false, false, false, false, false, false, false, false] rfl rfl (by kernel_rfl) (fun _ _ _ h => h) (Or.inl ⟨by rfl, ?_⟩) ?_ ?_
      rotate_left
      · intro w'
        go_simp
        with_reducible rfl
      rotate_left
      · simp only [Act.put, List.setIfInBounds_toArray, List.set_cons_zero, List.set_cons_succ, i64_w, i32_w]
        rfl
      refine pure_ (i := 8) (N := some 79) (v := ?_) (a' := ?_) #[true, true, true, true, true, true, true, true, true, false, false, false, false, false, false, false, false, false, false, false, false, false] rfl rfl (by kernel_rfl) (fun _ _ _ h => h) (Or.inl ⟨by rfl, ?_⟩) ?_ ?_
      rotate_left
      · intro w'
        go_simp
        with_reducible rfl
      rotate_left
      · simp only [Act.put, List.setIfInBounds_toArray, List.set_cons_zero, List.set_cons_succ, i64_w, i32_w]
        rfl
      refine pure_ (i := 9) (N := some 80) (v := ?_) (a' := ?_) #[true, true, true, true, true, true, true, true, true, true, false, false, false, false, false, false, false, false, false, false, false, false] rfl rfl (by kernel_rfl) (fun _ _ _ h => h) (Or.inl ⟨by rfl, ?_⟩) ?_ ?_
      rotate_left
      · intro w'
        go_simp
        with_reducible rfl
      rotate_left
      · simp only [Act.put, List.setIfInBounds_toArray, List.set_cons_zero, List.set_cons_succ, i64_w, i32_w]
        rfl
      refine pure_ (i := 10) (N := some 81) (v := ?_) (a' := ?_) #[true, true, true, true, true, true, true, true, true, true, true, false, false, false, false, false, false, false, false, false, false, false] rfl rfl (by kernel_rfl) (fun _ _ _ h => h) (Or.inl ⟨by rfl, ?_⟩) ?_ ?_
      rotate_left
      · intro w'
        go_simp
        with_reducible rfl
      rotate_left
      · simp only [Act.put, List.setIfInBounds_toArray, List.set_cons_zero, List.set_cons_succ, i64_w, i32_w]
        rfl
      refine pure_ (i := 11) (N := some 82) (v := ?_) (a' := ?_) #[true, true, true, true, true, true, true, true, true, true, true, true, false, false, false, false, false, false, false, false, false, false] rfl rfl (by kernel_rfl) (fun _ _ _ h => h) (Or.inl ⟨by rfl, ?_⟩) ?_ ?_
      rotate_left
      · intro w'
        go_simp
        with_reducible rfl
      rotate_left
      · simp only [Act.put, List.setIfInBounds_toArray, List.set_cons_zero, List.set_cons_succ, i64_w, i32_w]
        rfl
      refine pure_ (i := 12) (N := some 83) (v := ?_) (a' := ?_) #[true, true, true, true, true, true, true, true, true, true, true, true, true, false, false, false, false, false, false, false, false, false] rfl rfl (by kernel_rfl) (fun _ _ _ h => h) (Or.inl ⟨by rfl, ?_⟩) ?_ ?_
      rotate_left
      · intro w'
        go_simp
        with_reducible rfl
      rotate_left
      · simp only [Act.put, List.setIfInBounds_toArray, List.set_cons_zero, List.set_cons_succ, i64_w, i32_w]
        rfl
      refine pure_ (i := 13) (N := some 84) (v := ?_) (a' := ?_) #[true, true, true, true, true, true, true, true, true, true, true, true, true, true, false, false, false, false, false, false, false, false] rfl rfl (by kernel_rfl) (fun _ _ _ h => h) (Or.inl ⟨by rfl, ?_⟩) ?_ ?_
      rotate_left
      · intro w'
        go_simp
        with_reducible rfl
      rotate_left
      · simp only [Act.put, List.setIfInBounds_toArray, List.set_cons_zero, List.set_cons_succ, i64_w, i32_w]
        rfl
      refine pure_ (i := 14) (N := some 85) (v := ?_) (a' := ?_) #[true, true, true, true, true, true, true, true, true, true, true, true, true, true, true, false, false, false, false, false, false, false] rfl rfl (by kernel_rfl) (fun _ _ _ h => h) (Or.inl ⟨by rfl, ?_⟩) ?_ ?_
      rotate_left
      · intro w'
        go_simp
        with_reducible rfl
      rotate_left
      · simp only [Act.put, List.setIfInBounds_toArray, List.set_cons_zero, List.set_cons_succ, i64_w, i32_w]
        rfl
      refine pure_ (i := 16) (N := some 87) (v := ?_) (a' := ?_) #[true, true, true, true, true, true, true, true, true, true, true, true, true, true, true, false, true, false, false, false, false, false] rfl rfl (by kernel_rfl) (fun _ _ _ h => h) (Or.inl ⟨by rfl, ?_⟩) ?_ ?_
      rotate_left
      · intro w'
        go_simp
        with_reducible rfl
      rotate_left
      · simp only [Act.put, List.setIfInBounds_toArray, List.set_cons_zero, List.set_cons_succ, i64_w, i32_w]
        rfl
      refine pure_ (i := 17) (N := some 88) (v := ?_) (a' := ?_) #[true, true, true, true, true, true, true, true, true, true, true, true, true, true, true, false, true, true, false, false, false, false] rfl rfl (by kernel_rfl) (fun _ _ _ h => h) (Or.inl ⟨by rfl, ?_⟩) ?_ ?_
      rotate_left
      · intro w'
        go_simp
        with_reducible rfl
      rotate_left
      · simp only [Act.put, List.setIfInBounds_toArray, List.set_cons_zero, List.set_cons_succ, i64_w, i32_w]
        rfl
      refine pure_ (i := 18) (N := some 89) (v := ?_) (a' := ?_) #[true, true, true, true, true, true, true, true, true, true, true, true, true, true, true, false, true, true, true, false, false, false] rfl rfl (by kernel_rfl) (fun _ _ _ h => h) (Or.inl ⟨by rfl, ?_⟩) ?_ ?_
      rotate_left
      · intro w'
        go_simp
        with_reducible rfl
      rotate_left
      · simp only [Act.put, List.setIfInBounds_toArray, List.set_cons_zero, List.set_cons_succ, i64_w, i32_w]
        rfl
      refine take_ (i := 15) (N := some 86) (v := ?_) (a' := ?_) #[true, true, true, true, true, true, true, true, true, true, true, true, true, true, true, true, true, true, true, false, false, false] rfl rfl (by kernel_rfl) (fun _ _ _ h => h) (Or.inl ⟨by rfl, ?_⟩) hHeld ?_ ?_
      rotate_left
      · rintro w' ⟨s0, s1⟩
        refine (loadN_run (T := 25) rfl rfl s1).trans ?_
        with_reducible rfl
      rotate_left
      · simp only [Act.put, List.setIfInBounds_toArray, List.set_cons_zero, List.set_cons_succ, i64_w, i32_w]
        rfl
      refine take_ (i := 19) (N := some 90) (v := ?_) (a' := ?_) #[true, true, true, true, true, true, true, true, true, true, true, true, true, true, true, true, true, true, true, true, false, false] rfl rfl (by kernel_rfl) (fun _ _ _ h => h) (Or.inl ⟨by rfl, ?_⟩) hHeld ?_ ?_
      rotate_left
      · rintro w' ⟨s0, s1⟩
        refine (loadN_run (T := 25) rfl rfl s0).trans ?_
        with_reducible rfl
      rotate_left
      · simp only [Act.put, List.setIfInBounds_toArray, List.set_cons_zero, List.set_cons_succ, i64_w, i32_w]
        rfl
      refine pure_ (i := 20) (N := some 91) (v := ?_) (a' := ?_) #[true, true, true, true, true, true, true, true, true, true, true, true, true, true, true, true, true, true, true, true, true, false] rfl rfl (by kernel_rfl) (fun _ _ _ h => h) (Or.inl ⟨by rfl, ?_⟩) ?_ ?_
      rotate_left
      · intro w'
        go_simp
        with_reducible rfl
      rotate_left
      · simp only [Act.put, List.setIfInBounds_toArray, List.set_cons_zero, List.set_cons_succ, i64_w, i32_w]
        rfl
      refine pure_ (i := 21) (N := some 92) (v := ?_) (a' := ?_) #[true, true, true, true, true, true, true, true, true, true, true, true, true, true, true, true, true, true, true, true, true, true] rfl rfl (by kernel_rfl) (fun _ _ _ h => h) (Or.inl ⟨by rfl, ?_⟩) ?_ ?_
      rotate_left
      · intro w'
        go_simp
        with_reducible rfl
      rotate_left
      · simp only [Act.put, List.setIfInBounds_toArray, List.set_cons_zero, List.set_cons_succ, i64_w, i32_w]
        rfl
      refine done_ (by kernel_rfl) ?_
      clear hHeld
      go_wp2_with fail
      go_roundg go
      case measure => have := HK.out; omega
      case rel => exact ⟨i + 1, (by rw [show wrap64 ((i : Int) + 1) = ((i + 1 : Nat) : Int) by (have := HK.out; unfold wrap64; omega)]), ⟨by have := HK.out; omega⟩, H438, H439, B436⟩
    · obtain rfl : i = 3 := by have := HK.out; omega
      clear HGC hk
      go_wp2_with fail
      go_loopg [8] 12 (fun n v8 w' => ∃ (i : Nat), v8 = .int .i64 (i : Int) ∧ Aside0 (i + n = 12) ∧ Aside0 (w'.heap[g9]? = some (.cells BC 25 (0, 0))) ∧ Aside0 (Below w.heap.size w w'))
      case atStart => exact ⟨0, rfl, ⟨rfl⟩, HBC, BB⟩
      case round =>
        clear HBC BB HK
        obtain ⟨i, rfl, HK, HBC, BB⟩ := hrel
        by_cases hk : i < 12
        · obtain ⟨go, rfl⟩ : ∃ k, gk = k + 1 := ⟨gk - 1, by have := HK.out; omega⟩
          obtain ⟨m, a, b, c, d, hld, henc, hd, hs, hr, hck⟩ := HhB.out i hk
          have Hhld := Aside0.mk hld
          have Hhenc := Aside0.mk henc
          have Hhd := Aside0.mk hd
          have Hhs := Aside0.mk hs
          have Hhr := Aside0.mk hr
          have Hhck := Aside0.mk hck
          have t1 : ((i : Int) < 12) = True := eq_true (by omega)
          have t2 : (i < 12) = True := eq_true hk
          have t3 : (0 ≤ (i : Int)) = True := eq_true (by omega)
          clear hld henc hd hs hr hck hk
          go_wp2_with (first | ((with_reducible refine gate_dst (N := 103) rfl ?_); refine loadG_event (T := 25) (by rfl) rfl rfl (Hhld.out _ _ _ HBC.out) ?_))
          refine (Hhenc.out wr).mono ?_
          rintro e w1001 ⟨v9, rfl, hb_⟩
          have B1002 := Aside0.mk (below_step BB.out hb_)
          have H1003 := Aside0.mk (blk_below HBC.out hb_)
          clear hb_ BB HBC
          go_wp2_with (first | ((with_reducible refine gate_dst (N := 111) rfl ?_); refine loadG_event (T := 25) (by rfl) rfl rfl (Hhld.out _ _ _ H1003.out) ?_))
          refine (Hhd.out w1001 ⟨HhT.out.1.at B1002.out, HhT.out.2.at B1002.out⟩).mono ?_
          rintro e w1004 ⟨rfl, hb_⟩
          have B1005 := Aside0.mk (below_step B1002.out hb_)
          have H1006 := Aside0.mk (blk_below H1003.out hb_)
          clear hb_ B1002 H1003
          go_wp2_with (first | ((with_reducible refine gate_dst (N := 11) rfl ?_); refine box_event ?hg (N := 11) ?hd (cs := #[.int .u8 0, .int .u8 0, .int .u8 0, .int .u8 0, .int .u8 0, .int .u8 0, .int .u8 0, .int .u8 0, .int .u8 0, .int .u8 0, .int .u8 0, .int .u8 0, .int .u8 0, .int .u8 0, .int .u8 0, .int .u8 0, .int .u8 0, .int .u8 0, .int .u8 0, .int .u8 0]) (t := 23) ?hr ?_; (case hd => rfl); (case hg => rfl); (case hr => first | (go_simp; done) | (go_simp; rfl)); intro g1007 hgg1007 w1008 hhg1007 hbg1007; have H1013 := Aside0.mk hhg1007; have N1009 : g9 ≠ g1007 := Nat.ne_of_lt (Nat.lt_of_lt_of_eq (blk_lt H1006.out) hgg1007.symm); have G1010 : w.heap.size ≤ g1007 := Nat.le_trans B1005.out.size (Nat.le_of_eq hgg1007.symm); have B1011 := Aside0.mk (below_step B1005.out hbg1007); have H1012 := Aside0.mk (blk_below H1006.out hbg1007); clear hgg1007 hhg1007 hbg1007 B1005 H1006) | ((with_reducible refine gate_store (t := 23) (p := _) rfl ?_); refine storeN_event (T := 23) rfl rfl rfl rfl rfl (storeVar_blk H1013.out 23 0 [.int .u8 0, .int .u8 0, .int .u8 0, .int .u8 0, .int .u8 0, .int .u8 0, .int .u8 0, .int .u8 0, .int .u8 0, .int .u8 0, .int .u8 0, .int .u8 0, .int .u8 0, .int .u8 0, .int .u8 0, .int .u8 0, .int .u8 0, .int .u8 0, .int .u8 0, .int .u8 0] (by kernel_rfl) rfl (by simp)) ?_; have H1015 := Aside0.mk (show (World.setCells w1008 g1007 0 [.int .u8 0, .int .u8 0, .int .u8 0, .int .u8 0, .int .u8 0, .int .u8 0, .int .u8 0, .int .u8 0, .int .u8 0, .int .u8 0, .int .u8 0, .int .u8 0, .int .u8 0, .int .u8 0, .int .u8 0, .int .u8 0, .int .u8 0, .int .u8 0, .int .u8 0, .int .u8 0]).heap[g1007]? = some (.cells #[.int .u8 0, .int .u8 0, .int .u8 0, .int .u8 0, .int .u8 0, .int .u8 0, .int .u8 0, .int .u8 0, .int .u8 0, .int .u8 0, .int .u8 0, .int .u8 0, .int .u8 0, .int .u8 0, .int .u8 0, .int .u8 0, .int .u8 0, .int .u8 0, .int .u8 0, .int .u8 0] 23 (0, 0)) from blk_setCells [] [.int .u8 0, .int .u8 0, .int .u8 0, .int .u8 0, .int .u8 0, .int .u8 0, .int .u8 0, .int .u8 0, .int .u8 0, .int .u8 0, .int .u8 0, .int .u8 0, .int .u8 0, .int .u8 0, .int .u8 0, .int .u8 0, .int .u8 0, .int .u8 0, .int .u8 0, .int .u8 0] [.int .u8 0, .int .u8 0, .int .u8 0, .int .u8 0, .int .u8 0, .int .u8 0, .int .u8 0, .int .u8 0, .int .u8 0, .int .u8 0, .int .u8 0, .int .u8 0, .int .u8 0, .int .u8 0, .int .u8 0, .int .u8 0, .int .u8 0, .int .u8 0, .int .u8 0, .int .u8 0] [] w1008 rfl H1013.out); have H1016 := Aside0.mk (far_setCells N1009 [.int .u8 0, .int .u8 0, .int .u8 0, .int .u8 0, .int .u8 0, .int .u8 0, .int .u8 0, .int .u8 0, .int .u8 0, .int .u8 0, .int .u8 0, .int .u8 0, .int .u8 0, .int .u8 0, .int .u8 0, .int .u8 0, .int .u8 0, .int .u8 0, .int .u8 0, .int .u8 0] 0 w1008 H1012.out); have B1017 := Aside0.mk (below_setCells G1010 [.int .u8 0, .int .u8 0, .int .u8 0, .int .u8 0, .int .u8 0, .int .u8 0, .int .u8 0, .int .u8 0, .int .u8 0, .int .u8 0, .int .u8 0, .int .u8 0, .int .u8 0, .int .u8 0, .int .u8 0, .int .u8 0, .int .u8 0, .int .u8 0, .int .u8 0, .int .u8 0] 0 w1008 B1011.out); clear H1013 H1012 B1011; generalize World.setCells w1008 g1007 0 [.int .u8 0, .int .u8 0, .int .u8 0, .int .u8 0, .int .u8 0, .int .u8 0, .int .u8 0, .int .u8 0, .int .u8 0, .int .u8 0, .int .u8 0, .int .u8 0, .int .u8 0, .int .u8 0, .int .u8 0, .int .u8 0, .int .u8 0, .int .u8 0, .int .u8 0, .int .u8 0] = w1014 at H1016 H1015 B1017 ⊢) | ((with_reducible refine gate_dst (N := 119) rfl ?_); refine loadG_event (T := 25) (by rfl) rfl rfl (Hhld.out _ _ _ H1016.out) ?_))
          refine (Hhs.out w1014 ⟨HhT.out.1.at B1017.out, HhT.out.2.at B1017.out⟩).mono ?_
          rintro e w1018 ⟨rfl, hb_⟩
          have B1019 := Aside0.mk (below_step B1017.out hb_)
          have H1020 := Aside0.mk (blk_below H1016.out hb_)
          have H1021 := Aside0.mk (blk_below H1015.out hb_)
          clear hb_ B1017 H1016 H1015
          go_wp2_with (first | ((with_reducible refine gate_dst (N := 13) rfl ?_); refine box_event ?hg (N := 13) ?hd (cs := #[.int .u8 0, .int .i64 0, .int .i64 0, .int .i64 0, .int .i64 0, .int .u8 0, .int .u8 0, .int .u8 0, .int .u8 0, .int .u8 0, .int .u8 0, .int .u8 0, .int .u8 0, .int .u8 0, .int .u8 0, .int .u8 0, .int .u8 0, .int .u8 0, .int .u8 0, .int .u8 0, .int .u8 0, .int .u8 0, .int .u8 0, .int .u8 0, .int .u8 0]) (t := 25) ?hr ?_; (case hd => rfl); (case hg => rfl); (case hr => first | (go_simp; done) | (go_simp; rfl)); intro g1022 hgg1022 w1023 hhg1022 hbg1022; have H1030 := Aside0.mk hhg1022; have N1024 : g9 ≠ g1022 := Nat.ne_of_lt (Nat.lt_of_lt_of_eq (blk_lt H1020.out) hgg1022.symm); have N1025 : g1007 ≠ g1022 := Nat.ne_of_lt (Nat.lt_of_lt_of_eq (blk_lt H1021.out) hgg1022.symm); have G1026 : w.heap.size ≤ g1022 := Nat.le_trans B1019.out.size (Nat.le_of_eq hgg1022.symm); have B1027 := Aside0.mk (below_step B1019.out hbg1022); have H1028 := Aside0.mk (blk_below H1020.out hbg1022); have H1029 := Aside0.mk (blk_below H1021.out hbg1022); clear hgg1022 hhg1022 hbg1022 B1019 H1020 H1021) | ((with_reducible refine gate_store (t := 25) (p := _) rfl ?_); refine storeN_event (T := 25) rfl rfl rfl rfl rfl (storeVar_blk H1030.out 25 0 [.int .u8 0, .int .i64 0, .int .i64 0, .int .i64 0, .int .i64 0, .int .u8 0, .int .u8 0, .int .u8 0, .int .u8 0, .int .u8 0, .int .u8 0, .int .u8 0, .int .u8 0, .int .u8 0, .int .u8 0, .int .u8 0, .int .u8 0, .int .u8 0, .int .u8 0, .int .u8 0, .int .u8 0, .int .u8 0, .int .u8 0, .int .u8 0, .int .u8 0] (by kernel_rfl) rfl (by simp)) ?_; have H1032 := Aside0.mk (show (World.setCells w1023 g1022 0 [.int .u8 0, .int .i64 0, .int .i64 0, .int .i64 0, .int .i64 0, .int .u8 0, .int .u8 0, .int .u8 0, .int .u8 0, .int .u8 0, .int .u8 0, .int .u8 0, .int .u8 0, .int .u8 0, .int .u8 0, .int .u8 0, .int .u8 0, .int .u8 0, .int .u8 0, .int .u8 0, .int .u8 0, .int .u8 0, .int .u8 0, .int .u8 0, .int .u8 0]).heap[g1022]? = some (.cells #[.int .u8 0, .int .i64 0, .int .i64 0, .int .i64 0, .int .i64 0, .int .u8 0, .int .u8 0, .int .u8 0, .int .u8 0, .int .u8 0, .int .u8 0, .int .u8 0, .int .u8 0, .int .u8 0, .int .u8 0, .int .u8 0, .int .u8 0, .int .u8 0, .int .u8 0, .int .u8 0, .int .u8 0, .int .u8 0, .int .u8 0, .int .u8 0, .int .u8 0] 25 (0, 0)) from blk_setCells [] [.int .u8 0, .int .i64 0, .int .i64 0, .int .i64 0, .int .i64 0, .int .u8 0, .int .u8 0, .int .u8 0, .int .u8 0, .int .u8 0, .int .u8 0, .int .u8 0, .int .u8 0, .int .u8 0, .int .u8 0, .int .u8 0, .int .u8 0, .int .u8 0, .int .u8 0, .int .u8 0, .int .u8 0, .int .u8 0, .int .u8 0, .int .u8 0, .int .u8 0] [.int .u8 0, .int .i64 0, .int .i64 0, .int .i64 0, .int .i64 0, .int .u8 0, .int .u8 0, .int .u8 0, .int .u8 0, .int .u8 0, .int .u8 0, .int .u8 0, .int .u8 0, .int .u8 0, .int .u8 0, .int .u8 0, .int .u8 0, .int .u8 0, .int .u8 0, .int .u8 0, .int .u8 0, .int .u8 0, .int .u8 0, .int .u8 0, .int .u8 0] [] w1023 rfl H1030.out); have H1033 := Aside0.mk (far_setCells N1024 [.int .u8 0, .int .i64 0, .int .i64 0, .int .i64 0, .int .i64 0, .int .u8 0, .int .u8 0, .int .u8 0, .int .u8 0, .int .u8 0, .int .u8 0, .int .u8 0, .int .u8 0, .int .u8 0, .int .u8 0, .int .u8 0, .int .u8 0, .int .u8 0, .int .u8 0, .int .u8 0, .int .u8 0, .int .u8 0, .int .u8 0, .int .u8 0, .int .u8 0] 0 w1023 H1028.out); have H1034 := Aside0.mk (far_setCells N1025 [.int .u8 0, .int .i64 0, .int .i64 0, .int .i64 0, .int .i64 0, .int .u8 0, .int .u8 0, .int .u8 0, .int .u8 0, .int .u8 0, .int .u8 0, .int .u8 0, .int .u8 0, .int .u8 0, .int .u8 0, .int .u8 0, .int .u8 0, .int .u8 0, .int .u8 0, .int .u8 0, .int .u8 0, .int .u8 0, .int .u8 0, .int .u8 0, .int .u8 0] 0 w1023 H1029.out); have B1035 := Aside0.mk (below_setCells G1026 [.int .u8 0, .int .i64 0, .int .i64 0, .int .i64 0, .int .i64 0, .int .u8 0, .int .u8 0, .int .u8 0, .int .u8 0, .int .u8 0, .int .u8 0, .int .u8 0, .int .u8 0, .int .u8 0, .int .u8 0, .int .u8 0, .int .u8 0, .int .u8 0, .int .u8 0, .int .u8 0, .int .u8 0, .int .u8 0, .int .u8 0, .int .u8 0, .int .u8 0] 0 w1023 B1027.out); clear H1030 H1028 H1029 B1027; generalize World.setCells w1023 g1022 0 [.int .u8 0, .int .i64 0, .int .i64 0, .int .i64 0, .int .i64 0, .int .u8 0, .int .u8 0, .int .u8 0, .int .u8 0, .int .u8 0, .int .u8 0, .int .u8 0, .int .u8 0, .int .u8 0, .int .u8 0, .int .u8 0, .int .u8 0, .int .u8 0, .int .u8 0, .int .u8 0, .int .u8 0, .int .u8 0, .int .u8 0, .int .u8 0, .int .u8 0] = w1031 at H1033 H1034 H1032 B1035 ⊢) | ((with_reducible refine gate_dst (N := 127) rfl ?_); refine loadG_event (T := 25) (by rfl) rfl rfl (Hhld.out _ _ _ H1033.out) ?_))
          refine (Hhr.out w1031 ⟨HhT.out.1.at B1035.out, HhT.out.2.at B1035.out⟩).mono ?_
          rintro e w1036 ⟨rfl, hb_⟩
          have B1037 := Aside0.mk (below_step B1035.out hb_)
          have H1038 := Aside0.mk (blk_below H1033.out hb_)
          have H1039 := Aside0.mk (blk_below H1034.out hb_)
          have H1040 := Aside0.mk (blk_below H1032.out hb_)
          clear hb_ B1035 H1033 H1034 H1032
          go_wp2_with (first | ((with_reducible refine gate_dst (N := 134) rfl ?_); refine loadG_event (T := 25) (by rfl) rfl rfl (Hhld.out _ _ _ H1038.out) ?_))
          refine (Hhck.out w1036).mono ?_
          rintro e w1041 ⟨rfl, hb_⟩
          have B1042 := Aside0.mk (below_step B1037.out hb_)
          have H1043 := Aside0.mk (blk_below H1038.out hb_)
          have H1044 := Aside0.mk (blk_below H1039.out hb_)
          have H1045 := Aside0.mk (blk_below H1040.out hb_)
          clear hb_ B1037 H1038 H1039 H1040
          go_wp2_with fail
          go_roundg go
          case measure => have := HK.out; omega
          case rel => exact ⟨i + 1, (by rw [show wrap64 ((i : Int) + 1) = ((i + 1 : Nat) : Int) by (have := HK.out; unfold wrap64; omega)]), ⟨by have := HK.out; omega⟩, H1043, B1042⟩
        · obtain rfl : i = 12 := by have := HK.out; omega
          clear HBC hk HK
          go_wp2_with fail
          have B1402 := Aside0.mk (below_drew BB.out)
          clear BB
          refine start_ (n := 9) (S := fun w' => True) (ds := [7]) #[false, false, false, false, false, false, false, false, false] (by kernel_rfl) rfl rfl trivial (fun hHeld => ?_)
          generalize World.drew wr = w1401 at B1402 hHeld ⊢
          refine join_ (σ := Nat × Nat × Nat) 2 #[true, true, true, true, true, true, true, false, false] (fun s_ => [(154, .agg #[.int .u8 1, .int .i64 3, .int .i64 512, .int .i64 16, .int .i64 16, .int .u8 0, .int .u8 0, .int .u8 0, .int .u8 0, .int .u8 0, .int .u8 0, .int .u8 0, .int .u8 0, .int .u8 0, .int .u8 0, .int .u8 0, .int .u8 0, .int .u8 0, .int .u8 0, .int .u8 0, .int .u8 0, .int .u8 0, .int .u8 0, .int .u8 0, .int .u8 0]), (155, .slice (some ⟨s_.2.2, 0, none⟩) 15 s_.1), (156, .tuple #[.agg #[.int .u8 0, .int .u8 0, .int .u8 0, .int .u8 0, .int .u8 0, .int .u8 0, .int .u8 0, .int .u8 0, .int .u8 0, .int .u8 0, .int .u8 0, .int .u8 0, .int .u8 0, .int .u8 0, .int .u8 0, .int .u8 0, .int .u8 0, .int .u8 0, .int .u8 0, .int .u8 0], .int .i64 2]), (17, .pointer (some ⟨s_.2.1, 0, none⟩)), (153, .tuple #[.agg #[.int .u8 0, .int .u8 0, .int .u8 0, .int .u8 0, .int .u8 0, .int .u8 0, .int .u8 0, .int .u8 0, .int .u8 0, .int .u8 0, .int .u8 0, .int .u8 0, .int .u8 0, .int .u8 0, .int .u8 0, .int .u8 0, .int .u8 0, .int .u8 0, .int .u8 0, .int .u8 0], .int .i64 2]), (157, .agg #[.int .u8 0, .int .u8 0, .int .u8 0, .int .u8 0, .int .u8 0, .int .u8 0, .int .u8 0, .int .u8 0, .int .u8 0, .int .u8 0, .int .u8 0, .int .u8 0, .int .u8 0, .int .u8 0, .int .u8 0, .int .u8 0, .int .u8 0, .int .u8 0, .int .u8 0, .int .u8 0]), (158, .int .i64 2)]) (fun s_ w' => (w'.heap[s_.2.1]? = some (.cells #[.int .u8 0, .int .u8 0, .int .u8 0, .int .u8 0, .int .u8 0, .int .u8 0, .int .u8 0, .int .u8 0, .int .u8 0, .int .u8 0, .int .u8 0, .int .u8 0, .int .u8 0, .int .u8 0, .int .u8 0, .int .u8 0, .int .u8 0, .int .u8 0, .int .u8 0, .int .u8 0] 23 (0, 0))) ∧ (Below w.heap.size w w') ∧ (w.heap.size ≤ s_.2.1) ∧ (Kd.C (Kd.int .u8) w' (some ⟨s_.2.2, 0, none⟩) 15 (List.replicate 15 (0 : Int))) ∧ (15 ≤ s_.1)) ?_ ?_
          rotate_left
          · intro hCont
            refine three_ (i := 0) (j := 1) (k := 6) (Ni := some 154) (Nj := some 155) (Nk := some 17) #[true, false, false, false, false, false, false, false, false] #[false, true, false, false, false, false, false, false, false] #[false, false, false, false, false, false, true, false, false] rfl rfl rfl rfl rfl rfl (by kernel_rfl) (by decide) (by decide) (by decide) (fun K hK => ?_) (fun K hK => ?_) (fun K hK => ?_)
            · skip
              refine goes_ Tryd.func56 (by kernel_rfl) rfl #[] (by rfl) rfl rfl (by simp only [List.map_toArray, List.map_cons, List.map_nil]) ?_
              with_reducible refine (Hhex.out w1401).mono ?_
              rintro e_ w1403 ⟨rfl, hb_⟩
              refine ⟨_, rfl, ?_⟩
              have B1404 := Aside0.mk (below_step B1402.out hb_)
              clear hb_ B1402
              refine hK.out _ _ trivial (fun hHeld => ?_)
              clear hK K
              refine norm_ (a' := ?_) ?_ ?_
              rotate_left
              · show Act.put _ (some 154) _ = _
                simp only [Act.put, List.setIfInBounds_toArray, List.set_cons_zero, List.set_cons_succ, i64_w, i32_w]
                rfl
              refine two_ (i := 1) (j := 6) (Ni := some 155) (Nj := some 17) #[true, true, false, false, false, false, false, false, false] #[true, false, false, false, false, false, true, false, false] rfl rfl rfl rfl (by kernel_rfl) (by decide) (by decide) (fun K hK => ?_) (fun K hK => ?_)
              · skip
                refine Kd.R_make_step (Kd.int .u8) (w0 := w1403) _ 5 (by rfl) (N := 155) rfl 26 _ _ rfl 15 rfl rfl Tryd.underlying26 (.int .u8 0) 1 info5p rfl (by decide) (by decide) (0 : Int) (ok := fun _ => True) (okp := fun _ => True) rfl (fun _ h => h) trivial (by decide) (by decide) (Below.refl _ _) (Nat.le_refl _) ?_
                intro v_ w1405 hO_ hb_ hg_ _
                clear hg_
                obtain ⟨r155, c_r155, rfl, hle_, hC_⟩ := row_formK (n := 15) hO_ List.length_replicate (by decide)
                have B1406 := Aside0.mk (below_step B1404.out hb_)
                have R1407 := Aside0.mk (show Kd.C (Kd.int .u8) w1405 (some ⟨r155, 0, none⟩) 15 (List.replicate 15 (0 : Int)) from hC_)
                have L1408 := Aside0.mk hle_
                clear hO_ hb_ hle_ hC_ B1404
                refine hK.out _ _ trivial (fun hHeld => ?_)
                clear hK K
                refine norm_ (a' := ?_) ?_ ?_
                rotate_left
                · show Act.put _ (some 155) _ = _
                  simp only [Act.put, List.setIfInBounds_toArray, List.set_cons_zero, List.set_cons_succ, i64_w, i32_w]
                  rfl
                refine two_ (i := 2) (j := 6) (Ni := some 156) (Nj := some 17) #[true, true, true, false, false, false, false, false, false] #[true, true, false, false, false, false, true, false, false] rfl rfl rfl rfl (by kernel_rfl) (by decide) (by decide) (fun K hK => ?_) (fun K hK => ?_)
                · skip
                  refine goes_ Tryd.func50 (by kernel_rfl) rfl #[.agg #[.int .u8 1, .int .i64 3, .int .i64 512, .int .i64 16, .int .i64 16, .int .u8 0, .int .u8 0, .int .u8 0, .int .u8 0, .int .u8 0, .int .u8 0, .int .u8 0, .int .u8 0, .int .u8 0, .int .u8 0, .int .u8 0, .int .u8 0, .int .u8 0, .int .u8 0, .int .u8 0, .int .u8 0, .int .u8 0, .int .u8 0, .int .u8 0, .int .u8 0], .slice (some ⟨r155, 0, none⟩) 15 c_r155] (by rfl) rfl rfl (by simp only [List.map_toArray, List.map_cons, List.map_nil]; rfl) ?_
                  with_reducible refine (Hh19.out w1405 (some ⟨r155, 0, none⟩) c_r155 ⟨HhT.out.1.at B1406.out, HhT.out.2.at B1406.out⟩).mono ?_
                  rintro e_ w1409 ⟨rfl, hb_⟩
                  refine ⟨_, rfl, ?_⟩
                  have B1410 := Aside0.mk (below_step B1406.out hb_)
                  have B1411 := Aside0.mk (hb_)
                  clear hb_ B1406
                  refine hK.out _ _ trivial (fun hHeld => ?_)
                  clear hK K
                  refine norm_ (a' := ?_) ?_ ?_
                  rotate_left
                  · show Act.put _ (some 156) _ = _
                    simp only [Act.put, List.setIfInBounds_toArray, List.set_cons_zero, List.set_cons_succ, i64_w, i32_w]
                    rfl
                  refine pure_ (i := 3) (N := some 153) (v := ?_) (a' := ?_) #[true, true, true, true, false, false, false, false, false] rfl rfl (by kernel_rfl) (fun _ _ _ h => h) (Or.inl ⟨by rfl, ?_⟩) ?_ ?_
                  rotate_left
                  · intro w'
                    go_simp
                    with_reducible rfl
                  rotate_left
                  · simp only [Act.put, List.setIfInBounds_toArray, List.set_cons_zero, List.set_cons_succ, i64_w, i32_w]
                    rfl
                  refine pure_ (i := 4) (N := some 157) (v := ?_) (a' := ?_) #[true, true, true, true, true, false, false, false, false] rfl rfl (by kernel_rfl) (fun _ _ _ h => h) (Or.inl ⟨by rfl, ?_⟩) ?_ ?_
                  rotate_left
                  · intro w'
                    go_simp
                    with_reducible rfl
                  rotate_left
                  · simp only [Act.put, List.setIfInBounds_toArray, List.set_cons_zero, List.set_cons_succ, i64_w, i32_w]
                    rfl
                  refine pure_ (i := 5) (N := some 158) (v := ?_) (a' := ?_) #[true, true, true, true, true, true, false, false, false] rfl rfl (by kernel_rfl) (fun _ _ _ h => h) (Or.inl ⟨by rfl, ?_⟩) ?_ ?_
                  rotate_left
                  · intro w'
                    go_simp
                    with_reducible rfl
                  rotate_left
                  · simp only [Act.put, List.setIfInBounds_toArray, List.set_cons_zero, List.set_cons_succ, i64_w, i32_w]
                    rfl
                  refine one_ (i := 6) (N := some 17) #[true, true, true, true, true, true, true, false, false] rfl rfl (by kernel_rfl) (by decide) (fun K hK => ?_)
                  refine value_ (w1 := World.alloc w1409 (.cells #[.int .u8 0, .int .u8 0, .int .u8 0, .int .u8 0, .int .u8 0, .int .u8 0, .int .u8 0, .int .u8 0, .int .u8 0, .int .u8 0, .int .u8 0, .int .u8 0, .int .u8 0, .int .u8 0, .int .u8 0, .int .u8 0, .int .u8 0, .int .u8 0, .int .u8 0, .int .u8 0] 23 (0, 0))) (v := .pointer (some ⟨w1409.heap.size, 0, none⟩)) (by rfl) rfl (by first | (go_simp; done) | (go_simp; rfl)) ?_
                  obtain ⟨gA19, w1412, hg_, hw_, hh_, hb_⟩ := new_blk w1409 #[.int .u8 0, .int .u8 0, .int .u8 0, .int .u8 0, .int .u8 0, .int .u8 0, .int .u8 0, .int .u8 0, .int .u8 0, .int .u8 0, .int .u8 0, .int .u8 0, .int .u8 0, .int .u8 0, .int .u8 0, .int .u8 0, .int .u8 0, .int .u8 0, .int .u8 0, .int .u8 0] 23
                  rw [← hg_, ← hw_]
                  have H1417 := Aside0.mk hh_
                  have G1413 : w.heap.size ≤ gA19 := Nat.le_trans B1410.out.size (Nat.le_of_eq hg_.symm)
                  have G1414 : w1405.heap.size ≤ gA19 := Nat.le_trans B1411.out.size (Nat.le_of_eq hg_.symm)
                  have B1415 := Aside0.mk (below_step B1410.out hb_)
                  have B1416 := Aside0.mk (below_step B1411.out hb_)
                  clear hg_ hh_ hb_ B1410 B1411
                  clear hw_
                  refine hK.out _ _ trivial (fun hHeld => ?_)
                  clear hK K
                  refine norm_ (a' := ?_) ?_ ?_
                  rotate_left
                  · show Act.put _ (some 17) _ = _
                    simp only [Act.put, List.setIfInBounds_toArray, List.set_cons_zero, List.set_cons_succ, i64_w, i32_w]
                    rfl
                  exact norm_ (by simp only [putAll, Act.put, List.setIfInBounds_toArray, List.set_cons_zero, List.set_cons_succ]) (hCont (c_r155, gA19, r155) _ ⟨H1417.out, B1415.out, G1413, (Kd.C_below R1407.out B1416.out), L1408.out⟩)
                · skip
                  refine value_ (w1 := World.alloc w1405 (.cells #[.int .u8 0, .int .u8 0, .int .u8 0, .int .u8 0, .int .u8 0, .int .u8 0, .int .u8 0, .int .u8 0, .int .u8 0, .int .u8 0, .int .u8 0, .int .u8 0, .int .u8 0, .int .u8 0, .int .u8 0, .int .u8 0, .int .u8 0, .int .u8 0, .int .u8 0, .int .u8 0] 23 (0, 0))) (v := .pointer (some ⟨w1405.heap.size, 0, none⟩)) (by rfl) rfl (by first | (go_simp; done) | (go_simp; rfl)) ?_
                  obtain ⟨gA19, w1409, hg_, hw_, hh_, hb_⟩ := new_blk w1405 #[.int .u8 0, .int .u8 0, .int .u8 0, .int .u8 0, .int .u8 0, .int .u8 0, .int .u8 0, .int .u8 0, .int .u8 0, .int .u8 0, .int .u8 0, .int .u8 0, .int .u8 0, .int .u8 0, .int .u8 0, .int .u8 0, .int .u8 0, .int .u8 0, .int .u8 0, .int .u8 0] 23
                  rw [← hg_, ← hw_]
                  have H1414 := Aside0.mk hh_
                  have G1410 : w.heap.size ≤ gA19 := Nat.le_trans B1406.out.size (Nat.le_of_eq hg_.symm)
                  have G1411 : w1405.heap.size ≤ gA19 := Nat.le_of_eq hg_.symm
                  have B1412 := Aside0.mk (below_step B1406.out hb_)
                  have B1413 := Aside0.mk (hb_)
                  clear hg_ hh_ hb_ B1406
                  clear hw_
                  refine hK.out _ _ trivial (fun hHeld => ?_)
                  clear hK K
                  refine norm_ (a' := ?_) ?_ ?_
                  rotate_left
                  · show Act.put _ (some 17) _ = _
                    simp only [Act.put, List.setIfInBounds_toArray, List.set_cons_zero, List.set_cons_succ, i64_w, i32_w]
                    rfl
                  refine one_ (i := 2) (N := some 156) #[true, true, true, false, false, false, true, false, false] rfl rfl (by kernel_rfl) (by decide) (fun K hK => ?_)
                  refine goes_ Tryd.func50 (by kernel_rfl) rfl #[.agg #[.int .u8 1, .int .i64 3, .int .i64 512, .int .i64 16, .int .i64 16, .int .u8 0, .int .u8 0, .int .u8 0, .int .u8 0, .int .u8 0, .int .u8 0, .int .u8 0, .int .u8 0, .int .u8 0, .int .u8 0, .int .u8 0, .int .u8 0, .int .u8 0, .int .u8 0, .int .u8 0, .int .u8 0, .int .u8 0, .int .u8 0, .int .u8 0, .int .u8 0], .slice (some ⟨r155, 0, none⟩) 15 c_r155] (by rfl) rfl rfl (by simp only [List.map_toArray, List.map_cons, List.map_nil]; rfl) ?_
                  with_reducible refine (Hh19.out w1409 (some ⟨r155, 0, none⟩) c_r155 ⟨HhT.out.1.at B1412.out, HhT.out.2.at B1412.out⟩).mono ?_
                  rintro e_ w1415 ⟨rfl, hb_⟩
                  refine ⟨_, rfl, ?_⟩
                  have B1416 := Aside0.mk (below_step B1412.out hb_)
                  have B1417 := Aside0.mk (below_step B1413.out hb_)
                  have H1418 := Aside0.mk (blk_below H1414.out hb_)
                  clear hb_ B1412 B1413 H1414
                  refine hK.out _ _ trivial (fun hHeld => ?_)
                  clear hK K
                  refine norm_ (a' := ?_) ?_ ?_
                  rotate_left
                  · show Act.put _ (some 156) _ = _
                    simp only [Act.put, List.setIfInBounds_toArray, List.set_cons_zero, List.set_cons_succ, i64_w, i32_w]
                    rfl
                  refine pure_ (i := 3) (N := some 153) (v := ?_) (a' := ?_) #[true, true, true, true, false, false, true, false, false] rfl rfl (by kernel_rfl) (fun _ _ _ h => h) (Or.inl ⟨by rfl, ?_⟩) ?_ ?_
                  rotate_left
                  · intro w'
                    go_simp
                    with_reducible rfl
                  rotate_left
                  · simp only [Act.put, List.setIfInBounds_toArray, List.set_cons_zero, List.set_cons_succ, i64_w, i32_w]
                    rfl
                  refine pure_ (i := 4) (N := some 157) (v := ?_) (a' := ?_) #[true, true, true, true, true, false, true, false, false] rfl rfl (by kernel_rfl) (fun _ _ _ h => h) (Or.inl ⟨by rfl, ?_⟩) ?_ ?_
                  rotate_left
                  · intro w'
                    go_simp
                    with_reducible rfl
                  rotate_left
                  · simp only [Act.put, List.setIfInBounds_toArray, List.set_cons_zero, List.set_cons_succ, i64_w, i32_w]
                    rfl
                  refine pure_ (i := 5) (N := some 158) (v := ?_) (a' := ?_) #[true, true, true, true, true, true, true, false, false] rfl rfl (by kernel_rfl) (fun _ _ _ h => h) (Or.inl ⟨by rfl, ?_⟩) ?_ ?_
                  rotate_left
                  · intro w'
                    go_simp
                    with_reducible rfl
                  rotate_left
                  · simp only [Act.put, List.setIfInBounds_toArray, List.set_cons_zero, List.set_cons_succ, i64_w, i32_w]
                    rfl
                  exact norm_ (by simp only [putAll, Act.put, List.setIfInBounds_toArray, List.set_cons_zero, List.set_cons_succ]) (hCont (c_r155, gA19, r155) _ ⟨H1418.out, B1416.out, G1410, (Kd.C_below R1407.out B1417.out), L1408.out⟩)
              · skip
                refine value_ (w1 := World.alloc w1403 (.cells #[.int .u8 0, .int .u8 0, .int .u8 0, .int .u8 0, .int .u8 0, .int .u8 0, .int .u8 0, .int .u8 0, .int .u8 0, .int .u8 0, .int .u8 0, .int .u8 0, .int .u8 0, .int .u8 0, .int .u8 0, .int .u8 0, .int .u8 0, .int .u8 0, .int .u8 0, .int .u8 0] 23 (0, 0))) (v := .pointer (some ⟨w1403.heap.size, 0, none⟩)) (by rfl) rfl (by first | (go_simp; done) | (go_simp; rfl)) ?_
                obtain ⟨gA19, w1405, hg_, hw_, hh_, hb_⟩ := new_blk w1403 #[.int .u8 0, .int .u8 0, .int .u8 0, .int .u8 0, .int .u8 0, .int .u8 0, .int .u8 0, .int .u8 0, .int .u8 0, .int .u8 0, .int .u8 0, .int .u8 0, .int .u8 0, .int .u8 0, .int .u8 0, .int .u8 0, .int .u8 0, .int .u8 0, .int .u8 0, .int .u8 0] 23
                rw [← hg_, ← hw_]
                have H1408 := Aside0.mk hh_
                have G1406 : w.heap.size ≤ gA19 := Nat.le_trans B1404.out.size (Nat.le_of_eq hg_.symm)
                have B1407 := Aside0.mk (below_step B1404.out hb_)
                clear hg_ hh_ hb_ B1404
                clear hw_
                refine hK.out _ _ trivial (fun hHeld => ?_)
                clear hK K
                refine norm_ (a' := ?_) ?_ ?_
                rotate_left
                · show Act.put _ (some 17) _ = _
                  simp only [Act.put, List.setIfInBounds_toArray, List.set_cons_zero, List.set_cons_succ, i64_w, i32_w]
                  rfl
                refine one_ (i := 1) (N := some 155) #[true, true, false, false, false, false, true, false, false] rfl rfl (by kernel_rfl) (by decide) (fun K hK => ?_)
                refine Kd.R_make_step (Kd.int .u8) (w0 := w1405) _ 5 (by rfl) (N := 155) rfl 26 _ _ rfl 15 rfl rfl Tryd.underlying26 (.int .u8 0) 1 info5p rfl (by decide) (by decide) (0 : Int) (ok := fun _ => True) (okp := fun _ => True) rfl (fun _ h => h) trivial (by decide) (by decide) (Below.refl _ _) (Nat.le_refl _) ?_
                intro v_ w1409 hO_ hb_ hg_ _
                clear hg_
                obtain ⟨r155, c_r155, rfl, hle_, hC_⟩ := row_formK (n := 15) hO_ List.length_replicate (by decide)
                have B1410 := Aside0.mk (below_step B1407.out hb_)
                have H1411 := Aside0.mk (blk_below H1408.out hb_)
                have R1412 := Aside0.mk (show Kd.C (Kd.int .u8) w1409 (some ⟨r155, 0, none⟩) 15 (List.replicate 15 (0 : Int)) from hC_)
                have L1413 := Aside0.mk hle_
                clear hO_ hb_ hle_ hC_ B1407 H1408
                refine hK.out _ _ trivial (fun hHeld => ?_)
                clear hK K
                refine norm_ (a' := ?_) ?_ ?_
                rotate_left
                · show Act.put _ (some 155) _ = _
                  simp only [Act.put, List.setIfInBounds_toArray, List.set_cons_zero, List.set_cons_succ, i64_w, i32_w]
                  rfl
                refine one_ (i := 2) (N := some 156) #[true, true, true, false, false, false, true, false, false] rfl rfl (by kernel_rfl) (by decide) (fun K hK => ?_)
                refine goes_ Tryd.func50 (by kernel_rfl) rfl #[.agg #[.int .u8 1, .int .i64 3, .int .i64 512, .int .i64 16, .int .i64 16, .int .u8 0, .int .u8 0, .int .u8 0, .int .u8 0, .int .u8 0, .int .u8 0, .int .u8 0, .int .u8 0, .int .u8 0, .int .u8 0, .int .u8 0, .int .u8 0, .int .u8 0, .int .u8 0, .int .u8 0, .int .u8 0, .int .u8 0, .int .u8 0, .int .u8 0, .int .u8 0], .slice (some ⟨r155, 0, none⟩) 15 c_r155] (by rfl) rfl rfl (by simp only [List.map_toArray, List.map_cons, List.map_nil]; rfl) ?_
                with_reducible refine (Hh19.out w1409 (some ⟨r155, 0, none⟩) c_r155 ⟨HhT.out.1.at B1410.out, HhT.out.2.at B1410.out⟩).mono ?_
                rintro e_ w1414 ⟨rfl, hb_⟩
                refine ⟨_, rfl, ?_⟩
                have B1415 := Aside0.mk (below_step B1410.out hb_)
                have B1416 := Aside0.mk (hb_)
                have H1417 := Aside0.mk (blk_below H1411.out hb_)
                clear hb_ B1410 H1411
                refine hK.out _ _ trivial (fun hHeld => ?_)
                clear hK K
                refine norm_ (a' := ?_) ?_ ?_
                rotate_left
                · show Act.put _ (some 156) _ = _
                  simp only [Act.put, List.setIfInBounds_toArray, List.set_cons_zero, List.set_cons_succ, i64_w, i32_w]
                  rfl
                refine pure_ (i := 3) (N := some 153) (v := ?_) (a' := ?_) #[true, true, true, true, false, false, true, false, false] rfl rfl (by kernel_rfl) (fun _ _ _ h => h) (Or.inl ⟨by rfl, ?_⟩) ?_ ?_
                rotate_left
                · intro w'
                  go_simp
                  with_reducible rfl
                rotate_left
                · simp only [Act.put, List.setIfInBounds_toArray, List.set_cons_zero, List.set_cons_succ, i64_w, i32_w]
                  rfl
                refine pure_ (i := 4) (N := some 157) (v := ?_) (a' := ?_) #[true, true, true, true, true, false, true, false, false] rfl rfl (by kernel_rfl) (fun _ _ _ h => h) (Or.inl ⟨by rfl, ?_⟩) ?_ ?_
                rotate_left
                · intro w'
                  go_simp
                  with_reducible rfl
                rotate_left
                · simp only [Act.put, List.setIfInBounds_toArray, List.set_cons_zero, List.set_cons_succ, i64_w, i32_w]
                  rfl
                refine pure_ (i := 5) (N := some 158) (v := ?_) (a' := ?_) #[true, true, true, true, true, true, true, false, false] rfl rfl (by kernel_rfl) (fun _ _ _ h => h) (Or.inl ⟨by rfl, ?_⟩) ?_ ?_
                rotate_left
                · intro w'
                  go_simp
                  with_reducible rfl
                rotate_left
                · simp only [Act.put, List.setIfInBounds_toArray, List.set_cons_zero, List.set_cons_succ, i64_w, i32_w]
                  rfl
                exact norm_ (by simp only [putAll, Act.put, List.setIfInBounds_toArray, List.set_cons_zero, List.set_cons_succ]) (hCont (c_r155, gA19, r155) _ ⟨H1417.out, B1415.out, G1406, (Kd.C_below R1412.out B1416.out), L1413.out⟩)
            · skip
              refine Kd.R_make_step (Kd.int .u8) (w0 := w1401) _ 5 (by rfl) (N := 155) rfl 26 _ _ rfl 15 rfl rfl Tryd.underlying26 (.int .u8 0) 1 info5p rfl (by decide) (by decide) (0 : Int) (ok := fun _ => True) (okp := fun _ => True) rfl (fun _ h => h) trivial (by decide) (by decide) (Below.refl _ _) (Nat.le_refl _) ?_
              intro v_ w1403 hO_ hb_ hg_ _
              clear hg_
              obtain ⟨r155, c_r155, rfl, hle_, hC_⟩ := row_formK (n := 15) hO_ List.length_replicate (by decide)
              have B1404 := Aside0.mk (below_step B1402.out hb_)
              have R1405 := Aside0.mk (show Kd.C (Kd.int .u8) w1403 (some ⟨r155, 0, none⟩) 15 (List.replicate 15 (0 : Int)) from hC_)
              have L1406 := Aside0.mk hle_
              clear hO_ hb_ hle_ hC_ B1402
              refine hK.out _ _ trivial (fun hHeld => ?_)
              clear hK K
              refine norm_ (a' := ?_) ?_ ?_
              rotate_left
              · show Act.put _ (some 155) _ = _
                simp only [Act.put, List.setIfInBounds_toArray, List.set_cons_zero, List.set_cons_succ, i64_w, i32_w]
                rfl
              refine two_ (i := 0) (j := 6) (Ni := some 154) (Nj := some 17) #[true, true, false, false, false, false, false, false, false] #[false, true, false, false, false, false, true, false, false] rfl rfl rfl rfl (by kernel_rfl) (by decide) (by decide) (fun K hK => ?_) (fun K hK => ?_)
              · skip
                refine goes_ Tryd.func56 (by kernel_rfl) rfl #[] (by rfl) rfl rfl (by simp only [List.map_toArray, List.map_cons, List.map_nil]) ?_
                with_reducible refine (Hhex.out w1403).mono ?_
                rintro e_ w1407 ⟨rfl, hb_⟩
                refine ⟨_, rfl, ?_⟩
                have B1408 := Aside0.mk (below_step B1404.out hb_)
                have B1409 := Aside0.mk (hb_)
                clear hb_ B1404
                refine hK.out _ _ trivial (fun hHeld => ?_)
                clear hK K
                refine norm_ (a' := ?_) ?_ ?_
                rotate_left
                · show Act.put _ (some 154) _ = _
                  simp only [Act.put, List.setIfInBounds_toArray, List.set_cons_zero, List.set_cons_succ, i64_w, i32_w]
                  rfl
                refine two_ (i := 2) (j := 6) (Ni := some 156) (Nj := some 17) #[true, true, true, false, false, false, false, false, false] #[true, true, false, false, false, false, true, false, false] rfl rfl rfl rfl (by kernel_rfl) (by decide) (by decide) (fun K hK => ?_) (fun K hK => ?_)
                · skip
                  refine goes_ Tryd.func50 (by kernel_rfl) rfl #[.agg #[.int .u8 1, .int .i64 3, .int .i64 512, .int .i64 16, .int .i64 16, .int .u8 0, .int .u8 0, .int .u8 0, .int .u8 0, .int .u8 0, .int .u8 0, .int .u8 0, .int .u8 0, .int .u8 0, .int .u8 0, .int .u8 0, .int .u8 0, .int .u8 0, .int .u8 0, .int .u8 0, .int .u8 0, .int .u8 0, .int .u8 0, .int .u8 0, .int .u8 0], .slice (some ⟨r155, 0, none⟩) 15 c_r155] (by rfl) rfl rfl (by simp only [List.map_toArray, List.map_cons, List.map_nil]; rfl) ?_
                  with_reducible refine (Hh19.out w1407 (some ⟨r155, 0, none⟩) c_r155 ⟨HhT.out.1.at B1408.out, HhT.out.2.at B1408.out⟩).mono ?_
                  rintro e_ w1410 ⟨rfl, hb_⟩
                  refine ⟨_, rfl, ?_⟩
                  have B1411 := Aside0.mk (below_step B1408.out hb_)
                  have B1412 := Aside0.mk (below_step B1409.out hb_)
                  clear hb_ B1408 B1409
                  refine hK.out _ _ trivial (fun hHeld => ?_)
                  clear hK K
                  refine norm_ (a' := ?_) ?_ ?_
                  rotate_left
                  · show Act.put _ (some 156) _ = _
                    simp only [Act.put, List.setIfInBounds_toArray, List.set_cons_zero, List.set_cons_succ, i64_w, i32_w]
                    rfl
                  refine pure_ (i := 3) (N := some 153) (v := ?_) (a' := ?_) #[true, true, true, true, false, false, false, false, false] rfl rfl (by kernel_rfl) (fun _ _ _ h => h) (Or.inl ⟨by rfl, ?_⟩) ?_ ?_
                  rotate_left
                  · intro w'
                    go_simp
                    with_reducible rfl
                  rotate_left
                  · simp only [Act.put, List.setIfInBounds_toArray, List.set_cons_zero, List.set_cons_succ, i64_w, i32_w]
                    rfl
                  refine pure_ (i := 4) (N := some 157) (v := ?_) (a' := ?_) #[true, true, true, true, true, false, false, false, false] rfl rfl (by kernel_rfl) (fun _ _ _ h => h) (Or.inl ⟨by rfl, ?_⟩) ?_ ?_
                  rotate_left
                  · intro w'
                    go_simp
                    with_reducible rfl
                  rotate_left
                  · simp only [Act.put, List.setIfInBounds_toArray, List.set_cons_zero, List.set_cons_succ, i64_w, i32_w]
                    rfl
                  refine pure_ (i := 5) (N := some 158) (v := ?_) (a' := ?_) #[true, true, true, true, true, true, false, false, false] rfl rfl (by kernel_rfl) (fun _ _ _ h => h) (Or.inl ⟨by rfl, ?_⟩) ?_ ?_
                  rotate_left
                  · intro w'
                    go_simp
                    with_reducible rfl
                  rotate_left
                  · simp only [Act.put, List.setIfInBounds_toArray, List.set_cons_zero, List.set_cons_succ, i64_w, i32_w]
                    rfl
                  refine one_ (i := 6) (N := some 17) #[true, true, true, true, true, true, true, false, false] rfl rfl (by kernel_rfl) (by decide) (fun K hK => ?_)
                  refine value_ (w1 := World.alloc w1410 (.cells #[.int .u8 0, .int .u8 0, .int .u8 0, .int .u8 0, .int .u8 0, .int .u8 0, .int .u8 0, .int .u8 0, .int .u8 0, .int .u8 0, .int .u8 0, .int .u8 0, .int .u8 0, .int .u8 0, .int .u8 0, .int .u8 0, .int .u8 0, .int .u8 0, .int .u8 0, .int .u8 0] 23 (0, 0))) (v := .pointer (some ⟨w1410.heap.size, 0, none⟩)) (by rfl) rfl (by first | (go_simp; done) | (go_simp; rfl)) ?_
                  obtain ⟨gA19, w1413, hg_, hw_, hh_, hb_⟩ := new_blk w1410 #[.int .u8 0, .int .u8 0, .int .u8 0, .int .u8 0, .int .u8 0, .int .u8 0, .int .u8 0, .int .u8 0, .int .u8 0, .int .u8 0, .int .u8 0, .int .u8 0, .int .u8 0, .int .u8 0, .int .u8 0, .int .u8 0, .int .u8 0, .int .u8 0, .int .u8 0, .int .u8 0] 23
                  rw [← hg_, ← hw_]
                  have H1418 := Aside0.mk hh_
                  have G1414 : w.heap.size ≤ gA19 := Nat.le_trans B1411.out.size (Nat.le_of_eq hg_.symm)
                  have G1415 : w1403.heap.size ≤ gA19 := Nat.le_trans B1412.out.size (Nat.le_of_eq hg_.symm)
                  have B1416 := Aside0.mk (below_step B1411.out hb_)
                  have B1417 := Aside0.mk (below_step B1412.out hb_)
                  clear hg_ hh_ hb_ B1411 B1412
                  clear hw_
                  refine hK.out _ _ trivial (fun hHeld => ?_)
                  clear hK K
                  refine norm_ (a' := ?_) ?_ ?_
                  rotate_left
                  · show Act.put _ (some 17) _ = _
                    simp only [Act.put, List.setIfInBounds_toArray, List.set_cons_zero, List.set_cons_succ, i64_w, i32_w]
                    rfl
                  exact norm_ (by simp only [putAll, Act.put, List.setIfInBounds_toArray, List.set_cons_zero, List.set_cons_succ]) (hCont (c_r155, gA19, r155) _ ⟨H1418.out, B1416.out, G1414, (Kd.C_below R1405.out B1417.out), L1406.out⟩)
                · skip
                  refine value_ (w1 := World.alloc w1407 (.cells #[.int .u8 0, .int .u8 0, .int .u8 0, .int .u8 0, .int .u8 0, .int .u8 0, .int .u8 0, .int .u8 0, .int .u8 0, .int .u8 0, .int .u8 0, .int .u8 0, .int .u8 0, .int .u8 0, .int .u8 0, .int .u8 0, .int .u8 0, .int .u8 0, .int .u8 0, .int .u8 0] 23 (0, 0))) (v := .pointer (some ⟨w1407.heap.size, 0, none⟩)) (by rfl) rfl (by first | (go_simp; done) | (go_simp; rfl)) ?_
                  obtain ⟨gA19, w1410, hg_, hw_, hh_, hb_⟩ := new_blk w1407 #[.int .u8 0, .int .u8 0, .int .u8 0, .int .u8 0, .int .u8 0, .int .u8 0, .int .u8 0, .int .u8 0, .int .u8 0, .int .u8 0, .int .u8 0, .int .u8 0, .int .u8 0, .int .u8 0, .int .u8 0, .int .u8 0, .int .u8 0, .int .u8 0, .int .u8 0, .int .u8 0] 23
                  rw [← hg_, ← hw_]
                  have H1415 := Aside0.mk hh_
                  have G1411 : w.heap.size ≤ gA19 := Nat.le_trans B1408.out.size (Nat.le_of_eq hg_.symm)
                  have G1412 : w1403.heap.size ≤ gA19 := Nat.le_trans B1409.out.size (Nat.le_of_eq hg_.symm)
                  have B1413 := Aside0.mk (below_step B1408.out hb_)
                  have B1414 := Aside0.mk (below_step B1409.out hb_)
                  clear hg_ hh_ hb_ B1408 B1409
                  clear hw_
                  refine hK.out _ _ trivial (fun hHeld => ?_)
                  clear hK K
                  refine norm_ (a' := ?_) ?_ ?_
                  rotate_left
                  · show Act.put _ (some 17) _ = _
                    simp only [Act.put, List.setIfInBounds_toArray, List.set_cons_zero, List.set_cons_succ, i64_w, i32_w]
                    rfl
                  refine one_ (i := 2) (N := some 156) #[true, true, true, false, false, false, true, false, false] rfl rfl (by kernel_rfl) (by decide) (fun K hK => ?_)
                  refine goes_ Tryd.func50 (by kernel_rfl) rfl #[.agg #[.int .u8 1, .int .i64 3, .int .i64 512, .int .i64 16, .int .i64 16, .int .u8 0, .int .u8 0, .int .u8 0, .int .u8 0, .int .u8 0, .int .u8 0, .int .u8 0, .int .u8 0, .int .u8 0, .int .u8 0, .int .u8 0, .int .u8 0, .int .u8 0, .int .u8 0, .int .u8 0, .int .u8 0, .int .u8 0, .int .u8 0, .int .u8 0, .int .u8 0], .slice (some ⟨r155, 0, none⟩) 15 c_r155] (by rfl) rfl rfl (by simp only [List.map_toArray, List.map_cons, List.map_nil]; rfl) ?_
                  with_reducible refine (Hh19.out w1410 (some ⟨r155, 0, none⟩) c_r155 ⟨HhT.out.1.at B1413.out, HhT.out.2.at B1413.out⟩).mono ?_
                  rintro e_ w1416 ⟨rfl, hb_⟩
                  refine ⟨_, rfl, ?_⟩
                  have B1417 := Aside0.mk (below_step B1413.out hb_)
                  have B1418 := Aside0.mk (below_step B1414.out hb_)
                  have H1419 := Aside0.mk (blk_below H1415.out hb_)
                  clear hb_ B1413 B1414 H1415
                  refine hK.out _ _ trivial (fun hHeld => ?_)
                  clear hK K
                  refine norm_ (a' := ?_) ?_ ?_
                  rotate_left
                  · show Act.put _ (some 156) _ = _
                    simp only [Act.put, List.setIfInBounds_toArray, List.set_cons_zero, List.set_cons_succ, i64_w, i32_w]
                    rfl
                  refine pure_ (i := 3) (N := some 153) (v := ?_) (a' := ?_) #[true, true, true, true, false, false, true, false, false] rfl rfl (by kernel_rfl) (fun _ _ _ h => h) (Or.inl ⟨by rfl, ?_⟩) ?_ ?_
                  rotate_left
                  · intro w'
                    go_simp
                    with_reducible rfl
                  rotate_left
                  · simp only [Act.put, List.setIfInBounds_toArray, List.set_cons_zero, List.set_cons_succ, i64_w, i32_w]
                    rfl
                  refine pure_ (i := 4) (N := some 157) (v := ?_) (a' := ?_) #[true, true, true, true, true, false, true, false, false] rfl rfl (by kernel_rfl) (fun _ _ _ h => h) (Or.inl ⟨by rfl, ?_⟩) ?_ ?_
                  rotate_left
                  · intro w'
                    go_simp
                    with_reducible rfl
                  rotate_left
                  · simp only [Act.put, List.setIfInBounds_toArray, List.set_cons_zero, List.set_cons_succ, i64_w, i32_w]
                    rfl
                  refine pure_ (i := 5) (N := some 158) (v := ?_) (a' := ?_) #[true, true, true, true, true, true, true, false, false] rfl rfl (by kernel_rfl) (fun _ _ _ h => h) (Or.inl ⟨by rfl, ?_⟩) ?_ ?_
                  rotate_left
                  · intro w'
                    go_simp
                    with_reducible rfl
                  rotate_left
                  · simp only [Act.put, List.setIfInBounds_toArray, List.set_cons_zero, List.set_cons_succ, i64_w, i32_w]
                    rfl
                  exact norm_ (by simp only [putAll, Act.put, List.setIfInBounds_toArray, List.set_cons_zero, List.set_cons_succ]) (hCont (c_r155, gA19, r155) _ ⟨H1419.out, B1417.out, G1411, (Kd.C_below R1405.out B1418.out), L1406.out⟩)
              · skip
                refine value_ (w1 := World.alloc w1403 (.cells #[.int .u8 0, .int .u8 0, .int .u8 0, .int .u8 0, .int .u8 0, .int .u8 0, .int .u8 0, .int .u8 0, .int .u8 0, .int .u8 0, .int .u8 0, .int .u8 0, .int .u8 0, .int .u8 0, .int .u8 0, .int .u8 0, .int .u8 0, .int .u8 0, .int .u8 0, .int .u8 0] 23 (0, 0))) (v := .pointer (some ⟨w1403.heap.size, 0, none⟩)) (by rfl) rfl (by first | (go_simp; done) | (go_simp; rfl)) ?_
                obtain ⟨gA19, w1407, hg_, hw_, hh_, hb_⟩ := new_blk w1403 #[.int .u8 0, .int .u8 0, .int .u8 0, .int .u8 0, .int .u8 0, .int .u8 0, .int .u8 0, .int .u8 0, .int .u8 0, .int .u8 0, .int .u8 0, .int .u8 0, .int .u8 0, .int .u8 0, .int .u8 0, .int .u8 0, .int .u8 0, .int .u8 0, .int .u8 0, .int .u8 0] 23
                rw [← hg_, ← hw_]
                have H1412 := Aside0.mk hh_
                have G1408 : w.heap.size ≤ gA19 := Nat.le_trans B1404.out.size (Nat.le_of_eq hg_.symm)
                have G1409 : w1403.heap.size ≤ gA19 := Nat.le_of_eq hg_.symm
                have B1410 := Aside0.mk (below_step B1404.out hb_)
                have B1411 := Aside0.mk (hb_)
                clear hg_ hh_ hb_ B1404
                clear hw_
                refine hK.out _ _ trivial (fun hHeld => ?_)
                clear hK K
                refine norm_ (a' := ?_) ?_ ?_
                rotate_left
                · show Act.put _ (some 17) _ = _
                  simp only [Act.put, List.setIfInBounds_toArray, List.set_cons_zero, List.set_cons_succ, i64_w, i32_w]
                  rfl
                refine one_ (i := 0) (N := some 154) #[true, true, false, false, false, false, true, false, false] rfl rfl (by kernel_rfl) (by decide) (fun K hK => ?_)
                refine goes_ Tryd.func56 (by kernel_rfl) rfl #[] (by rfl) rfl rfl (by simp only [List.map_toArray, List.map_cons, List.map_nil]) ?_
                with_reducible refine (Hhex.out w1407).mono ?_
                rintro e_ w1413 ⟨rfl, hb_⟩
                refine ⟨_, rfl, ?_⟩
                have B1414 := Aside0.mk (below_step B1410.out hb_)
                have B1415 := Aside0.mk (below_step B1411.out hb_)
                have H1416 := Aside0.mk (blk_below H1412.out hb_)
                clear hb_ B1410 B1411 H1412
                refine hK.out _ _ trivial (fun hHeld => ?_)
                clear hK K
                refine norm_ (a' := ?_) ?_ ?_
                rotate_left
                · show Act.put _ (some 154) _ = _
                  simp only [Act.put, List.setIfInBounds_toArray, List.set_cons_zero, List.set_cons_succ, i64_w, i32_w]
                  rfl
                refine one_ (i := 2) (N := some 156) #[true, true, true, false, false, false, true, false, false] rfl rfl (by kernel_rfl) (by decide) (fun K hK => ?_)
                refine goes_ Tryd.func50 (by kernel_rfl) rfl #[.agg #[.int .u8 1, .int .i64 3, .int .i64 512, .int .i64 16, .int .i64 16, .int .u8 0, .int .u8 0, .int .u8 0, .int .u8 0, .int .u8 0, .int .u8 0, .int .u8 0, .int .u8 0, .int .u8 0, .int .u8 0, .int .u8 0, .int .u8 0, .int .u8 0, .int .u8 0, .int .u8 0, .int .u8 0, .int .u8 0, .int .u8 0, .int .u8 0, .int .u8 0], .slice (some ⟨r155, 0, none⟩) 15 c_r155] (by rfl) rfl rfl (by simp only [List.map_toArray, List.map_cons, List.map_nil]; rfl) ?_
                with_reducible refine (Hh19.out w1413 (some ⟨r155, 0, none⟩) c_r155 ⟨HhT.out.1.at B1414.out, HhT.out.2.at B1414.out⟩).mono ?_
                rintro e_ w1417 ⟨rfl, hb_⟩
                refine ⟨_, rfl, ?_⟩
                have B1418 := Aside0.mk (below_step B1414.out hb_)
                have B1419 := Aside0.mk (below_step B1415.out hb_)
                have H1420 := Aside0.mk (blk_below H1416.out hb_)
                clear hb_ B1414 B1415 H1416
                refine hK.out _ _ trivial (fun hHeld => ?_)
                clear hK K
                refine norm_ (a' := ?_) ?_ ?_
                rotate_left
                · show Act.put _ (some 156) _ = _
                  simp only [Act.put, List.setIfInBounds_toArray, List.set_cons_zero, List.set_cons_succ, i64_w, i32_w]
                  rfl
                refine pure_ (i := 3) (N := some 153) (v := ?_) (a' := ?_) #[true, true, true, true, false, false, true, false, false] rfl rfl (by kernel_rfl) (fun _ _ _ h => h) (Or.inl ⟨by rfl, ?_⟩) ?_ ?_
                rotate_left
                · intro w'
                  go_simp
                  with_reducible rfl
                rotate_left
                · simp only [Act.put, List.setIfInBounds_toArray, List.set_cons_zero, List.set_cons_succ, i64_w, i32_w]
                  rfl
                refine pure_ (i := 4) (N := some 157) (v := ?_) (a' := ?_) #[true, true, true, true, true, false, true, false, false] rfl rfl (by kernel_rfl) (fun _ _ _ h => h) (Or.inl ⟨by rfl, ?_⟩) ?_ ?_
                rotate_left
                · intro w'
                  go_simp
                  with_reducible rfl
                rotate_left
                · simp only [Act.put, List.setIfInBounds_toArray, List.set_cons_zero, List.set_cons_succ, i64_w, i32_w]
                  rfl
                refine pure_ (i := 5) (N := some 158) (v := ?_) (a' := ?_) #[true, true, true, true, true, true, true, false, false] rfl rfl (by kernel_rfl) (fun _ _ _ h => h) (Or.inl ⟨by rfl, ?_⟩) ?_ ?_
                rotate_left
                · intro w'
                  go_simp
                  with_reducible rfl
                rotate_left
                · simp only [Act.put, List.setIfInBounds_toArray, List.set_cons_zero, List.set_cons_succ, i64_w, i32_w]
                  rfl
                exact norm_ (by simp only [putAll, Act.put, List.setIfInBounds_toArray, List.set_cons_zero, List.set_cons_succ]) (hCont (c_r155, gA19, r155) _ ⟨H1420.out, B1418.out, G1408, (Kd.C_below R1405.out B1419.out), L1406.out⟩)
            · skip
              refine value_ (w1 := World.alloc w1401 (.cells #[.int .u8 0, .int .u8 0, .int .u8 0, .int .u8 0, .int .u8 0, .int .u8 0, .int .u8 0, .int .u8 0, .int .u8 0, .int .u8 0, .int .u8 0, .int .u8 0, .int .u8 0, .int .u8 0, .int .u8 0, .int .u8 0, .int .u8 0, .int .u8 0, .int .u8 0, .int .u8 0] 23 (0, 0))) (v := .pointer (some ⟨w1401.heap.size, 0, none⟩)) (by rfl) rfl (by first | (go_simp; done) | (go_simp; rfl)) ?_
              obtain ⟨gA19, w1403, hg_, hw_, hh_, hb_⟩ := new_blk w1401 #[.int .u8 0, .int .u8 0, .int .u8 0, .int .u8 0, .int .u8 0, .int .u8 0, .int .u8 0, .int .u8 0, .int .u8 0, .int .u8 0, .int .u8 0, .int .u8 0, .int .u8 0, .int .u8 0, .int .u8 0, .int .u8 0, .int .u8 0, .int .u8 0, .int .u8 0, .int .u8 0] 23
              rw [← hg_, ← hw_]
              have H1406 := Aside0.mk hh_
              have G1404 : w.heap.size ≤ gA19 := Nat.le_trans B1402.out.size (Nat.le_of_eq hg_.symm)
              have B1405 := Aside0.mk (below_step B1402.out hb_)
              clear hg_ hh_ hb_ B1402
              clear hw_
              refine hK.out _ _ trivial (fun hHeld => ?_)
              clear hK K
              refine norm_ (a' := ?_) ?_ ?_
              rotate_left
              · show Act.put _ (some 17) _ = _
                simp only [Act.put, List.setIfInBounds_toArray, List.set_cons_zero, List.set_cons_succ, i64_w, i32_w]
                rfl
              refine two_ (i := 0) (j := 1) (Ni := some 154) (Nj := some 155) #[true, false, false, false, false, false, true, false, false] #[false, true, false, false, false, false, true, false, false] rfl rfl rfl rfl (by kernel_rfl) (by decide) (by decide) (fun K hK => ?_) (fun K hK => ?_)
              · skip
                refine goes_ Tryd.func56 (by kernel_rfl) rfl #[] (by rfl) rfl rfl (by simp only [List.map_toArray, List.map_cons, List.map_nil]) ?_
                with_reducible refine (Hhex.out w1403).mono ?_
                rintro e_ w1407 ⟨rfl, hb_⟩
                refine ⟨_, rfl, ?_⟩
                have B1408 := Aside0.mk (below_step B1405.out hb_)
                have H1409 := Aside0.mk (blk_below H1406.out hb_)
                clear hb_ B1405 H1406
                refine hK.out _ _ trivial (fun hHeld => ?_)
                clear hK K
                refine norm_ (a' := ?_) ?_ ?_
                rotate_left
                · show Act.put _ (some 154) _ = _
                  simp only [Act.put, List.setIfInBounds_toArray, List.set_cons_zero, List.set_cons_succ, i64_w, i32_w]
                  rfl
                refine one_ (i := 1) (N := some 155) #[true, true, false, false, false, false, true, false, false] rfl rfl (by kernel_rfl) (by decide) (fun K hK => ?_)
                refine Kd.R_make_step (Kd.int .u8) (w0 := w1407) _ 5 (by rfl) (N := 155) rfl 26 _ _ rfl 15 rfl rfl Tryd.underlying26 (.int .u8 0) 1 info5p rfl (by decide) (by decide) (0 : Int) (ok := fun _ => True) (okp := fun _ => True) rfl (fun _ h => h) trivial (by decide) (by decide) (Below.refl _ _) (Nat.le_refl _) ?_
                intro v_ w1410 hO_ hb_ hg_ _
                clear hg_
                obtain ⟨r155, c_r155, rfl, hle_, hC_⟩ := row_formK (n := 15) hO_ List.length_replicate (by decide)
                have B1411 := Aside0.mk (below_step B1408.out hb_)
                have H1412 := Aside0.mk (blk_below H1409.out hb_)
                have R1413 := Aside0.mk (show Kd.C (Kd.int .u8) w1410 (some ⟨r155, 0, none⟩) 15 (List.replicate 15 (0 : Int)) from hC_)
                have L1414 := Aside0.mk hle_
                clear hO_ hb_ hle_ hC_ B1408 H1409
                refine hK.out _ _ trivial (fun hHeld => ?_)
                clear hK K
                refine norm_ (a' := ?_) ?_ ?_
                rotate_left
                · show Act.put _ (some 155) _ = _
                  simp only [Act.put, List.setIfInBounds_toArray, List.set_cons_zero, List.set_cons_succ, i64_w, i32_w]
                  rfl
                refine one_ (i := 2) (N := some 156) #[true, true, true, false, false, false, true, false, false] rfl rfl (by kernel_rfl) (by decide) (fun K hK => ?_)
                refine goes_ Tryd.func50 (by kernel_rfl) rfl #[.agg #[.int .u8 1, .int .i64 3, .int .i64 512, .int .i64 16, .int .i64 16, .int .u8 0, .int .u8 0, .int .u8 0, .int .u8 0, .int .u8 0, .int .u8 0, .int .u8 0, .int .u8 0, .int .u8 0, .int .u8 0, .int .u8 0, .int .u8 0, .int .u8 0, .int .u8 0, .int .u8 0, .int .u8 0, .int .u8 0, .int .u8 0, .int .u8 0, .int .u8 0], .slice (some ⟨r155, 0, none⟩) 15 c_r155] (by rfl) rfl rfl (by simp only [List.map_toArray, List.map_cons, List.map_nil]; rfl) ?_
                with_reducible refine (Hh19.out w1410 (some ⟨r155, 0, none⟩) c_r155 ⟨HhT.out.1.at B1411.out, HhT.out.2.at B1411.out⟩).mono ?_
                rintro e_ w1415 ⟨rfl, hb_⟩
                refine ⟨_, rfl, ?_⟩
                have B1416 := Aside0.mk (below_step B1411.out hb_)
                have B1417 := Aside0.mk (hb_)
                have H1418 := Aside0.mk (blk_below H1412.out hb_)
                clear hb_ B1411 H1412
                refine hK.out _ _ trivial (fun hHeld => ?_)
                clear hK K
                refine norm_ (a' := ?_) ?_ ?_
                rotate_left
                · show Act.put _ (some 156) _ = _
                  simp only [Act.put, List.setIfInBounds_toArray, List.set_cons_zero, List.set_cons_succ, i64_w, i32_w]
                  rfl
                refine pure_ (i := 3) (N := some 153) (v := ?_) (a' := ?_) #[true, true, true, true, false, false, true, false, false] rfl rfl (by kernel_rfl) (fun _ _ _ h => h) (Or.inl ⟨by rfl, ?_⟩) ?_ ?_
                rotate_left
                · intro w'
                  go_simp
                  with_reducible rfl
                rotate_left
                · simp only [Act.put, List.setIfInBounds_toArray, List.set_cons_zero, List.set_cons_succ, i64_w, i32_w]
                  rfl
                refine pure_ (i := 4) (N := some 157) (v := ?_) (a' := ?_) #[true, true, true, true, true, false, true, false, false] rfl rfl (by kernel_rfl) (fun _ _ _ h => h) (Or.inl ⟨by rfl, ?_⟩) ?_ ?_
                rotate_left
                · intro w'
                  go_simp
                  with_reducible rfl
                rotate_left
                · simp only [Act.put, List.setIfInBounds_toArray, List.set_cons_zero, List.set_cons_succ, i64_w, i32_w]
                  rfl
                refine pure_ (i := 5) (N := some 158) (v := ?_) (a' := ?_) #[true, true, true, true, true, true, true, false, false] rfl rfl (by kernel_rfl) (fun _ _ _ h => h) (Or.inl ⟨by rfl, ?_⟩) ?_ ?_
                rotate_left
                · intro w'
                  go_simp
                  with_reducible rfl
                rotate_left
                · simp only [Act.put, List.setIfInBounds_toArray, List.set_cons_zero, List.set_cons_succ, i64_w, i32_w]
                  rfl
                exact norm_ (by simp only [putAll, Act.put, List.setIfInBounds_toArray, List.set_cons_zero, List.set_cons_succ]) (hCont (c_r155, gA19, r155) _ ⟨H1418.out, B1416.out, G1404, (Kd.C_below R1413.out B1417.out), L1414.out⟩)
              · skip
                refine Kd.R_make_step (Kd.int .u8) (w0 := w1403) _ 5 (by rfl) (N := 155) rfl 26 _ _ rfl 15 rfl rfl Tryd.underlying26 (.int .u8 0) 1 info5p rfl (by decide) (by decide) (0 : Int) (ok := fun _ => True) (okp := fun _ => True) rfl (fun _ h => h) trivial (by decide) (by decide) (Below.refl _ _) (Nat.le_refl _) ?_
                intro v_ w1407 hO_ hb_ hg_ _
                clear hg_
                obtain ⟨r155, c_r155, rfl, hle_, hC_⟩ := row_formK (n := 15) hO_ List.length_replicate (by decide)
                have B1408 := Aside0.mk (below_step B1405.out hb_)
                have H1409 := Aside0.mk (blk_below H1406.out hb_)
                have R1410 := Aside0.mk (show Kd.C (Kd.int .u8) w1407 (some ⟨r155, 0, none⟩) 15 (List.replicate 15 (0 : Int)) from hC_)
                have L1411 := Aside0.mk hle_
                clear hO_ hb_ hle_ hC_ B1405 H1406
                refine hK.out _ _ trivial (fun hHeld => ?_)
                clear hK K
                refine norm_ (a' := ?_) ?_ ?_
                rotate_left
                · show Act.put _ (some 155) _ = _
                  simp only [Act.put, List.setIfInBounds_toArray, List.set_cons_zero, List.set_cons_succ, i64_w, i32_w]
                  rfl
                refine one_ (i := 0) (N := some 154) #[true, true, false, false, false, false, true, false, false] rfl rfl (by kernel_rfl) (by decide) (fun K hK => ?_)
                refine goes_ Tryd.func56 (by kernel_rfl) rfl #[] (by rfl) rfl rfl (by simp only [List.map_toArray, List.map_cons, List.map_nil]) ?_
                with_reducible refine (Hhex.out w1407).mono ?_
                rintro e_ w1412 ⟨rfl, hb_⟩
                refine ⟨_, rfl, ?_⟩
                have B1413 := Aside0.mk (below_step B1408.out hb_)
                have B1414 := Aside0.mk (hb_)
                have H1415 := Aside0.mk (blk_below H1409.out hb_)
                clear hb_ B1408 H1409
                refine hK.out _ _ trivial (fun hHeld => ?_)
                clear hK K
                refine norm_ (a' := ?_) ?_ ?_
                rotate_left
                · show Act.put _ (some 154) _ = _
                  simp only [Act.put, List.setIfInBounds_toArray, List.set_cons_zero, List.set_cons_succ, i64_w, i32_w]
                  rfl
                refine one_ (i := 2) (N := some 156) #[true, true, true, false, false, false, true, false, false] rfl rfl (by kernel_rfl) (by decide) (fun K hK => ?_)
                refine goes_ Tryd.func50 (by kernel_rfl) rfl #[.agg #[.int .u8 1, .int .i64 3, .int .i64 512, .int .i64 16, .int .i64 16, .int .u8 0, .int .u8 0, .int .u8 0, .int .u8 0, .int .u8 0, .int .u8 0, .int .u8 0, .int .u8 0, .int .u8 0, .int .u8 0, .int .u8 0, .int .u8 0, .int .u8 0, .int .u8 0, .int .u8 0, .int .u8 0, .int .u8 0, .int .u8 0, .int .u8 0, .int .u8 0], .slice (some ⟨r155, 0, none⟩) 15 c_r155] (by rfl) rfl rfl (by simp only [List.map_toArray, List.map_cons, List.map_nil]; rfl) ?_
                with_reducible refine (Hh19.out w1412 (some ⟨r155, 0, none⟩) c_r155 ⟨HhT.out.1.at B1413.out, HhT.out.2.at B1413.out⟩).mono ?_
                rintro e_ w1416 ⟨rfl, hb_⟩
                refine ⟨_, rfl, ?_⟩
                have B1417 := Aside0.mk (below_step B1413.out hb_)
                have B1418 := Aside0.mk (below_step B1414.out hb_)
                have H1419 := Aside0.mk (blk_below H1415.out hb_)
                clear hb_ B1413 B1414 H1415
                refine hK.out _ _ trivial (fun hHeld => ?_)
                clear hK K
                refine norm_ (a' := ?_) ?_ ?_
                rotate_left
                · show Act.put _ (some 156) _ = _
                  simp only [Act.put, List.setIfInBounds_toArray, List.set_cons_zero, List.set_cons_succ, i64_w, i32_w]
                  rfl
                refine pure_ (i := 3) (N := some 153) (v := ?_) (a' := ?_) #[true, true, true, true, false, false, true, false, false] rfl rfl (by kernel_rfl) (fun _ _ _ h => h) (Or.inl ⟨by rfl, ?_⟩) ?_ ?_
                rotate_left
                · intro w'
                  go_simp
                  with_reducible rfl
                rotate_left
                · simp only [Act.put, List.setIfInBounds_toArray, List.set_cons_zero, List.set_cons_succ, i64_w, i32_w]
                  rfl
                refine pure_ (i := 4) (N := some 157) (v := ?_) (a' := ?_) #[true, true, true, true, true, false, true, false, false] rfl rfl (by kernel_rfl) (fun _ _ _ h => h) (Or.inl ⟨by rfl, ?_⟩) ?_ ?_
                rotate_left
                · intro w'
                  go_simp
                  with_reducible rfl
                rotate_left
                · simp only [Act.put, List.setIfInBounds_toArray, List.set_cons_zero, List.set_cons_succ, i64_w, i32_w]
                  rfl
                refine pure_ (i := 5) (N := some 158) (v := ?_) (a' := ?_) #[true, true, true, true, true, true, true, false, false] rfl rfl (by kernel_rfl) (fun _ _ _ h => h) (Or.inl ⟨by rfl, ?_⟩) ?_ ?_
                rotate_left
                · intro w'
                  go_simp
                  with_reducible rfl
                rotate_left
                · simp only [Act.put, List.setIfInBounds_toArray, List.set_cons_zero, List.set_cons_succ, i64_w, i32_w]
                  rfl
                exact norm_ (by simp only [putAll, Act.put, List.setIfInBounds_toArray, List.set_cons_zero, List.set_cons_succ]) (hCont (c_r155, gA19, r155) _ ⟨H1419.out, B1417.out, G1404, (Kd.C_below R1410.out B1418.out), L1411.out⟩)
          rintro ⟨c_r155, gA19, r155⟩ wj1402 ⟨h0_, h1_, h2_, h3_, h4_⟩
          clear hHeld
          clear B1402
          have H1443 := Aside0.mk h0_
          have B1444 := Aside0.mk h1_
          have G1445 := h2_
          have R1446 := Aside0.mk h3_
          have L1447 := Aside0.mk h4_
          clear h0_ h1_ h2_ h3_ h4_
          have hHeld := trivial
          refine norm_ (a' := ?_) ?_ ?_
          rotate_left
          · simp only [putAll, Act.put, List.setIfInBounds_toArray, List.set_cons_zero, List.set_cons_succ]
            rfl
          refine last_ (i := 7) (N := none) #[true, true, true, true, true, true, true, true, false] rfl rfl (by kernel_rfl) (by decide) (fun K hK => ?_)
          refine skip_ (w1 := World.setCells wj1402 gA19 0 [.int .u8 0, .int .u8 0, .int .u8 0, .int .u8 0, .int .u8 0, .int .u8 0, .int .u8 0, .int .u8 0, .int .u8 0, .int .u8 0, .int .u8 0, .int .u8 0, .int .u8 0, .int .u8 0, .int .u8 0, .int .u8 0, .int .u8 0, .int .u8 0, .int .u8 0, .int .u8 0]) (by rfl) rfl (by exact storeN_run (T := 23) (vs := [.int .u8 0, .int .u8 0, .int .u8 0, .int .u8 0, .int .u8 0, .int .u8 0, .int .u8 0, .int .u8 0, .int .u8 0, .int .u8 0, .int .u8 0, .int .u8 0, .int .u8 0, .int .u8 0, .int .u8 0, .int .u8 0, .int .u8 0, .int .u8 0, .int .u8 0, .int .u8 0]) rfl rfl rfl (storeVar_blk H1443.out 23 0 [.int .u8 0, .int .u8 0, .int .u8 0, .int .u8 0, .int .u8 0, .int .u8 0, .int .u8 0, .int .u8 0, .int .u8 0, .int .u8 0, .int .u8 0, .int .u8 0, .int .u8 0, .int .u8 0, .int .u8 0, .int .u8 0, .int .u8 0, .int .u8 0, .int .u8 0, .int .u8 0] (by kernel_rfl) rfl (by simp))) ?_
          have H1449 := Aside0.mk (show (World.setCells wj1402 gA19 0 [.int .u8 0, .int .u8 0, .int .u8 0, .int .u8 0, .int .u8 0, .int .u8 0, .int .u8 0, .int .u8 0, .int .u8 0, .int .u8 0, .int .u8 0, .int .u8 0, .int .u8 0, .int .u8 0, .int .u8 0, .int .u8 0, .int .u8 0, .int .u8 0, .int .u8 0, .int .u8 0]).heap[gA19]? = some (.cells #[.int .u8 0, .int .u8 0, .int .u8 0, .int .u8 0, .int .u8 0, .int .u8 0, .int .u8 0, .int .u8 0, .int .u8 0, .int .u8 0, .int .u8 0, .int .u8 0, .int .u8 0, .int .u8 0, .int .u8 0, .int .u8 0, .int .u8 0, .int .u8 0, .int .u8 0, .int .u8 0] 23 (0, 0)) from blk_setCells [] [.int .u8 0, .int .u8 0, .int .u8 0, .int .u8 0, .int .u8 0, .int .u8 0, .int .u8 0, .int .u8 0, .int .u8 0, .int .u8 0, .int .u8 0, .int .u8 0, .int .u8 0, .int .u8 0, .int .u8 0, .int .u8 0, .int .u8 0, .int .u8 0, .int .u8 0, .int .u8 0] [.int .u8 0, .int .u8 0, .int .u8 0, .int .u8 0, .int .u8 0, .int .u8 0, .int .u8 0, .int .u8 0, .int .u8 0, .int .u8 0, .int .u8 0, .int .u8 0, .int .u8 0, .int .u8 0, .int .u8 0, .int .u8 0, .int .u8 0, .int .u8 0, .int .u8 0, .int .u8 0] [] wj1402 rfl H1443.out)
          have B1450 := Aside0.mk (below_setCells G1445 [.int .u8 0, .int .u8 0, .int .u8 0, .int .u8 0, .int .u8 0, .int .u8 0, .int .u8 0, .int .u8 0, .int .u8 0, .int .u8 0, .int .u8 0, .int .u8 0, .int .u8 0, .int .u8 0, .int .u8 0, .int .u8 0, .int .u8 0, .int .u8 0, .int .u8 0, .int .u8 0] 0 wj1402 B1444.out)
          clear H1443 B1444
          generalize World.setCells wj1402 gA19 0 [.int .u8 0, .int .u8 0, .int .u8 0, .int .u8 0, .int .u8 0, .int .u8 0, .int .u8 0, .int .u8 0, .int .u8 0, .int .u8 0, .int .u8 0, .int .u8 0, .int .u8 0, .int .u8 0, .int .u8 0, .int .u8 0, .int .u8 0, .int .u8 0, .int .u8 0, .int .u8 0] = w1448 at H1449 B1450 ⊢
          refine hK.out _ _ ?_
          clear hK K
          refine pure_ (i := 8) (N := some 18) (v := ?_) (a' := ?_) #[true, true, true, true, true, true, true, true, true] rfl rfl (by kernel_rfl) (fun _ _ _ h => h) (Or.inl ⟨by rfl, ?_⟩) ?_ ?_
          rotate_left
          · intro w'
            go_simp
            with_reducible rfl
          rotate_left
          · simp only [Act.put, List.setIfInBounds_toArray, List.set_cons_zero, List.set_cons_succ, i64_w, i32_w]
            rfl
          refine done_ (by kernel_rfl) ?_
          go_wp2_with fail
          have B1452 := Aside0.mk (below_drew B1450.out)
          clear B1450
          refine start_ (n := 9) (S := fun w' => True) (ds := [7]) #[false, false, false, false, false, false, false, false, false] (by kernel_rfl) rfl rfl trivial (fun hHeld => ?_)
          generalize World.drew w1448 = w1451 at B1452 hHeld ⊢
          refine join_ (σ := Nat × Nat × Nat) 2 #[true, true, true, true, true, true, true, false, false] (fun s_ => [(160, .agg #[.int .u8 1, .int .i64 3, .int .i64 512, .int .i64 16, .int .i64 16, .int .u8 0, .int .u8 0, .int .u8 0, .int .u8 0, .int .u8 0, .int .u8 0, .int .u8 0, .int .u8 0, .int .u8 0, .int .u8 0, .int .u8 0, .int .u8 0, .int .u8 0, .int .u8 0, .int .u8 0, .int .u8 0, .int .u8 0, .int .u8 0, .int .u8 0, .int .u8 0]), (161, .slice (some ⟨s_.2.2, 0, none⟩) 17 s_.1), (162, .tuple #[.agg #[.int .u8 0, .int .i64 0, .int .i64 0, .int .i64 0, .int .i64 0, .int .u8 0, .int .u8 0, .int .u8 0, .int .u8 0, .int .u8 0, .int .u8 0, .int .u8 0, .int .u8 0, .int .u8 0, .int .u8 0, .int .u8 0, .int .u8 0, .int .u8 0, .int .u8 0, .int .u8 0, .int .u8 0, .int .u8 0, .int .u8 0, .int .u8 0, .int .u8 0], .int .i64 2]), (19, .pointer (some ⟨s_.2.1, 0, none⟩)), (159, .tuple #[.agg #[.int .u8 0, .int .i64 0, .int .i64 0, .int .i64 0, .int .i64 0, .int .u8 0, .int .u8 0, .int .u8 0, .int .u8 0, .int .u8 0, .int .u8 0, .int .u8 0, .int .u8 0, .int .u8 0, .int .u8 0, .int .u8 0, .int .u8 0, .int .u8 0, .int .u8 0, .int .u8 0, .int .u8 0, .int .u8 0, .int .u8 0, .int .u8 0, .int .u8 0], .int .i64 2]), (163, .agg #[.int .u8 0, .int .i64 0, .int .i64 0, .int .i64 0, .int .i64 0, .int .u8 0, .int .u8 0, .int .u8 0, .int .u8 0, .int .u8 0, .int .u8 0, .int .u8 0, .int .u8 0, .int .u8 0, .int .u8 0, .int .u8 0, .int .u8 0, .int .u8 0, .int .u8 0, .int .u8 0, .int .u8 0, .int .u8 0, .int .u8 0, .int .u8 0, .int .u8 0]), (164, .int .i64 2)]) (fun s_ w' => (w'.heap[s_.2.1]? = some (.cells #[.int .u8 0, .int .i64 0, .int .i64 0, .int .i64 0, .int .i64 0, .int .u8 0, .int .u8 0, .int .u8 0, .int .u8 0, .int .u8 0, .int .u8 0, .int .u8 0, .int .u8 0, .int .u8 0, .int .u8 0, .int .u8 0, .int .u8 0, .int .u8 0, .int .u8 0, .int .u8 0, .int .u8 0, .int .u8 0, .int .u8 0, .int .u8 0, .int .u8 0] 25 (0, 0))) ∧ (Below w.heap.size w w') ∧ (w.heap.size ≤ s_.2.1) ∧ (Kd.C (Kd.int .u8) w' (some ⟨s_.2.2, 0, none⟩) 17 (List.replicate 17 (0 : Int))) ∧ (17 ≤ s_.1)) ?_ ?_
          rotate_left
          · intro hCont
            refine three_ (i := 0) (j := 1) (k := 6) (Ni := some 160) (Nj := some 161) (Nk := some 19) #[true, false, false, false, false, false, false, false, false] #[false, true, false, false, false, false, false, false, false] #[false, false, false, false, false, false, true, false, false] rfl rfl rfl rfl rfl rfl (by kernel_rfl) (by decide) (by decide) (by decide) (fun K hK => ?_) (fun K hK => ?_) (fun K hK => ?_)
            · skip
              refine goes_ Tryd.func56 (by kernel_rfl) rfl #[] (by rfl) rfl rfl (by simp only [List.map_toArray, List.map_cons, List.map_nil]) ?_
              with_reducible refine (Hhex.out w1451).mono ?_
              rintro e_ w1453 ⟨rfl, hb_⟩
              refine ⟨_, rfl, ?_⟩
              have B1454 := Aside0.mk (below_step B1452.out hb_)
              clear hb_ B1452
              refine hK.out _ _ trivial (fun hHeld => ?_)
              clear hK K
              refine norm_ (a' := ?_) ?_ ?_
              rotate_left
              · show Act.put _ (some 160) _ = _
                simp only [Act.put, List.setIfInBounds_toArray, List.set_cons_zero, List.set_cons_succ, i64_w, i32_w]
                rfl
              refine two_ (i := 1) (j := 6) (Ni := some 161) (Nj := some 19) #[true, true, false, false, false, false, false, false, false] #[true, false, false, false, false, false, true, false, false] rfl rfl rfl rfl (by kernel_rfl) (by decide) (by decide) (fun K hK => ?_) (fun K hK => ?_)
              · skip
                refine Kd.R_make_step (Kd.int .u8) (w0 := w1453) _ 5 (by rfl) (N := 161) rfl 26 _ _ rfl 17 rfl rfl Tryd.underlying26 (.int .u8 0) 1 info5p rfl (by decide) (by decide) (0 : Int) (ok := fun _ => True) (okp := fun _ => True) rfl (fun _ h => h) trivial (by decide) (by decide) (Below.refl _ _) (Nat.le_refl _) ?_
                intro v_ w1455 hO_ hb_ hg_ _
                clear hg_
                obtain ⟨r161, c_r161, rfl, hle_, hC_⟩ := row_formK (n := 17) hO_ List.length_replicate (by decide)
                have B1456 := Aside0.mk (below_step B1454.out hb_)
                have R1457 := Aside0.mk (show Kd.C (Kd.int .u8) w1455 (some ⟨r161, 0, none⟩) 17 (List.replicate 17 (0 : Int)) from hC_)
                have L1458 := Aside0.mk hle_
                clear hO_ hb_ hle_ hC_ B1454
                refine hK.out _ _ trivial (fun hHeld => ?_)
                clear hK K
                refine norm_ (a' := ?_) ?_ ?_
                rotate_left
                · show Act.put _ (some 161) _ = _
                  simp only [Act.put, List.setIfInBounds_toArray, List.set_cons_zero, List.set_cons_succ, i64_w, i32_w]
                  rfl
                refine two_ (i := 2) (j := 6) (Ni := some 162) (Nj := some 19) #[true, true, true, false, false, false, false, false, false] #[true, true, false, false, false, false, true, false, false] rfl rfl rfl rfl (by kernel_rfl) (by decide) (by decide) (fun K hK => ?_) (fun K hK => ?_)
                · skip
                  refine goes_ Tryd.func52 (by kernel_rfl) rfl #[.agg #[.int .u8 1, .int .i64 3, .int .i64 512, .int .i64 16, .int .i64 16, .int .u8 0, .int .u8 0, .int .u8 0, .int .u8 0, .int .u8 0, .int .u8 0, .int .u8 0, .int .u8 0, .int .u8 0, .int .u8 0, .int .u8 0, .int .u8 0, .int .u8 0, .int .u8 0, .int .u8 0, .int .u8 0, .int .u8 0, .int .u8 0, .int .u8 0, .int .u8 0], .slice (some ⟨r161, 0, none⟩) 17 c_r161] (by rfl) rfl rfl (by simp only [List.map_toArray, List.map_cons, List.map_nil]; rfl) ?_
                  with_reducible refine (Hh20.out w1455 (some ⟨r161, 0, none⟩) c_r161 ⟨HhT.out.1.at B1456.out, HhT.out.2.at B1456.out⟩).mono ?_
                  rintro e_ w1459 ⟨rfl, hb_⟩
                  refine ⟨_, rfl, ?_⟩
                  have B1460 := Aside0.mk (below_step B1456.out hb_)
                  have B1461 := Aside0.mk (hb_)
                  clear hb_ B1456
                  refine hK.out _ _ trivial (fun hHeld => ?_)
                  clear hK K
                  refine norm_ (a' := ?_) ?_ ?_
                  rotate_left
                  · show Act.put _ (some 162) _ = _
                    simp only [Act.put, List.setIfInBounds_toArray, List.set_cons_zero, List.set_cons_succ, i64_w, i32_w]
                    rfl
                  refine pure_ (i := 3) (N := some 159) (v := ?_) (a' := ?_) #[true, true, true, true, false, false, false, false, false] rfl rfl (by kernel_rfl) (fun _ _ _ h => h) (Or.inl ⟨by rfl, ?_⟩) ?_ ?_
                  rotate_left
                  · intro w'
                    go_simp
                    with_reducible rfl
                  rotate_left
                  · simp only [Act.put, List.setIfInBounds_toArray, List.set_cons_zero, List.set_cons_succ, i64_w, i32_w]
                    rfl
                  refine pure_ (i := 4) (N := some 163) (v := ?_) (a' := ?_) #[true, true, true, true, true, false, false, false, false] rfl rfl (by kernel_rfl) (fun _ _ _ h => h) (Or.inl ⟨by rfl, ?_⟩) ?_ ?_
                  rotate_left
                  · intro w'
                    go_simp
                    with_reducible rfl
                  rotate_left
                  · simp only [Act.put, List.setIfInBounds_toArray, List.set_cons_zero, List.set_cons_succ, i64_w, i32_w]
                    rfl
                  refine pure_ (i := 5) (N := some 164) (v := ?_) (a' := ?_) #[true, true, true, true, true, true, false, false, false] rfl rfl (by kernel_rfl) (fun _ _ _ h => h) (Or.inl ⟨by rfl, ?_⟩) ?_ ?_
                  rotate_left
                  · intro w'
                    go_simp
                    with_reducible rfl
                  rotate_left
                  · simp only [Act.put, List.setIfInBounds_toArray, List.set_cons_zero, List.set_cons_succ, i64_w, i32_w]
                    rfl
                  refine one_ (i := 6) (N := some 19) #[true, true, true, true, true, true, true, false, false] rfl rfl (by kernel_rfl) (by decide) (fun K hK => ?_)
                  refine value_ (w1 := World.alloc w1459 (.cells #[.int .u8 0, .int .i64 0, .int .i64 0, .int .i64 0, .int .i64 0, .int .u8 0, .int .u8 0, .int .u8 0, .int .u8 0, .int .u8 0, .int .u8 0, .int .u8 0, .int .u8 0, .int .u8 0, .int .u8 0, .int .u8 0, .int .u8 0, .int .u8 0, .int .u8 0, .int .u8 0, .int .u8 0, .int .u8 0, .int .u8 0, .int .u8 0, .int .u8 0] 25 (0, 0))) (v := .pointer (some ⟨w1459.heap.size, 0, none⟩)) (by rfl) rfl (by first | (go_simp; done) | (go_simp; rfl)) ?_
                  obtain ⟨gA20, w1462, hg_, hw_, hh_, hb_⟩ := new_blk w1459 #[.int .u8 0, .int .i64 0, .int .i64 0, .int .i64 0, .int .i64 0, .int .u8 0, .int .u8 0, .int .u8 0, .int .u8 0, .int .u8 0, .int .u8 0, .int .u8 0, .int .u8 0, .int .u8 0, .int .u8 0, .int .u8 0, .int .u8 0, .int .u8 0, .int .u8 0, .int .u8 0, .int .u8 0, .int .u8 0, .int .u8 0, .int .u8 0, .int .u8 0] 25
                  rw [← hg_, ← hw_]
                  have H1467 := Aside0.mk hh_
                  have G1463 : w.heap.size ≤ gA20 := Nat.le_trans B1460.out.size (Nat.le_of_eq hg_.symm)
                  have G1464 : w1455.heap.size ≤ gA20 := Nat.le_trans B1461.out.size (Nat.le_of_eq hg_.symm)
                  have B1465 := Aside0.mk (below_step B1460.out hb_)
                  have B1466 := Aside0.mk (below_step B1461.out hb_)
                  clear hg_ hh_ hb_ B1460 B1461
                  clear hw_
                  refine hK.out _ _ trivial (fun hHeld => ?_)
                  clear hK K
                  refine norm_ (a' := ?_) ?_ ?_
                  rotate_left
                  · show Act.put _ (some 19) _ = _
                    simp only [Act.put, List.setIfInBounds_toArray, List.set_cons_zero, List.set_cons_succ, i64_w, i32_w]
                    rfl
                  exact norm_ (by simp only [putAll, Act.put, List.setIfInBounds_toArray, List.set_cons_zero, List.set_cons_succ]) (hCont (c_r161, gA20, r161) _ ⟨H1467.out, B1465.out, G1463, (Kd.C_below R1457.out B1466.out), L1458.out⟩)
                · skip
                  refine value_ (w1 := World.alloc w1455 (.cells #[.int .u8 0, .int .i64 0, .int .i64 0, .int .i64 0, .int .i64 0, .int .u8 0, .int .u8 0, .int .u8 0, .int .u8 0, .int .u8 0, .int .u8 0, .int .u8 0, .int .u8 0, .int .u8 0, .int .u8 0, .int .u8 0, .int .u8 0, .int .u8 0, .int .u8 0, .int .u8 0, .int .u8 0, .int .u8 0, .int .u8 0, .int .u8 0, .int .u8 0] 25 (0, 0))) (v := .pointer (some ⟨w1455.heap.size, 0, none⟩)) (by rfl) rfl (by first | (go_simp; done) | (go_simp; rfl)) ?_
                  obtain ⟨gA20, w1459, hg_, hw_, hh_, hb_⟩ := new_blk w1455 #[.int .u8 0, .int .i64 0, .int .i64 0, .int .i64 0, .int .i64 0, .int .u8 0, .int .u8 0, .int .u8 0, .int .u8 0, .int .u8 0, .int .u8 0, .int .u8 0, .int .u8 0, .int .u8 0, .int .u8 0, .int .u8 0, .int .u8 0, .int .u8 0, .int .u8 0, .int .u8 0, .int .u8 0, .int .u8 0, .int .u8 0, .int .u8 0, .int .u8 0] 25
                  rw [← hg_, ← hw_]
                  have H1464 := Aside0.mk hh_
                  have G1460 : w.heap.size ≤ gA20 := Nat.le_trans B1456.out.size (Nat.le_of_eq hg_.symm)
                  have G1461 : w1455.heap.size ≤ gA20 := Nat.le_of_eq hg_.symm
                  have B1462 := Aside0.mk (below_step B1456.out hb_)
                  have B1463 := Aside0.mk (hb_)
                  clear hg_ hh_ hb_ B1456
                  clear hw_
                  refine hK.out _ _ trivial (fun hHeld => ?_)
                  clear hK K
                  refine norm_ (a' := ?_) ?_ ?_
                  rotate_left
                  · show Act.put _ (some 19) _ = _
                    simp only [Act.put, List.setIfInBounds_toArray, List.set_cons_zero, List.set_cons_succ, i64_w, i32_w]
                    rfl
                  refine one_ (i := 2) (N := some 162) #[true, true, true, false, false, false, true, false, false] rfl rfl (by kernel_rfl) (by decide) (fun K hK => ?_)
                  refine goes_ Tryd.func52 (by kernel_rfl) rfl #[.agg #[.int .u8 1, .int .i64 3, .int .i64 512, .int .i64 16, .int .i64 16, .int .u8 0, .int .u8 0, .int .u8 0, .int .u8 0, .int .u8 0, .int .u8 0, .int .u8 0, .int .u8 0, .int .u8 0, .int .u8 0, .int .u8 0, .int .u8 0, .int .u8 0, .int .u8 0, .int .u8 0, .int .u8 0, .int .u8 0, .int .u8 0, .int .u8 0, .int .u8 0], .slice (some ⟨r161, 0, none⟩) 17 c_r161] (by rfl) rfl rfl (by simp only [List.map_toArray, List.map_cons, List.map_nil]; rfl) ?_
                  with_reducible refine (Hh20.out w1459 (some ⟨r161, 0, none⟩) c_r161 ⟨HhT.out.1.at B1462.out, HhT.out.2.at B1462.out⟩).mono ?_
                  rintro e_ w1465 ⟨rfl, hb_⟩
                  refine ⟨_, rfl, ?_⟩
                  have B1466 := Aside0.mk (below_step B1462.out hb_)
                  have B1467 := Aside0.mk (below_step B1463.out hb_)
                  have H1468 := Aside0.mk (blk_below H1464.out hb_)
                  clear hb_ B1462 B1463 H1464
                  refine hK.out _ _ trivial (fun hHeld => ?_)
                  clear hK K
                  refine norm_ (a' := ?_) ?_ ?_
                  rotate_left
                  · show Act.put _ (some 162) _ = _
                    simp only [Act.put, List.setIfInBounds_toArray, List.set_cons_zero, List.set_cons_succ, i64_w, i32_w]
                    rfl
                  refine pure_ (i := 3) (N := some 159) (v := ?_) (a' := ?_) #[true, true, true, true, false, false, true, false, false] rfl rfl (by kernel_rfl) (fun _ _ _ h => h) (Or.inl ⟨by rfl, ?_⟩) ?_ ?_
                  rotate_left
                  · intro w'
                    go_simp
                    with_reducible rfl
                  rotate_left
                  · simp only [Act.put, List.setIfInBounds_toArray, List.set_cons_zero, List.set_cons_succ, i64_w, i32_w]
                    rfl
                  refine pure_ (i := 4) (N := some 163) (v := ?_) (a' := ?_) #[true, true, true, true, true, false, true, false, false] rfl rfl (by kernel_rfl) (fun _ _ _ h => h) (Or.inl ⟨by rfl, ?_⟩) ?_ ?_
                  rotate_left
                  · intro w'
                    go_simp
                    with_reducible rfl
                  rotate_left
                  · simp only [Act.put, List.setIfInBounds_toArray, List.set_cons_zero, List.set_cons_succ, i64_w, i32_w]
                    rfl
                  refine pure_ (i := 5) (N := some 164) (v := ?_) (a' := ?_) #[true, true, true, true, true, true, true, false, false] rfl rfl (by kernel_rfl) (fun _ _ _ h => h) (Or.inl ⟨by rfl, ?_⟩) ?_ ?_
                  rotate_left
                  · intro w'
                    go_simp
                    with_reducible rfl
                  rotate_left
                  · simp only [Act.put, List.setIfInBounds_toArray, List.set_cons_zero, List.set_cons_succ, i64_w, i32_w]
                    rfl
                  exact norm_ (by simp only [putAll, Act.put, List.setIfInBounds_toArray, List.set_cons_zero, List.set_cons_succ]) (hCont (c_r161, gA20, r161) _ ⟨H1468.out, B1466.out, G1460, (Kd.C_below R1457.out B1467.out), L1458.out⟩)
              · skip
                refine value_ (w1 := World.alloc w1453 (.cells #[.int .u8 0, .int .i64 0, .int .i64 0, .int .i64 0, .int .i64 0, .int .u8 0, .int .u8 0, .int .u8 0, .int .u8 0, .int .u8 0, .int .u8 0, .int .u8 0, .int .u8 0, .int .u8 0, .int .u8 0, .int .u8 0, .int .u8 0, .int .u8 0, .int .u8 0, .int .u8 0, .int .u8 0, .int .u8 0, .int .u8 0, .int .u8 0, .int .u8 0] 25 (0, 0))) (v := .pointer (some ⟨w1453.heap.size, 0, none⟩)) (by rfl) rfl (by first | (go_simp; done) | (go_simp; rfl)) ?_
                obtain ⟨gA20, w1455, hg_, hw_, hh_, hb_⟩ := new_blk w1453 #[.int .u8 0, .int .i64 0, .int .i64 0, .int .i64 0, .int .i64 0, .int .u8 0, .int .u8 0, .int .u8 0, .int .u8 0, .int .u8 0, .int .u8 0, .int .u8 0, .int .u8 0, .int .u8 0, .int .u8 0, .int .u8 0, .int .u8 0, .int .u8 0, .int .u8 0, .int .u8 0, .int .u8 0, .int .u8 0, .int .u8 0, .int .u8 0, .int .u8 0] 25
                rw [← hg_, ← hw_]
                have H1458 := Aside0.mk hh_
                have G1456 : w.heap.size ≤ gA20 := Nat.le_trans B1454.out.size (Nat.le_of_eq hg_.symm)
                have B1457 := Aside0.mk (below_step B1454.out hb_)
                clear hg_ hh_ hb_ B1454
                clear hw_
                refine hK.out _ _ trivial (fun hHeld => ?_)
                clear hK K
                refine norm_ (a' := ?_) ?_ ?_
                rotate_left
                · show Act.put _ (some 19) _ = _
                  simp only [Act.put, List.setIfInBounds_toArray, List.set_cons_zero, List.set_cons_succ, i64_w, i32_w]
                  rfl
                refine one_ (i := 1) (N := some 161) #[true, true, false, false, false, false, true, false, false] rfl rfl (by kernel_rfl) (by decide) (fun K hK => ?_)
                refine Kd.R_make_step (Kd.int .u8) (w0 := w1455) _ 5 (by rfl) (N := 161) rfl 26 _ _ rfl 17 rfl rfl Tryd.underlying26 (.int .u8 0) 1 info5p rfl (by decide) (by decide) (0 : Int) (ok := fun _ => True) (okp := fun _ => True) rfl (fun _ h => h) trivial (by decide) (by decide) (Below.refl _ _) (Nat.le_refl _) ?_
                intro v_ w1459 hO_ hb_ hg_ _
                clear hg_
                obtain ⟨r161, c_r161, rfl, hle_, hC_⟩ := row_formK (n := 17) hO_ List.length_replicate (by decide)
                have B1460 := Aside0.mk (below_step B1457.out hb_)
                have H1461 := Aside0.mk (blk_below H1458.out hb_)
                have R1462 := Aside0.mk (show Kd.C (Kd.int .u8) w1459 (some ⟨r161, 0, none⟩) 17 (List.replicate 17 (0 : Int)) from hC_)
                have L1463 := Aside0.mk hle_
                clear hO_ hb_ hle_ hC_ B1457 H1458
                refine hK.out _ _ trivial (fun hHeld => ?_)
                clear hK K
                refine norm_ (a' := ?_) ?_ ?_
                rotate_left
                · show Act.put _ (some 161) _ = _
                  simp only [Act.put, List.setIfInBounds_toArray, List.set_cons_zero, List.set_cons_succ, i64_w, i32_w]
                  rfl
                refine one_ (i := 2) (N := some 162) #[true, true, true, false, false, false, true, false, false] rfl rfl (by kernel_rfl) (by decide) (fun K hK => ?_)
                refine goes_ Tryd.func52 (by kernel_rfl) rfl #[.agg #[.int .u8 1, .int .i64 3, .int .i64 512, .int .i64 16, .int .i64 16, .int .u8 0, .int .u8 0, .int .u8 0, .int .u8 0, .int .u8 0, .int .u8 0, .int .u8 0, .int .u8 0, .int .u8 0, .int .u8 0, .int .u8 0, .int .u8 0, .int .u8 0, .int .u8 0, .int .u8 0, .int .u8 0, .int .u8 0, .int .u8 0, .int .u8 0, .int .u8 0], .slice (some ⟨r161, 0, none⟩) 17 c_r161] (by rfl) rfl rfl (by simp only [List.map_toArray, List.map_cons, List.map_nil]; rfl) ?_
                with_reducible refine (Hh20.out w1459 (some ⟨r161, 0, none⟩) c_r161 ⟨HhT.out.1.at B1460.out, HhT.out.2.at B1460.out⟩).mono ?_
                rintro e_ w1464 ⟨rfl, hb_⟩
                refine ⟨_, rfl, ?_⟩
                have B1465 := Aside0.mk (below_step B1460.out hb_)
                have B1466 := Aside0.mk (hb_)
                have H1467 := Aside0.mk (blk_below H1461.out hb_)
                clear hb_ B1460 H1461
                refine hK.out _ _ trivial (fun hHeld => ?_)
                clear hK K
                refine norm_ (a' := ?_) ?_ ?_
                rotate_left
                · show Act.put _ (some 162) _ = _
                  simp only [Act.put, List.setIfInBounds_toArray, List.set_cons_zero, List.set_cons_succ, i64_w, i32_w]
                  rfl
                refine pure_ (i := 3) (N := some 159) (v := ?_) (a' := ?_) #[true, true, true, true, false, false, true, false, false] rfl rfl (by kernel_rfl) (fun _ _ _ h => h) (Or.inl ⟨by rfl, ?_⟩) ?_ ?_
                rotate_left
                · intro w'
                  go_simp
                  with_reducible rfl
                rotate_left
                · simp only [Act.put, List.setIfInBounds_toArray, List.set_cons_zero, List.set_cons_succ, i64_w, i32_w]
                  rfl
                refine pure_ (i := 4) (N := some 163) (v := ?_) (a' := ?_) #[true, true, true, true, true, false, true, false, false] rfl rfl (by kernel_rfl) (fun _ _ _ h => h) (Or.inl ⟨by rfl, ?_⟩) ?_ ?_
                rotate_left
                · intro w'
                  go_simp
                  with_reducible rfl
                rotate_left
                · simp only [Act.put, List.setIfInBounds_toArray, List.set_cons_zero, List.set_cons_succ, i64_w, i32_w]
                  rfl
                refine pure_ (i := 5) (N := some 164) (v := ?_) (a' := ?_) #[true, true, true, true, true, true, true, false, false] rfl rfl (by kernel_rfl) (fun _ _ _ h => h) (Or.inl ⟨by rfl, ?_⟩) ?_ ?_
                rotate_left
                · intro w'
                  go_simp
                  with_reducible rfl
                rotate_left
                · simp only [Act.put, List.setIfInBounds_toArray, List.set_cons_zero, List.set_cons_succ, i64_w, i32_w]
                  rfl
                exact norm_ (by simp only [putAll, Act.put, List.setIfInBounds_toArray, List.set_cons_zero, List.set_cons_succ]) (hCont (c_r161, gA20, r161) _ ⟨H1467.out, B1465.out, G1456, (Kd.C_below R1462.out B1466.out), L1463.out⟩)
            · skip
              refine Kd.R_make_step (Kd.int .u8) (w0 := w1451) _ 5 (by rfl) (N := 161) rfl 26 _ _ rfl 17 rfl rfl Tryd.underlying26 (.int .u8 0) 1 info5p rfl (by decide) (by decide) (0 : Int) (ok := fun _ => True) (okp := fun _ => True) rfl (fun _ h => h) trivial (by decide) (by decide) (Below.refl _ _) (Nat.le_refl _) ?_
              intro v_ w1453 hO_ hb_ hg_ _
              clear hg_
              obtain ⟨r161, c_r161, rfl, hle_, hC_⟩ := row_formK (n := 17) hO_ List.length_replicate (by decide)
              have B1454 := Aside0.mk (below_step B1452.out hb_)
              have R1455 := Aside0.mk (show Kd.C (Kd.int .u8) w1453 (some ⟨r161, 0, none⟩) 17 (List.replicate 17 (0 : Int)) from hC_)
              have L1456 := Aside0.mk hle_
              clear hO_ hb_ hle_ hC_ B1452
              refine hK.out _ _ trivial (fun hHeld => ?_)
              clear hK K
              refine norm_ (a' := ?_) ?_ ?_
              rotate_left
              · show Act.put _ (some 161) _ = _
                simp only [Act.put, List.setIfInBounds_toArray, List.set_cons_zero, List.set_cons_succ, i64_w, i32_w]
                rfl
              refine two_ (i := 0) (j := 6) (Ni := some 160) (Nj := some 19) #[true, true, false, false, false, false, false, false, false] #[false, true, false, false, false, false, true, false, false] rfl rfl rfl rfl (by kernel_rfl) (by decide) (by decide) (fun K hK => ?_) (fun K hK => ?_)
              · skip
                refine goes_ Tryd.func56 (by kernel_rfl) rfl #[] (by rfl) rfl rfl (by simp only [List.map_toArray, List.map_cons, List.map_nil]) ?_
                with_reducible refine (Hhex.out w1453).mono ?_
                rintro e_ w1457 ⟨rfl, hb_⟩
                refine ⟨_, rfl, ?_⟩
                have B1458 := Aside0.mk (below_step B1454.out hb_)
                have B1459 := Aside0.mk (hb_)
                clear hb_ B1454
                refine hK.out _ _ trivial (fun hHeld => ?_)
                clear hK K
                refine norm_ (a' := ?_) ?_ ?_
                rotate_left
                · show Act.put _ (some 160) _ = _
                  simp only [Act.put, List.setIfInBounds_toArray, List.set_cons_zero, List.set_cons_succ, i64_w, i32_w]
                  rfl
                refine two_ (i := 2) (j := 6) (Ni := some 162) (Nj := some 19) #[true, true, true, false, false, false, false, false, false] #[true, true, false, false, false, false, true, false, false] rfl rfl rfl rfl (by kernel_rfl) (by decide) (by decide) (fun K hK => ?_) (fun K hK => ?_)
                · skip
                  refine goes_ Tryd.func52 (by kernel_rfl) rfl #[.agg #[.int .u8 1, .int .i64 3, .int .i64 512, .int .i64 16, .int .i64 16, .int .u8 0, .int .u8 0, .int .u8 0, .int .u8 0, .int .u8 0, .int .u8 0, .int .u8 0, .int .u8 0, .int .u8 0, .int .u8 0, .int .u8 0, .int .u8 0, .int .u8 0, .int .u8 0, .int .u8 0, .int .u8 0, .int .u8 0, .int .u8 0, .int .u8 0, .int .u8 0], .slice (some ⟨r161, 0, none⟩) 17 c_r161] (by rfl) rfl rfl (by simp only [List.map_toArray, List.map_cons, List.map_nil]; rfl) ?_
                  with_reducible refine (Hh20.out w1457 (some ⟨r161, 0, none⟩) c_r161 ⟨HhT.out.1.at B1458.out, HhT.out.2.at B1458.out⟩).mono ?_
                  rintro e_ w1460 ⟨rfl, hb_⟩
                  refine ⟨_, rfl, ?_⟩
                  have B1461 := Aside0.mk (below_step B1458.out hb_)
                  have B1462 := Aside0.mk (below_step B1459.out hb_)
                  clear hb_ B1458 B1459
                  refine hK.out _ _ trivial (fun hHeld => ?_)
                  clear hK K
                  refine norm_ (a' := ?_) ?_ ?_
                  rotate_left
                  · show Act.put _ (some 162) _ = _
                    simp only [Act.put, List.setIfInBounds_toArray, List.set_cons_zero, List.set_cons_succ, i64_w, i32_w]
                    rfl
                  refine pure_ (i := 3) (N := some 159) (v := ?_) (a' := ?_) #[true, true, true, true, false, false, false, false, false] rfl rfl (by kernel_rfl) (fun _ _ _ h => h) (Or.inl ⟨by rfl, ?_⟩) ?_ ?_
                  rotate_left
                  · intro w'
                    go_simp
                    with_reducible rfl
                  rotate_left
                  · simp only [Act.put, List.setIfInBounds_toArray, List.set_cons_zero, List.set_cons_succ, i64_w, i32_w]
                    rfl
                  refine pure_ (i := 4) (N := some 163) (v := ?_) (a' := ?_) #[true, true, true, true, true, false, false, false, false] rfl rfl (by kernel_rfl) (fun _ _ _ h => h) (Or.inl ⟨by rfl, ?_⟩) ?_ ?_
                  rotate_left
                  · intro w'
                    go_simp
                    with_reducible rfl
                  rotate_left
                  · simp only [Act.put, List.setIfInBounds_toArray, List.set_cons_zero, List.set_cons_succ, i64_w, i32_w]
                    rfl
                  refine pure_ (i := 5) (N := some 164) (v := ?_) (a' := ?_) #[true, true, true, true, true, true, false, false, false] rfl rfl (by kernel_rfl) (fun _ _ _ h => h) (Or.inl ⟨by rfl, ?_⟩) ?_ ?_
                  rotate_left
                  · intro w'
                    go_simp
                    with_reducible rfl
                  rotate_left
                  · simp only [Act.put, List.setIfInBounds_toArray, List.set_cons_zero, List.set_cons_succ, i64_w, i32_w]
                    rfl
                  refine one_ (i := 6) (N := some 19) #[true, true, true, true, true, true, true, false, false] rfl rfl (by kernel_rfl) (by decide) (fun K hK => ?_)
                  refine value_ (w1 := World.alloc w1460 (.cells #[.int .u8 0, .int .i64 0, .int .i64 0, .int .i64 0, .int .i64 0, .int .u8 0, .int .u8 0, .int .u8 0, .int .u8 0, .int .u8 0, .int .u8 0, .int .u8 0, .int .u8 0, .int .u8 0, .int .u8 0, .int .u8 0, .int .u8 0, .int .u8 0, .int .u8 0, .int .u8 0, .int .u8 0, .int .u8 0, .int .u8 0, .int .u8 0, .int .u8 0] 25 (0, 0))) (v := .pointer (some ⟨w1460.heap.size, 0, none⟩)) (by rfl) rfl (by first | (go_simp; done) | (go_simp; rfl)) ?_
                  obtain ⟨gA20, w1463, hg_, hw_, hh_, hb_⟩ := new_blk w1460 #[.int .u8 0, .int .i64 0, .int .i64 0, .int .i64 0, .int .i64 0, .int .u8 0, .int .u8 0, .int .u8 0, .int .u8 0, .int .u8 0, .int .u8 0, .int .u8 0, .int .u8 0, .int .u8 0, .int .u8 0, .int .u8 0, .int .u8 0, .int .u8 0, .int .u8 0, .int .u8 0, .int .u8 0, .int .u8 0, .int .u8 0, .int .u8 0, .int .u8 0] 25
                  rw [← hg_, ← hw_]
                  have H1468 := Aside0.mk hh_
                  have G1464 : w.heap.size ≤ gA20 := Nat.le_trans B1461.out.size (Nat.le_of_eq hg_.symm)
                  have G1465 : w1453.heap.size ≤ gA20 := Nat.le_trans B1462.out.size (Nat.le_of_eq hg_.symm)
                  have B1466 := Aside0.mk (below_step B1461.out hb_)
                  have B1467 := Aside0.mk (below_step B1462.out hb_)
                  clear hg_ hh_ hb_ B1461 B1462
                  clear hw_
                  refine hK.out _ _ trivial (fun hHeld => ?_)
                  clear hK K
                  refine norm_ (a' := ?_) ?_ ?_
                  rotate_left
                  · show Act.put _ (some 19) _ = _
                    simp only [Act.put, List.setIfInBounds_toArray, List.set_cons_zero, List.set_cons_succ, i64_w, i32_w]
                    rfl
                  exact norm_ (by simp only [putAll, Act.put, List.setIfInBounds_toArray, List.set_cons_zero, List.set_cons_succ]) (hCont (c_r161, gA20, r161) _ ⟨H1468.out, B1466.out, G1464, (Kd.C_below R1455.out B1467.out), L1456.out⟩)
                · skip
                  refine value_ (w1 := World.alloc w1457 (.cells #[.int .u8 0, .int .i64 0, .int .i64 0, .int .i64 0, .int .i64 0, .int .u8 0, .int .u8 0, .int .u8 0, .int .u8 0, .int .u8 0, .int .u8 0, .int .u8 0, .int .u8 0, .int .u8 0, .int .u8 0, .int .u8 0, .int .u8 0, .int .u8 0, .int .u8 0, .int .u8 0, .int .u8 0, .int .u8 0, .int .u8 0, .int .u8 0, .int .u8 0] 25 (0, 0))) (v := .pointer (some ⟨w1457.heap.size, 0, none⟩)) (by rfl) rfl (by first | (go_simp; done) | (go_simp; rfl)) ?_
                  obtain ⟨gA20, w1460, hg_, hw_, hh_, hb_⟩ := new_blk w1457 #[.int .u8 0, .int .i64 0, .int .i64 0, .int .i64 0, .int .i64 0, .int .u8 0, .int .u8 0, .int .u8 0, .int .u8 0, .int .u8 0, .int .u8 0, .int .u8 0, .int .u8 0, .int .u8 0, .int .u8 0, .int .u8 0, .int .u8 0, .int .u8 0, .int .u8 0, .int .u8 0, .int .u8 0, .int .u8 0, .int .u8 0, .int .u8 0, .int .u8 0] 25
                  rw [← hg_, ← hw_]
                  have H1465 := Aside0.mk hh_
                  have G1461 : w.heap.size ≤ gA20 := Nat.le_trans B1458.out.size (Nat.le_of_eq hg_.symm)
                  have G1462 : w1453.heap.size ≤ gA20 := Nat.le_trans B1459.out.size (Nat.le_of_eq hg_.symm)
                  have B1463 := Aside0.mk (below_step B1458.out hb_)
                  have B1464 := Aside0.mk (below_step B1459.out hb_)
                  clear hg_ hh_ hb_ B1458 B1459
                  clear hw_
                  refine hK.out _ _ trivial (fun hHeld => ?_)
                  clear hK K
                  refine norm_ (a' := ?_) ?_ ?_
                  rotate_left
                  · show Act.put _ (some 19) _ = _
                    simp only [Act.put, List.setIfInBounds_toArray, List.set_cons_zero, List.set_cons_succ, i64_w, i32_w]
                    rfl
                  refine one_ (i := 2) (N := some 162) #[true, true, true, false, false, false, true, false, false] rfl rfl (by kernel_rfl) (by decide) (fun K hK => ?_)
                  refine goes_ Tryd.func52 (by kernel_rfl) rfl #[.agg #[.int .u8 1, .int .i64 3, .int .i64 512, .int .i64 16, .int .i64 16, .int .u8 0, .int .u8 0, .int .u8 0, .int .u8 0, .int .u8 0, .int .u8 0, .int .u8 0, .int .u8 0, .int .u8 0, .int .u8 0, .int .u8 0, .int .u8 0, .int .u8 0, .int .u8 0, .int .u8 0, .int .u8 0, .int .u8 0, .int .u8 0, .int .u8 0, .int .u8 0], .slice (some ⟨r161, 0, none⟩) 17 c_r161] (by rfl) rfl rfl (by simp only [List.map_toArray, List.map_cons, List.map_nil]; rfl) ?_
                  with_reducible refine (Hh20.out w1460 (some ⟨r161, 0, none⟩) c_r161 ⟨HhT.out.1.at B1463.out, HhT.out.2.at B1463.out⟩).mono ?_
                  rintro e_ w1466 ⟨rfl, hb_⟩
                  refine ⟨_, rfl, ?_⟩
                  have B1467 := Aside0.mk (below_step B1463.out hb_)
                  have B1468 := Aside0.mk (below_step B1464.out hb_)
                  have H1469 := Aside0.mk (blk_below H1465.out hb_)
                  clear hb_ B1463 B1464 H1465
                  refine hK.out _ _ trivial (fun hHeld => ?_)
                  clear hK K
                  refine norm_ (a' := ?_) ?_ ?_
                  rotate_left
                  · show Act.put _ (some 162) _ = _
                    simp only [Act.put, List.setIfInBounds_toArray, List.set_cons_zero, List.set_cons_succ, i64_w, i32_w]
                    rfl
                  refine pure_ (i := 3) (N := some 159) (v := ?_) (a' := ?_) #[true, true, true, true, false, false, true, false, false] rfl rfl (by kernel_rfl) (fun _ _ _ h => h) (Or.inl ⟨by rfl, ?_⟩) ?_ ?_
                  rotate_left
                  · intro w'
                    go_simp
                    with_reducible rfl
                  rotate_left
                  · simp only [Act.put, List.setIfInBounds_toArray, List.set_cons_zero, List.set_cons_succ, i64_w, i32_w]
                    rfl
                  refine pure_ (i := 4) (N := some 163) (v := ?_) (a' := ?_) #[true, true, true, true, true, false, true, false, false] rfl rfl (by kernel_rfl) (fun _ _ _ h => h) (Or.inl ⟨by rfl, ?_⟩) ?_ ?_
                  rotate_left
                  · intro w'
                    go_simp
                    with_reducible rfl
                  rotate_left
                  · simp only [Act.put, List.setIfInBounds_toArray, List.set_cons_zero, List.set_cons_succ, i64_w, i32_w]
                    rfl
                  refine pure_ (i := 5) (N := some 164) (v := ?_) (a' := ?_) #[true, true, true, true, true, true, true, false, false] rfl rfl (by kernel_rfl) (fun _ _ _ h => h) (Or.inl ⟨by rfl, ?_⟩) ?_ ?_
                  rotate_left
                  · intro w'
                    go_simp
                    with_reducible rfl
                  rotate_left
                  · simp only [Act.put, List.setIfInBounds_toArray, List.set_cons_zero, List.set_cons_succ, i64_w, i32_w]
                    rfl
                  exact norm_ (by simp only [putAll, Act.put, List.setIfInBounds_toArray, List.set_cons_zero, List.set_cons_succ]) (hCont (c_r161, gA20, r161) _ ⟨H1469.out, B1467.out, G1461, (Kd.C_below R1455.out B1468.out), L1456.out⟩)
              · skip
                refine value_ (w1 := World.alloc w1453 (.cells #[.int .u8 0, .int .i64 0, .int .i64 0, .int .i64 0, .int .i64 0, .int .u8 0, .int .u8 0, .int .u8 0, .int .u8 0, .int .u8 0, .int .u8 0, .int .u8 0, .int .u8 0, .int .u8 0, .int .u8 0, .int .u8 0, .int .u8 0, .int .u8 0, .int .u8 0, .int .u8 0, .int .u8 0, .int .u8 0, .int .u8 0, .int .u8 0, .int .u8 0] 25 (0, 0))) (v := .pointer (some ⟨w1453.heap.size, 0, none⟩)) (by rfl) rfl (by first | (go_simp; done) | (go_simp; rfl)) ?_
                obtain ⟨gA20, w1457, hg_, hw_, hh_, hb_⟩ := new_blk w1453 #[.int .u8 0, .int .i64 0, .int .i64 0, .int .i64 0, .int .i64 0, .int .u8 0, .int .u8 0, .int .u8 0, .int .u8 0, .int .u8 0, .int .u8 0, .int .u8 0, .int .u8 0, .int .u8 0, .int .u8 0, .int .u8 0, .int .u8 0, .int .u8 0, .int .u8 0, .int .u8 0, .int .u8 0, .int .u8 0, .int .u8 0, .int .u8 0, .int .u8 0] 25
                rw [← hg_, ← hw_]
                have H1462 := Aside0.mk hh_
                have G1458 : w.heap.size ≤ gA20 := Nat.le_trans B1454.out.size (Nat.le_of_eq hg_.symm)
                have G1459 : w1453.heap.size ≤ gA20 := Nat.le_of_eq hg_.symm
                have B1460 := Aside0.mk (below_step B1454.out hb_)
                have B1461 := Aside0.mk (hb_)
                clear hg_ hh_ hb_ B1454
                clear hw_
                refine hK.out _ _ trivial (fun hHeld => ?_)
                clear hK K
                refine norm_ (a' := ?_) ?_ ?_
                rotate_left
                · show Act.put _ (some 19) _ = _
                  simp only [Act.put, List.setIfInBounds_toArray, List.set_cons_zero, List.set_cons_succ, i64_w, i32_w]
                  rfl
                refine one_ (i := 0) (N := some 160) #[true, true, false, false, false, false, true, false, false] rfl rfl (by kernel_rfl) (by decide) (fun K hK => ?_)
                refine goes_ Tryd.func56 (by kernel_rfl) rfl #[] (by rfl) rfl rfl (by simp only [List.map_toArray, List.map_cons, List.map_nil]) ?_
                with_reducible refine (Hhex.out w1457).mono ?_
                rintro e_ w1463 ⟨rfl, hb_⟩
                refine ⟨_, rfl, ?_⟩
                have B1464 := Aside0.mk (below_step B1460.out hb_)
                have B1465 := Aside0.mk (below_step B1461.out hb_)
                have H1466 := Aside0.mk (blk_below H1462.out hb_)
                clear hb_ B1460 B1461 H1462
                refine hK.out _ _ trivial (fun hHeld => ?_)
                clear hK K
                refine norm_ (a' := ?_) ?_ ?_
                rotate_left
                · show Act.put _ (some 160) _ = _
                  simp only [Act.put, List.setIfInBounds_toArray, List.set_cons_zero, List.set_cons_succ, i64_w, i32_w]
                  rfl
                refine one_ (i := 2) (N := some 162) #[true, true, true, false, false, false, true, false, false] rfl rfl (by kernel_rfl) (by decide) (fun K hK => ?_)
                refine goes_ Tryd.func52 (by kernel_rfl) rfl #[.agg #[.int .u8 1, .int .i64 3, .int .i64 512, .int .i64 16, .int .i64 16, .int .u8 0, .int .u8 0, .int .u8 0, .int .u8 0, .int .u8 0, .int .u8 0, .int .u8 0, .int .u8 0, .int .u8 0, .int .u8 0, .int .u8 0, .int .u8 0, .int .u8 0, .int .u8 0, .int .u8 0, .int .u8 0, .int .u8 0, .int .u8 0, .int .u8 0, .int .u8 0], .slice (some ⟨r161, 0, none⟩) 17 c_r161] (by rfl) rfl rfl (by simp only [List.map_toArray, List.map_cons, List.map_nil]; rfl) ?_
                with_reducible refine (Hh20.out w1463 (some ⟨r161, 0, none⟩) c_r161 ⟨HhT.out.1.at B1464.out, HhT.out.2.at B1464.out⟩).mono ?_
                rintro e_ w1467 ⟨rfl, hb_⟩
                refine ⟨_, rfl, ?_⟩
                have B1468 := Aside0.mk (below_step B1464.out hb_)
                have B1469 := Aside0.mk (below_step B1465.out hb_)
                have H1470 := Aside0.mk (blk_below H1466.out hb_)
                clear hb_ B1464 B1465 H1466
                refine hK.out _ _ trivial (fun hHeld => ?_)
                clear hK K
                refine norm_ (a' := ?_) ?_ ?_
                rotate_left
                · show Act.put _ (some 162) _ = _
                  simp only [Act.put, List.setIfInBounds_toArray, List.set_cons_zero, List.set_cons_succ, i64_w, i32_w]
                  rfl
                refine pure_ (i := 3) (N := some 159) (v := ?_) (a' := ?_) #[true, true, true, true, false, false, true, false, false] rfl rfl (by kernel_rfl) (fun _ _ _ h => h) (Or.inl ⟨by rfl, ?_⟩) ?_ ?_
                rotate_left
                · intro w'
                  go_simp
                  with_reducible rfl
                rotate_left
                · simp only [Act.put, List.setIfInBounds_toArray, List.set_cons_zero, List.set_cons_succ, i64_w, i32_w]
                  rfl
                refine pure_ (i := 4) (N := some 163) (v := ?_) (a' := ?_) #[true, true, true, true, true, false, true, false, false] rfl rfl (by kernel_rfl) (fun _ _ _ h => h) (Or.inl ⟨by rfl, ?_⟩) ?_ ?_
                rotate_left
                · intro w'
                  go_simp
                  with_reducible rfl
                rotate_left
                · simp only [Act.put, List.setIfInBounds_toArray, List.set_cons_zero, List.set_cons_succ, i64_w, i32_w]
                  rfl
                refine pure_ (i := 5) (N := some 164) (v := ?_) (a' := ?_) #[true, true, true, true, true, true, true, false, false] rfl rfl (by kernel_rfl) (fun _ _ _ h => h) (Or.inl ⟨by rfl, ?_⟩) ?_ ?_
                rotate_left
                · intro w'
                  go_simp
                  with_reducible rfl
                rotate_left
                · simp only [Act.put, List.setIfInBounds_toArray, List.set_cons_zero, List.set_cons_succ, i64_w, i32_w]
                  rfl
                exact norm_ (by simp only [putAll, Act.put, List.setIfInBounds_toArray, List.set_cons_zero, List.set_cons_succ]) (hCont (c_r161, gA20, r161) _ ⟨H1470.out, B1468.out, G1458, (Kd.C_below R1455.out B1469.out), L1456.out⟩)
            · skip
              refine value_ (w1 := World.alloc w1451 (.cells #[.int .u8 0, .int .i64 0, .int .i64 0, .int .i64 0, .int .i64 0, .int .u8 0, .int .u8 0, .int .u8 0, .int .u8 0, .int .u8 0, .int .u8 0, .int .u8 0, .int .u8 0, .int .u8 0, .int .u8 0, .int .u8 0, .int .u8 0, .int .u8 0, .int .u8 0, .int .u8 0, .int .u8 0, .int .u8 0, .int .u8 0, .int .u8 0, .int .u8 0] 25 (0, 0))) (v := .pointer (some ⟨w1451.heap.size, 0, none⟩)) (by rfl) rfl (by first | (go_simp; done) | (go_simp; rfl)) ?_
              obtain ⟨gA20, w1453, hg_, hw_, hh_, hb_⟩ := new_blk w1451 #[.int .u8 0, .int .i64 0, .int .i64 0, .int .i64 0, .int .i64 0, .int .u8 0, .int .u8 0, .int .u8 0, .int .u8 0, .int .u8 0, .int .u8 0, .int .u8 0, .int .u8 0, .int .u8 0, .int .u8 0, .int .u8 0, .int .u8 0, .int .u8 0, .int .u8 0, .int .u8 0, .int .u8 0, .int .u8 0, .int .u8 0, .int .u8 0, .int .u8 0] 25
              rw [← hg_, ← hw_]
              have H1456 := Aside0.mk hh_
              have G1454 : w.heap.size ≤ gA20 := Nat.le_trans B1452.out.size (Nat.le_of_eq hg_.symm)
              have B1455 := Aside0.mk (below_step B1452.out hb_)
              clear hg_ hh_ hb_ B1452
              clear hw_
              refine hK.out _ _ trivial (fun hHeld => ?_)
              clear hK K
              refine norm_ (a' := ?_) ?_ ?_
              rotate_left
              · show Act.put _ (some 19) _ = _
                simp only [Act.put, List.setIfInBounds_toArray, List.set_cons_zero, List.set_cons_succ, i64_w, i32_w]
                rfl
              refine two_ (i := 0) (j := 1) (Ni := some 160) (Nj := some 161) #[true, false, false, false, false, false, true, false, false] #[false, true, false, false, false, false, true, false, false] rfl rfl rfl rfl (by kernel_rfl) (by decide) (by decide) (fun K hK => ?_) (fun K hK => ?_)
              · skip
                refine goes_ Tryd.func56 (by kernel_rfl) rfl #[] (by rfl) rfl rfl (by simp only [List.map_toArray, List.map_cons, List.map_nil]) ?_
                with_reducible refine (Hhex.out w1453).mono ?_
                rintro e_ w1457 ⟨rfl, hb_⟩
                refine ⟨_, rfl, ?_⟩
                have B1458 := Aside0.mk (below_step B1455.out hb_)
                have H1459 := Aside0.mk (blk_below H1456.out hb_)
                clear hb_ B1455 H1456
                refine hK.out _ _ trivial (fun hHeld => ?_)
                clear hK K
                refine norm_ (a' := ?_) ?_ ?_
                rotate_left
                · show Act.put _ (some 160) _ = _
                  simp only [Act.put, List.setIfInBounds_toArray, List.set_cons_zero, List.set_cons_succ, i64_w, i32_w]
                  rfl
                refine one_ (i := 1) (N := some 161) #[true, true, false, false, false, false, true, false, false] rfl rfl (by kernel_rfl) (by decide) (fun K hK => ?_)
                refine Kd.R_make_step (Kd.int .u8) (w0 := w1457) _ 5 (by rfl) (N := 161) rfl 26 _ _ rfl 17 rfl rfl Tryd.underlying26 (.int .u8 0) 1 info5p rfl (by decide) (by decide) (0 : Int) (ok := fun _ => True) (okp := fun _ => True) rfl (fun _ h => h) trivial (by decide) (by decide) (Below.refl _ _) (Nat.le_refl _) ?_
                intro v_ w1460 hO_ hb_ hg_ _
                clear hg_
                obtain ⟨r161, c_r161, rfl, hle_, hC_⟩ := row_formK (n := 17) hO_ List.length_replicate (by decide)
                have B1461 := Aside0.mk (below_step B1458.out hb_)
                have H1462 := Aside0.mk (blk_below H1459.out hb_)
                have R1463 := Aside0.mk (show Kd.C (Kd.int .u8) w1460 (some ⟨r161, 0, none⟩) 17 (List.replicate 17 (0 : Int)) from hC_)
                have L1464 := Aside0.mk hle_
                clear hO_ hb_ hle_ hC_ B1458 H1459
                refine hK.out _ _ trivial (fun hHeld => ?_)
                clear hK K
                refine norm_ (a' := ?_) ?_ ?_
                rotate_left
                · show Act.put _ (some 161) _ = _
                  simp only [Act.put, List.setIfInBounds_toArray, List.set_cons_zero, List.set_cons_succ, i64_w, i32_w]
                  rfl
                refine one_ (i := 2) (N := some 162) #[true, true, true, false, false, false, true, false, false] rfl rfl (by kernel_rfl) (by decide) (fun K hK => ?_)
                refine goes_ Tryd.func52 (by kernel_rfl) rfl #[.agg #[.int .u8 1, .int .i64 3, .int .i64 512, .int .i64 16, .int .i64 16, .int .u8 0, .int .u8 0, .int .u8 0, .int .u8 0, .int .u8 0, .int .u8 0, .int .u8 0, .int .u8 0, .int .u8 0, .int .u8 0, .int .u8 0, .int .u8 0, .int .u8 0, .int .u8 0, .int .u8 0, .int .u8 0, .int .u8 0, .int .u8 0, .int .u8 0, .int .u8 0], .slice (some ⟨r161, 0, none⟩) 17 c_r161] (by rfl) rfl rfl (by simp only [List.map_toArray, List.map_cons, List.map_nil]; rfl) ?_
                with_reducible refine (Hh20.out w1460 (some ⟨r161, 0, none⟩) c_r161 ⟨HhT.out.1.at B1461.out, HhT.out.2.at B1461.out⟩).mono ?_
                rintro e_ w1465 ⟨rfl, hb_⟩
                refine ⟨_, rfl, ?_⟩
                have B1466 := Aside0.mk (below_step B1461.out hb_)
                have B1467 := Aside0.mk (hb_)
                have H1468 := Aside0.mk (blk_below H1462.out hb_)
                clear hb_ B1461 H1462
                refine hK.out _ _ trivial (fun hHeld => ?_)
                clear hK K
                refine norm_ (a' := ?_) ?_ ?_
                rotate_left
                · show Act.put _ (some 162) _ = _
                  simp only [Act.put, List.setIfInBounds_toArray, List.set_cons_zero, List.set_cons_succ, i64_w, i32_w]
                  rfl
                refine pure_ (i := 3) (N := some 159) (v := ?_) (a' := ?_) #[true, true, true, true, false, false, true, false, false] rfl rfl (by kernel_rfl) (fun _ _ _ h => h) (Or.inl ⟨by rfl, ?_⟩) ?_ ?_
                rotate_left
                · intro w'
                  go_simp
                  with_reducible rfl
                rotate_left
                · simp only [Act.put, List.setIfInBounds_toArray, List.set_cons_zero, List.set_cons_succ, i64_w, i32_w]
                  rfl
                refine pure_ (i := 4) (N := some 163) (v := ?_) (a' := ?_) #[true, true, true, true, true, false, true, false, false] rfl rfl (by kernel_rfl) (fun _ _ _ h => h) (Or.inl ⟨by rfl, ?_⟩) ?_ ?_
                rotate_left
                · intro w'
                  go_simp
                  with_reducible rfl
                rotate_left
                · simp only [Act.put, List.setIfInBounds_toArray, List.set_cons_zero, List.set_cons_succ, i64_w, i32_w]
                  rfl
                refine pure_ (i := 5) (N := some 164) (v := ?_) (a' := ?_) #[true, true, true, true, true, true, true, false, false] rfl rfl (by kernel_rfl) (fun _ _ _ h => h) (Or.inl ⟨by rfl, ?_⟩) ?_ ?_
                rotate_left
                · intro w'
                  go_simp
                  with_reducible rfl
                rotate_left
                · simp only [Act.put, List.setIfInBounds_toArray, List.set_cons_zero, List.set_cons_succ, i64_w, i32_w]
                  rfl
                exact norm_ (by simp only [putAll, Act.put, List.setIfInBounds_toArray, List.set_cons_zero, List.set_cons_succ]) (hCont (c_r161, gA20, r161) _ ⟨H1468.out, B1466.out, G1454, (Kd.C_below R1463.out B1467.out), L1464.out⟩)
              · skip
                refine Kd.R_make_step (Kd.int .u8) (w0 := w1453) _ 5 (by rfl) (N := 161) rfl 26 _ _ rfl 17 rfl rfl Tryd.underlying26 (.int .u8 0) 1 info5p rfl (by decide) (by decide) (0 : Int) (ok := fun _ => True) (okp := fun _ => True) rfl (fun _ h => h) trivial (by decide) (by decide) (Below.refl _ _) (Nat.le_refl _) ?_
                intro v_ w1457 hO_ hb_ hg_ _
                clear hg_
                obtain ⟨r161, c_r161, rfl, hle_, hC_⟩ := row_formK (n := 17) hO_ List.length_replicate (by decide)
                have B1458 := Aside0.mk (below_step B1455.out hb_)
                have H1459 := Aside0.mk (blk_below H1456.out hb_)
                have R1460 := Aside0.mk (show Kd.C (Kd.int .u8) w1457 (some ⟨r161, 0, none⟩) 17 (List.replicate 17 (0 : Int)) from hC_)
                have L1461 := Aside0.mk hle_
                clear hO_ hb_ hle_ hC_ B1455 H1456
                refine hK.out _ _ trivial (fun hHeld => ?_)
                clear hK K
                refine norm_ (a' := ?_) ?_ ?_
                rotate_left
                · show Act.put _ (some 161) _ = _
                  simp only [Act.put, List.setIfInBounds_toArray, List.set_cons_zero, List.set_cons_succ, i64_w, i32_w]
                  rfl
                refine one_ (i := 0) (N := some 160) #[true, true, false, false, false, false, true, false, false] rfl rfl (by kernel_rfl) (by decide) (fun K hK => ?_)
                refine goes_ Tryd.func56 (by kernel_rfl) rfl #[] (by rfl) rfl rfl (by simp only [List.map_toArray, List.map_cons, List.map_nil]) ?_
                with_reducible refine (Hhex.out w1457).mono ?_
                rintro e_ w1462 ⟨rfl, hb_⟩
                refine ⟨_, rfl, ?_⟩
                have B1463 := Aside0.mk (below_step B1458.out hb_)
                have B1464 := Aside0.mk (hb_)
                have H1465 := Aside0.mk (blk_below H1459.out hb_)
                clear hb_ B1458 H1459
                refine hK.out _ _ trivial (fun hHeld => ?_)
                clear hK K
                refine norm_ (a' := ?_) ?_ ?_
                rotate_left
                · show Act.put _ (some 160) _ = _
                  simp only [Act.put, List.setIfInBounds_toArray, List.set_cons_zero, List.set_cons_succ, i64_w, i32_w]
                  rfl
                refine one_ (i := 2) (N := some 162) #[true, true, true, false, false, false, true, false, false] rfl rfl (by kernel_rfl) (by decide) (fun K hK => ?_)
                refine goes_ Tryd.func52 (by kernel_rfl) rfl #[.agg #[.int .u8 1, .int .i64 3, .int .i64 512, .int .i64 16, .int .i64 16, .int .u8 0, .int .u8 0, .int .u8 0, .int .u8 0, .int .u8 0, .int .u8 0, .int .u8 0, .int .u8 0, .int .u8 0, .int .u8 0, .int .u8 0, .int .u8 0, .int .u8 0, .int .u8 0, .int .u8 0, .int .u8 0, .int .u8 0, .int .u8 0, .int .u8 0, .int .u8 0], .slice (some ⟨r161, 0, none⟩) 17 c_r161] (by rfl) rfl rfl (by simp only [List.map_toArray, List.map_cons, List.map_nil]; rfl) ?_
                with_reducible refine (Hh20.out w1462 (some ⟨r161, 0, none⟩) c_r161 ⟨HhT.out.1.at B1463.out, HhT.out.2.at B1463.out⟩).mono ?_
                rintro e_ w1466 ⟨rfl, hb_⟩
                refine ⟨_, rfl, ?_⟩
                have B1467 := Aside0.mk (below_step B1463.out hb_)
                have B1468 := Aside0.mk (below_step B1464.out hb_)
                have H1469 := Aside0.mk (blk_below H1465.out hb_)
                clear hb_ B1463 B1464 H1465
                refine hK.out _ _ trivial (fun hHeld => ?_)
                clear hK K
                refine norm_ (a' := ?_) ?_ ?_
                rotate_left
                · show Act.put _ (some 162) _ = _
                  simp only [Act.put, List.setIfInBounds_toArray, List.set_cons_zero, List.set_cons_succ, i64_w, i32_w]
                  rfl
                refine pure_ (i := 3) (N := some 159) (v := ?_) (a' := ?_) #[true, true, true, true, false, false, true, false, false] rfl rfl (by kernel_rfl) (fun _ _ _ h => h) (Or.inl ⟨by rfl, ?_⟩) ?_ ?_
                rotate_left
                · intro w'
                  go_simp
                  with_reducible rfl
                rotate_left
                · simp only [Act.put, List.setIfInBounds_toArray, List.set_cons_zero, List.set_cons_succ, i64_w, i32_w]
                  rfl
                refine pure_ (i := 4) (N := some 163) (v := ?_) (a' := ?_) #[true, true, true, true, true, false, true, false, false] rfl rfl (by kernel_rfl) (fun _ _ _ h => h) (Or.inl ⟨by rfl, ?_⟩) ?_ ?_
                rotate_left
                · intro w'
                  go_simp
                  with_reducible rfl
                rotate_left
                · simp only [Act.put, List.setIfInBounds_toArray, List.set_cons_zero, List.set_cons_succ, i64_w, i32_w]
                  rfl
                refine pure_ (i := 5) (N := some 164) (v := ?_) (a' := ?_) #[true, true, true, true, true, true, true, false, false] rfl rfl (by kernel_rfl) (fun _ _ _ h => h) (Or.inl ⟨by rfl, ?_⟩) ?_ ?_
                rotate_left
                · intro w'
                  go_simp
                  with_reducible rfl
                rotate_left
                · simp only [Act.put, List.setIfInBounds_toArray, List.set_cons_zero, List.set_cons_succ, i64_w, i32_w]
                  rfl
                exact norm_ (by simp only [putAll, Act.put, List.setIfInBounds_toArray, List.set_cons_zero, List.set_cons_succ]) (hCont (c_r161, gA20, r161) _ ⟨H1469.out, B1467.out, G1454, (Kd.C_below R1460.out B1468.out), L1461.out⟩)
          rintro ⟨c_r161, gA20, r161⟩ wj1452 ⟨h0_, h1_, h2_, h3_, h4_⟩
          clear hHeld
          clear B1452
          have H1493 := Aside0.mk h0_
          have B1494 := Aside0.mk h1_
          have G1495 := h2_
          have R1496 := Aside0.mk h3_
          have L1497 := Aside0.mk h4_
          clear h0_ h1_ h2_ h3_ h4_
          have hHeld := trivial
          refine norm_ (a' := ?_) ?_ ?_
          rotate_left
          · simp only [putAll, Act.put, List.setIfInBounds_toArray, List.set_cons_zero, List.set_cons_succ]
            rfl
          refine last_ (i := 7) (N := none) #[true, true, true, true, true, true, true, true, false] rfl rfl (by kernel_rfl) (by decide) (fun K hK => ?_)
          refine skip_ (w1 := World.setCells wj1452 gA20 0 [.int .u8 0, .int .i64 0, .int .i64 0, .int .i64 0, .int .i64 0, .int .u8 0, .int .u8 0, .int .u8 0, .int .u8 0, .int .u8 0, .int .u8 0, .int .u8 0, .int .u8 0, .int .u8 0, .int .u8 0, .int .u8 0, .int .u8 0, .int .u8 0, .int .u8 0, .int .u8 0, .int .u8 0, .int .u8 0, .int .u8 0, .int .u8 0, .int .u8 0]) (by rfl) rfl (by exact storeN_run (T := 25) (vs := [.int .u8 0, .int .i64 0, .int .i64 0, .int .i64 0, .int .i64 0, .int .u8 0, .int .u8 0, .int .u8 0, .int .u8 0, .int .u8 0, .int .u8 0, .int .u8 0, .int .u8 0, .int .u8 0, .int .u8 0, .int .u8 0, .int .u8 0, .int .u8 0, .int .u8 0, .int .u8 0, .int .u8 0, .int .u8 0, .int .u8 0, .int .u8 0, .int .u8 0]) rfl rfl rfl (storeVar_blk H1493.out 25 0 [.int .u8 0, .int .i64 0, .int .i64 0, .int .i64 0, .int .i64 0, .int .u8 0, .int .u8 0, .int .u8 0, .int .u8 0, .int .u8 0, .int .u8 0, .int .u8 0, .int .u8 0, .int .u8 0, .int .u8 0, .int .u8 0, .int .u8 0, .int .u8 0, .int .u8 0, .int .u8 0, .int .u8 0, .int .u8 0, .int .u8 0, .int .u8 0, .int .u8 0] (by kernel_rfl) rfl (by simp))) ?_
          have H1499 := Aside0.mk (show (World.setCells wj1452 gA20 0 [.int .u8 0, .int .i64 0, .int .i64 0, .int .i64 0, .int .i64 0, .int .u8 0, .int .u8 0, .int .u8 0, .int .u8 0, .int .u8 0, .int .u8 0, .int .u8 0, .int .u8 0, .int .u8 0, .int .u8 0, .int .u8 0, .int .u8 0, .int .u8 0, .int .u8 0, .int .u8 0, .int .u8 0, .int .u8 0, .int .u8 0, .int .u8 0, .int .u8 0]).heap[gA20]? = some (.cells #[.int .u8 0, .int .i64 0, .int .i64 0, .int .i64 0, .int .i64 0, .int .u8 0, .int .u8 0, .int .u8 0, .int .u8 0, .int .u8 0, .int .u8 0, .int .u8 0, .int .u8 0, .int .u8 0, .int .u8 0, .int .u8 0, .int .u8 0, .int .u8 0, .int .u8 0, .int .u8 0, .int .u8 0, .int .u8 0, .int .u8 0, .int .u8 0, .int .u8 0] 25 (0, 0)) from blk_setCells [] [.int .u8 0, .int .i64 0, .int .i64 0, .int .i64 0, .int .i64 0, .int .u8 0, .int .u8 0, .int .u8 0, .int .u8 0, .int .u8 0, .int .u8 0, .int .u8 0, .int .u8 0, .int .u8 0, .int .u8 0, .int .u8 0, .int .u8 0, .int .u8 0, .int .u8 0, .int .u8 0, .int .u8 0, .int .u8 0, .int .u8 0, .int .u8 0, .int .u8 0] [.int .u8 0, .int .i64 0, .int .i64 0, .int .i64 0, .int .i64 0, .int .u8 0, .int .u8 0, .int .u8 0, .int .u8 0, .int .u8 0, .int .u8 0, .int .u8 0, .int .u8 0, .int .u8 0, .int .u8 0, .int .u8 0, .int .u8 0, .int .u8 0, .int .u8 0, .int .u8 0, .int .u8 0, .int .u8 0, .int .u8 0, .int .u8 0, .int .u8 0] [] wj1452 rfl H1493.out)
          have B1500 := Aside0.mk (below_setCells G1495 [.int .u8 0, .int .i64 0, .int .i64 0, .int .i64 0, .int .i64 0, .int .u8 0, .int .u8 0, .int .u8 0, .int .u8 0, .int .u8 0, .int .u8 0, .int .u8 0, .int .u8 0, .int .u8 0, .int .u8 0, .int .u8 0, .int .u8 0, .int .u8 0, .int .u8 0, .int .u8 0, .int .u8 0, .int .u8 0, .int .u8 0, .int .u8 0, .int .u8 0] 0 wj1452 B1494.out)
          clear H1493 B1494
          generalize World.setCells wj1452 gA20 0 [.int .u8 0, .int .i64 0, .int .i64 0, .int .i64 0, .int .i64 0, .int .u8 0, .int .u8 0, .int .u8 0, .int .u8 0, .int .u8 0, .int .u8 0, .int .u8 0, .int .u8 0, .int .u8 0, .int .u8 0, .int .u8 0, .int .u8 0, .int .u8 0, .int .u8 0, .int .u8 0, .int .u8 0, .int .u8 0, .int .u8 0, .int .u8 0, .int .u8 0] = w1498 at H1499 B1500 ⊢
          refine hK.out _ _ ?_
          clear hK K
          refine pure_ (i := 8) (N := some 20) (v := ?_) (a' := ?_) #[true, true, true, true, true, true, true, true, true] rfl rfl (by kernel_rfl) (fun _ _ _ h => h) (Or.inl ⟨by rfl, ?_⟩) ?_ ?_
          rotate_left
          · intro w'
            go_simp
            with_reducible rfl
          rotate_left
          · simp only [Act.put, List.setIfInBounds_toArray, List.set_cons_zero, List.set_cons_succ, i64_w, i32_w]
            rfl
          refine done_ (by kernel_rfl) ?_
          go_wp2_with fail
          have B1502 := Aside0.mk (below_drew B1500.out)
          clear B1500
          refine start_ (n := 8) (S := fun w' => True) (ds := []) #[false, false, false, false, false, false, false, false] (by kernel_rfl) rfl rfl trivial (fun hHeld => ?_)
          generalize World.drew w1498 = w1501 at B1502 hHeld ⊢
          refine join_ (σ := Nat × Nat) 6 #[true, true, false, false, false, false, false, false] (fun s_ => [(166, .agg #[.int .u8 1, .int .i64 3, .int .i64 512, .int .i64 16, .int .i64 16, .int .u8 0, .int .u8 0, .int .u8 0, .int .u8 0, .int .u8 0, .int .u8 0, .int .u8 0, .int .u8 0, .int .u8 0, .int .u8 0, .int .u8 0, .int .u8 0, .int .u8 0, .int .u8 0, .int .u8 0, .int .u8 0, .int .u8 0, .int .u8 0, .int .u8 0, .int .u8 0]), (167, .slice (some ⟨s_.2, 0, none⟩) 17 s_.1)]) (fun s_ w' => (Below w.heap.size w w') ∧ (Kd.C (Kd.int .u8) w' (some ⟨s_.2, 0, none⟩) 17 (List.replicate 17 (0 : Int))) ∧ (17 ≤ s_.1)) ?_ ?_
          rotate_left
          · intro hCont
            refine two_ (i := 0) (j := 1) (Ni := some 166) (Nj := some 167) #[true, false, false, false, false, false, false, false] #[false, true, false, false, false, false, false, false] rfl rfl rfl rfl (by kernel_rfl) (by decide) (by decide) (fun K hK => ?_) (fun K hK => ?_)
            · skip
              refine goes_ Tryd.func56 (by kernel_rfl) rfl #[] (by rfl) rfl rfl (by simp only [List.map_toArray, List.map_cons, List.map_nil]) ?_
              with_reducible refine (Hhex.out w1501).mono ?_
              rintro e_ w1503 ⟨rfl, hb_⟩
              refine ⟨_, rfl, ?_⟩
              have B1504 := Aside0.mk (below_step B1502.out hb_)
              clear hb_ B1502
              refine hK.out _ _ trivial (fun hHeld => ?_)
              clear hK K
              refine norm_ (a' := ?_) ?_ ?_
              rotate_left
              · show Act.put _ (some 166) _ = _
                simp only [Act.put, List.setIfInBounds_toArray, List.set_cons_zero, List.set_cons_succ, i64_w, i32_w]
                rfl
              refine one_ (i := 1) (N := some 167) #[true, true, false, false, false, false, false, false] rfl rfl (by kernel_rfl) (by decide) (fun K hK => ?_)
              refine Kd.R_make_step (Kd.int .u8) (w0 := w1503) _ 5 (by rfl) (N := 167) rfl 26 _ _ rfl 17 rfl rfl Tryd.underlying26 (.int .u8 0) 1 info5p rfl (by decide) (by decide) (0 : Int) (ok := fun _ => True) (okp := fun _ => True) rfl (fun _ h => h) trivial (by decide) (by decide) (Below.refl _ _) (Nat.le_refl _) ?_
              intro v_ w1505 hO_ hb_ hg_ _
              clear hg_
              obtain ⟨r167, c_r167, rfl, hle_, hC_⟩ := row_formK (n := 17) hO_ List.length_replicate (by decide)
              have B1506 := Aside0.mk (below_step B1504.out hb_)
              have R1507 := Aside0.mk (show Kd.C (Kd.int .u8) w1505 (some ⟨r167, 0, none⟩) 17 (List.replicate 17 (0 : Int)) from hC_)
              have L1508 := Aside0.mk hle_
              clear hO_ hb_ hle_ hC_ B1504
              refine hK.out _ _ trivial (fun hHeld => ?_)
              clear hK K
              refine norm_ (a' := ?_) ?_ ?_
              rotate_left
              · show Act.put _ (some 167) _ = _
                simp only [Act.put, List.setIfInBounds_toArray, List.set_cons_zero, List.set_cons_succ, i64_w, i32_w]
                rfl
              exact norm_ (by simp only [putAll, Act.put, List.setIfInBounds_toArray, List.set_cons_zero, List.set_cons_succ]) (hCont (c_r167, r167) _ ⟨B1506.out, (Kd.C_below R1507.out (Below.refl _ _)), L1508.out⟩)
            · skip
              refine Kd.R_make_step (Kd.int .u8) (w0 := w1501) _ 5 (by rfl) (N := 167) rfl 26 _ _ rfl 17 rfl rfl Tryd.underlying26 (.int .u8 0) 1 info5p rfl (by decide) (by decide) (0 : Int) (ok := fun _ => True) (okp := fun _ => True) rfl (fun _ h => h) trivial (by decide) (by decide) (Below.refl _ _) (Nat.le_refl _) ?_
              intro v_ w1503 hO_ hb_ hg_ _
              clear hg_
              obtain ⟨r167, c_r167, rfl, hle_, hC_⟩ := row_formK (n := 17) hO_ List.length_replicate (by decide)
              have B1504 := Aside0.mk (below_step B1502.out hb_)
              have R1505 := Aside0.mk (show Kd.C (Kd.int .u8) w1503 (some ⟨r167, 0, none⟩) 17 (List.replicate 17 (0 : Int)) from hC_)
              have L1506 := Aside0.mk hle_
              clear hO_ hb_ hle_ hC_ B1502
              refine hK.out _ _ trivial (fun hHeld => ?_)
              clear hK K
              refine norm_ (a' := ?_) ?_ ?_
              rotate_left
              · show Act.put _ (some 167) _ = _
                simp only [Act.put, List.setIfInBounds_toArray, List.set_cons_zero, List.set_cons_succ, i64_w, i32_w]
                rfl
              refine one_ (i := 0) (N := some 166) #[true, true, false, false, false, false, false, false] rfl rfl (by kernel_rfl) (by decide) (fun K hK => ?_)
              refine goes_ Tryd.func56 (by kernel_rfl) rfl #[] (by rfl) rfl rfl (by simp only [List.map_toArray, List.map_cons, List.map_nil]) ?_
              with_reducible refine (Hhex.out w1503).mono ?_
              rintro e_ w1507 ⟨rfl, hb_⟩
              refine ⟨_, rfl, ?_⟩
              have B1508 := Aside0.mk (below_step B1504.out hb_)
              have B1509 := Aside0.mk (hb_)
              clear hb_ B1504
              refine hK.out _ _ trivial (fun hHeld => ?_)
              clear hK K
              refine norm_ (a' := ?_) ?_ ?_
              rotate_left
              · show Act.put _ (some 166) _ = _
                simp only [Act.put, List.setIfInBounds_toArray, List.set_cons_zero, List.set_cons_succ, i64_w, i32_w]
                rfl
              exact norm_ (by simp only [putAll, Act.put, List.setIfInBounds_toArray, List.set_cons_zero, List.set_cons_succ]) (hCont (c_r167, r167) _ ⟨B1508.out, (Kd.C_below R1505.out B1509.out), L1506.out⟩)
          rintro ⟨c_r167, r167⟩ wj1502 ⟨h0_, h1_, h2_⟩
          clear hHeld
          clear B1502
          have B1543 := Aside0.mk h0_
          have R1544 := Aside0.mk h1_
          have L1545 := Aside0.mk h2_
          clear h0_ h1_ h2_
          have hHeld := trivial
          refine norm_ (a' := ?_) ?_ ?_
          rotate_left
          · simp only [putAll, Act.put, List.setIfInBounds_toArray, List.set_cons_zero, List.set_cons_succ]
            rfl
          refine one_ (i := 2) (N := some 168) #[true, true, true, false, false, false, false, false] rfl rfl (by kernel_rfl) (by decide) (fun K hK => ?_)
          refine goes_ Tryd.func54 (by kernel_rfl) rfl #[.agg #[.int .u8 1, .int .i64 3, .int .i64 512, .int .i64 16, .int .i64 16, .int .u8 0, .int .u8 0, .int .u8 0, .int .u8 0, .int .u8 0, .int .u8 0, .int .u8 0, .int .u8 0, .int .u8 0, .int .u8 0, .int .u8 0, .int .u8 0, .int .u8 0, .int .u8 0, .int .u8 0, .int .u8 0, .int .u8 0, .int .u8 0, .int .u8 0, .int .u8 0], .slice (some ⟨r167, 0, none⟩) 17 c_r167] (by rfl) rfl rfl (by simp only [List.map_toArray, List.map_cons, List.map_nil]; rfl) ?_
          with_reducible refine (Hh21.out wj1502 (some ⟨r167, 0, none⟩) c_r167 ⟨HhT.out.1.at B1543.out, HhT.out.2.at B1543.out⟩).mono ?_
          rintro e_ w1546 ⟨rfl, hb_⟩
          refine ⟨_, rfl, ?_⟩
          have B1547 := Aside0.mk (below_step B1543.out hb_)
          have B1548 := Aside0.mk (hb_)
          clear hb_ B1543
          refine hK.out _ _ trivial (fun hHeld => ?_)
          clear hK K
          refine norm_ (a' := ?_) ?_ ?_
          rotate_left
          · show Act.put _ (some 168) _ = _
            simp only [Act.put, List.setIfInBounds_toArray, List.set_cons_zero, List.set_cons_succ, i64_w, i32_w]
            rfl
          refine pure_ (i := 3) (N := some 165) (v := ?_) (a' := ?_) #[true, true, true, true, false, false, false, false] rfl rfl (by kernel_rfl) (fun _ _ _ h => h) (Or.inl ⟨by rfl, ?_⟩) ?_ ?_
          rotate_left
          · intro w'
            go_simp
            with_reducible rfl
          rotate_left
          · simp only [Act.put, List.setIfInBounds_toArray, List.set_cons_zero, List.set_cons_succ, i64_w, i32_w]
            rfl
          refine pure_ (i := 4) (N := some 169) (v := ?_) (a' := ?_) #[true, true, true, true, true, false, false, false] rfl rfl (by kernel_rfl) (fun _ _ _ h => h) (Or.inl ⟨by rfl, ?_⟩) ?_ ?_
          rotate_left
          · intro w'
            go_simp
            with_reducible rfl
          rotate_left
          · simp only [Act.put, List.setIfInBounds_toArray, List.set_cons_zero, List.set_cons_succ, i64_w, i32_w]
            rfl
          refine pure_ (i := 5) (N := some 170) (v := ?_) (a' := ?_) #[true, true, true, true, true, true, false, false] rfl rfl (by kernel_rfl) (fun _ _ _ h => h) (Or.inl ⟨by rfl, ?_⟩) ?_ ?_
          rotate_left
          · intro w'
            go_simp
            with_reducible rfl
          rotate_left
          · simp only [Act.put, List.setIfInBounds_toArray, List.set_cons_zero, List.set_cons_succ, i64_w, i32_w]
            rfl
          refine pure_ (i := 6) (N := some 21) (v := ?_) (a' := ?_) #[true, true, true, true, true, true, true, false] rfl rfl (by kernel_rfl) (fun _ _ _ h => h) (Or.inl ⟨by rfl, ?_⟩) ?_ ?_
          rotate_left
          · intro w'
            go_simp
            with_reducible rfl
          rotate_left
          · simp only [Act.put, List.setIfInBounds_toArray, List.set_cons_zero, List.set_cons_succ, i64_w, i32_w]
            rfl
          refine pure_ (i := 7) (N := some 22) (v := ?_) (a' := ?_) #[true, true, true, true, true, true, true, true] rfl rfl (by kernel_rfl) (fun _ _ _ h => h) (Or.inl ⟨by rfl, ?_⟩) ?_ ?_
          rotate_left
          · intro w'
            go_simp
            with_reducible rfl
          rotate_left
          · simp only [Act.put, List.setIfInBounds_toArray, List.set_cons_zero, List.set_cons_succ, i64_w, i32_w]
            rfl
          refine done_ (by kernel_rfl) ?_
          go_wp2_with fail
          have B1550 := Aside0.mk (below_drew B1547.out)
          have B1551 := Aside0.mk (below_drew B1548.out)
          clear B1547 B1548
          refine start_ (n := 9) (S := fun w' => True) (ds := [7]) #[false, false, false, false, false, false, false, false, false] (by kernel_rfl) rfl rfl trivial (fun hHeld => ?_)
          generalize World.drew w1546 = w1549 at B1550 B1551 hHeld ⊢
          refine join_ (σ := Nat × Nat × Nat) 2 #[true, true, true, true, true, true, true, false, false] (fun s_ => [(172, .agg #[.int .u8 1, .int .i64 3, .int .i64 512, .int .i64 16, .int .i64 16, .int .u8 0, .int .u8 0, .int .u8 0, .int .u8 0, .int .u8 0, .int .u8 0, .int .u8 0, .int .u8 0, .int .u8 0, .int .u8 0, .int .u8 0, .int .u8 0, .int .u8 0, .int .u8 0, .int .u8 0, .int .u8 0, .int .u8 0, .int .u8 0, .int .u8 0, .int .u8 0]), (173, .slice (some ⟨s_.2.2, 0, none⟩) 16 s_.1), (174, .tuple #[.agg #[.int .u8 1, .int .i64 3, .int .i64 512, .int .i64 16, .int .i64 16, .int .u8 d0, .int .u8 d1, .int .u8 d2, .int .u8 d3, .int .u8 d4, .int .u8 d5, .int .u8 d6, .int .u8 d7, .int .u8 d8, .int .u8 d9, .int .u8 d10, .int .u8 d11, .int .u8 d12, .int .u8 d13, .int .u8 d14, .int .u8 d15, .int .u8 d16, .int .u8 d17, .int .u8 d18, .int .u8 d19], .int .i64 0]), (23, .pointer (some ⟨s_.2.1, 0, none⟩)), (171, .tuple #[.agg #[.int .u8 1, .int .i64 3, .int .i64 512, .int .i64 16, .int .i64 16, .int .u8 d0, .int .u8 d1, .int .u8 d2, .int .u8 d3, .int .u8 d4, .int .u8 d5, .int .u8 d6, .int .u8 d7, .int .u8 d8, .int .u8 d9, .int .u8 d10, .int .u8 d11, .int .u8 d12, .int .u8 d13, .int .u8 d14, .int .u8 d15, .int .u8 d16, .int .u8 d17, .int .u8 d18, .int .u8 d19], .int .i64 0]), (175, .agg #[.int .u8 1, .int .i64 3, .int .i64 512, .int .i64 16, .int .i64 16, .int .u8 d0, .int .u8 d1, .int .u8 d2, .int .u8 d3, .int .u8 d4, .int .u8 d5, .int .u8 d6, .int .u8 d7, .int .u8 d8, .int .u8 d9, .int .u8 d10, .int .u8 d11, .int .u8 d12, .int .u8 d13, .int .u8 d14, .int .u8 d15, .int .u8 d16, .int .u8 d17, .int .u8 d18, .int .u8 d19]), (176, .int .i64 0)]) (fun s_ w' => (w'.heap[s_.2.1]? = some (.cells #[.int .u8 0, .int .i64 0, .int .i64 0, .int .i64 0, .int .i64 0, .int .u8 0, .int .u8 0, .int .u8 0, .int .u8 0, .int .u8 0, .int .u8 0, .int .u8 0, .int .u8 0, .int .u8 0, .int .u8 0, .int .u8 0, .int .u8 0, .int .u8 0, .int .u8 0, .int .u8 0, .int .u8 0, .int .u8 0, .int .u8 0, .int .u8 0, .int .u8 0] 25 (0, 0))) ∧ (Below w.heap.size w w') ∧ (Below wj1502.heap.size wj1502 w') ∧ (w.heap.size ≤ s_.2.1) ∧ (wj1502.heap.size ≤ s_.2.1) ∧ (Kd.C (Kd.int .u8) w' (some ⟨s_.2.2, 0, none⟩) 16 (List.replicate 16 (0 : Int))) ∧ (16 ≤ s_.1)) ?_ ?_
          rotate_left
          · intro hCont
            refine three_ (i := 0) (j := 1) (k := 6) (Ni := some 172) (Nj := some 173) (Nk := some 23) #[true, false, false, false, false, false, false, false, false] #[false, true, false, false, false, false, false, false, false] #[false, false, false, false, false, false, true, false, false] rfl rfl rfl rfl rfl rfl (by kernel_rfl) (by decide) (by decide) (by decide) (fun K hK => ?_) (fun K hK => ?_) (fun K hK => ?_)
            · skip
              refine goes_ Tryd.func56 (by kernel_rfl) rfl #[] (by rfl) rfl rfl (by simp only [List.map_toArray, List.map_cons, List.map_nil]) ?_
              with_reducible refine (Hhex.out w1549).mono ?_
              rintro e_ w1552 ⟨rfl, hb_⟩
              refine ⟨_, rfl, ?_⟩
              have B1553 := Aside0.mk (below_step B1550.out hb_)
              have B1554 := Aside0.mk (below_step B1551.out hb_)
              clear hb_ B1550 B1551
              refine hK.out _ _ trivial (fun hHeld => ?_)
              clear hK K
              refine norm_ (a' := ?_) ?_ ?_
              rotate_left
              · show Act.put _ (some 172) _ = _
                simp only [Act.put, List.setIfInBounds_toArray, List.set_cons_zero, List.set_cons_succ, i64_w, i32_w]
                rfl
              refine two_ (i := 1) (j := 6) (Ni := some 173) (Nj := some 23) #[true, true, false, false, false, false, false, false, false] #[true, false, false, false, false, false, true, false, false] rfl rfl rfl rfl (by kernel_rfl) (by decide) (by decide) (fun K hK => ?_) (fun K hK => ?_)
              · skip
                refine Kd.R_make_step (Kd.int .u8) (w0 := w1552) _ 5 (by rfl) (N := 173) rfl 26 _ _ rfl 16 rfl rfl Tryd.underlying26 (.int .u8 0) 1 info5p rfl (by decide) (by decide) (0 : Int) (ok := fun _ => True) (okp := fun _ => True) rfl (fun _ h => h) trivial (by decide) (by decide) (Below.refl _ _) (Nat.le_refl _) ?_
                intro v_ w1555 hO_ hb_ hg_ _
                clear hg_
                obtain ⟨r173, c_r173, rfl, hle_, hC_⟩ := row_formK (n := 16) hO_ List.length_replicate (by decide)
                have B1556 := Aside0.mk (below_step B1553.out hb_)
                have B1557 := Aside0.mk (below_step B1554.out hb_)
                have R1558 := Aside0.mk (show Kd.C (Kd.int .u8) w1555 (some ⟨r173, 0, none⟩) 16 (List.replicate 16 (0 : Int)) from hC_)
                have L1559 := Aside0.mk hle_
                clear hO_ hb_ hle_ hC_ B1553 B1554
                refine hK.out _ _ trivial (fun hHeld => ?_)
                clear hK K
                refine norm_ (a' := ?_) ?_ ?_
                rotate_left
                · show Act.put _ (some 173) _ = _
                  simp only [Act.put, List.setIfInBounds_toArray, List.set_cons_zero, List.set_cons_succ, i64_w, i32_w]
                  rfl
                refine two_ (i := 2) (j := 6) (Ni := some 174) (Nj := some 23) #[true, true, true, false, false, false, false, false, false] #[true, true, false, false, false, false, true, false, false] rfl rfl rfl rfl (by kernel_rfl) (by decide) (by decide) (fun K hK => ?_) (fun K hK => ?_)
                · skip
                  refine goes_ Tryd.func52 (by kernel_rfl) rfl #[.agg #[.int .u8 1, .int .i64 3, .int .i64 512, .int .i64 16, .int .i64 16, .int .u8 0, .int .u8 0, .int .u8 0, .int .u8 0, .int .u8 0, .int .u8 0, .int .u8 0, .int .u8 0, .int .u8 0, .int .u8 0, .int .u8 0, .int .u8 0, .int .u8 0, .int .u8 0, .int .u8 0, .int .u8 0, .int .u8 0, .int .u8 0, .int .u8 0, .int .u8 0], .slice (some ⟨r173, 0, none⟩) 16 c_r173] (by rfl) rfl rfl (by simp only [List.map_toArray, List.map_cons, List.map_nil]; rfl) ?_
                  with_reducible refine (Hh22.out w1555 (some ⟨r173, 0, none⟩) c_r173 ⟨HhT.out.1.at B1556.out, HhT.out.2.at B1556.out⟩ (Kd.C_below R1558.out (Below.refl _ _))).mono ?_
                  rintro e_ w1560 ⟨rfl, hb_⟩
                  refine ⟨_, rfl, ?_⟩
                  have B1561 := Aside0.mk (below_step B1556.out hb_)
                  have B1562 := Aside0.mk (below_step B1557.out hb_)
                  have B1563 := Aside0.mk (hb_)
                  clear hb_ B1556 B1557
                  refine hK.out _ _ trivial (fun hHeld => ?_)
                  clear hK K
                  refine norm_ (a' := ?_) ?_ ?_
                  rotate_left
                  · show Act.put _ (some 174) _ = _
                    simp only [Act.put, List.setIfInBounds_toArray, List.set_cons_zero, List.set_cons_succ, i64_w, i32_w]
                    rfl
                  refine pure_ (i := 3) (N := some 171) (v := ?_) (a' := ?_) #[true, true, true, true, false, false, false, false, false] rfl rfl (by kernel_rfl) (fun _ _ _ h => h) (Or.inl ⟨by rfl, ?_⟩) ?_ ?_
                  rotate_left
                  · intro w'
                    go_simp
                    with_reducible rfl
                  rotate_left
                  · simp only [Act.put, List.setIfInBounds_toArray, List.set_cons_zero, List.set_cons_succ, i64_w, i32_w]
                    rfl
                  refine pure_ (i := 4) (N := some 175) (v := ?_) (a' := ?_) #[true, true, true, true, true, false, false, false, false] rfl rfl (by kernel_rfl) (fun _ _ _ h => h) (Or.inl ⟨by rfl, ?_⟩) ?_ ?_
                  rotate_left
                  · intro w'
                    go_simp
                    with_reducible rfl
                  rotate_left
                  · simp only [Act.put, List.setIfInBounds_toArray, List.set_cons_zero, List.set_cons_succ, i64_w, i32_w]
                    rfl
                  refine pure_ (i := 5) (N := some 176) (v := ?_) (a' := ?_) #[true, true, true, true, true, true, false, false, false] rfl rfl (by kernel_rfl) (fun _ _ _ h => h) (Or.inl ⟨by rfl, ?_⟩) ?_ ?_
                  rotate_left
                  · intro w'
                    go_simp
                    with_reducible rfl
                  rotate_left
                  · simp only [Act.put, List.setIfInBounds_toArray, List.set_cons_zero, List.set_cons_succ, i64_w, i32_w]
                    rfl
                  refine one_ (i := 6) (N := some 23) #[true, true, true, true, true, true, true, false, false] rfl rfl (by kernel_rfl) (by decide) (fun K hK => ?_)
                  refine value_ (w1 := World.alloc w1560 (.cells #[.int .u8 0, .int .i64 0, .int .i64 0, .int .i64 0, .int .i64 0, .int .u8 0, .int .u8 0, .int .u8 0, .int .u8 0, .int .u8 0, .int .u8 0, .int .u8 0, .int .u8 0, .int .u8 0, .int .u8 0, .int .u8 0, .int .u8 0, .int .u8 0, .int .u8 0, .int .u8 0, .int .u8 0, .int .u8 0, .int .u8 0, .int .u8 0, .int .u8 0] 25 (0, 0))) (v := .pointer (some ⟨w1560.heap.size, 0, none⟩)) (by rfl) rfl (by first | (go_simp; done) | (go_simp; rfl)) ?_
                  obtain ⟨gA22, w1564, hg_, hw_, hh_, hb_⟩ := new_blk w1560 #[.int .u8 0, .int .i64 0, .int .i64 0, .int .i64 0, .int .i64 0, .int .u8 0, .int .u8 0, .int .u8 0, .int .u8 0, .int .u8 0, .int .u8 0, .int .u8 0, .int .u8 0, .int .u8 0, .int .u8 0, .int .u8 0, .int .u8 0, .int .u8 0, .int .u8 0, .int .u8 0, .int .u8 0, .int .u8 0, .int .u8 0, .int .u8 0, .int .u8 0] 25
                  rw [← hg_, ← hw_]
                  have H1571 := Aside0.mk hh_
                  have G1565 : w.heap.size ≤ gA22 := Nat.le_trans B1561.out.size (Nat.le_of_eq hg_.symm)
                  have G1566 : wj1502.heap.size ≤ gA22 := Nat.le_trans B1562.out.size (Nat.le_of_eq hg_.symm)
                  have G1567 : w1555.heap.size ≤ gA22 := Nat.le_trans B1563.out.size (Nat.le_of_eq hg_.symm)
                  have B1568 := Aside0.mk (below_step B1561.out hb_)
                  have B1569 := Aside0.mk (below_step B1562.out hb_)
                  have B1570 := Aside0.mk (below_step B1563.out hb_)
                  clear hg_ hh_ hb_ B1561 B1562 B1563
                  clear hw_
                  refine hK.out _ _ trivial (fun hHeld => ?_)
                  clear hK K
                  refine norm_ (a' := ?_) ?_ ?_
                  rotate_left
                  · show Act.put _ (some 23) _ = _
                    simp only [Act.put, List.setIfInBounds_toArray, List.set_cons_zero, List.set_cons_succ, i64_w, i32_w]
                    rfl
                  exact norm_ (by simp only [putAll, Act.put, List.setIfInBounds_toArray, List.set_cons_zero, List.set_cons_succ]) (hCont (c_r173, gA22, r173) _ ⟨H1571.out, B1568.out, B1569.out, G1565, G1566, (Kd.C_below R1558.out B1570.out), L1559.out⟩)
                · skip
                  refine value_ (w1 := World.alloc w1555 (.cells #[.int .u8 0, .int .i64 0, .int .i64 0, .int .i64 0, .int .i64 0, .int .u8 0, .int .u8 0, .int .u8 0, .int .u8 0, .int .u8 0, .int .u8 0, .int .u8 0, .int .u8 0, .int .u8 0, .int .u8 0, .int .u8 0, .int .u8 0, .int .u8 0, .int .u8 0, .int .u8 0, .int .u8 0, .int .u8 0, .int .u8 0, .int .u8 0, .int .u8 0] 25 (0, 0))) (v := .pointer (some ⟨w1555.heap.size, 0, none⟩)) (by rfl) rfl (by first | (go_simp; done) | (go_simp; rfl)) ?_
                  obtain ⟨gA22, w1560, hg_, hw_, hh_, hb_⟩ := new_blk w1555 #[.int .u8 0, .int .i64 0, .int .i64 0, .int .i64 0, .int .i64 0, .int .u8 0, .int .u8 0, .int .u8 0, .int .u8 0, .int .u8 0, .int .u8 0, .int .u8 0, .int .u8 0, .int .u8 0, .int .u8 0, .int .u8 0, .int .u8 0, .int .u8 0, .int .u8 0, .int .u8 0, .int .u8 0, .int .u8 0, .int .u8 0, .int .u8 0, .int .u8 0] 25
                  rw [← hg_, ← hw_]
                  have H1567 := Aside0.mk hh_
                  have G1561 : w.heap.size ≤ gA22 := Nat.le_trans B1556.out.size (Nat.le_of_eq hg_.symm)
                  have G1562 : wj1502.heap.size ≤ gA22 := Nat.le_trans B1557.out.size (Nat.le_of_eq hg_.symm)
                  have G1563 : w1555.heap.size ≤ gA22 := Nat.le_of_eq hg_.symm
                  have B1564 := Aside0.mk (below_step B1556.out hb_)
                  have B1565 := Aside0.mk (below_step B1557.out hb_)
                  have B1566 := Aside0.mk (hb_)
                  clear hg_ hh_ hb_ B1556 B1557
                  clear hw_
                  refine hK.out _ _ trivial (fun hHeld => ?_)
                  clear hK K
                  refine norm_ (a' := ?_) ?_ ?_
                  rotate_left
                  · show Act.put _ (some 23) _ = _
                    simp only [Act.put, List.setIfInBounds_toArray, List.set_cons_zero, List.set_cons_succ, i64_w, i32_w]
                    rfl
                  refine one_ (i := 2) (N := some 174) #[true, true, true, false, false, false, true, false, false] rfl rfl (by kernel_rfl) (by decide) (fun K hK => ?_)
                  refine goes_ Tryd.func52 (by kernel_rfl) rfl #[.agg #[.int .u8 1, .int .i64 3, .int .i64 512, .int .i64 16, .int .i64 16, .int .u8 0, .int .u8 0, .int .u8 0, .int .u8 0, .int .u8 0, .int .u8 0, .int .u8 0, .int .u8 0, .int .u8 0, .int .u8 0, .int .u8 0, .int .u8 0, .int .u8 0, .int .u8 0, .int .u8 0, .int .u8 0, .int .u8 0, .int .u8 0, .int .u8 0, .int .u8 0], .slice (some ⟨r173, 0, none⟩) 16 c_r173] (by rfl) rfl rfl (by simp only [List.map_toArray, List.map_cons, List.map_nil]; rfl) ?_
                  with_reducible refine (Hh22.out w1560 (some ⟨r173, 0, none⟩) c_r173 ⟨HhT.out.1.at B1564.out, HhT.out.2.at B1564.out⟩ (Kd.C_below R1558.out B1566.out)).mono ?_
                  rintro e_ w1568 ⟨rfl, hb_⟩
                  refine ⟨_, rfl, ?_⟩
                  have B1569 := Aside0.mk (below_step B1564.out hb_)
                  have B1570 := Aside0.mk (below_step B1565.out hb_)
                  have B1571 := Aside0.mk (below_step B1566.out hb_)
                  have H1572 := Aside0.mk (blk_below H1567.out hb_)
                  clear hb_ B1564 B1565 B1566 H1567
                  refine hK.out _ _ trivial (fun hHeld => ?_)
                  clear hK K
                  refine norm_ (a' := ?_) ?_ ?_
                  rotate_left
                  · show Act.put _ (some 174) _ = _
                    simp only [Act.put, List.setIfInBounds_toArray, List.set_cons_zero, List.set_cons_succ, i64_w, i32_w]
                    rfl
                  refine pure_ (i := 3) (N := some 171) (v := ?_) (a' := ?_) #[true, true, true, true, false, false, true, false, false] rfl rfl (by kernel_rfl) (fun _ _ _ h => h) (Or.inl ⟨by rfl, ?_⟩) ?_ ?_
                  rotate_left
                  · intro w'
                    go_simp
                    with_reducible rfl
                  rotate_left
                  · simp only [Act.put, List.setIfInBounds_toArray, List.set_cons_zero, List.set_cons_succ, i64_w, i32_w]
                    rfl
                  refine pure_ (i := 4) (N := some 175) (v := ?_) (a' := ?_) #[true, true, true, true, true, false, true, false, false] rfl rfl (by kernel_rfl) (fun _ _ _ h => h) (Or.inl ⟨by rfl, ?_⟩) ?_ ?_
                  rotate_left
                  · intro w'
                    go_simp
                    with_reducible rfl
                  rotate_left
                  · simp only [Act.put, List.setIfInBounds_toArray, List.set_cons_zero, List.set_cons_succ, i64_w, i32_w]
                    rfl
                  refine pure_ (i := 5) (N := some 176) (v := ?_) (a' := ?_) #[true, true, true, true, true, true, true, false, false] rfl rfl (by kernel_rfl) (fun _ _ _ h => h) (Or.inl ⟨by rfl, ?_⟩) ?_ ?_
                  rotate_left
                  · intro w'
                    go_simp
                    with_reducible rfl
                  rotate_left
                  · simp only [Act.put, List.setIfInBounds_toArray, List.set_cons_zero, List.set_cons_succ, i64_w, i32_w]
                    rfl
                  exact norm_ (by simp only [putAll, Act.put, List.setIfInBounds_toArray, List.set_cons_zero, List.set_cons_succ]) (hCont (c_r173, gA22, r173) _ ⟨H1572.out, B1569.out, B1570.out, G1561, G1562, (Kd.C_below R1558.out B1571.out), L1559.out⟩)
              · skip
                refine value_ (w1 := World.alloc w1552 (.cells #[.int .u8 0, .int .i64 0, .int .i64 0, .int .i64 0, .int .i64 0, .int .u8 0, .int .u8 0, .int .u8 0, .int .u8 0, .int .u8 0, .int .u8 0, .int .u8 0, .int .u8 0, .int .u8 0, .int .u8 0, .int .u8 0, .int .u8 0, .int .u8 0, .int .u8 0, .int .u8 0, .int .u8 0, .int .u8 0, .int .u8 0, .int .u8 0, .int .u8 0] 25 (0, 0))) (v := .pointer (some ⟨w1552.heap.size, 0, none⟩)) (by rfl) rfl (by first | (go_simp; done) | (go_simp; rfl)) ?_
                obtain ⟨gA22, w1555, hg_, hw_, hh_, hb_⟩ := new_blk w1552 #[.int .u8 0, .int .i64 0, .int .i64 0, .int .i64 0, .int .i64 0, .int .u8 0, .int .u8 0, .int .u8 0, .int .u8 0, .int .u8 0, .int .u8 0, .int .u8 0, .int .u8 0, .int .u8 0, .int .u8 0, .int .u8 0, .int .u8 0, .int .u8 0, .int .u8 0, .int .u8 0, .int .u8 0, .int .u8 0, .int .u8 0, .int .u8 0, .int .u8 0] 25
                rw [← hg_, ← hw_]
                have H1560 := Aside0.mk hh_
                have G1556 : w.heap.size ≤ gA22 := Nat.le_trans B1553.out.size (Nat.le_of_eq hg_.symm)
                have G1557 : wj1502.heap.size ≤ gA22 := Nat.le_trans B1554.out.size (Nat.le_of_eq hg_.symm)
                have B1558 := Aside0.mk (below_step B1553.out hb_)
                have B1559 := Aside0.mk (below_step B1554.out hb_)
                clear hg_ hh_ hb_ B1553 B1554
                clear hw_
                refine hK.out _ _ trivial (fun hHeld => ?_)
                clear hK K
                refine norm_ (a' := ?_) ?_ ?_
                rotate_left
                · show Act.put _ (some 23) _ = _
                  simp only [Act.put, List.setIfInBounds_toArray, List.set_cons_zero, List.set_cons_succ, i64_w, i32_w]
                  rfl
                refine one_ (i := 1) (N := some 173) #[true, true, false, false, false, false, true, false, false] rfl rfl (by kernel_rfl) (by decide) (fun K hK => ?_)
                refine Kd.R_make_step (Kd.int .u8) (w0 := w1555) _ 5 (by rfl) (N := 173) rfl 26 _ _ rfl 16 rfl rfl Tryd.underlying26 (.int .u8 0) 1 info5p rfl (by decide) (by decide) (0 : Int) (ok := fun _ => True) (okp := fun _ => True) rfl (fun _ h => h) trivial (by decide) (by decide) (Below.refl _ _) (Nat.le_refl _) ?_
                intro v_ w1561 hO_ hb_ hg_ _
                clear hg_
                obtain ⟨r173, c_r173, rfl, hle_, hC_⟩ := row_formK (n := 16) hO_ List.length_replicate (by decide)
                have B1562 := Aside0.mk (below_step B1558.out hb_)
                have B1563 := Aside0.mk (below_step B1559.out hb_)
                have H1564 := Aside0.mk (blk_below H1560.out hb_)
                have R1565 := Aside0.mk (show Kd.C (Kd.int .u8) w1561 (some ⟨r173, 0, none⟩) 16 (List.replicate 16 (0 : Int)) from hC_)
                have L1566 := Aside0.mk hle_
                clear hO_ hb_ hle_ hC_ B1558 B1559 H1560
                refine hK.out _ _ trivial (fun hHeld => ?_)
                clear hK K
                refine norm_ (a' := ?_) ?_ ?_
                rotate_left
                · show Act.put _ (some 173) _ = _
                  simp only [Act.put, List.setIfInBounds_toArray, List.set_cons_zero, List.set_cons_succ, i64_w, i32_w]
                  rfl
                refine one_ (i := 2) (N := some 174) #[true, true, true, false, false, false, true, false, false] rfl rfl (by kernel_rfl) (by decide) (fun K hK => ?_)
                refine goes_ Tryd.func52 (by kernel_rfl) rfl #[.agg #[.int .u8 1, .int .i64 3, .int .i64 512, .int .i64 16, .int .i64 16, .int .u8 0, .int .u8 0, .int .u8 0, .int .u8 0, .int .u8 0, .int .u8 0, .int .u8 0, .int .u8 0, .int .u8 0, .int .u8 0, .int .u8 0, .int .u8 0, .int .u8 0, .int .u8 0, .int .u8 0, .int .u8 0, .int .u8 0, .int .u8 0, .int .u8 0, .int .u8 0], .slice (some ⟨r173, 0, none⟩) 16 c_r173] (by rfl) rfl rfl (by simp only [List.map_toArray, List.map_cons, List.map_nil]; rfl) ?_
                with_reducible refine (Hh22.out w1561 (some ⟨r173, 0, none⟩) c_r173 ⟨HhT.out.1.at B1562.out, HhT.out.2.at B1562.out⟩ (Kd.C_below R1565.out (Below.refl _ _))).mono ?_
                rintro e_ w1567 ⟨rfl, hb_⟩
                refine ⟨_, rfl, ?_⟩
                have B1568 := Aside0.mk (below_step B1562.out hb_)
                have B1569 := Aside0.mk (below_step B1563.out hb_)
                have B1570 := Aside0.mk (hb_)
                have H1571 := Aside0.mk (blk_below H1564.out hb_)
                clear hb_ B1562 B1563 H1564
                refine hK.out _ _ trivial (fun hHeld => ?_)
                clear hK K
                refine norm_ (a' := ?_) ?_ ?_
                rotate_left
                · show Act.put _ (some 174) _ = _
                  simp only [Act.put, List.setIfInBounds_toArray, List.set_cons_zero, List.set_cons_succ, i64_w, i32_w]
                  rfl
                refine pure_ (i := 3) (N := some 171) (v := ?_) (a' := ?_) #[true, true, true, true, false, false, true, false, false] rfl rfl (by kernel_rfl) (fun _ _ _ h => h) (Or.inl ⟨by rfl, ?_⟩) ?_ ?_
                rotate_left
                · intro w'
                  go_simp
                  with_reducible rfl
                rotate_left
                · simp only [Act.put, List.setIfInBounds_toArray, List.set_cons_zero, List.set_cons_succ, i64_w, i32_w]
                  rfl
                refine pure_ (i := 4) (N := some 175) (v := ?_) (a' := ?_) #[true, true, true, true, true, false, true, false, false] rfl rfl (by kernel_rfl) (fun _ _ _ h => h) (Or.inl ⟨by rfl, ?_⟩) ?_ ?_
                rotate_left
                · intro w'
                  go_simp
                  with_reducible rfl
                rotate_left
                · simp only [Act.put, List.setIfInBounds_toArray, List.set_cons_zero, List.set_cons_succ, i64_w, i32_w]
                  rfl
                refine pure_ (i := 5) (N := some 176) (v := ?_) (a' := ?_) #[true, true, true, true, true, true, true, false, false] rfl rfl (by kernel_rfl) (fun _ _ _ h => h) (Or.inl ⟨by rfl, ?_⟩) ?_ ?_
                rotate_left
                · intro w'
                  go_simp
                  with_reducible rfl
                rotate_left
                · simp only [Act.put, List.setIfInBounds_toArray, List.set_cons_zero, List.set_cons_succ, i64_w, i32_w]
                  rfl
                exact norm_ (by simp only [putAll, Act.put, List.setIfInBounds_toArray, List.set_cons_zero, List.set_cons_succ]) (hCont (c_r173, gA22, r173) _ ⟨H1571.out, B1568.out, B1569.out, G1556, G1557, (Kd.C_below R1565.out B1570.out), L1566.out⟩)
            · skip
              refine Kd.R_make_step (Kd.int .u8) (w0 := w1549) _ 5 (by rfl) (N := 173) rfl 26 _ _ rfl 16 rfl rfl Tryd.underlying26 (.int .u8 0) 1 info5p rfl (by decide) (by decide) (0 : Int) (ok := fun _ => True) (okp := fun _ => True) rfl (fun _ h => h) trivial (by decide) (by decide) (Below.refl _ _) (Nat.le_refl _) ?_
              intro v_ w1552 hO_ hb_ hg_ _
              clear hg_
              obtain ⟨r173, c_r173, rfl, hle_, hC_⟩ := row_formK (n := 16) hO_ List.length_replicate (by decide)
              have B1553 := Aside0.mk (below_step B1550.out hb_)
              have B1554 := Aside0.mk (below_step B1551.out hb_)
              have R1555 := Aside0.mk (show Kd.C (Kd.int .u8) w1552 (some ⟨r173, 0, none⟩) 16 (List.replicate 16 (0 : Int)) from hC_)
              have L1556 := Aside0.mk hle_
              clear hO_ hb_ hle_ hC_ B1550 B1551
              refine hK.out _ _ trivial (fun hHeld => ?_)
              clear hK K
              refine norm_ (a' := ?_) ?_ ?_
              rotate_left
              · show Act.put _ (some 173) _ = _
                simp only [Act.put, List.setIfInBounds_toArray, List.set_cons_zero, List.set_cons_succ, i64_w, i32_w]
                rfl
              refine two_ (i := 0) (j := 6) (Ni := some 172) (Nj := some 23) #[true, true, false, false, false, false, false, false, false] #[false, true, false, false, false, false, true, false, false] rfl rfl rfl rfl (by kernel_rfl) (by decide) (by decide) (fun K hK => ?_) (fun K hK => ?_)
              · skip
                refine goes_ Tryd.func56 (by kernel_rfl) rfl #[] (by rfl) rfl rfl (by simp only [List.map_toArray, List.map_cons, List.map_nil]) ?_
                with_reducible refine (Hhex.out w1552).mono ?_
                rintro e_ w1557 ⟨rfl, hb_⟩
                refine ⟨_, rfl, ?_⟩
                have B1558 := Aside0.mk (below_step B1553.out hb_)
                have B1559 := Aside0.mk (below_step B1554.out hb_)
                have B1560 := Aside0.mk (hb_)
                clear hb_ B1553 B1554
                refine hK.out _ _ trivial (fun hHeld => ?_)
                clear hK K
                refine norm_ (a' := ?_) ?_ ?_
                rotate_left
                · show Act.put _ (some 172) _ = _
                  simp only [Act.put, List.setIfInBounds_toArray, List.set_cons_zero, List.set_cons_succ, i64_w, i32_w]
                  rfl
                refine two_ (i := 2) (j := 6) (Ni := some 174) (Nj := some 23) #[true, true, true, false, false, false, false, false, false] #[true, true, false, false, false, false, true, false, false] rfl rfl rfl rfl (by kernel_rfl) (by decide) (by decide) (fun K hK => ?_) (fun K hK => ?_)
                · skip
                  refine goes_ Tryd.func52 (by kernel_rfl) rfl #[.agg #[.int .u8 1, .int .i64 3, .int .i64 512, .int .i64 16, .int .i64 16, .int .u8 0, .int .u8 0, .int .u8 0, .int .u8 0, .int .u8 0, .int .u8 0, .int .u8 0, .int .u8 0, .int .u8 0, .int .u8 0, .int .u8 0, .int .u8 0, .int .u8 0, .int .u8 0, .int .u8 0, .int .u8 0, .int .u8 0, .int .u8 0, .int .u8 0, .int .u8 0], .slice (some ⟨r173, 0, none⟩) 16 c_r173] (by rfl) rfl rfl (by simp only [List.map_toArray, List.map_cons, List.map_nil]; rfl) ?_
                  with_reducible refine (Hh22.out w1557 (some ⟨r173, 0, none⟩) c_r173 ⟨HhT.out.1.at B1558.out, HhT.out.2.at B1558.out⟩ (Kd.C_below R1555.out B1560.out)).mono ?_
                  rintro e_ w1561 ⟨rfl, hb_⟩
                  refine ⟨_, rfl, ?_⟩
                  have B1562 := Aside0.mk (below_step B1558.out hb_)
                  have B1563 := Aside0.mk (below_step B1559.out hb_)
                  have B1564 := Aside0.mk (below_step B1560.out hb_)
                  clear hb_ B1558 B1559 B1560
                  refine hK.out _ _ trivial (fun hHeld => ?_)
                  clear hK K
                  refine norm_ (a' := ?_) ?_ ?_
                  rotate_left
                  · show Act.put _ (some 174) _ = _
                    simp only [Act.put, List.setIfInBounds_toArray, List.set_cons_zero, List.set_cons_succ, i64_w, i32_w]
                    rfl
                  refine pure_ (i := 3) (N := some 171) (v := ?_) (a' := ?_) #[true, true, true, true, false, false, false, false, false] rfl rfl (by kernel_rfl) (fun _ _ _ h => h) (Or.inl ⟨by rfl, ?_⟩) ?_ ?_
                  rotate_left
                  · intro w'
                    go_simp
                    with_reducible rfl
                  rotate_left
                  · simp only [Act.put, List.setIfInBounds_toArray, List.set_cons_zero, List.set_cons_succ, i64_w, i32_w]
                    rfl
                  refine pure_ (i := 4) (N := some 175) (v := ?_) (a' := ?_) #[true, true, true, true, true, false, false, false, false] rfl rfl (by kernel_rfl) (fun _ _ _ h => h) (Or.inl ⟨by rfl, ?_⟩) ?_ ?_
                  rotate_left
                  · intro w'
                    go_simp
                    with_reducible rfl
                  rotate_left
                  · simp only [Act.put, List.setIfInBounds_toArray, List.set_cons_zero, List.set_cons_succ, i64_w, i32_w]
                    rfl
                  refine pure_ (i := 5) (N := some 176) (v := ?_) (a' := ?_) #[true, true, true, true, true, true, false, false, false] rfl rfl (by kernel_rfl) (fun _ _ _ h => h) (Or.inl ⟨by rfl, ?_⟩) ?_ ?_
                  rotate_left
                  · intro w'
                    go_simp
                    with_reducible rfl
                  rotate_left
                  · simp only [Act.put, List.setIfInBounds_toArray, List.set_cons_zero, List.set_cons_succ, i64_w, i32_w]
                    rfl
                  refine one_ (i := 6) (N := some 23) #[true, true, true, true, true, true, true, false, false] rfl rfl (by kernel_rfl) (by decide) (fun K hK => ?_)
                  refine value_ (w1 := World.alloc w1561 (.cells #[.int .u8 0, .int .i64 0, .int .i64 0, .int .i64 0, .int .i64 0, .int .u8 0, .int .u8 0, .int .u8 0, .int .u8 0, .int .u8 0, .int .u8 0, .int .u8 0, .int .u8 0, .int .u8 0, .int .u8 0, .int .u8 0, .int .u8 0, .int .u8 0, .int .u8 0, .int .u8 0, .int .u8 0, .int .u8 0, .int .u8 0, .int .u8 0, .int .u8 0] 25 (0, 0))) (v := .pointer (some ⟨w1561.heap.size, 0, none⟩)) (by rfl) rfl (by first | (go_simp; done) | (go_simp; rfl)) ?_
                  obtain ⟨gA22, w1565, hg_, hw_, hh_, hb_⟩ := new_blk w1561 #[.int .u8 0, .int .i64 0, .int .i64 0, .int .i64 0, .int .i64 0, .int .u8 0, .int .u8 0, .int .u8 0, .int .u8 0, .int .u8 0, .int .u8 0, .int .u8 0, .int .u8 0, .int .u8 0, .int .u8 0, .int .u8 0, .int .u8 0, .int .u8 0, .int .u8 0, .int .u8 0, .int .u8 0, .int .u8 0, .int .u8 0, .int .u8 0, .int .u8 0] 25
                  rw [← hg_, ← hw_]
                  have H1572 := Aside0.mk hh_
                  have G1566 : w.heap.size ≤ gA22 := Nat.le_trans B1562.out.size (Nat.le_of_eq hg_.symm)
                  have G1567 : wj1502.heap.size ≤ gA22 := Nat.le_trans B1563.out.size (Nat.le_of_eq hg_.symm)
                  have G1568 : w1552.heap.size ≤ gA22 := Nat.le_trans B1564.out.size (Nat.le_of_eq hg_.symm)
                  have B1569 := Aside0.mk (below_step B1562.out hb_)
                  have B1570 := Aside0.mk (below_step B1563.out hb_)
                  have B1571 := Aside0.mk (below_step B1564.out hb_)
                  clear hg_ hh_ hb_ B1562 B1563 B1564
                  clear hw_
                  refine hK.out _ _ trivial (fun hHeld => ?_)
                  clear hK K
                  refine norm_ (a' := ?_) ?_ ?_
                  rotate_left
                  · show Act.put _ (some 23) _ = _
                    simp only [Act.put, List.setIfInBounds_toArray, List.set_cons_zero, List.set_cons_succ, i64_w, i32_w]
                    rfl
                  exact norm_ (by simp only [putAll, Act.put, List.setIfInBounds_toArray, List.set_cons_zero, List.set_cons_succ]) (hCont (c_r173, gA22, r173) _ ⟨H1572.out, B1569.out, B1570.out, G1566, G1567, (Kd.C_below R1555.out B1571.out), L1556.out⟩)
                · skip
                  refine value_ (w1 := World.alloc w1557 (.cells #[.int .u8 0, .int .i64 0, .int .i64 0, .int .i64 0, .int .i64 0, .int .u8 0, .int .u8 0, .int .u8 0, .int .u8 0, .int .u8 0, .int .u8 0, .int .u8 0, .int .u8 0, .int .u8 0, .int .u8 0, .int .u8 0, .int .u8 0, .int .u8 0, .int .u8 0, .int .u8 0, .int .u8 0, .int .u8 0, .int .u8 0, .int .u8 0, .int .u8 0] 25 (0, 0))) (v := .pointer (some ⟨w1557.heap.size, 0, none⟩)) (by rfl) rfl (by first | (go_simp; done) | (go_simp; rfl)) ?_
                  obtain ⟨gA22, w1561, hg_, hw_, hh_, hb_⟩ := new_blk w1557 #[.int .u8 0, .int .i64 0, .int .i64 0, .int .i64 0, .int .i64 0, .int .u8 0, .int .u8 0, .int .u8 0, .int .u8 0, .int .u8 0, .int .u8 0, .int .u8 0, .int .u8 0, .int .u8 0, .int .u8 0, .int .u8 0, .int .u8 0, .int .u8 0, .int .u8 0, .int .u8 0, .int .u8 0, .int .u8 0, .int .u8 0, .int .u8 0, .int .u8 0] 25
                  rw [← hg_, ← hw_]
                  have H1568 := Aside0.mk hh_
                  have G1562 : w.heap.size ≤ gA22 := Nat.le_trans B1558.out.size (Nat.le_of_eq hg_.symm)
                  have G1563 : wj1502.heap.size ≤ gA22 := Nat.le_trans B1559.out.size (Nat.le_of_eq hg_.symm)
                  have G1564 : w1552.heap.size ≤ gA22 := Nat.le_trans B1560.out.size (Nat.le_of_eq hg_.symm)
                  have B1565 := Aside0.mk (below_step B1558.out hb_)
                  have B1566 := Aside0.mk (below_step B1559.out hb_)
                  have B1567 := Aside0.mk (below_step B1560.out hb_)
                  clear hg_ hh_ hb_ B1558 B1559 B1560
                  clear hw_
                  refine hK.out _ _ trivial (fun hHeld => ?_)
                  clear hK K
                  refine norm_ (a' := ?_) ?_ ?_
                  rotate_left
                  · show Act.put _ (some 23) _ = _
                    simp only [Act.put, List.setIfInBounds_toArray, List.set_cons_zero, List.set_cons_succ, i64_w, i32_w]
                    rfl
                  refine one_ (i := 2) (N := some 174) #[true, true, true, false, false, false, true, false, false] rfl rfl (by kernel_rfl) (by decide) (fun K hK => ?_)
                  refine goes_ Tryd.func52 (by kernel_rfl) rfl #[.agg #[.int .u8 1, .int .i64 3, .int .i64 512, .int .i64 16, .int .i64 16, .int .u8 0, .int .u8 0, .int .u8 0, .int .u8 0, .int .u8 0, .int .u8 0, .int .u8 0, .int .u8 0, .int .u8 0, .int .u8 0, .int .u8 0, .int .u8 0, .int .u8 0, .int .u8 0, .int .u8 0, .int .u8 0, .int .u8 0, .int .u8 0, .int .u8 0, .int .u8 0], .slice (some ⟨r173, 0, none⟩) 16 c_r173] (by rfl) rfl rfl (by simp only [List.map_toArray, List.map_cons, List.map_nil]; rfl) ?_
                  with_reducible refine (Hh22.out w1561 (some ⟨r173, 0, none⟩) c_r173 ⟨HhT.out.1.at B1565.out, HhT.out.2.at B1565.out⟩ (Kd.C_below R1555.out B1567.out)).mono ?_
                  rintro e_ w1569 ⟨rfl, hb_⟩
                  refine ⟨_, rfl, ?_⟩
                  have B1570 := Aside0.mk (below_step B1565.out hb_)
                  have B1571 := Aside0.mk (below_step B1566.out hb_)
                  have B1572 := Aside0.mk (below_step B1567.out hb_)
                  have H1573 := Aside0.mk (blk_below H1568.out hb_)
                  clear hb_ B1565 B1566 B1567 H1568
                  refine hK.out _ _ trivial (fun hHeld => ?_)
                  clear hK K
                  refine norm_ (a' := ?_) ?_ ?_
                  rotate_left
                  · show Act.put _ (some 174) _ = _
                    simp only [Act.put, List.setIfInBounds_toArray, List.set_cons_zero, List.set_cons_succ, i64_w, i32_w]
                    rfl
                  refine pure_ (i := 3) (N := some 171) (v := ?_) (a' := ?_) #[true, true, true, true, false, false, true, false, false] rfl rfl (by kernel_rfl) (fun _ _ _ h => h) (Or.inl ⟨by rfl, ?_⟩) ?_ ?_
                  rotate_left
                  · intro w'
                    go_simp
                    with_reducible rfl
                  rotate_left
                  · simp only [Act.put, List.setIfInBounds_toArray, List.set_cons_zero, List.set_cons_succ, i64_w, i32_w]
                    rfl
                  refine pure_ (i := 4) (N := some 175) (v := ?_) (a' := ?_) #[true, true, true, true, true, false, true, false, false] rfl rfl (by kernel_rfl) (fun _ _ _ h => h) (Or.inl ⟨by rfl, ?_⟩) ?_ ?_
                  rotate_left
                  · intro w'
                    go_simp
                    with_reducible rfl
                  rotate_left
                  · simp only [Act.put, List.setIfInBounds_toArray, List.set_cons_zero, List.set_cons_succ, i64_w, i32_w]
                    rfl
                  refine pure_ (i := 5) (N := some 176) (v := ?_) (a' := ?_) #[true, true, true, true, true, true, true, false, false] rfl rfl (by kernel_rfl) (fun _ _ _ h => h) (Or.inl ⟨by rfl, ?_⟩) ?_ ?_
                  rotate_left
                  · intro w'
                    go_simp
                    with_reducible rfl
                  rotate_left
                  · simp only [Act.put, List.setIfInBounds_toArray, List.set_cons_zero, List.set_cons_succ, i64_w, i32_w]
                    rfl
                  exact norm_ (by simp only [putAll, Act.put, List.setIfInBounds_toArray, List.set_cons_zero, List.set_cons_succ]) (hCont (c_r173, gA22, r173) _ ⟨H1573.out, B1570.out, B1571.out, G1562, G1563, (Kd.C_below R1555.out B1572.out), L1556.out⟩)
              · skip
                refine value_ (w1 := World.alloc w1552 (.cells #[.int .u8 0, .int .i64 0, .int .i64 0, .int .i64 0, .int .i64 0, .int .u8 0, .int .u8 0, .int .u8 0, .int .u8 0, .int .u8 0, .int .u8 0, .int .u8 0, .int .u8 0, .int .u8 0, .int .u8 0, .int .u8 0, .int .u8 0, .int .u8 0, .int .u8 0, .int .u8 0, .int .u8 0, .int .u8 0, .int .u8 0, .int .u8 0, .int .u8 0] 25 (0, 0))) (v := .pointer (some ⟨w1552.heap.size, 0, none⟩)) (by rfl) rfl (by first | (go_simp; done) | (go_simp; rfl)) ?_
                obtain ⟨gA22, w1557, hg_, hw_, hh_, hb_⟩ := new_blk w1552 #[.int .u8 0, .int .i64 0, .int .i64 0, .int .i64 0, .int .i64 0, .int .u8 0, .int .u8 0, .int .u8 0, .int .u8 0, .int .u8 0, .int .u8 0, .int .u8 0, .int .u8 0, .int .u8 0, .int .u8 0, .int .u8 0, .int .u8 0, .int .u8 0, .int .u8 0, .int .u8 0, .int .u8 0, .int .u8 0, .int .u8 0, .int .u8 0, .int .u8 0] 25
                rw [← hg_, ← hw_]
                have H1564 := Aside0.mk hh_
                have G1558 : w.heap.size ≤ gA22 := Nat.le_trans B1553.out.size (Nat.le_of_eq hg_.symm)
                have G1559 : wj1502.heap.size ≤ gA22 := Nat.le_trans B1554.out.size (Nat.le_of_eq hg_.symm)
                have G1560 : w1552.heap.size ≤ gA22 := Nat.le_of_eq hg_.symm
                have B1561 := Aside0.mk (below_step B1553.out hb_)
                have B1562 := Aside0.mk (below_step B1554.out hb_)
                have B1563 := Aside0.mk (hb_)
                clear hg_ hh_ hb_ B1553 B1554
                clear hw_
                refine hK.out _ _ trivial (fun hHeld => ?_)
                clear hK K
                refine norm_ (a' := ?_) ?_ ?_
                rotate_left
                · show Act.put _ (some 23) _ = _
                  simp only [Act.put, List.setIfInBounds_toArray, List.set_cons_zero, List.set_cons_succ, i64_w, i32_w]
                  rfl
                refine one_ (i := 0) (N := some 172) #[true, true, false, false, false, false, true, false, false] rfl rfl (by kernel_rfl) (by decide) (fun K hK => ?_)
                refine goes_ Tryd.func56 (by kernel_rfl) rfl #[] (by rfl) rfl rfl (by simp only [List.map_toArray, List.map_cons, List.map_nil]) ?_
                with_reducible refine (Hhex.out w1557).mono ?_
                rintro e_ w1565 ⟨rfl, hb_⟩
                refine ⟨_, rfl, ?_⟩
                have B1566 := Aside0.mk (below_step B1561.out hb_)
                have B1567 := Aside0.mk (below_step B1562.out hb_)
                have B1568 := Aside0.mk (below_step B1563.out hb_)
                have H1569 := Aside0.mk (blk_below H1564.out hb_)
                clear hb_ B1561 B1562 B1563 H1564
                refine hK.out _ _ trivial (fun hHeld => ?_)
                clear hK K
                refine norm_ (a' := ?_) ?_ ?_
                rotate_left
                · show Act.put _ (some 172) _ = _
                  simp only [Act.put, List.setIfInBounds_toArray, List.set_cons_zero, List.set_cons_succ, i64_w, i32_w]
                  rfl
                refine one_ (i := 2) (N := some 174) #[true, true, true, false, false, false, true, false, false] rfl rfl (by kernel_rfl) (by decide) (fun K hK => ?_)
                refine goes_ Tryd.func52 (by kernel_rfl) rfl #[.agg #[.int .u8 1, .int .i64 3, .int .i64 512, .int .i64 16, .int .i64 16, .int .u8 0, .int .u8 0, .int .u8 0, .int .u8 0, .int .u8 0, .int .u8 0, .int .u8 0, .int .u8 0, .int .u8 0, .int .u8 0, .int .u8 0, .int .u8 0, .int .u8 0, .int .u8 0, .int .u8 0, .int .u8 0, .int .u8 0, .int .u8 0, .int .u8 0, .int .u8 0], .slice (some ⟨r173, 0, none⟩) 16 c_r173] (by rfl) rfl rfl (by simp only [List.map_toArray, List.map_cons, List.map_nil]; rfl) ?_
                with_reducible refine (Hh22.out w1565 (some ⟨r173, 0, none⟩) c_r173 ⟨HhT.out.1.at B1566.out, HhT.out.2.at B1566.out⟩ (Kd.C_below R1555.out B1568.out)).mono ?_
                rintro e_ w1570 ⟨rfl, hb_⟩
                refine ⟨_, rfl, ?_⟩
                have B1571 := Aside0.mk (below_step B1566.out hb_)
                have B1572 := Aside0.mk (below_step B1567.out hb_)
                have B1573 := Aside0.mk (below_step B1568.out hb_)
                have H1574 := Aside0.mk (blk_below H1569.out hb_)
                clear hb_ B1566 B1567 B1568 H1569
                refine hK.out _ _ trivial (fun hHeld => ?_)
                clear hK K
                refine norm_ (a' := ?_) ?_ ?_
                rotate_left
                · show Act.put _ (some 174) _ = _
                  simp only [Act.put, List.setIfInBounds_toArray, List.set_cons_zero, List.set_cons_succ, i64_w, i32_w]
                  rfl
                refine pure_ (i := 3) (N := some 171) (v := ?_) (a' := ?_) #[true, true, true, true, false, false, true, false, false] rfl rfl (by kernel_rfl) (fun _ _ _ h => h) (Or.inl ⟨by rfl, ?_⟩) ?_ ?_
                rotate_left
                · intro w'
                  go_simp
                  with_reducible rfl
                rotate_left
                · simp only [Act.put, List.setIfInBounds_toArray, List.set_cons_zero, List.set_cons_succ, i64_w, i32_w]
                  rfl
                refine pure_ (i := 4) (N := some 175) (v := ?_) (a' := ?_) #[true, true, true, true, true, false, true, false, false] rfl rfl (by kernel_rfl) (fun _ _ _ h => h) (Or.inl ⟨by rfl, ?_⟩) ?_ ?_
                rotate_left
                · intro w'
                  go_simp
                  with_reducible rfl
                rotate_left
                · simp only [Act.put, List.setIfInBounds_toArray, List.set_cons_zero, List.set_cons_succ, i64_w, i32_w]
                  rfl
                refine pure_ (i := 5) (N := some 176) (v := ?_) (a' := ?_) #[true, true, true, true, true, true, true, false, false] rfl rfl (by kernel_rfl) (fun _ _ _ h => h) (Or.inl ⟨by rfl, ?_⟩) ?_ ?_
                rotate_left
                · intro w'
                  go_simp
                  with_reducible rfl
                rotate_left
                · simp only [Act.put, List.setIfInBounds_toArray, List.set_cons_zero, List.set_cons_succ, i64_w, i32_w]
                  rfl
                exact norm_ (by simp only [putAll, Act.put, List.setIfInBounds_toArray, List.set_cons_zero, List.set_cons_succ]) (hCont (c_r173, gA22, r173) _ ⟨H1574.out, B1571.out, B1572.out, G1558, G1559, (Kd.C_below R1555.out B1573.out), L1556.out⟩)
            · skip
              refine value_ (w1 := World.alloc w1549 (.cells #[.int .u8 0, .int .i64 0, .int .i64 0, .int .i64 0, .int .i64 0, .int .u8 0, .int .u8 0, .int .u8 0, .int .u8 0, .int .u8 0, .int .u8 0, .int .u8 0, .int .u8 0, .int .u8 0, .int .u8 0, .int .u8 0, .int .u8 0, .int .u8 0, .int .u8 0, .int .u8 0, .int .u8 0, .int .u8 0, .int .u8 0, .int .u8 0, .int .u8 0] 25 (0, 0))) (v := .pointer (some ⟨w1549.heap.size, 0, none⟩)) (by rfl) rfl (by first | (go_simp; done) | (go_simp; rfl)) ?_
              obtain ⟨gA22, w1552, hg_, hw_, hh_, hb_⟩ := new_blk w1549 #[.int .u8 0, .int .i64 0, .int .i64 0, .int .i64 0, .int .i64 0, .int .u8 0, .int .u8 0, .int .u8 0, .int .u8 0, .int .u8 0, .int .u8 0, .int .u8 0, .int .u8 0, .int .u8 0, .int .u8 0, .int .u8 0, .int .u8 0, .int .u8 0, .int .u8 0, .int .u8 0, .int .u8 0, .int .u8 0, .int .u8 0, .int .u8 0, .int .u8 0] 25
              rw [← hg_, ← hw_]
              have H1557 := Aside0.mk hh_
              have G1553 : w.heap.size ≤ gA22 := Nat.le_trans B1550.out.size (Nat.le_of_eq hg_.symm)
              have G1554 : wj1502.heap.size ≤ gA22 := Nat.le_trans B1551.out.size (Nat.le_of_eq hg_.symm)
              have B1555 := Aside0.mk (below_step B1550.out hb_)
              have B1556 := Aside0.mk (below_step B1551.out hb_)
              clear hg_ hh_ hb_ B1550 B1551
              clear hw_
              refine hK.out _ _ trivial (fun hHeld => ?_)
              clear hK K
              refine norm_ (a' := ?_) ?_ ?_
              rotate_left
              · show Act.put _ (some 23) _ = _
                simp only [Act.put, List.setIfInBounds_toArray, List.set_cons_zero, List.set_cons_succ, i64_w, i32_w]
                rfl
              refine two_ (i := 0) (j := 1) (Ni := some 172) (Nj := some 173) #[true, false, false, false, false, false, true, false, false] #[false, true, false, false, false, false, true, false, false] rfl rfl rfl rfl (by kernel_rfl) (by decide) (by decide) (fun K hK => ?_) (fun K hK => ?_)
              · skip
                refine goes_ Tryd.func56 (by kernel_rfl) rfl #[] (by rfl) rfl rfl (by simp only [List.map_toArray, List.map_cons, List.map_nil]) ?_
                with_reducible refine (Hhex.out w1552).mono ?_
                rintro e_ w1558 ⟨rfl, hb_⟩
                refine ⟨_, rfl, ?_⟩
                have B1559 := Aside0.mk (below_step B1555.out hb_)
                have B1560 := Aside0.mk (below_step B1556.out hb_)
                have H1561 := Aside0.mk (blk_below H1557.out hb_)
                clear hb_ B1555 B1556 H1557
                refine hK.out _ _ trivial (fun hHeld => ?_)
                clear hK K
                refine norm_ (a' := ?_) ?_ ?_
                rotate_left
                · show Act.put _ (some 172) _ = _
                  simp only [Act.put, List.setIfInBounds_toArray, List.set_cons_zero, List.set_cons_succ, i64_w, i32_w]
                  rfl
                refine one_ (i := 1) (N := some 173) #[true, true, false, false, false, false, true, false, false] rfl rfl (by kernel_rfl) (by decide) (fun K hK => ?_)
                refine Kd.R_make_step (Kd.int .u8) (w0 := w1558) _ 5 (by rfl) (N := 173) rfl 26 _ _ rfl 16 rfl rfl Tryd.underlying26 (.int .u8 0) 1 info5p rfl (by decide) (by decide) (0 : Int) (ok := fun _ => True) (okp := fun _ => True) rfl (fun _ h => h) trivial (by decide) (by decide) (Below.refl _ _) (Nat.le_refl _) ?_
                intro v_ w1562 hO_ hb_ hg_ _
                clear hg_
                obtain ⟨r173, c_r173, rfl, hle_, hC_⟩ := row_formK (n := 16) hO_ List.length_replicate (by decide)
                have B1563 := Aside0.mk (below_step B1559.out hb_)
                have B1564 := Aside0.mk (below_step B1560.out hb_)
                have H1565 := Aside0.mk (blk_below H1561.out hb_)
                have R1566 := Aside0.mk (show Kd.C (Kd.int .u8) w1562 (some ⟨r173, 0, none⟩) 16 (List.replicate 16 (0 : Int)) from hC_)
                have L1567 := Aside0.mk hle_
                clear hO_ hb_ hle_ hC_ B1559 B1560 H1561
                refine hK.out _ _ trivial (fun hHeld => ?_)
                clear hK K
                refine norm_ (a' := ?_) ?_ ?_
                rotate_left
                · show Act.put _ (some 173) _ = _
                  simp only [Act.put, List.setIfInBounds_toArray, List.set_cons_zero, List.set_cons_succ, i64_w, i32_w]
                  rfl
                refine one_ (i := 2) (N := some 174) #[true, true, true, false, false, false, true, false, false] rfl rfl (by kernel_rfl) (by decide) (fun K hK => ?_)
                refine goes_ Tryd.func52 (by kernel_rfl) rfl #[.agg #[.int .u8 1, .int .i64 3, .int .i64 512, .int .i64 16, .int .i64 16, .int .u8 0, .int .u8 0, .int .u8 0, .int .u8 0, .int .u8 0, .int .u8 0, .int .u8 0, .int .u8 0, .int .u8 0, .int .u8 0, .int .u8 0, .int .u8 0, .int .u8 0, .int .u8 0, .int .u8 0, .int .u8 0, .int .u8 0, .int .u8 0, .int .u8 0, .int .u8 0], .slice (some ⟨r173, 0, none⟩) 16 c_r173] (by rfl) rfl rfl (by simp only [List.map_toArray, List.map_cons, List.map_nil]; rfl) ?_
                with_reducible refine (Hh22.out w1562 (some ⟨r173, 0, none⟩) c_r173 ⟨HhT.out.1.at B1563.out, HhT.out.2.at B1563.out⟩ (Kd.C_below R1566.out (Below.refl _ _))).mono ?_
                rintro e_ w1568 ⟨rfl, hb_⟩
                refine ⟨_, rfl, ?_⟩
                have B1569 := Aside0.mk (below_step B1563.out hb_)
                have B1570 := Aside0.mk (below_step B1564.out hb_)
                have B1571 := Aside0.mk (hb_)
                have H1572 := Aside0.mk (blk_below H1565.out hb_)
                clear hb_ B1563 B1564 H1565
                refine hK.out _ _ trivial (fun hHeld => ?_)
                clear hK K
                refine norm_ (a' := ?_) ?_ ?_
                rotate_left
                · show Act.put _ (some 174) _ = _
                  simp only [Act.put, List.setIfInBounds_toArray, List.set_cons_zero, List.set_cons_succ, i64_w, i32_w]
                  rfl
                refine pure_ (i := 3) (N := some 171) (v := ?_) (a' := ?_) #[true, true, true, true, false, false, true, false, false] rfl rfl (by kernel_rfl) (fun _ _ _ h => h) (Or.inl ⟨by rfl, ?_⟩) ?_ ?_
                rotate_left
                · intro w'
                  go_simp
                  with_reducible rfl
                rotate_left
                · simp only [Act.put, List.setIfInBounds_toArray, List.set_cons_zero, List.set_cons_succ, i64_w, i32_w]
                  rfl
                refine pure_ (i := 4) (N := some 175) (v := ?_) (a' := ?_) #[true, true, true, true, true, false, true, false, false] rfl rfl (by kernel_rfl) (fun _ _ _ h => h) (Or.inl ⟨by rfl, ?_⟩) ?_ ?_
                rotate_left
                · intro w'
                  go_simp
                  with_reducible rfl
                rotate_left
                · simp only [Act.put, List.setIfInBounds_toArray, List.set_cons_zero, List.set_cons_succ, i64_w, i32_w]
                  rfl
                refine pure_ (i := 5) (N := some 176) (v := ?_) (a' := ?_) #[true, true, true, true, true, true, true, false, false] rfl rfl (by kernel_rfl) (fun _ _ _ h => h) (Or.inl ⟨by rfl, ?_⟩) ?_ ?_
                rotate_left
                · intro w'
                  go_simp
                  with_reducible rfl
                rotate_left
                · simp only [Act.put, List.setIfInBounds_toArray, List.set_cons_zero, List.set_cons_succ, i64_w, i32_w]
                  rfl
                exact norm_ (by simp only [putAll, Act.put, List.setIfInBounds_toArray, List.set_cons_zero, List.set_cons_succ]) (hCont (c_r173, gA22, r173) _ ⟨H1572.out, B1569.out, B1570.out, G1553, G1554, (Kd.C_below R1566.out B1571.out), L1567.out⟩)
              · skip
                refine Kd.R_make_step (Kd.int .u8) (w0 := w1552) _ 5 (by rfl) (N := 173) rfl 26 _ _ rfl 16 rfl rfl Tryd.underlying26 (.int .u8 0) 1 info5p rfl (by decide) (by decide) (0 : Int) (ok := fun _ => True) (okp := fun _ => True) rfl (fun _ h => h) trivial (by decide) (by decide) (Below.refl _ _) (Nat.le_refl _) ?_
                intro v_ w1558 hO_ hb_ hg_ _
                clear hg_
                obtain ⟨r173, c_r173, rfl, hle_, hC_⟩ := row_formK (n := 16) hO_ List.length_replicate (by decide)
                have B1559 := Aside0.mk (below_step B1555.out hb_)
                have B1560 := Aside0.mk (below_step B1556.out hb_)
                have H1561 := Aside0.mk (blk_below H1557.out hb_)
                have R1562 := Aside0.mk (show Kd.C (Kd.int .u8) w1558 (some ⟨r173, 0, none⟩) 16 (List.replicate 16 (0 : Int)) from hC_)
                have L1563 := Aside0.mk hle_
                clear hO_ hb_ hle_ hC_ B1555 B1556 H1557
                refine hK.out _ _ trivial (fun hHeld => ?_)
                clear hK K
                refine norm_ (a' := ?_) ?_ ?_
                rotate_left
                · show Act.put _ (some 173) _ = _
                  simp only [Act.put, List.setIfInBounds_toArray, List.set_cons_zero, List.set_cons_succ, i64_w, i32_w]
                  rfl
                refine one_ (i := 0) (N := some 172) #[true, true, false, false, false, false, true, false, false] rfl rfl (by kernel_rfl) (by decide) (fun K hK => ?_)
                refine goes_ Tryd.func56 (by kernel_rfl) rfl #[] (by rfl) rfl rfl (by simp only [List.map_toArray, List.map_cons, List.map_nil]) ?_
                with_reducible refine (Hhex.out w1558).mono ?_
                rintro e_ w1564 ⟨rfl, hb_⟩
                refine ⟨_, rfl, ?_⟩
                have B1565 := Aside0.mk (below_step B1559.out hb_)
                have B1566 := Aside0.mk (below_step B1560.out hb_)
                have B1567 := Aside0.mk (hb_)
                have H1568 := Aside0.mk (blk_below H1561.out hb_)
                clear hb_ B1559 B1560 H1561
                refine hK.out _ _ trivial (fun hHeld => ?_)
                clear hK K
                refine norm_ (a' := ?_) ?_ ?_
                rotate_left
                · show Act.put _ (some 172) _ = _
                  simp only [Act.put, List.setIfInBounds_toArray, List.set_cons_zero, List.set_cons_succ, i64_w, i32_w]
                  rfl
                refine one_ (i := 2) (N := some 174) #[true, true, true, false, false, false, true, false, false] rfl rfl (by kernel_rfl) (by decide) (fun K hK => ?_)
                refine goes_ Tryd.func52 (by kernel_rfl) rfl #[.agg #[.int .u8 1, .int .i64 3, .int .i64 512, .int .i64 16, .int .i64 16, .int .u8 0, .int .u8 0, .int .u8 0, .int .u8 0, .int .u8 0, .int .u8 0, .int .u8 0, .int .u8 0, .int .u8 0, .int .u8 0, .int .u8 0, .int .u8 0, .int .u8 0, .int .u8 0, .int .u8 0, .int .u8 0, .int .u8 0, .int .u8 0, .int .u8 0, .int .u8 0], .slice (some ⟨r173, 0, none⟩) 16 c_r173] (by rfl) rfl rfl (by simp only [List.map_toArray, List.map_cons, List.map_nil]; rfl) ?_
                with_reducible refine (Hh22.out w1564 (some ⟨r173, 0, none⟩) c_r173 ⟨HhT.out.1.at B1565.out, HhT.out.2.at B1565.out⟩ (Kd.C_below R1562.out B1567.out)).mono ?_
                rintro e_ w1569 ⟨rfl, hb_⟩
                refine ⟨_, rfl, ?_⟩
                have B1570 := Aside0.mk (below_step B1565.out hb_)
                have B1571 := Aside0.mk (below_step B1566.out hb_)
                have B1572 := Aside0.mk (below_step B1567.out hb_)
                have H1573 := Aside0.mk (blk_below H1568.out hb_)
                clear hb_ B1565 B1566 B1567 H1568
                refine hK.out _ _ trivial (fun hHeld => ?_)
                clear hK K
                refine norm_ (a' := ?_) ?_ ?_
                rotate_left
                · show Act.put _ (some 174) _ = _
                  simp only [Act.put, List.setIfInBounds_toArray, List.set_cons_zero, List.set_cons_succ, i64_w, i32_w]
                  rfl
                refine pure_ (i := 3) (N := some 171) (v := ?_) (a' := ?_) #[true, true, true, true, false, false, true, false, false] rfl rfl (by kernel_rfl) (fun _ _ _ h => h) (Or.inl ⟨by rfl, ?_⟩) ?_ ?_
                rotate_left
                · intro w'
                  go_simp
                  with_reducible rfl
                rotate_left
                · simp only [Act.put, List.setIfInBounds_toArray, List.set_cons_zero, List.set_cons_succ, i64_w, i32_w]
                  rfl
                refine pure_ (i := 4) (N := some 175) (v := ?_) (a' := ?_) #[true, true, true, true, true, false, true, false, false] rfl rfl (by kernel_rfl) (fun _ _ _ h => h) (Or.inl ⟨by rfl, ?_⟩) ?_ ?_
                rotate_left
                · intro w'
                  go_simp
                  with_reducible rfl
                rotate_left
                · simp only [Act.put, List.setIfInBounds_toArray, List.set_cons_zero, List.set_cons_succ, i64_w, i32_w]
                  rfl
                refine pure_ (i := 5) (N := some 176) (v := ?_) (a' := ?_) #[true, true, true, true, true, true, true, false, false] rfl rfl (by kernel_rfl) (fun _ _ _ h => h) (Or.inl ⟨by rfl, ?_⟩) ?_ ?_
                rotate_left
                · intro w'
                  go_simp
                  with_reducible rfl
                rotate_left
                · simp only [Act.put, List.setIfInBounds_toArray, List.set_cons_zero, List.set_cons_succ, i64_w, i32_w]
                  rfl
                exact norm_ (by simp only [putAll, Act.put, List.setIfInBounds_toArray, List.set_cons_zero, List.set_cons_succ]) (hCont (c_r173, gA22, r173) _ ⟨H1573.out, B1570.out, B1571.out, G1553, G1554, (Kd.C_below R1562.out B1572.out), L1563.out⟩)
          rintro ⟨c_r173, gA22, r173⟩ wj1551 ⟨h0_, h1_, h2_, h3_, h4_, h5_, h6_⟩
          clear hHeld
          clear B1550 B1551
          have H1592 := Aside0.mk h0_
          have B1593 := Aside0.mk h1_
          have B1594 := Aside0.mk h2_
          have G1595 := h3_
          have G1596 := h4_
          have R1597 := Aside0.mk h5_
          have L1598 := Aside0.mk h6_
          clear h0_ h1_ h2_ h3_ h4_ h5_ h6_
          have hHeld := trivial
          refine norm_ (a' := ?_) ?_ ?_
          rotate_left
          · simp only [putAll, Act.put, List.setIfInBounds_toArray, List.set_cons_zero, List.set_cons_succ]
            rfl
          refine last_ (i := 7) (N := none) #[true, true, true, true, true, true, true, true, false] rfl rfl (by kernel_rfl) (by decide) (fun K hK => ?_)
          refine skip_ (w1 := World.setCells wj1551 gA22 0 [.int .u8 1, .int .i64 3, .int .i64 512, .int .i64 16, .int .i64 16, .int .u8 d0, .int .u8 d1, .int .u8 d2, .int .u8 d3, .int .u8 d4, .int .u8 d5, .int .u8 d6, .int .u8 d7, .int .u8 d8, .int .u8 d9, .int .u8 d10, .int .u8 d11, .int .u8 d12, .int .u8 d13, .int .u8 d14, .int .u8 d15, .int .u8 d16, .int .u8 d17, .int .u8 d18, .int .u8 d19]) (by rfl) rfl (by exact storeN_run (T := 25) (vs := [.int .u8 1, .int .i64 3, .int .i64 512, .int .i64 16, .int .i64 16, .int .u8 d0, .int .u8 d1, .int .u8 d2, .int .u8 d3, .int .u8 d4, .int .u8 d5, .int .u8 d6, .int .u8 d7, .int .u8 d8, .int .u8 d9, .int .u8 d10, .int .u8 d11, .int .u8 d12, .int .u8 d13, .int .u8 d14, .int .u8 d15, .int .u8 d16, .int .u8 d17, .int .u8 d18, .int .u8 d19]) rfl rfl rfl (storeVar_blk H1592.out 25 0 [.int .u8 1, .int .i64 3, .int .i64 512, .int .i64 16, .int .i64 16, .int .u8 d0, .int .u8 d1, .int .u8 d2, .int .u8 d3, .int .u8 d4, .int .u8 d5, .int .u8 d6, .int .u8 d7, .int .u8 d8, .int .u8 d9, .int .u8 d10, .int .u8 d11, .int .u8 d12, .int .u8 d13, .int .u8 d14, .int .u8 d15, .int .u8 d16, .int .u8 d17, .int .u8 d18, .int .u8 d19] (by kernel_rfl) rfl (by simp))) ?_
          have H1600 := Aside0.mk (show (World.setCells wj1551 gA22 0 [.int .u8 1, .int .i64 3, .int .i64 512, .int .i64 16, .int .i64 16, .int .u8 d0, .int .u8 d1, .int .u8 d2, .int .u8 d3, .int .u8 d4, .int .u8 d5, .int .u8 d6, .int .u8 d7, .int .u8 d8, .int .u8 d9, .int .u8 d10, .int .u8 d11, .int .u8 d12, .int .u8 d13, .int .u8 d14, .int .u8 d15, .int .u8 d16, .int .u8 d17, .int .u8 d18, .int .u8 d19]).heap[gA22]? = some (.cells #[.int .u8 1, .int .i64 3, .int .i64 512, .int .i64 16, .int .i64 16, .int .u8 d0, .int .u8 d1, .int .u8 d2, .int .u8 d3, .int .u8 d4, .int .u8 d5, .int .u8 d6, .int .u8 d7, .int .u8 d8, .int .u8 d9, .int .u8 d10, .int .u8 d11, .int .u8 d12, .int .u8 d13, .int .u8 d14, .int .u8 d15, .int .u8 d16, .int .u8 d17, .int .u8 d18, .int .u8 d19] 25 (0, 0)) from blk_setCells [] [.int .u8 1, .int .i64 3, .int .i64 512, .int .i64 16, .int .i64 16, .int .u8 d0, .int .u8 d1, .int .u8 d2, .int .u8 d3, .int .u8 d4, .int .u8 d5, .int .u8 d6, .int .u8 d7, .int .u8 d8, .int .u8 d9, .int .u8 d10, .int .u8 d11, .int .u8 d12, .int .u8 d13, .int .u8 d14, .int .u8 d15, .int .u8 d16, .int .u8 d17, .int .u8 d18, .int .u8 d19] [.int .u8 0, .int .i64 0, .int .i64 0, .int .i64 0, .int .i64 0, .int .u8 0, .int .u8 0, .int .u8 0, .int .u8 0, .int .u8 0, .int .u8 0, .int .u8 0, .int .u8 0, .int .u8 0, .int .u8 0, .int .u8 0, .int .u8 0, .int .u8 0, .int .u8 0, .int .u8 0, .int .u8 0, .int .u8 0, .int .u8 0, .int .u8 0, .int .u8 0] [] wj1551 rfl H1592.out)
          have B1601 := Aside0.mk (below_setCells G1595 [.int .u8 1, .int .i64 3, .int .i64 512, .int .i64 16, .int .i64 16, .int .u8 d0, .int .u8 d1, .int .u8 d2, .int .u8 d3, .int .u8 d4, .int .u8 d5, .int .u8 d6, .int .u8 d7, .int .u8 d8, .int .u8 d9, .int .u8 d10, .int .u8 d11, .int .u8 d12, .int .u8 d13, .int .u8 d14, .int .u8 d15, .int .u8 d16, .int .u8 d17, .int .u8 d18, .int .u8 d19] 0 wj1551 B1593.out)
          have B1602 := Aside0.mk (below_setCells G1596 [.int .u8 1, .int .i64 3, .int .i64 512, .int .i64 16, .int .i64 16, .int .u8 d0, .int .u8 d1, .int .u8 d2, .int .u8 d3, .int .u8 d4, .int .u8 d5, .int .u8 d6, .int .u8 d7, .int .u8 d8, .int .u8 d9, .int .u8 d10, .int .u8 d11, .int .u8 d12, .int .u8 d13, .int .u8 d14, .int .u8 d15, .int .u8 d16, .int .u8 d17, .int .u8 d18, .int .u8 d19] 0 wj1551 B1594.out)
          clear H1592 B1593 B1594
          generalize World.setCells wj1551 gA22 0 [.int .u8 1, .int .i64 3, .int .i64 512, .int .i64 16, .int .i64 16, .int .u8 d0, .int .u8 d1, .int .u8 d2, .int .u8 d3, .int .u8 d4, .int .u8 d5, .int .u8 d6, .int .u8 d7, .int .u8 d8, .int .u8 d9, .int .u8 d10, .int .u8 d11, .int .u8 d12, .int .u8 d13, .int .u8 d14, .int .u8 d15, .int .u8 d16, .int .u8 d17, .int .u8 d18, .int .u8 d19] = w1599 at H1600 B1601 B1602 ⊢
          refine hK.out _ _ ?_
          clear hK K
          refine pure_ (i := 8) (N := some 24) (v := ?_) (a' := ?_) #[true, true, true, true, true, true, true, true, true] rfl rfl (by kernel_rfl) (fun _ _ _ h => h) (Or.inl ⟨by rfl, ?_⟩) ?_ ?_
          rotate_left
          · intro w'
            go_simp
            with_reducible rfl
          rotate_left
          · simp only [Act.put, List.setIfInBounds_toArray, List.set_cons_zero, List.set_cons_succ, i64_w, i32_w]
            rfl
          refine done_ (by kernel_rfl) ?_
          go_wp2_with fail
          have H1604 := Aside0.mk (blk_drew H1600.out)
          have B1605 := Aside0.mk (below_drew B1601.out)
          have B1606 := Aside0.mk (below_drew B1602.out)
          clear H1600 B1601 B1602
          refine start_ (n := 8) (S := fun w' => (loadVar 25 ⟨gA22, 0, none⟩).run Tryd.prog w' = .ok (.agg #[.int .u8 1, .int .i64 3, .int .i64 512, .int .i64 16, .int .i64 16, .int .u8 d0, .int .u8 d1, .int .u8 d2, .int .u8 d3, .int .u8 d4, .int .u8 d5, .int .u8 d6, .int .u8 d7, .int .u8 d8, .int .u8 d9, .int .u8 d10, .int .u8 d11, .int .u8 d12, .int .u8 d13, .int .u8 d14, .int .u8 d15, .int .u8 d16, .int .u8 d17, .int .u8 d18, .int .u8 d19]) w') (ds := []) #[false, false, false, false, false, false, false, false] (by kernel_rfl) rfl rfl ((run_loadVar_row _ _ _ _ _ (0, 0) _ H1604.out Tryd.underlying25 rfl (by kernel_rfl))) (fun hHeld => ?_)
          generalize World.drew w1599 = w1603 at H1604 B1605 B1606 hHeld ⊢
          refine take_ (i := 0) (N := some 178) (v := ?_) (a' := ?_) #[true, false, false, false, false, false, false, false] rfl rfl (by kernel_rfl) (fun _ _ _ h => h) (Or.inl ⟨by rfl, ?_⟩) hHeld ?_ ?_
          rotate_left
          · intro w' s0
            refine (loadN_run (T := 25) rfl rfl s0).trans ?_
            with_reducible rfl
          rotate_left
          · simp only [Act.put, List.setIfInBounds_toArray, List.set_cons_zero, List.set_cons_succ, i64_w, i32_w]
            rfl
          refine one_ (i := 1) (N := some 179) #[true, true, false, false, false, false, false, false] rfl rfl (by kernel_rfl) (by decide) (fun K hK => ?_)
          refine Kd.R_make_step (Kd.int .u8) (w0 := w1603) _ 5 (by rfl) (N := 179) rfl 26 _ _ rfl 16 rfl rfl Tryd.underlying26 (.int .u8 0) 1 info5p rfl (by decide) (by decide) (0 : Int) (ok := fun _ => True) (okp := fun _ => True) rfl (fun _ h => h) trivial (by decide) (by decide) (Below.refl _ _) (Nat.le_refl _) ?_
          intro v_ w1607 hO_ hb_ hg_ _
          clear hg_
          obtain ⟨r179, c_r179, rfl, hle_, hC_⟩ := row_formK (n := 16) hO_ List.length_replicate (by decide)
          have B1608 := Aside0.mk (below_step B1605.out hb_)
          have B1609 := Aside0.mk (below_step B1606.out hb_)
          have H1610 := Aside0.mk (blk_below H1604.out hb_)
          have R1611 := Aside0.mk (show Kd.C (Kd.int .u8) w1607 (some ⟨r179, 0, none⟩) 16 (List.replicate 16 (0 : Int)) from hC_)
          have L1612 := Aside0.mk hle_
          clear hO_ hb_ hle_ hC_ B1605 B1606 H1604
          refine hK.out _ _ ((run_loadVar_row _ _ _ _ _ (0, 0) _ H1610.out Tryd.underlying25 rfl (by kernel_rfl))) (fun hHeld => ?_)
          clear hK K
          refine norm_ (a' := ?_) ?_ ?_
          rotate_left
          · show Act.put _ (some 179) _ = _
            simp only [Act.put, List.setIfInBounds_toArray, List.set_cons_zero, List.set_cons_succ, i64_w, i32_w]
            rfl
          refine one_ (i := 2) (N := some 180) #[true, true, true, false, false, false, false, false] rfl rfl (by kernel_rfl) (by decide) (fun K hK => ?_)
          refine goes_ Tryd.func54 (by kernel_rfl) rfl #[.agg #[.int .u8 1, .int .i64 3, .int .i64 512, .int .i64 16, .int .i64 16, .int .u8 d0, .int .u8 d1, .int .u8 d2, .int .u8 d3, .int .u8 d4, .int .u8 d5, .int .u8 d6, .int .u8 d7, .int .u8 d8, .int .u8 d9, .int .u8 d10, .int .u8 d11, .int .u8 d12, .int .u8 d13, .int .u8 d14, .int .u8 d15, .int .u8 d16, .int .u8 d17, .int .u8 d18, .int .u8 d19], .slice (some ⟨r179, 0, none⟩) 16 c_r179] (by rfl) rfl rfl (by simp only [List.map_toArray, List.map_cons, List.map_nil]; rfl) ?_
          with_reducible refine (Hh23.out w1607 (some ⟨r179, 0, none⟩) c_r179 ⟨HhT.out.1.at B1608.out, HhT.out.2.at B1608.out⟩ (Kd.C_below R1611.out (Below.refl _ _))).mono ?_
          rintro e_ w1613 ⟨rfl, hb_⟩
          refine ⟨_, rfl, ?_⟩
          have B1614 := Aside0.mk (below_step B1608.out hb_)
          have B1615 := Aside0.mk (below_step B1609.out hb_)
          have B1616 := Aside0.mk (hb_)
          have H1617 := Aside0.mk (blk_below H1610.out hb_)
          clear hb_ B1608 B1609 H1610
          refine hK.out _ _ ((run_loadVar_row _ _ _ _ _ (0, 0) _ H1617.out Tryd.underlying25 rfl (by kernel_rfl))) (fun hHeld => ?_)
          clear hK K
          refine norm_ (a' := ?_) ?_ ?_
          rotate_left
          · show Act.put _ (some 180) _ = _
            simp only [Act.put, List.setIfInBounds_toArray, List.set_cons_zero, List.set_cons_succ, i64_w, i32_w]
            rfl
          refine pure_ (i := 3) (N := some 177) (v := ?_) (a' := ?_) #[true, true, true, true, false, false, false, false] rfl rfl (by kernel_rfl) (fun _ _ _ h => h) (Or.inl ⟨by rfl, ?_⟩) ?_ ?_
          rotate_left
          · intro w'
            go_simp
            with_reducible rfl
          rotate_left
          · simp only [Act.put, List.setIfInBounds_toArray, List.set_cons_zero, List.set_cons_succ, i64_w, i32_w]
            rfl
          refine pure_ (i := 4) (N := some 181) (v := ?_) (a' := ?_) #[true, true, true, true, true, false, false, false] rfl rfl (by kernel_rfl) (fun _ _ _ h => h) (Or.inl ⟨by rfl, ?_⟩) ?_ ?_
          rotate_left
          · intro w'
            go_simp
            with_reducible rfl
          rotate_left
          · simp only [Act.put, List.setIfInBounds_toArray, List.set_cons_zero, List.set_cons_succ, i64_w, i32_w]
            rfl
          refine pure_ (i := 5) (N := some 182) (v := ?_) (a' := ?_) #[true, true, true, true, true, true, false, false] rfl rfl (by kernel_rfl) (fun _ _ _ h => h) (Or.inl ⟨by rfl, ?_⟩) ?_ ?_
          rotate_left
          · intro w'
            go_simp
            with_reducible rfl
          rotate_left
          · simp only [Act.put, List.setIfInBounds_toArray, List.set_cons_zero, List.set_cons_succ, i64_w, i32_w]
            rfl
          refine pure_ (i := 6) (N := some 25) (v := ?_) (a' := ?_) #[true, true, true, true, true, true, true, false] rfl rfl (by kernel_rfl) (fun _ _ _ h => h) (Or.inl ⟨by rfl, ?_⟩) ?_ ?_
          rotate_left
          · intro w'
            go_simp
            with_reducible rfl
          rotate_left
          · simp only [Act.put, List.setIfInBounds_toArray, List.set_cons_zero, List.set_cons_succ, i64_w, i32_w]
            rfl
          refine pure_ (i := 7) (N := some 26) (v := ?_) (a' := ?_) #[true, true, true, true, true, true, true, true] rfl rfl (by kernel_rfl) (fun _ _ _ h => h) (Or.inl ⟨by rfl, ?_⟩) ?_ ?_
          rotate_left
          · intro w'
            go_simp
            with_reducible rfl
          rotate_left
          · simp only [Act.put, List.setIfInBounds_toArray, List.set_cons_zero, List.set_cons_succ, i64_w, i32_w]
            rfl
          refine done_ (by kernel_rfl) ?_
          clear hHeld
          go_wp2_with (first | ((with_reducible refine gate_dst (N := 184) rfl ?_); refine loadG_event (T := 25) (by rfl) rfl rfl (run_loadVar_row _ _ _ _ _ (0, 0) _ H1617.out Tryd.underlying25 rfl (by kernel_rfl)) ?_) | ((with_reducible refine gate_dst (N := 185) rfl ?_); refine lit_event ?hg (N := 185) ?hd (cs := #[.int .u8 0, .int .u8 0, .int .u8 0, .int .u8 0, .int .u8 0, .int .u8 0, .int .u8 0, .int .u8 0, .int .u8 0, .int .u8 0, .int .u8 0, .int .u8 0, .int .u8 0, .int .u8 0, .int .u8 0, .int .u8 1]) (t := 5) (n := 16) ?hr ?_; (case hd => rfl); (case hg => rfl); (case hr => first | (go_simp; done) | (go_simp; rfl)); intro g1618 hgg1618 w1619 hhg1618 hbg1618; have H1628 := Aside0.mk hhg1618; have N1620 : gA22 ≠ g1618 := Nat.ne_of_lt (Nat.lt_of_lt_of_eq (blk_lt H1617.out) hgg1618.symm); have G1621 : w.heap.size ≤ g1618 := Nat.le_trans B1614.out.size (Nat.le_of_eq hgg1618.symm); have G1622 : wj1502.heap.size ≤ g1618 := Nat.le_trans B1615.out.size (Nat.le_of_eq hgg1618.symm); have G1623 : w1607.heap.size ≤ g1618 := Nat.le_trans B1616.out.size (Nat.le_of_eq hgg1618.symm); have B1624 := Aside0.mk (below_step B1614.out hbg1618); have B1625 := Aside0.mk (below_step B1615.out hbg1618); have B1626 := Aside0.mk (below_step B1616.out hbg1618); have H1627 := Aside0.mk (blk_below H1617.out hbg1618); clear hgg1618 hhg1618 hbg1618 B1614 B1615 B1616 H1617))
          refine (Hh24.out w1619 (some ⟨g1618, 0, none⟩) 16 ⟨HhT.out.1.at B1624.out, HhT.out.2.at B1624.out⟩ (bytes_mk' (l := [0, 0, 0, 0, 0, 0, 0, 0, 0, 0, 0, 0, 0, 0, 0, 1]) H1628.out (by decide))).mono ?_
          rintro e w1629 ⟨rfl, hb_⟩
          have B1630 := Aside0.mk (below_step B1624.out hb_)
          have B1631 := Aside0.mk (below_step B1625.out hb_)
          have B1632 := Aside0.mk (below_step B1626.out hb_)
          have H1633 := Aside0.mk (blk_below H1627.out hb_)
          have H1634 := Aside0.mk (blk_below H1628.out hb_)
          clear hb_ B1624 B1625 B1626 H1627 H1628
          go_wp2_with (first | ((with_reducible refine gate_dst (N := 190) rfl ?_); refine Kd.R_lit (Kd.int .u8) (w0 := w1629) _ 5 ?hg (N := 190) ?hd (xs := ([1, 3, 2, 0, 0, 16, 0, 16] : List Int)) (inner := [.int .u8 1, .int .u8 3, .int .u8 2, .int .u8 0, .int .u8 0, .int .u8 16, .int .u8 0, .int .u8 16]) (ok := fun _ => True) (okp := fun _ => True) ?hr ?hp (fun _ hk => hk) trivial (Below.refl _ _) (Nat.le_refl _) (by simp) ?_; (case hd => rfl); (case hg => rfl); (case hr => first | (go_simp; done) | (go_simp; rfl)); (case hp => exact reps_ints .u8 [1, 3, 2, 0, 0, 16, 0, 16]); intro vc1 wc1 ho hb hg _; have HO1 := Aside0.mk ho; have HB1 := Aside0.mk hb; clear ho hb hg) | ((with_reducible refine gate_dst (N := 191) rfl ?_); refine Kd.R_append_zeros (Kd.int .u8) (w0 := w1629) w1629.heap.size rfl (.tmp 190) (.const (.int .i64 16)) 26 3 5 (.int .u8 0) 1 rfl Tryd.underlying26 Tryd.underlying3 info5p rfl (by decide) (by omega) _ [1, 3, 2, 0, 0, 16, 0, 16] 0 16 (fun _ => True) rfl rfl rfl (fun _ _ => trivial) HO1.out (by decide) HB1.out (below_size HB1.out) (by simp) ?_; intro vc2 wc2 ho hb hg hat; have HO2 := Aside0.mk ho; have HB2 := Aside0.mk hb; clear ho hb hg hat HO1 HB1))
          have B1635 := Aside0.mk (below_step B1630.out HB2.out)
          have B1636 := Aside0.mk (below_step B1631.out HB2.out)
          have B1637 := Aside0.mk (below_step B1632.out HB2.out)
          have H1638 := Aside0.mk (blk_below H1633.out HB2.out)
          clear B1630 B1631 B1632 H1633
          have HSZ1638 := Aside0.mk (below_size HB2.out)
          obtain ⟨rs, cs, rfl, hle_, hC_⟩ := Kd.R_reads HO2.out
          have RS := Aside0.mk hC_
          have LS := Aside0.mk hle_
          clear hle_ hC_ HO2
          go_wp2_with fail
          refine (Hh25.out wc2 rs cs (HhT.out.1.at B1635.out) RS.out LS.out).mono ?_
          rintro e w1639 ⟨rfl, hb_⟩
          have B1640 := Aside0.mk (below_step B1635.out hb_)
          have B1641 := Aside0.mk (below_step B1636.out hb_)
          have B1642 := Aside0.mk (below_step B1637.out hb_)
          have B1643 := Aside0.mk (hb_)
          have H1644 := Aside0.mk (blk_below H1638.out hb_)
          clear hb_ B1635 B1636 B1637 H1638
          go_wp2_with (first | ((with_reducible refine gate_dst (N := 29) rfl ?_); refine box_event ?hg (N := 29) ?hd (cs := #[.int .u8 0, .int .u8 0, .int .u8 0, .int .u8 0, .int .u8 0, .int .u8 0, .int .u8 0, .int .u8 0, .int .u8 0, .int .u8 0, .int .u8 0, .int .u8 0, .int .u8 0, .int .u8 0, .int .u8 0, .int .u8 0, .int .u8 0, .int .u8 0, .int .u8 0, .int .u8 0]) (t := 23) ?hr ?_; (case hd => rfl); (case hg => rfl); (case hr => first | (go_simp; done) | (go_simp; rfl)); intro g1645 hgg1645 w1646 hhg1645 hbg1645; have H1657 := Aside0.mk hhg1645; have N1647 : gA22 ≠ g1645 := Nat.ne_of_lt (Nat.lt_of_lt_of_eq (blk_lt H1644.out) hgg1645.symm); have G1648 : w.heap.size ≤ g1645 := Nat.le_trans B1640.out.size (Nat.le_of_eq hgg1645.symm); have G1649 : wj1502.heap.size ≤ g1645 := Nat.le_trans B1641.out.size (Nat.le_of_eq hgg1645.symm); have G1650 : w1607.heap.size ≤ g1645 := Nat.le_trans B1642.out.size (Nat.le_of_eq hgg1645.symm); have G1651 : wc2.heap.size ≤ g1645 := Nat.le_trans B1643.out.size (Nat.le_of_eq hgg1645.symm); have B1652 := Aside0.mk (below_step B1640.out hbg1645); have B1653 := Aside0.mk (below_step B1641.out hbg1645); have B1654 := Aside0.mk (below_step B1642.out hbg1645); have B1655 := Aside0.mk (below_step B1643.out hbg1645); have H1656 := Aside0.mk (blk_below H1644.out hbg1645); clear hgg1645 hhg1645 hbg1645 B1640 B1641 B1642 B1643 H1644) | ((with_reducible refine gate_store (t := 23) (p := _) rfl ?_); refine storeN_event (T := 23) rfl rfl rfl rfl rfl (storeVar_blk H1657.out 23 0 [.int .u8 d0, .int .u8 d1, .int .u8 d2, .int .u8 d3, .int .u8 d4, .int .u8 d5, .int .u8 d6, .int .u8 d7, .int .u8 d8, .int .u8 d9, .int .u8 d10, .int .u8 d11, .int .u8 d12, .int .u8 d13, .int .u8 d14, .int .u8 d15, .int .u8 d16, .int .u8 d17, .int .u8 d18, .int .u8 d19] (by kernel_rfl) rfl (by simp)) ?_; have H1659 := Aside0.mk (show (World.setCells w1646 g1645 0 [.int .u8 d0, .int .u8 d1, .int .u8 d2, .int .u8 d3, .int .u8 d4, .int .u8 d5, .int .u8 d6, .int .u8 d7, .int .u8 d8, .int .u8 d9, .int .u8 d10, .int .u8 d11, .int .u8 d12, .int .u8 d13, .int .u8 d14, .int .u8 d15, .int .u8 d16, .int .u8 d17, .int .u8 d18, .int .u8 d19]).heap[g1645]? = some (.cells #[.int .u8 d0, .int .u8 d1, .int .u8 d2, .int .u8 d3, .int .u8 d4, .int .u8 d5, .int .u8 d6, .int .u8 d7, .int .u8 d8, .int .u8 d9, .int .u8 d10, .int .u8 d11, .int .u8 d12, .int .u8 d13, .int .u8 d14, .int .u8 d15, .int .u8 d16, .int .u8 d17, .int .u8 d18, .int .u8 d19] 23 (0, 0)) from blk_setCells [] [.int .u8 d0, .int .u8 d1, .int .u8 d2, .int .u8 d3, .int .u8 d4, .int .u8 d5, .int .u8 d6, .int .u8 d7, .int .u8 d8, .int .u8 d9, .int .u8 d10, .int .u8 d11, .int .u8 d12, .int .u8 d13, .int .u8 d14, .int .u8 d15, .int .u8 d16, .int .u8 d17, .int .u8 d18, .int .u8 d19] [.int .u8 0, .int .u8 0, .int .u8 0, .int .u8 0, .int .u8 0, .int .u8 0, .int .u8 0, .int .u8 0, .int .u8 0, .int .u8 0, .int .u8 0, .int .u8 0, .int .u8 0, .int .u8 0, .int .u8 0, .int .u8 0, .int .u8 0, .int .u8 0, .int .u8 0, .int .u8 0] [] w1646 rfl H1657.out); have H1660 := Aside0.mk (far_setCells N1647 [.int .u8 d0, .int .u8 d1, .int .u8 d2, .int .u8 d3, .int .u8 d4, .int .u8 d5, .int .u8 d6, .int .u8 d7, .int .u8 d8, .int .u8 d9, .int .u8 d10, .int .u8 d11, .int .u8 d12, .int .u8 d13, .int .u8 d14, .int .u8 d15, .int .u8 d16, .int .u8 d17, .int .u8 d18, .int .u8 d19] 0 w1646 H1656.out); have B1661 := Aside0.mk (below_setCells G1648 [.int .u8 d0, .int .u8 d1, .int .u8 d2, .int .u8 d3, .int .u8 d4, .int .u8 d5, .int .u8 d6, .int .u8 d7, .int .u8 d8, .int .u8 d9, .int .u8 d10, .int .u8 d11, .int .u8 d12, .int .u8 d13, .int .u8 d14, .int .u8 d15, .int .u8 d16, .int .u8 d17, .int .u8 d18, .int .u8 d19] 0 w1646 B1652.out); have B1662 := Aside0.mk (below_setCells G1649 [.int .u8 d0, .int .u8 d1, .int .u8 d2, .int .u8 d3, .int .u8 d4, .int .u8 d5, .int .u8 d6, .int .u8 d7, .int .u8 d8, .int .u8 d9, .int .u8 d10, .int .u8 d11, .int .u8 d12, .int .u8 d13, .int .u8 d14, .int .u8 d15, .int .u8 d16, .int .u8 d17, .int .u8 d18, .int .u8 d19] 0 w1646 B1653.out); have B1663 := Aside0.mk (below_setCells G1650 [.int .u8 d0, .int .u8 d1, .int .u8 d2, .int .u8 d3, .int .u8 d4, .int .u8 d5, .int .u8 d6, .int .u8 d7, .int .u8 d8, .int .u8 d9, .int .u8 d10, .int .u8 d11, .int .u8 d12, .int .u8 d13, .int .u8 d14, .int .u8 d15, .int .u8 d16, .int .u8 d17, .int .u8 d18, .int .u8 d19] 0 w1646 B1654.out); have B1664 := Aside0.mk (below_setCells G1651 [.int .u8 d0, .int .u8 d1, .int .u8 d2, .int .u8 d3, .int .u8 d4, .int .u8 d5, .int .u8 d6, .int .u8 d7, .int .u8 d8, .int .u8 d9, .int .u8 d10, .int .u8 d11, .int .u8 d12, .int .u8 d13, .int .u8 d14, .int .u8 d15, .int .u8 d16, .int .u8 d17, .int .u8 d18, .int .u8 d19] 0 w1646 B1655.out); clear H1657 H1656 B1652 B1653 B1654 B1655; generalize World.setCells w1646 g1645 0 [.int .u8 d0, .int .u8 d1, .int .u8 d2, .int .u8 d3, .int .u8 d4, .int .u8 d5, .int .u8 d6, .int .u8 d7, .int .u8 d8, .int .u8 d9, .int .u8 d10, .int .u8 d11, .int .u8 d12, .int .u8 d13, .int .u8 d14, .int .u8 d15, .int .u8 d16, .int .u8 d17, .int .u8 d18, .int .u8 d19] = w1658 at H1660 H1659 B1661 B1662 B1663 B1664 ⊢; generalize Value.tuple #[.agg #[.int .u8 d0, .int .u8 d1, .int .u8 d2, .int .u8 d3, .int .u8 d4, .int .u8 d5, .int .u8 d6, .int .u8 d7, .int .u8 d8, .int .u8 d9, .int .u8 d10, .int .u8 d11, .int .u8 d12, .int .u8 d13, .int .u8 d14, .int .u8 d15, .int .u8 d16, .int .u8 d17, .int .u8 d18, .int .u8 d19], .int .i64 0] = V1665; generalize Value.agg #[.int .u8 d0, .int .u8 d1, .int .u8 d2, .int .u8 d3, .int .u8 d4, .int .u8 d5, .int .u8 d6, .int .u8 d7, .int .u8 d8, .int .u8 d9, .int .u8 d10, .int .u8 d11, .int .u8 d12, .int .u8 d13, .int .u8 d14, .int .u8 d15, .int .u8 d16, .int .u8 d17, .int .u8 d18, .int .u8 d19] = V1666) | ((with_reducible refine gate_dst (N := 196) rfl ?_); refine Kd.R_make (Kd.int .u8) (w0 := w1658) _ 5 rfl (N := 196) rfl 26 _ _ rfl 28 rfl rfl Tryd.underlying26 (.int .u8 0) 1 info5p rfl (by decide) (by decide) (0 : Int) (ok := fun _ => True) (okp := fun _ => True) rfl (fun _ h => h) trivial (by decide) (by decide) (Below.refl _ _) (Nat.le_refl _) ?_; intro v_ w1667 hO_ hb_ hg_ _; clear hg_; obtain ⟨r196, c_r196, rfl, hle_, hC_⟩ := row_formK (n := 28) hO_ List.length_replicate (by decide); have B1668 := Aside0.mk (below_step B1661.out hb_); have B1669 := Aside0.mk (below_step B1662.out hb_); have B1670 := Aside0.mk (below_step B1663.out hb_); have B1671 := Aside0.mk (below_step B1664.out hb_); have H1672 := Aside0.mk (blk_below H1660.out hb_); have H1673 := Aside0.mk (blk_below H1659.out hb_); have R1674 := Aside0.mk (show Kd.C (Kd.int .u8) w1667 (some ⟨r196, 0, none⟩) 28 (List.replicate 28 (0 : Int)) from hC_); have L1675 := Aside0.mk hle_; clear hO_ hb_ hle_ hC_ B1661 B1662 B1663 B1664 H1660 H1659))
          refine (Hh26.out w1667 r196 c_r196 (HhT.out.2.at B1668.out) (Kd.C_below R1674.out (Below.refl _ _)) L1675.out).mono ?_
          rintro e w1676 ⟨rfl, hb_⟩
          have B1677 := Aside0.mk (below_step B1668.out hb_)
          have B1678 := Aside0.mk (below_step B1669.out hb_)
          have B1679 := Aside0.mk (below_step B1670.out hb_)
          have B1680 := Aside0.mk (below_step B1671.out hb_)
          have B1681 := Aside0.mk (hb_)
          have H1682 := Aside0.mk (blk_below H1672.out hb_)
          have H1683 := Aside0.mk (blk_below H1673.out hb_)
          clear hb_ B1668 B1669 B1670 B1671 H1672 H1673
          go_wp2_with (first | ((with_reducible refine gate_dst (N := 31) rfl ?_); refine box_event ?hg (N := 31) ?hd (cs := #[.int .u8 0, .int .i64 0, .int .i64 0, .int .i64 0, .int .i64 0, .int .u8 0, .int .u8 0, .int .u8 0, .int .u8 0, .int .u8 0, .int .u8 0, .int .u8 0, .int .u8 0, .int .u8 0, .int .u8 0, .int .u8 0, .int .u8 0, .int .u8 0, .int .u8 0, .int .u8 0, .int .u8 0, .int .u8 0, .int .u8 0, .int .u8 0, .int .u8 0]) (t := 25) ?hr ?_; (case hd => rfl); (case hg => rfl); (case hr => first | (go_simp; done) | (go_simp; rfl)); intro g1684 hgg1684 w1685 hhg1684 hbg1684; have H1700 := Aside0.mk hhg1684; have N1686 : gA22 ≠ g1684 := Nat.ne_of_lt (Nat.lt_of_lt_of_eq (blk_lt H1682.out) hgg1684.symm); have N1687 : g1645 ≠ g1684 := Nat.ne_of_lt (Nat.lt_of_lt_of_eq (blk_lt H1683.out) hgg1684.symm); have G1688 : w.heap.size ≤ g1684 := Nat.le_trans B1677.out.size (Nat.le_of_eq hgg1684.symm); have G1689 : wj1502.heap.size ≤ g1684 := Nat.le_trans B1678.out.size (Nat.le_of_eq hgg1684.symm); have G1690 : w1607.heap.size ≤ g1684 := Nat.le_trans B1679.out.size (Nat.le_of_eq hgg1684.symm); have G1691 : wc2.heap.size ≤ g1684 := Nat.le_trans B1680.out.size (Nat.le_of_eq hgg1684.symm); have G1692 : w1667.heap.size ≤ g1684 := Nat.le_trans B1681.out.size (Nat.le_of_eq hgg1684.symm); have B1693 := Aside0.mk (below_step B1677.out hbg1684); have B1694 := Aside0.mk (below_step B1678.out hbg1684); have B1695 := Aside0.mk (below_step B1679.out hbg1684); have B1696 := Aside0.mk (below_step B1680.out hbg1684); have B1697 := Aside0.mk (below_step B1681.out hbg1684); have H1698 := Aside0.mk (blk_below H1682.out hbg1684); have H1699 := Aside0.mk (blk_below H1683.out hbg1684); clear hgg1684 hhg1684 hbg1684 B1677 B1678 B1679 B1680 B1681 H1682 H1683) | ((with_reducible refine gate_store (t := 25) (p := _) rfl ?_); refine storeN_event (T := 25) rfl rfl rfl rfl rfl (storeVar_blk H1700.out 25 0 [.int .u8 0, .int .i64 0, .int .i64 0, .int .i64 0, .int .i64 0, .int .u8 0, .int .u8 0, .int .u8 0, .int .u8 0, .int .u8 0, .int .u8 0, .int .u8 0, .int .u8 0, .int .u8 0, .int .u8 0, .int .u8 0, .int .u8 0, .int .u8 0, .int .u8 0, .int .u8 0, .int .u8 0, .int .u8 0, .int .u8 0, .int .u8 0, .int .u8 0] (by kernel_rfl) rfl (by simp)) ?_; have H1702 := Aside0.mk (show (World.setCells w1685 g1684 0 [.int .u8 0, .int .i64 0, .int .i64 0, .int .i64 0, .int .i64 0, .int .u8 0, .int .u8 0, .int .u8 0, .int .u8 0, .int .u8 0, .int .u8 0, .int .u8 0, .int .u8 0, .int .u8 0, .int .u8 0, .int .u8 0, .int .u8 0, .int .u8 0, .int .u8 0, .int .u8 0, .int .u8 0, .int .u8 0, .int .u8 0, .int .u8 0, .int .u8 0]).heap[g1684]? = some (.cells #[.int .u8 0, .int .i64 0, .int .i64 0, .int .i64 0, .int .i64 0, .int .u8 0, .int .u8 0, .int .u8 0, .int .u8 0, .int .u8 0, .int .u8 0, .int .u8 0, .int .u8 0, .int .u8 0, .int .u8 0, .int .u8 0, .int .u8 0, .int .u8 0, .int .u8 0, .int .u8 0, .int .u8 0, .int .u8 0, .int .u8 0, .int .u8 0, .int .u8 0] 25 (0, 0)) from blk_setCells [] [.int .u8 0, .int .i64 0, .int .i64 0, .int .i64 0, .int .i64 0, .int .u8 0, .int .u8 0, .int .u8 0, .int .u8 0, .int .u8 0, .int .u8 0, .int .u8 0, .int .u8 0, .int .u8 0, .int .u8 0, .int .u8 0, .int .u8 0, .int .u8 0, .int .u8 0, .int .u8 0, .int .u8 0, .int .u8 0, .int .u8 0, .int .u8 0, .int .u8 0] [.int .u8 0, .int .i64 0, .int .i64 0, .int .i64 0, .int .i64 0, .int .u8 0, .int .u8 0, .int .u8 0, .int .u8 0, .int .u8 0, .int .u8 0, .int .u8 0, .int .u8 0, .int .u8 0, .int .u8 0, .int .u8 0, .int .u8 0, .int .u8 0, .int .u8 0, .int .u8 0, .int .u8 0, .int .u8 0, .int .u8 0, .int .u8 0, .int .u8 0] [] w1685 rfl H1700.out); have H1703 := Aside0.mk (far_setCells N1686 [.int .u8 0, .int .i64 0, .int .i64 0, .int .i64 0, .int .i64 0, .int .u8 0, .int .u8 0, .int .u8 0, .int .u8 0, .int .u8 0, .int .u8 0, .int .u8 0, .int .u8 0, .int .u8 0, .int .u8 0, .int .u8 0, .int .u8 0, .int .u8 0, .int .u8 0, .int .u8 0, .int .u8 0, .int .u8 0, .int .u8 0, .int .u8 0, .int .u8 0] 0 w1685 H1698.out); have H1704 := Aside0.mk (far_setCells N1687 [.int .u8 0, .int .i64 0, .int .i64 0, .int .i64 0, .int .i64 0, .int .u8 0, .int .u8 0, .int .u8 0, .int .u8 0, .int .u8 0, .int .u8 0, .int .u8 0, .int .u8 0, .int .u8 0, .int .u8 0, .int .u8 0, .int .u8 0, .int .u8 0, .int .u8 0, .int .u8 0, .int .u8 0, .int .u8 0, .int .u8 0, .int .u8 0, .int .u8 0] 0 w1685 H1699.out); have B1705 := Aside0.mk (below_setCells G1688 [.int .u8 0, .int .i64 0, .int .i64 0, .int .i64 0, .int .i64 0, .int .u8 0, .int .u8 0, .int .u8 0, .int .u8 0, .int .u8 0, .int .u8 0, .int .u8 0, .int .u8 0, .int .u8 0, .int .u8 0, .int .u8 0, .int .u8 0, .int .u8 0, .int .u8 0, .int .u8 0, .int .u8 0, .int .u8 0, .int .u8 0, .int .u8 0, .int .u8 0] 0 w1685 B1693.out); have B1706 := Aside0.mk (below_setCells G1689 [.int .u8 0, .int .i64 0, .int .i64 0, .int .i64 0, .int .i64 0, .int .u8 0, .int .u8 0, .int .u8 0, .int .u8 0, .int .u8 0, .int .u8 0, .int .u8 0, .int .u8 0, .int .u8 0, .int .u8 0, .int .u8 0, .int .u8 0, .int .u8 0, .int .u8 0, .int .u8 0, .int .u8 0, .int .u8 0, .int .u8 0, .int .u8 0, .int .u8 0] 0 w1685 B1694.out); have B1707 := Aside0.mk (below_setCells G1690 [.int .u8 0, .int .i64 0, .int .i64 0, .int .i64 0, .int .i64 0, .int .u8 0, .int .u8 0, .int .u8 0, .int .u8 0, .int .u8 0, .int .u8 0, .int .u8 0, .int .u8 0, .int .u8 0, .int .u8 0, .int .u8 0, .int .u8 0, .int .u8 0, .int .u8 0, .int .u8 0, .int .u8 0, .int .u8 0, .int .u8 0, .int .u8 0, .int .u8 0] 0 w1685 B1695.out); have B1708 := Aside0.mk (below_setCells G1691 [.int .u8 0, .int .i64 0, .int .i64 0, .int .i64 0, .int .i64 0, .int .u8 0, .int .u8 0, .int .u8 0, .int .u8 0, .int .u8 0, .int .u8 0, .int .u8 0, .int .u8 0, .int .u8 0, .int .u8 0, .int .u8 0, .int .u8 0, .int .u8 0, .int .u8 0, .int .u8 0, .int .u8 0, .int .u8 0, .int .u8 0, .int .u8 0, .int .u8 0] 0 w1685 B1696.out); have B1709 := Aside0.mk (below_setCells G1692 [.int .u8 0, .int .i64 0, .int .i64 0, .int .i64 0, .int .i64 0, .int .u8 0, .int .u8 0, .int .u8 0, .int .u8 0, .int .u8 0, .int .u8 0, .int .u8 0, .int .u8 0, .int .u8 0, .int .u8 0, .int .u8 0, .int .u8 0, .int .u8 0, .int .u8 0, .int .u8 0, .int .u8 0, .int .u8 0, .int .u8 0, .int .u8 0, .int .u8 0] 0 w1685 B1697.out); clear H1700 H1698 H1699 B1693 B1694 B1695 B1696 B1697; generalize World.setCells w1685 g1684 0 [.int .u8 0, .int .i64 0, .int .i64 0, .int .i64 0, .int .i64 0, .int .u8 0, .int .u8 0, .int .u8 0, .int .u8 0, .int .u8 0, .int .u8 0, .int .u8 0, .int .u8 0, .int .u8 0, .int .u8 0, .int .u8 0, .int .u8 0, .int .u8 0, .int .u8 0, .int .u8 0, .int .u8 0, .int .u8 0, .int .u8 0, .int .u8 0, .int .u8 0] = w1701 at H1703 H1704 H1702 B1705 B1706 B1707 B1708 B1709 ⊢; generalize Value.tuple #[.agg #[.int .u8 0, .int .i64 0, .int .i64 0, .int .i64 0, .int .i64 0, .int .u8 0, .int .u8 0, .int .u8 0, .int .u8 0, .int .u8 0, .int .u8 0, .int .u8 0, .int .u8 0, .int .u8 0, .int .u8 0, .int .u8 0, .int .u8 0, .int .u8 0, .int .u8 0, .int .u8 0, .int .u8 0, .int .u8 0, .int .u8 0, .int .u8 0, .int .u8 0], .int .i64 12] = V1710; generalize Value.agg #[.int .u8 0, .int .i64 0, .int .i64 0, .int .i64 0, .int .i64 0, .int .u8 0, .int .u8 0, .int .u8 0, .int .u8 0, .int .u8 0, .int .u8 0, .int .u8 0, .int .u8 0, .int .u8 0, .int .u8 0, .int .u8 0, .int .u8 0, .int .u8 0, .int .u8 0, .int .u8 0, .int .u8 0, .int .u8 0, .int .u8 0, .int .u8 0, .int .u8 0] = V1711) | ((with_reducible refine gate_dst (N := 201) rfl ?_); refine Kd.R_make (Kd.int .u8) (w0 := w1701) _ 5 rfl (N := 201) rfl 26 _ _ rfl 29 rfl rfl Tryd.underlying26 (.int .u8 0) 1 info5p rfl (by decide) (by decide) (0 : Int) (ok := fun _ => True) (okp := fun _ => True) rfl (fun _ h => h) trivial (by decide) (by decide) (Below.refl _ _) (Nat.le_refl _) ?_; intro v_ w1712 hO_ hb_ hg_ _; clear hg_; obtain ⟨r201, c_r201, rfl, hle_, hC_⟩ := row_formK (n := 29) hO_ List.length_replicate (by decide); have B1713 := Aside0.mk (below_step B1705.out hb_); have B1714 := Aside0.mk (below_step B1706.out hb_); have B1715 := Aside0.mk (below_step B1707.out hb_); have B1716 := Aside0.mk (below_step B1708.out hb_); have B1717 := Aside0.mk (below_step B1709.out hb_); have H1718 := Aside0.mk (blk_below H1703.out hb_); have H1719 := Aside0.mk (blk_below H1704.out hb_); have R1720 := Aside0.mk (show Kd.C (Kd.int .u8) w1712 (some ⟨r201, 0, none⟩) 29 (List.replicate 29 (0 : Int)) from hC_); have L1721 := Aside0.mk hle_; clear hO_ hb_ hle_ hC_ B1705 B1706 B1707 B1708 B1709 H1703 H1704))
          refine (Hh27.out w1712 r201 c_r201).mono ?_
          rintro e w1722 ⟨rfl, hb_⟩
          have B1723 := Aside0.mk (below_step B1713.out hb_)
          have B1724 := Aside0.mk (below_step B1714.out hb_)
          have B1725 := Aside0.mk (below_step B1715.out hb_)
          have B1726 := Aside0.mk (below_step B1716.out hb_)
          have B1727 := Aside0.mk (below_step B1717.out hb_)
          have B1728 := Aside0.mk (hb_)
          have H1729 := Aside0.mk (blk_below H1718.out hb_)
          have H1730 := Aside0.mk (blk_below H1719.out hb_)
          clear hb_ B1713 B1714 B1715 B1716 B1717 H1718 H1719
          have hqD := fun (d : Nat) (W : World) => eqA23 d W d0 d0 d1 d1 d2 d2 d3 d3 d4 d4 d5 d5 d6 d6 d7 d7 d8 d8 d9 d9 d10 d10 d11 d11 d12 d12 d13 d13 d14 d14 d15 d15 d16 d16 d17 d17 d18 d18 d19 d19
          simp only [beq_self_eq_true, Bool.and_self] at hqD
          go_wp2_with (first | ((with_reducible refine gate_dst (N := 33) rfl ?_); refine box_event ?hg (N := 33) ?hd (cs := #[.int .u8 0, .int .i64 0, .int .i64 0, .int .i64 0, .int .i64 0, .int .u8 0, .int .u8 0, .int .u8 0, .int .u8 0, .int .u8 0, .int .u8 0, .int .u8 0, .int .u8 0, .int .u8 0, .int .u8 0, .int .u8 0, .int .u8 0, .int .u8 0, .int .u8 0, .int .u8 0, .int .u8 0, .int .u8 0, .int .u8 0, .int .u8 0, .int .u8 0]) (t := 25) ?hr ?_; (case hd => rfl); (case hg => rfl); (case hr => first | (go_simp; done) | (go_simp; rfl)); intro g1731 hgg1731 w1732 hhg1731 hbg1731; have H1749 := Aside0.mk hhg1731; have N1733 : gA22 ≠ g1731 := Nat.ne_of_lt (Nat.lt_of_lt_of_eq (blk_lt H1729.out) hgg1731.symm); have N1734 : g1645 ≠ g1731 := Nat.ne_of_lt (Nat.lt_of_lt_of_eq (blk_lt H1730.out) hgg1731.symm); have G1735 : w.heap.size ≤ g1731 := Nat.le_trans B1723.out.size (Nat.le_of_eq hgg1731.symm); have G1736 : wj1502.heap.size ≤ g1731 := Nat.le_trans B1724.out.size (Nat.le_of_eq hgg1731.symm); have G1737 : w1607.heap.size ≤ g1731 := Nat.le_trans B1725.out.size (Nat.le_of_eq hgg1731.symm); have G1738 : wc2.heap.size ≤ g1731 := Nat.le_trans B1726.out.size (Nat.le_of_eq hgg1731.symm); have G1739 : w1667.heap.size ≤ g1731 := Nat.le_trans B1727.out.size (Nat.le_of_eq hgg1731.symm); have G1740 : w1712.heap.size ≤ g1731 := Nat.le_trans B1728.out.size (Nat.le_of_eq hgg1731.symm); have B1741 := Aside0.mk (below_step B1723.out hbg1731); have B1742 := Aside0.mk (below_step B1724.out hbg1731); have B1743 := Aside0.mk (below_step B1725.out hbg1731); have B1744 := Aside0.mk (below_step B1726.out hbg1731); have B1745 := Aside0.mk (below_step B1727.out hbg1731); have B1746 := Aside0.mk (below_step B1728.out hbg1731); have H1747 := Aside0.mk (blk_below H1729.out hbg1731); have H1748 := Aside0.mk (blk_below H1730.out hbg1731); clear hgg1731 hhg1731 hbg1731 B1723 B1724 B1725 B1726 B1727 B1728 H1729 H1730) | ((with_reducible refine gate_store (t := 25) (p := _) rfl ?_); refine storeN_event (T := 25) rfl rfl rfl rfl rfl (storeVar_blk H1749.out 25 0 [.int .u8 0, .int .i64 0, .int .i64 0, .int .i64 0, .int .i64 0, .int .u8 0, .int .u8 0, .int .u8 0, .int .u8 0, .int .u8 0, .int .u8 0, .int .u8 0, .int .u8 0, .int .u8 0, .int .u8 0, .int .u8 0, .int .u8 0, .int .u8 0, .int .u8 0, .int .u8 0, .int .u8 0, .int .u8 0, .int .u8 0, .int .u8 0, .int .u8 0] (by kernel_rfl) rfl (by simp)) ?_; have H1751 := Aside0.mk (show (World.setCells w1732 g1731 0 [.int .u8 0, .int .i64 0, .int .i64 0, .int .i64 0, .int .i64 0, .int .u8 0, .int .u8 0, .int .u8 0, .int .u8 0, .int .u8 0, .int .u8 0, .int .u8 0, .int .u8 0, .int .u8 0, .int .u8 0, .int .u8 0, .int .u8 0, .int .u8 0, .int .u8 0, .int .u8 0, .int .u8 0, .int .u8 0, .int .u8 0, .int .u8 0, .int .u8 0]).heap[g1731]? = some (.cells #[.int .u8 0, .int .i64 0, .int .i64 0, .int .i64 0, .int .i64 0, .int .u8 0, .int .u8 0, .int .u8 0, .int .u8 0, .int .u8 0, .int .u8 0, .int .u8 0, .int .u8 0, .int .u8 0, .int .u8 0, .int .u8 0, .int .u8 0, .int .u8 0, .int .u8 0, .int .u8 0, .int .u8 0, .int .u8 0, .int .u8 0, .int .u8 0, .int .u8 0] 25 (0, 0)) from blk_setCells [] [.int .u8 0, .int .i64 0, .int .i64 0, .int .i64 0, .int .i64 0, .int .u8 0, .int .u8 0, .int .u8 0, .int .u8 0, .int .u8 0, .int .u8 0, .int .u8 0, .int .u8 0, .int .u8 0, .int .u8 0, .int .u8 0, .int .u8 0, .int .u8 0, .int .u8 0, .int .u8 0, .int .u8 0, .int .u8 0, .int .u8 0, .int .u8 0, .int .u8 0] [.int .u8 0, .int .i64 0, .int .i64 0, .int .i64 0, .int .i64 0, .int .u8 0, .int .u8 0, .int .u8 0, .int .u8 0, .int .u8 0, .int .u8 0, .int .u8 0, .int .u8 0, .int .u8 0, .int .u8 0, .int .u8 0, .int .u8 0, .int .u8 0, .int .u8 0, .int .u8 0, .int .u8 0, .int .u8 0, .int .u8 0, .int .u8 0, .int .u8 0] [] w1732 rfl H1749.out); have H1752 := Aside0.mk (far_setCells N1733 [.int .u8 0, .int .i64 0, .int .i64 0, .int .i64 0, .int .i64 0, .int .u8 0, .int .u8 0, .int .u8 0, .int .u8 0, .int .u8 0, .int .u8 0, .int .u8 0, .int .u8 0, .int .u8 0, .int .u8 0, .int .u8 0, .int .u8 0, .int .u8 0, .int .u8 0, .int .u8 0, .int .u8 0, .int .u8 0, .int .u8 0, .int .u8 0, .int .u8 0] 0 w1732 H1747.out); have H1753 := Aside0.mk (far_setCells N1734 [.int .u8 0, .int .i64 0, .int .i64 0, .int .i64 0, .int .i64 0, .int .u8 0, .int .u8 0, .int .u8 0, .int .u8 0, .int .u8 0, .int .u8 0, .int .u8 0, .int .u8 0, .int .u8 0, .int .u8 0, .int .u8 0, .int .u8 0, .int .u8 0, .int .u8 0, .int .u8 0, .int .u8 0, .int .u8 0, .int .u8 0, .int .u8 0, .int .u8 0] 0 w1732 H1748.out); have B1754 := Aside0.mk (below_setCells G1735 [.int .u8 0, .int .i64 0, .int .i64 0, .int .i64 0, .int .i64 0, .int .u8 0, .int .u8 0, .int .u8 0, .int .u8 0, .int .u8 0, .int .u8 0, .int .u8 0, .int .u8 0, .int .u8 0, .int .u8 0, .int .u8 0, .int .u8 0, .int .u8 0, .int .u8 0, .int .u8 0, .int .u8 0, .int .u8 0, .int .u8 0, .int .u8 0, .int .u8 0] 0 w1732 B1741.out); have B1755 := Aside0.mk (below_setCells G1736 [.int .u8 0, .int .i64 0, .int .i64 0, .int .i64 0, .int .i64 0, .int .u8 0, .int .u8 0, .int .u8 0, .int .u8 0, .int .u8 0, .int .u8 0, .int .u8 0, .int .u8 0, .int .u8 0, .int .u8 0, .int .u8 0, .int .u8 0, .int .u8 0, .int .u8 0, .int .u8 0, .int .u8 0, .int .u8 0, .int .u8 0, .int .u8 0, .int .u8 0] 0 w1732 B1742.out); have B1756 := Aside0.mk (below_setCells G1737 [.int .u8 0, .int .i64 0, .int .i64 0, .int .i64 0, .int .i64 0, .int .u8 0, .int .u8 0, .int .u8 0, .int .u8 0, .int .u8 0, .int .u8 0, .int .u8 0, .int .u8 0, .int .u8 0, .int .u8 0, .int .u8 0, .int .u8 0, .int .u8 0, .int .u8 0, .int .u8 0, .int .u8 0, .int .u8 0, .int .u8 0, .int .u8 0, .int .u8 0] 0 w1732 B1743.out); have B1757 := Aside0.mk (below_setCells G1738 [.int .u8 0, .int .i64 0, .int .i64 0, .int .i64 0, .int .i64 0, .int .u8 0, .int .u8 0, .int .u8 0, .int .u8 0, .int .u8 0, .int .u8 0, .int .u8 0, .int .u8 0, .int .u8 0, .int .u8 0, .int .u8 0, .int .u8 0, .int .u8 0, .int .u8 0, .int .u8 0, .int .u8 0, .int .u8 0, .int .u8 0, .int .u8 0, .int .u8 0] 0 w1732 B1744.out); have B1758 := Aside0.mk (below_setCells G1739 [.int .u8 0, .int .i64 0, .int .i64 0, .int .i64 0, .int .i64 0, .int .u8 0, .int .u8 0, .int .u8 0, .int .u8 0, .int .u8 0, .int .u8 0, .int .u8 0, .int .u8 0, .int .u8 0, .int .u8 0, .int .u8 0, .int .u8 0, .int .u8 0, .int .u8 0, .int .u8 0, .int .u8 0, .int .u8 0, .int .u8 0, .int .u8 0, .int .u8 0] 0 w1732 B1745.out); have B1759 := Aside0.mk (below_setCells G1740 [.int .u8 0, .int .i64 0, .int .i64 0, .int .i64 0, .int .i64 0, .int .u8 0, .int .u8 0, .int .u8 0, .int .u8 0, .int .u8 0, .int .u8 0, .int .u8 0, .int .u8 0, .int .u8 0, .int .u8 0, .int .u8 0, .int .u8 0, .int .u8 0, .int .u8 0, .int .u8 0, .int .u8 0, .int .u8 0, .int .u8 0, .int .u8 0, .int .u8 0] 0 w1732 B1746.out); clear H1749 H1747 H1748 B1741 B1742 B1743 B1744 B1745 B1746; generalize World.setCells w1732 g1731 0 [.int .u8 0, .int .i64 0, .int .i64 0, .int .i64 0, .int .i64 0, .int .u8 0, .int .u8 0, .int .u8 0, .int .u8 0, .int .u8 0, .int .u8 0, .int .u8 0, .int .u8 0, .int .u8 0, .int .u8 0, .int .u8 0, .int .u8 0, .int .u8 0, .int .u8 0, .int .u8 0, .int .u8 0, .int .u8 0, .int .u8 0, .int .u8 0, .int .u8 0] = w1750 at H1752 H1753 H1751 B1754 B1755 B1756 B1757 B1758 B1759 ⊢; generalize Value.tuple #[.agg #[.int .u8 0, .int .i64 0, .int .i64 0, .int .i64 0, .int .i64 0, .int .u8 0, .int .u8 0, .int .u8 0, .int .u8 0, .int .u8 0, .int .u8 0, .int .u8 0, .int .u8 0, .int .u8 0, .int .u8 0, .int .u8 0, .int .u8 0, .int .u8 0, .int .u8 0, .int .u8 0, .int .u8 0, .int .u8 0, .int .u8 0, .int .u8 0, .int .u8 0], .int .i64 12] = V1760; generalize Value.agg #[.int .u8 0, .int .i64 0, .int .i64 0, .int .i64 0, .int .i64 0, .int .u8 0, .int .u8 0, .int .u8 0, .int .u8 0, .int .u8 0, .int .u8 0, .int .u8 0, .int .u8 0, .int .u8 0, .int .u8 0, .int .u8 0, .int .u8 0, .int .u8 0, .int .u8 0, .int .u8 0, .int .u8 0, .int .u8 0, .int .u8 0, .int .u8 0, .int .u8 0] = V1761))
          refine (Hhal.out w1750 (HhT.out.2.at B1754.out)).mono ?_
          rintro e w1762 ⟨rfl, hb_⟩
          have B1763 := Aside0.mk (below_step B1754.out hb_)
          have B1764 := Aside0.mk (below_step B1755.out hb_)
          have B1765 := Aside0.mk (below_step B1756.out hb_)
          have B1766 := Aside0.mk (below_step B1757.out hb_)
          have B1767 := Aside0.mk (below_step B1758.out hb_)
          have B1768 := Aside0.mk (below_step B1759.out hb_)
          have H1769 := Aside0.mk (blk_below H1752.out hb_)
          have H1770 := Aside0.mk (blk_below H1753.out hb_)
          clear hb_ B1754 B1755 B1756 B1757 B1758 B1759 H1752 H1753
          go_wp2_with (first | ((with_reducible refine gate_dst (N := 254) rfl ?_); refine loadG_event (T := 23) (by rfl) rfl rfl (load_sum' H1769.out) ?_) | ((with_reducible refine gate_dst (N := 255) rfl ?_); refine loadG_event (T := 23) (by rfl) rfl rfl (run_loadVar_row _ _ _ _ _ (0, 0) _ H1770.out Tryd.underlying23 rfl (by kernel_rfl)) ?_))
          go_ret
          exact ⟨rfl, B1763.out⟩
end Go.Proofs.YtbldecdipicddaaDoor.Hand
