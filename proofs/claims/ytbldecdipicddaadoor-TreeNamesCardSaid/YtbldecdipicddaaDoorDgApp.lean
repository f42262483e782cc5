/- Cuts of rows of digests, a digest appended. Laid by wip/s1/split41.py. -/
import Derived.Test.YtbldecdipicddaaDoorDgRows
set_option linter.unusedSimpArgs false
set_option linter.unusedVariables false
namespace Go.Proofs.YtbldecdipicddaaDoor.Hand
open Go Go.RowKit Go.Proofs.YtbldecdipicddaaDoorW.PrintWords Go.Proofs.YtbldecdipicddaaDoorW.PrintLast
theorem cut55 (A : Option Addr) (n c k : Nat) (hk : k ≤ n) (hc : n ≤ c) (W : World) : (Instr.slice 55 (.slice A n c) none (some (.int .i64 (k : Int))) none).run Tryd.prog W = .ok (.slice A k c) W := by
  obtain ⟨i0, hi0⟩ := Option.isSome_iff_exists.1 (show (Tryd.prog.info? 23).isSome = true by kernel_rfl)
  have := cut_to (P := Tryd.prog) 55 23 .i64 Tryd.underlying55 hi0 A n c (k : Int) (by omega) (by omega) hc W
  rwa [Int.toNat_natCast] at this
theorem loadA_run {P : Program} {o : Oper} {a : Act} {W : World} {T : TypeId} {x : Operand} {v : Value} {ad : Addr} (ho : o.op = .load T x) (hx : a.eval x = .pointer (some ad)) (hs : (loadVar T ad).run P W = .ok v W) : (execOp a.eval o).run P W = .ok (.value v) W := by
  unfold execOp
  simp only [ho, hx, Instr.loadAt, Instr.sureAddr, Sem.run_bind, Sem.run_pure, Result.andThen_ok, hs]
theorem loadA_event {P : Program} {ops : Array Oper} {o : Oper} {rest : List Oper} {a : Act} {Q : Exit → Act → World → Prop} {W : World} {T : TypeId} {x : Operand} {v : Value} {ad : Addr} (hw : Region.wanted o (yielded ops a.tmps) = true) (ho : o.op = .load T x)
    (hx : a.eval x = .pointer (some ad)) (hs : (loadVar T ad).run P W = .ok v W) (h : wpList P ops Q rest (a.put o.dst v) W) : wpList P ops Q (o :: rest) a W := by
  refine wpList_step fun K hK => ?_
  rw [if_pos hw]
  unfold Oper.wp
  rw [loadA_run ho hx hs]
  exact hK _ _ h
theorem info23p : (Tryd.prog.info? 23).map (fun i => (i.zero, i.size, i.bytes)) = some (some (.agg #[.int .u8 0, .int .u8 0, .int .u8 0, .int .u8 0, .int .u8 0, .int .u8 0, .int .u8 0, .int .u8 0, .int .u8 0, .int .u8 0, .int .u8 0, .int .u8 0, .int .u8 0, .int .u8 0, .int .u8 0, .int .u8 0, .int .u8 0, .int .u8 0, .int .u8 0, .int .u8 0]), 20, 20) := by kernel_rfl
theorem take_map {β : Type} (f : List Int → β) (ll : List (List Int)) (i : Nat) (h : i < ll.length) : (ll.take (i + 1)).map f = (ll.take i).map f ++ [f (ll.getD i [])] := by
  rw [List.take_add_one, List.getElem?_eq_getElem h, List.map_append, List.getD_eq_getElem?_getD, List.getElem?_eq_getElem h]
  rfl
theorem dgM (W : World) (b : Nat) (ok : Nat → Prop) (d : Dg) : kdg.M W b ok d [.int .u8 (d 0), .int .u8 (d 1), .int .u8 (d 2), .int .u8 (d 3), .int .u8 (d 4), .int .u8 (d 5), .int .u8 (d 6), .int .u8 (d 7), .int .u8 (d 8), .int .u8 (d 9), .int .u8 (d 10), .int .u8 (d 11), .int .u8 (d 12), .int .u8 (d 13), .int .u8 (d 14), .int .u8 (d 15), .int .u8 (d 16), .int .u8 (d 17), .int .u8 (d 18), .int .u8 (d 19)] := (Kd.arr_of_cells (n := 20) (enc := Value.int .u8) (h1 := fun _ => rfl) (hs := Nat.one_pos) (dgl_len d) : (Kd.arr 20 (Kd.int .u8) Nat.one_pos).M W b ok (dgl d) _)
theorem kdg_row1 {W : World} {g t : Nat} {d : Dg} (h : W.heap[g]? = some (.cells #[.int .u8 (d 0), .int .u8 (d 1), .int .u8 (d 2), .int .u8 (d 3), .int .u8 (d 4), .int .u8 (d 5), .int .u8 (d 6), .int .u8 (d 7), .int .u8 (d 8), .int .u8 (d 9), .int .u8 (d 10), .int .u8 (d 11), .int .u8 (d 12), .int .u8 (d 13), .int .u8 (d 14), .int .u8 (d 15), .int .u8 (d 16), .int .u8 (d 17), .int .u8 (d 18), .int .u8 (d 19)] t (0, 0))) : Kd.C kdg W (some ⟨g, 0, none⟩) 1 [d] := by
  refine ⟨rfl, by decide, fun _ => ⟨⟨g, 0, none⟩, rfl, fun j p hj => ?_⟩⟩
  match j, hj with
  | 0, hj =>
    cases hj
    refine ⟨(dgl d).map (Value.int .u8), rfl, kdg_of W d, fun i u hi => ?_⟩
    show W.cell? ((⟨g, 0, none⟩ : Addr).add (0 * 20 + i)) = some u
    rw [show (⟨g, 0, none⟩ : Addr).add (0 * 20 + i) = ⟨g, i, none⟩ from by by_cases h : i = 0 <;> simp [Addr.add, h], blk_cell h]
    rw [← Array.getElem?_toList]
    exact hi
theorem cut55b (A : Option Addr) (n c k : Nat) (hk : k ≤ n) (hc : n ≤ c) : ∃ A2 : Option Addr, (∀ W : World, (Instr.slice 55 (.slice A n c) (some (.int .i64 (k : Int))) none none).run Tryd.prog W = .ok (.slice A2 (n - k) (c - k)) W) ∧
    ∀ (W : World) (l : List Dg), l.length = n → Kd.C kdg W A n l → Kd.C kdg W A2 (n - k) (l.drop k) := by
  obtain ⟨i0, hi0, hsz⟩ : ∃ i0, Tryd.prog.info? 23 = some i0 ∧ i0.size = 20 := by
    have h : (Tryd.prog.info? 23).map (fun i => i.size) = some 20 := by kernel_rfl
    obtain ⟨i0, h1, h2⟩ := Option.map_eq_some_iff.1 h
    exact ⟨i0, h1, h2⟩
  refine ⟨_, fun W => cut_from (P := Tryd.prog) 55 23 .i64 Tryd.underlying55 hi0 20 hsz A n c (k : Int) (by omega) (by omega) W, fun W l hl h => ?_⟩
  subst hl
  have h2 := Kd.C_drop (m := k) (c := c) h hk hc
  rw [List.length_drop] at h2
  exact h2

end Go.Proofs.YtbldecdipicddaaDoor.Hand
