/- What the laid tables hold, in a world; '==' of arrays of whole numbers; an element of an array. -/
import Derived.Test.YtbldecdipicddaaDoorProg
import Derived.Below
import Derived.Deep.Draws
import Derived.Deep.AppendLies
import Derived.Maps.AppendAt
import Derived.OwnWalk
import Derived.Laws.BytesArg
import Derived.Laws.MakeOwn
import Derived.Laws.OwnMore
import Derived.Deep.OwnRows
import Derived.Tactics
import Derived.Lib.ConvBytes
import Derived.Laws.Slices
import Derived.WalkKit
import Derived.KernelRfl
import Derived.RowKit3
import Derived.Deep.LoopGhost
import Derived.Deep.QuietTactic
import Derived.BigQuiet
import Derived.WideLaws
import Derived.Deep.DeepCutAuto
import Derived.Deep.CutBlock
import Derived.Deep.RegionHeld3
import Derived.Laws.Rows
import Derived.Lib.AppendStr
import Derived.ArgAppend
import Derived.Laws.IdiomCopy
import Derived.OrdersHeld
import Derived.Laws.BitsLemmas
import Derived.RowKit
import Derived.Test.YtbldecdipicddaaDoorWWords
import Derived.Test.YtbldecdipicddaaDoorWLast
import Derived.Test.YtbldecdipicddaaDoorWTab
import Derived.Test.YtbldecdipicddaaDoorWFour
import Derived.Test.YtbldecdipicddaaDoorWQPut
import Derived.Test.YtbldecdipicddaaDoorWApart
import Derived.Test.YtbldecdipicddaaDoorWArr
import Derived.Test.YtbldecdipicddaaDoorSlim
import Derived.Test.YtbldecdipicddaaDoorWZeros
import Derived.Test.YtbldecdipicddaaDoorWEqStruct
import Derived.Test.YtbldecdipicddaaDoorWRepsOne
import Derived.Test.YtbldecdipicddaaDoorWGuard
import Derived.ChangeKeysEq
import Derived.Laws.StructEq
namespace Go
theorem eqItems_ints {P : Program} (d : Nat) (w : World) {e : TypeId} {k : IntKind} (he : P.underlying e = some (.int k)) (xs ys : List Int) (hl : xs.length = ys.length) :
    ∀ (m i : Nat), i + m = xs.length → (Op.eqItems (d + 1) e 1 (xs.map (Value.int k)).toArray (ys.map (Value.int k)).toArray (List.range' i m 1)).run P w = .ok (xs.drop i == ys.drop i) w := by
  intro m
  induction m with
  | zero =>
    intro i hi
    rw [List.drop_eq_nil_of_le (by omega), List.drop_eq_nil_of_le (by omega)]
    simp [Op.eqItems]
  | succ m ih =>
    intro i hi
    have hx : i < xs.length := by omega
    have hy : i < ys.length := by omega
    have px : (part e (xs.map (Value.int k)).toArray (i * 1)).run P w = .ok (.int k xs[i]) w := by
      simp [part, isAgg, run_underlying he, hx]
    have py : (part e (ys.map (Value.int k)).toArray (i * 1)).run P w = .ok (.int k ys[i]) w := by
      simp [part, isAgg, run_underlying he, hy]
    have pe : (Op.equalIn (d + 1) e (.int k xs[i]) (.int k ys[i])).run P w = .ok (xs[i] == ys[i]) w := run_equalIn_int w d e k k _ _ he
    rw [List.range'_succ, List.drop_eq_getElem_cons hx, List.drop_eq_getElem_cons hy, List.cons_beq_cons]
    simp only [Op.eqItems, Sem.run_bind, px, py, pe, Result.andThen_ok]
    cases hb : (xs[i] == ys[i])
    · simp
    · simpa using ih (i + 1) (by omega)
theorem eqArr {P : Program} (d : Nat) (w : World) {t e : TypeId} {n : Nat} {k : IntKind} (ht : P.underlying t = some (.array n e)) (he : P.underlying e = some (.int k)) (hi : (P.info? e).map (fun i => i.size) = some 1) (xs ys : List Int) (hx : xs.length = n) (hy : ys.length = n) :
    (Op.equalIn (d + 2) t (.agg (xs.map (Value.int k)).toArray) (.agg (ys.map (Value.int k)).toArray)).run P w = .ok (xs == ys) w := by
  obtain ⟨i, hi', hs⟩ := Option.map_eq_some_iff.1 hi
  have hc : P.cellsOf e = 1 := by
    have := hs
    simp [Program.cellsOf, hi', hs]
  rw [run_equalIn_array w (d + 1) _ _ ht hi', hc, List.range_eq_range', ← hx]
  have := eqItems_ints (P := P) d w he xs ys (hx.trans hy.symm) xs.length 0 (by omega)
  simpa using this
end Go
namespace Go.Proofs.YtbldecdipicddaaDoorW.PrintWords
/-- An element of an array of whole numbers. -/
theorem arr_rd (k : IntKind) (l : List Int) (j : Int) (h0 : 0 ≤ j) (h1 : j < (l.length : Int)) : ((l.map (Value.int k)).toArray : Array Value)[j.toNat]? = some (.int k (rd l j)) := by
  have h : j.toNat < l.length := by omega
  unfold rd
  simp [h]
/-- A part of an array in memory, as a slice leads to it. -/
theorem arr_C {w : World} {g : Nat} {t : TypeId} {cs : Array Value} (k : IntKind) (h : w.heap[g]? = some (.cells cs t (0, 0))) (off : Nat) (l : List Int) (hc : (cs.toList.drop off).take l.length = l.map (Value.int k)) (hl : l.length ≤ 9223372036854775807) : Kd.C (Kd.int k) w (some ⟨g, off, none⟩) l.length l := by
  refine Kd.C_of_reads (d := (0 : Int)) (h1 := fun _ => rfl) ⟨rfl, hl, fun _ => ⟨⟨g, off, none⟩, rfl, fun j hj => ?_⟩⟩
  have e : (⟨g, off, none⟩ : Addr).add j = ⟨g, off + j, none⟩ := by simp [Addr.add]
  rw [e, blk_cell h]
  have h1 : cs.toList[off + j]? = some (.int k (l.getD j 0)) := by
    have h2 : ((cs.toList.drop off).take l.length)[j]? = (l.map (Value.int k))[j]? := by rw [hc]
    rw [List.getElem?_take, if_pos hj, List.getElem?_drop, List.getElem?_map, List.getElem?_eq_getElem hj] at h2
    rw [h2, List.getD_eq_getElem?_getD, List.getElem?_eq_getElem hj]
    rfl
  simpa using h1
end Go.Proofs.YtbldecdipicddaaDoorW.PrintWords
namespace Go.Proofs.YtbldecdipicddaaDoor
open Go Go.RowKit
/-- The table 'widths' (the first package-level variable). -/
structure TabW (w : World) : Prop where
  c0 : w.cell? ⟨0, 0, none⟩ = some (.int .i64 1)
  c1 : w.cell? ⟨0, 1, none⟩ = some (.int .i64 1)
  c2 : w.cell? ⟨0, 2, none⟩ = some (.int .i64 2)
  c3 : w.cell? ⟨0, 3, none⟩ = some (.int .i64 2)
  c4 : w.cell? ⟨0, 4, none⟩ = some (.int .i64 2)
/-- The table 'quarters' (the second one). -/
structure TabQ (w : World) : Prop where
  c0 : w.cell? ⟨1, 0, none⟩ = some (.int .u32 1518500249)
  c1 : w.cell? ⟨1, 1, none⟩ = some (.int .u32 1859775393)
  c2 : w.cell? ⟨1, 2, none⟩ = some (.int .u32 2400959708)
  c3 : w.cell? ⟨1, 3, none⟩ = some (.int .u32 3395469782)
theorem cell_below {w w' : World} {p : Addr} {v : Value} (hb : Below w.heap.size w w') (h : w.cell? p = some v) : w'.cell? p = some v := (hb.cell (World.block_lt_of_cell? w _ h)).trans h
theorem TabW.at {w w' : World} (h : TabW w) (hb : Below w.heap.size w w') : TabW w' := ⟨cell_below hb h.c0, cell_below hb h.c1, cell_below hb h.c2, cell_below hb h.c3, cell_below hb h.c4⟩
theorem TabQ.at {w w' : World} (h : TabQ w) (hb : Below w.heap.size w w') : TabQ w' := ⟨cell_below hb h.c0, cell_below hb h.c1, cell_below hb h.c2, cell_below hb h.c3⟩
def wid (i : Nat) : Int := [1, 1, 2, 2, 2].getD i 0
def qua (i : Nat) : Int := [1518500249, 1859775393, 2400959708, 3395469782].getD i 0
theorem TabW.cell {w : World} (h : TabW w) {i : Nat} (hi : i < 5) : w.cell? ⟨0, i, none⟩ = some (.int .i64 (wid i)) := by
  match i, hi with
  | 0, _ => exact h.c0
  | 1, _ => exact h.c1
  | 2, _ => exact h.c2
  | 3, _ => exact h.c3
  | 4, _ => exact h.c4
theorem TabQ.cell {w : World} (h : TabQ w) {i : Nat} (hi : i < 4) : w.cell? ⟨1, i, none⟩ = some (.int .u32 (qua i)) := by
  match i, hi with
  | 0, _ => exact h.c0
  | 1, _ => exact h.c1
  | 2, _ => exact h.c2
  | 3, _ => exact h.c3
@[go_sem] theorem run_idx98_0 (a b c d e : Int) (w : World) : Sem.run Tryd.prog (Instr.index 98 (.agg #[.int .i64 a, .int .i64 b, .int .i64 c, .int .i64 d, .int .i64 e]) (.int .i64 0)) w = .ok (.int .i64 a) w := by kernel_rfl
@[go_sem] theorem run_idx98_1 (a b c d e : Int) (w : World) : Sem.run Tryd.prog (Instr.index 98 (.agg #[.int .i64 a, .int .i64 b, .int .i64 c, .int .i64 d, .int .i64 e]) (.int .i64 1)) w = .ok (.int .i64 b) w := by kernel_rfl
@[go_sem] theorem run_idx98_2 (a b c d e : Int) (w : World) : Sem.run Tryd.prog (Instr.index 98 (.agg #[.int .i64 a, .int .i64 b, .int .i64 c, .int .i64 d, .int .i64 e]) (.int .i64 2)) w = .ok (.int .i64 c) w := by kernel_rfl
@[go_sem] theorem run_idx98_3 (a b c d e : Int) (w : World) : Sem.run Tryd.prog (Instr.index 98 (.agg #[.int .i64 a, .int .i64 b, .int .i64 c, .int .i64 d, .int .i64 e]) (.int .i64 3)) w = .ok (.int .i64 d) w := by kernel_rfl
@[go_sem] theorem run_idx98_4 (a b c d e : Int) (w : World) : Sem.run Tryd.prog (Instr.index 98 (.agg #[.int .i64 a, .int .i64 b, .int .i64 c, .int .i64 d, .int .i64 e]) (.int .i64 4)) w = .ok (.int .i64 e) w := by kernel_rfl
end Go.Proofs.YtbldecdipicddaaDoor
