/- The walks of the law HeaderDiffer. Written by wip/s1/mkdiffer.py. -/
import Derived.Test.YtbldecdipicddaaDoorHKit
set_option linter.unusedSimpArgs false
set_option linter.unusedVariables false
namespace Go.Proofs.YtbldecdipicddaaDoor.Hand
open Go Go.RowKit Go.Proofs.YtbldecdipicddaaDoorW.PrintWords Go.Proofs.YtbldecdipicddaaDoorW.PrintLast
theorem loadVar_sub {w : World} {g t : Nat} {pre vs post : List Value} (h : w.heap[g]? = some (.cells (pre ++ vs ++ post).toArray t (0, 0))) (ty : Nat) (hi : (Tryd.prog.info? ty).map (·.size) = some vs.length) (ha : (isAgg ty).run Tryd.prog w = .ok true w) : (loadVar ty ⟨g, pre.length, none⟩).run Tryd.prog w = .ok (.agg vs.toArray) w := by
  refine loadVar_list w ty g pre.length vs hi ha (fun j v hj => ?_)
  rw [blk_cell h]
  obtain ⟨h1, h2⟩ := List.getElem?_eq_some_iff.1 hj
  simp [List.getElem?_append, h1, h2]
theorem loadG_event {P : Program} {ops : Array Oper} {o : Oper} {rest : List Oper} {a : Act} {Q : Exit → Act → World → Prop} {W : World} {T : TypeId} {x : Operand} {v : Value} {g off : Nat} (hw : Region.wanted o (yielded ops a.tmps) = true) (ho : o.op = .load T x)
    (hx : a.eval x = .pointer (some ⟨g, off, none⟩)) (hs : (loadVar T ⟨g, off, none⟩).run P W = .ok v W) (h : wpList P ops Q rest (a.put o.dst v) W) : wpList P ops Q (o :: rest) a W := by
  refine wpList_step fun K hK => ?_
  rw [if_pos hw]
  unfold Oper.wp
  rw [loadN_run ho hx hs]
  exact hK _ _ h
theorem Kd.C_take' {w : World} {A : Option Addr} {n m : Nat} {xs : List Int} (h : Kd.C (Kd.int .u8) w A n xs) (hn : xs.length = n) (hm : m ≤ n) : Kd.C (Kd.int .u8) w A m (xs.take m) := by
  subst hn
  have := Kd.C_take (m := m) h hm
  rwa [show (xs.take m).length = m by rw [List.length_take]; omega] at this
end Go.Proofs.YtbldecdipicddaaDoor.Hand
