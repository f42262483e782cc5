/- What the card's condition gives the walks: the tables' cells. -/
import Derived.Test.YtbldecdipicddaaDoorTabs
import Derived.Test.YtbldecdipicddaaDoorRows
import Derived.ProofKit
import Derived.LaidMore
import Derived.OpenShut
import Derived.Stop.Joined
namespace Go.Proofs.YtbldecdipicddaaDoor
open Go.ChangeShapes Go.WideShapes Go.ChangeAt Go.WideMaps Go.WideElems Go.RowKit
theorem gW : Tryd.prog.globalNamed "bitloft/header.widths" = some 0 := by kernel_rfl
theorem gQ : Tryd.prog.globalNamed "bitloft/sha.quarters" = some 1 := by kernel_rfl
theorem tW : (Tryd.prog.globals[0]?).map (·.type) = some 98 := by kernel_rfl
theorem tQ : (Tryd.prog.globals[1]?).map (·.type) = some 121 := by kernel_rfl
theorem ints_laid {W : World} {f : TypeId × Value → Unit} {m n e : Nat} {k : IntKind} {cs : List Value} {xs : List (DataW Unit × List MemPlace)} (he : Tryd.prog.underlying e = some (.int k)) (hc : Tryd.prog.cellsOf e = 1)
    (hel : ∀ i, i < n → DataW.trod f Tryd.prog W 0 (fun _ => true) false m e (List.take (Tryd.prog.cellsOf e) (List.drop (i * Tryd.prog.cellsOf e) cs)) = xs[i]?) (hn : xs.length = n) (vals : List Int)
    (hx : xs.map (fun x => x.1) = vals.map fun v => DataW.lit (.int k v)) : ∀ i, i < n → cs[i]? = some (.int k (vals.getD i 0)) := by
  intro i hi
  have h := hel i hi
  rw [hc, Nat.mul_one, List.getElem?_eq_getElem (by omega)] at h
  obtain ⟨z, e1, e2, _⟩ := DataW.trod_int he h
  have hv : i < vals.length := by
    have := congrArg List.length hx
    simp at this
    omega
  have e3 := congrArg (fun l => l[i]?) hx
  simp only [List.getElem?_map, List.getElem?_eq_getElem (show i < xs.length by omega), List.getElem?_eq_getElem hv, Option.map_some, Option.some.injEq, e2] at e3
  have e4 : z = vals[i] := by simpa using e3
  have e5 := congrArg (fun l => l[0]?) e1
  simp only [List.getElem?_take, List.getElem?_drop] at e5
  simp only [Nat.lt_add_one, if_true, Nat.add_zero] at e5
  rw [List.getD_eq_getElem?_getD, List.getElem?_eq_getElem hv, Option.getD_some, ← e4]
  simpa using e5
theorem tabW_data {W : World} {f : TypeId × Value → Unit} {m : Nat} {cs0 : Array Value} {p0 : List MemPlace} (hc : ∀ i, W.cell? ⟨0, i, none⟩ = cs0[i]?)
    (hd0 : DataW.trod f Tryd.prog W 0 (fun _ => true) false m 98 cs0.toList = some (Rows.laid_bitloft_header_widths, p0)) : TabW W := by
  obtain ⟨xs, m1, rfl, hx1, hlen, hn3, hel⟩ := DataW.trod_array Tryd.underlying98 hd0
  have h := ints_laid (k := .i64) Tryd.underlying3 (by kernel_rfl) hel hn3 [1, 1, 2, 2, 2] (by simp only [Prod.mk.injEq, Rows.laid_bitloft_header_widths, DataW.agg.injEq] at hx1; exact hx1.1.symm)
  simp only [Array.getElem?_toList] at h
  exact ⟨(hc 0).trans (h 0 (by decide)), (hc 1).trans (h 1 (by decide)), (hc 2).trans (h 2 (by decide)), (hc 3).trans (h 3 (by decide)), (hc 4).trans (h 4 (by decide))⟩
theorem tabQ_data {W : World} {f : TypeId × Value → Unit} {m : Nat} {cs0 : Array Value} {p0 : List MemPlace} (hc : ∀ i, W.cell? ⟨1, i, none⟩ = cs0[i]?)
    (hd0 : DataW.trod f Tryd.prog W 0 (fun _ => true) false m 121 cs0.toList = some (Rows.laid_bitloft_sha_quarters, p0)) : TabQ W := by
  obtain ⟨xs, m1, rfl, hx1, hlen, hn3, hel⟩ := DataW.trod_array Tryd.underlying121 hd0
  have h := ints_laid (k := .u32) Tryd.underlying41 (by kernel_rfl) hel hn3 [1518500249, 1859775393, 2400959708, 3395469782] (by simp only [Prod.mk.injEq, Rows.laid_bitloft_sha_quarters, DataW.agg.injEq] at hx1; exact hx1.1.symm)
  simp only [Array.getElem?_toList] at h
  exact ⟨(hc 0).trans (h 0 (by decide)), (hc 1).trans (h 1 (by decide)), (hc 2).trans (h 2 (by decide)), (hc 3).trans (h 3 (by decide))⟩
theorem tabW_of {W : World} (h : laidMetH Tryd.prog [("bitloft/header.widths", Rows.laid_bitloft_header_widths)] W) : TabW W := by
  rw [MakeChecks.laidMetH_plain _ _ _ (by kernel_rfl)] at h
  obtain ⟨ps, ⟨g0, t0, cs0, f0, p0, q0, hg0, ht0, hv0, hd0, _, _⟩, _, _⟩ := h
  obtain rfl := Option.some.inj (gW.symm.trans hg0)
  obtain rfl := Option.some.inj (tW.symm.trans ht0)
  exact tabW_data (World.var?_cell hg0 hv0) hd0
theorem tabQ_of {W : World} (h : laidMetH Tryd.prog [("bitloft/sha.quarters", Rows.laid_bitloft_sha_quarters)] W) : TabQ W := by
  rw [MakeChecks.laidMetH_plain _ _ _ (by kernel_rfl)] at h
  obtain ⟨ps, ⟨g0, t0, cs0, f0, p0, q0, hg0, ht0, hv0, hd0, _, _⟩, _, _⟩ := h
  obtain rfl := Option.some.inj (gQ.symm.trans hg0)
  obtain rfl := Option.some.inj (tQ.symm.trans ht0)
  exact tabQ_data (World.var?_cell hg0 hv0) hd0
theorem tabQW_of {W : World} (h : laidMetH Tryd.prog [("bitloft/sha.quarters", Rows.laid_bitloft_sha_quarters), ("bitloft/header.widths", Rows.laid_bitloft_header_widths)] W) : TabQ W ∧ TabW W := by
  rw [MakeChecks.laidMetH_plain _ _ _ (by kernel_rfl)] at h
  obtain ⟨ps, ⟨g0, t0, cs0, f0, p0, q0, hg0, ht0, hv0, hd0, ⟨g1, t1, cs1, f1, p1, q1, hg1, ht1, hv1, hd1, _, _⟩, _⟩, _, _⟩ := h
  obtain rfl := Option.some.inj (gQ.symm.trans hg0)
  obtain rfl := Option.some.inj (tQ.symm.trans ht0)
  obtain rfl := Option.some.inj (gW.symm.trans hg1)
  obtain rfl := Option.some.inj (tW.symm.trans ht1)
  exact ⟨tabQ_data (World.var?_cell hg0 hv0) hd0, tabW_data (World.var?_cell hg1 hv1) hd1⟩
end Go.Proofs.YtbldecdipicddaaDoor
