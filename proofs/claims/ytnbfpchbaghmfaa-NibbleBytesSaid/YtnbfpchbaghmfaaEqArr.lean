/- '==' of arrays of whole numbers, as one Bool. -/
import Derived.Test.YtnbfpchbaghmfaaWWords
import Derived.ChangeKeysEq
import Derived.Laws.StructEq
namespace Go
theorem eqItems_ints {P : Program} (d : Nat) (w : World) {e : TypeId} {k : IntKind} (he : P.underlying e = some (.int k)) (xs ys : List Int) (hl : xs.length = ys.length) :
    ∀ (m i : Nat), i + m = xs.length → (Op.eqItems (d + 1) e 1 (xs.map (Value.int k)).toArray (ys.map (Value.int k)).toArray (List.range' i m 1)).run P w = .ok (xs.drop i == ys.drop i) w := by
  intro m
  induction m with
  | zero =>
    intro i hi
    rw [List.drop_eq_nil_of_le (by omega), List.drop_eq_nil_of_le (by omega)]
    simp [Op.eqItems]
  | succ m ih =>
    intro i hi
    have hx : i < xs.length := by omega
    have hy : i < ys.length := by omega
    have px : (part e (xs.map (Value.int k)).toArray (i * 1)).run P w = .ok (.int k xs[i]) w := by
      simp [part, isAgg, run_underlying he, hx]
    have py : (part e (ys.map (Value.int k)).toArray (i * 1)).run P w = .ok (.int k ys[i]) w := by
      simp [part, isAgg, run_underlying he, hy]
    have pe : (Op.equalIn (d + 1) e (.int k xs[i]) (.int k ys[i])).run P w = .ok (xs[i] == ys[i]) w := run_equalIn_int w d e k k _ _ he
    rw [List.range'_succ, List.drop_eq_getElem_cons hx, List.drop_eq_getElem_cons hy, List.cons_beq_cons]
    simp only [Op.eqItems, Sem.run_bind, px, py, pe, Result.andThen_ok]
    cases hb : (xs[i] == ys[i])
    · simp
    · simpa using ih (i + 1) (by omega)
theorem eqArr {P : Program} (d : Nat) (w : World) {t e : TypeId} {n : Nat} {k : IntKind} (ht : P.underlying t = some (.array n e)) (he : P.underlying e = some (.int k)) (hi : (P.info? e).map (fun i => i.size) = some 1) (xs ys : List Int) (hx : xs.length = n) (hy : ys.length = n) :
    (Op.equalIn (d + 2) t (.agg (xs.map (Value.int k)).toArray) (.agg (ys.map (Value.int k)).toArray)).run P w = .ok (xs == ys) w := by
  obtain ⟨i, hi', hs⟩ := Option.map_eq_some_iff.1 hi
  have hc : P.cellsOf e = 1 := by
    have := hs
    simp [Program.cellsOf, hi', hs]
  rw [run_equalIn_array w (d + 1) _ _ ht hi', hc, List.range_eq_range', ← hx]
  have := eqItems_ints (P := P) d w he xs ys (hx.trans hy.symm) xs.length 0 (by omega)
  simpa using this
end Go
namespace Go.Proofs.YtnbfpchbaghmfaaW.PrintWords
/-- An element of an array of whole numbers. -/
theorem arr_rd (k : IntKind) (l : List Int) (j : Int) (h0 : 0 ≤ j) (h1 : j < (l.length : Int)) : ((l.map (Value.int k)).toArray : Array Value)[j.toNat]? = some (.int k (rd l j)) := by
  have h : j.toNat < l.length := by omega
  unfold rd
  simp [h]
end Go.Proofs.YtnbfpchbaghmfaaW.PrintWords
