/- Rows of digests: what they are, a load of one, an argument []api.Sum. -/
import Derived.Test.YtbldecdipicddaaDoorHNode
import Derived.Test.YtbldecdipicddaaDoorRowOpen
import Derived.Deep.Matrix
set_option linter.unusedSimpArgs false
set_option linter.unusedVariables false
namespace Go.Proofs.YtbldecdipicddaaDoor.Hand
open Go Go.Joins Go.RowKit Go.ChangeShapes Go.WideShapes Go.ChangeAt Go.Deep Go.Proofs.YtbldecdipicddaaDoorW.PrintWords Go.Proofs.YtbldecdipicddaaDoorW.PrintLast Go.Proofs.YtbldecdipicddaaDoor.RowOpen
/-- The kind of a digest. -/
def kdg : Kd Dg := Kd.iso (Kd.arr 20 (Kd.int .u8) (show 0 < (Kd.int .u8).sz from Nat.one_pos)) dgl
theorem kdg_sz : kdg.sz = 20 := rfl
theorem kdg_cells {w : World} {d : Dg} {cs : List Value} (h : kdg.K w d cs) : cs = (dgl d).map (Value.int .u8) := (Kd.arr_cells (enc := Value.int .u8) (h1 := fun _ => rfl) (hs := Nat.one_pos) h).2
theorem kdg_of (w : World) (d : Dg) : kdg.K w d ((dgl d).map (Value.int .u8)) := (Kd.arr 20 (Kd.int .u8) Nat.one_pos).K_of_M (base := 0) (ok := fun _ => True) (Kd.arr_of_cells (enc := Value.int .u8) (h1 := fun _ => rfl) (hs := Nat.one_pos) (dgl_len d))
theorem dgl_get (d : Dg) (i : Nat) (h : i < 20) : (dgl d)[i]? = some (d i) := by
  match i, h with
  | 0, _ | 1, _ | 2, _ | 3, _ | 4, _ | 5, _ | 6, _ | 7, _ | 8, _ | 9, _ | 10, _ | 11, _ | 12, _ | 13, _ | 14, _ | 15, _ | 16, _ | 17, _ | 18, _ | 19, _ => rfl
  | i + 20, h => exact absurd h (by omega)
theorem loadVar_at {P : Program} (w : World) (ty : Nat) (ad : Addr) (vs : List Value) (hi : (P.info? ty).map (·.size) = some vs.length) (ha : (isAgg ty).run P w = .ok true w) (hc : ∀ (j : Nat) (v : Value), vs[j]? = some v → w.cell? (ad.add j) = some v) : (loadVar ty ad).run P w = .ok (.agg vs.toArray) w := by
  have hl := run_loadCells_list (P := P) w ad vs hc
  cases hq : P.info? ty with
  | none => simp [hq] at hi
  | some i =>
    have hs : vs.length = i.size := by simp [hq] at hi; omega
    unfold loadVar
    rw [hs] at hl
    simp only [Sem.run_bind, ha, Result.andThen_ok, if_true, sizeOf, typeInfo]
    simp [hq, hl]
/-- Digest i of a row is read. -/
theorem dg_load {W : World} {ad : Addr} {n i : Nat} {xs : List Dg} (h : Kd.C kdg W (some ad) n xs) (hi : i < n) : (loadVar 23 (ad.add (i * 20))).run Tryd.prog W = .ok (.agg #[.int .u8 (xs.getD i zdg 0), .int .u8 (xs.getD i zdg 1), .int .u8 (xs.getD i zdg 2), .int .u8 (xs.getD i zdg 3), .int .u8 (xs.getD i zdg 4), .int .u8 (xs.getD i zdg 5), .int .u8 (xs.getD i zdg 6), .int .u8 (xs.getD i zdg 7), .int .u8 (xs.getD i zdg 8), .int .u8 (xs.getD i zdg 9), .int .u8 (xs.getD i zdg 10), .int .u8 (xs.getD i zdg 11), .int .u8 (xs.getD i zdg 12), .int .u8 (xs.getD i zdg 13), .int .u8 (xs.getD i zdg 14), .int .u8 (xs.getD i zdg 15), .int .u8 (xs.getD i zdg 16), .int .u8 (xs.getD i zdg 17), .int .u8 (xs.getD i zdg 18), .int .u8 (xs.getD i zdg 19)]) W := by
  obtain ⟨h1, h2, h3⟩ := h
  obtain ⟨ad', e, hc⟩ := h3 (by omega)
  obtain rfl := Option.some.inj e
  have hi' : i < xs.length := by omega
  obtain ⟨c, hs, hr, hcell⟩ := hc i _ (List.getElem?_eq_getElem hi')
  have ec := kdg_cells hr
  have e2 : xs.getD i zdg = xs[i] := by rw [List.getD_eq_getElem?_getD, List.getElem?_eq_getElem hi']; rfl
  rw [e2]
  subst ec
  refine loadVar_at W 23 (ad.add (i * 20)) ((dgl xs[i]).map (Value.int .u8)) (by kernel_rfl) (by kernel_rfl) (fun j v hj => ?_)
  rw [Go.Deep.add_add]
  exact hcell j v hj
section
variable {H : Type} {enc : TypeId × Value → H} {P : Program} {w : World} {base : Nat} {held : Bool} {r : Reach} {b0 : Nat}
theorem sums_of {t e q : TypeId} {v : Value} {d : DataW H} {p : List MemPlace} (ht : P.underlying t = some (.slice e)) (he : P.underlying e = some (.array 20 q)) (hq : P.underlying q = some (.int .u8)) (ce : P.cellsOf e = 20) (cq : P.cellsOf q = 1)
    (hv : Value.okWide P w r b0 t v) (h : DataW.Trod enc P w base (fun _ => true) held t v d p) :
    ∃ (A : Option Addr) (c : Nat) (ll : List Dg), v = .slice A ll.length c ∧ Kd.C kdg w A ll.length ll ∧ ll.length ≤ c ∧ ∀ j, j < ll.length → dgr (ll.getD j zdg) := by
  obtain ⟨A, n, c, rfl⟩ := okWide_slice ht hv
  obtain ⟨fuel, hf⟩ := h
  rcases DataW.trod_slice ht hf with ⟨hcs, _⟩ | ⟨a, len, cap, elems, rest, m, rfl, hcs, _, hb, hl, hm, hel, hread, _, _⟩
  · exact ⟨none, 0, [], by simpa [Value.cells] using hcs, ⟨rfl, by decide, fun h => absurd h (by decide)⟩, Nat.le_refl _, fun j hj => by cases hj⟩
  · have each : ∀ i, i < len → ∃ f : Dg, (∀ j, j < 20 → w.cell? (a.add (i * 20 + j)) = some (.int .u8 (f j))) ∧ dgr f := by
      intro i hi
      have hr := hread i hi
      rw [List.getElem?_eq_getElem (by omega)] at hr
      obtain ⟨cs, h1, h2⟩ := Option.bind_eq_some_iff.1 hr
      obtain ⟨l, hl20, rfl, hw⟩ := arr_at he hq cq ce h2
      obtain ⟨_, hlen, hcell⟩ := World.cells?_some h1
      refine ⟨fun j => l.getD j 0, fun j hj => ?_, fun j hj => ?_⟩
      · have := hcell j (by rw [ce]; exact hj)
        rw [ce, Addr.add_add] at this
        rw [this, List.getElem?_map, List.getElem?_eq_getElem (by omega)]
        show some (Value.int .u8 l[j]) = some (.int .u8 (l.getD j 0))
        rw [List.getD_eq_getElem?_getD, List.getElem?_eq_getElem (by omega)]
        rfl
      · have hz := hw (l.getD j 0) (by rw [List.getD_eq_getElem?_getD, List.getElem?_eq_getElem (by omega)]; exact List.getElem_mem _)
        show 0 ≤ l.getD j 0 ∧ l.getD j 0 < 256
        generalize l.getD j 0 = z at hz ⊢
        simp [Lit.wf] at hz
        have h1 : IntKind.u8.min = 0 := by decide
        have h2 : IntKind.u8.max = 255 := by decide
        omega
    obtain ⟨y, hy⟩ : ∃ f : Nat → Dg, ∀ i, i < len → (∀ j, j < 20 → w.cell? (a.add (i * 20 + j)) = some (.int .u8 (f i j))) ∧ dgr (f i) := by
      classical
      refine ⟨fun i => if hi : i < len then Classical.choose (each i hi) else zdg, fun i hi => ?_⟩
      simp only [dif_pos hi]
      exact Classical.choose_spec (each i hi)
    refine ⟨some a, cap, (List.range len).map y, by simpa [Value.cells] using hcs, ⟨rfl, ?_, fun _ => ⟨a, rfl, fun j p hj => ?_⟩⟩, by simpa using hl, fun j hj => ?_⟩
    · simp only [List.length_map, List.length_range]
      exact Nat.le_trans hl hm
    · have hj' : j < len := by
        have := (List.getElem?_eq_some_iff.1 hj).1
        simpa using this
      have ep : p = y j := by
        rw [List.getElem?_map, List.getElem?_range hj'] at hj
        exact (Option.some.inj hj).symm
      subst ep
      refine ⟨(dgl (y j)).map (Value.int .u8), by rw [List.length_map, dgl_len]; rfl, kdg_of w (y j), fun i u hi => ?_⟩
      have hi20 : i < 20 := by
        have := (List.getElem?_eq_some_iff.1 hi).1
        simpa [dgl_len] using this
      rw [List.getElem?_map, dgl_get _ i hi20] at hi
      cases hi
      exact (hy j hj').1 i hi20
    · have hj' : j < len := by simpa using hj
      rw [List.getD_eq_getElem?_getD, List.getElem?_map, List.getElem?_range hj']
      exact (hy j hj').2
end
end Go.Proofs.YtbldecdipicddaaDoor.Hand
