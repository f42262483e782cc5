/- An argument that is a list of lists of whole numbers, as the walks want it. -/
import Derived.Test.YtbldecdipicddaaDoorRowOpen
import Derived.Deep.Matrix
namespace Go.Proofs.YtbldecdipicddaaDoor.RowOpen
open Go Go.Joins Go.RowKit Go.ChangeShapes Go.WideShapes Go.ChangeAt Go.Deep Go.Proofs.YtbldecdipicddaaDoorW.PrintWords Go.Proofs.YtbldecdipicddaaDoorW.PrintLast
variable {H : Type} {enc : TypeId × Value → H} {P : Program} {w : World} {base : Nat} {held : Bool} {r : Reach} {b0 : Nat}
theorem row_C {k : IntKind} {A : Option Addr} {L C : Nat} {Z : List Int} (h1 : L ≤ C) (h2 : C ≤ maxLen) (h3 : Z.length = C) (h4 : ∀ n ∈ Z, (Lit.int k n).wf = true) (h5 : A = none → C = 0) (h6 : ∀ a', A = some a' → base ≤ a'.block ∧ ∀ c, c < C → w.cell? (a'.add c) = some (.int k (Z.getD c 0))) :
    ∃ l : List Int, L = l.length ∧ Kd.C (Kd.int k) w A l.length l ∧ l.length ≤ C ∧ ∀ n ∈ l, (Lit.int k n).wf = true := by
  cases A with
  | none =>
    obtain rfl := h5 rfl
    obtain rfl : L = 0 := by omega
    exact ⟨[], rfl, Kd.C_of_reads (d := (0 : Int)) (h1 := fun _ => rfl) ⟨rfl, by decide, fun h => absurd h (by decide)⟩, Nat.le_refl _, fun n hn => by cases hn⟩
  | some a =>
    obtain ⟨_, hcell⟩ := h6 a rfl
    obtain ⟨l, e1, hr, _, hw, hcap⟩ := ReadsInt.ofRowC (k := k) (w := w) (a := some a) (len := L) (cap := C) (zs := Z) (.inr ⟨a, rfl, h1, h2, h3, fun i hi => hcell i (by rw [← h3]; exact hi), h4⟩)
    subst e1
    exact ⟨l, rfl, Kd.C_of_reads (d := (0 : Int)) (h1 := fun _ => rfl) hr, hcap, hw⟩
theorem rows_of {t e q : TypeId} {k : IntKind} {v : Value} {d : DataW H} {p : List MemPlace} (ht : P.underlying t = some (.slice e)) (he : P.underlying e = some (.slice q)) (hq : P.underlying q = some (.int k)) (ce : P.cellsOf e = 1) (cq : P.cellsOf q = 1)
    (hv : Value.okWide P w r b0 t v) (h : DataW.Trod enc P w base (fun _ => true) held t v d p) :
    ∃ (A : Option Addr) (c : Nat) (ll : List (List Int)), v = .slice A ll.length c ∧ Kd.C (Kd.slice 5 (Kd.int k)) w A ll.length ll ∧ ll.length ≤ c ∧ ∀ j, j < ll.length → ∀ z ∈ ll.getD j [], (Lit.int k z).wf = true := by
  obtain ⟨A, n, c, rfl⟩ := okWide_slice ht hv
  obtain ⟨fuel, hf⟩ := h
  rcases open_int_rows ht he hq ce cq hf with ⟨hcs, _⟩ | ⟨a, len, cap, A', L, C, Z, hcs, _, hl, hm, _, hrow⟩
  · exact ⟨none, 0, [], by simpa [Value.cells] using hcs, ⟨rfl, by decide, fun h => absurd h (by decide)⟩, Nat.le_refl _, fun j hj => by cases hj⟩
  · have each : ∀ r, r < len → ∃ l : List Int, L r = l.length ∧ Kd.C (Kd.int k) w (A' r) l.length l ∧ l.length ≤ C r ∧ ∀ n ∈ l, (Lit.int k n).wf = true := by
      intro r hr
      obtain ⟨_, r1, r2, r3, r4, r5, r6⟩ := hrow r (by omega)
      exact row_C r1 r2 r3 r4 r5 r6
    obtain ⟨y, hy⟩ := choose_lt each
    refine ⟨some a, cap, (List.range len).map y, by simpa [Value.cells] using hcs, ⟨rfl, ?_, fun _ => ⟨a, rfl, fun j p hj => ?_⟩⟩, by simpa using hl, fun j hj z hz => ?_⟩
    · simp only [List.length_map, List.length_range]
      exact Nat.le_trans hl hm
    · have hj' : j < len := by
        have := (List.getElem?_eq_some_iff.1 hj).1
        simpa using this
      have ep : p = y j := by
        rw [List.getElem?_map, List.getElem?_range hj'] at hj
        exact (Option.some.inj hj).symm
      subst ep
      obtain ⟨e1, hC, hle, _⟩ := hy j hj'
      refine ⟨[.slice (A' j) (y j).length (C j)], rfl, ⟨A' j, C j, rfl, hle, hC⟩, fun i u hi => ?_⟩
      match i, hi with
      | 0, hi =>
        cases hi
        show w.cell? (a.add (j * 1 + 0)) = _
        rw [Nat.mul_one, Nat.add_zero, (hrow j (by omega)).1, e1]
      | i + 1, hi => simp at hi
    · have hj' : j < len := by simpa using hj
      rw [List.getD_eq_getElem?_getD, List.getElem?_map, List.getElem?_range hj'] at hz
      exact (hy j hj').2.2.2 z hz
end Go.Proofs.YtbldecdipicddaaDoor.RowOpen
