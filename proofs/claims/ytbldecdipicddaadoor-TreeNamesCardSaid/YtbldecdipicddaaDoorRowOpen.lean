/- An argument that is a slice of whole numbers, an array of them, or a header, as the walks want it. -/
import Derived.Test.YtbldecdipicddaaDoorTabs
import Derived.WalkKit
import Derived.ProofKit
import Derived.OpenShut
import Derived.Deep.Grids
import Derived.Deep.Slices
import Derived.Lib.SmallJoins
import Derived.ChangeSlices
namespace Go.Proofs.YtbldecdipicddaaDoor.RowOpen
open Go Go.Joins Go.RowKit Go.ChangeShapes Go.WideShapes Go.ChangeAt Go.Deep Go.Proofs.YtbldecdipicddaaDoorW.PrintWords Go.Proofs.YtbldecdipicddaaDoorW.PrintLast
variable {H : Type} {enc : TypeId × Value → H} {P : Program} {w : World} {base : Nat} {held : Bool} {r : Reach} {b0 : Nat}
theorem ints_at {t e : TypeId} {k : IntKind} {fuel : Nat} {v : Value} {x : DataW H × List MemPlace} (ht : P.underlying t = some (.slice e)) (he : P.underlying e = some (.int k)) (hc : P.cellsOf e = 1)
    (h : DataW.trod enc P w base (fun _ => true) held fuel t [v] = some x) :
    ∃ (A : Option Addr) (c : Nat) (l : List Int), v = .slice A l.length c ∧ Kd.C (Kd.int k) w A l.length l ∧ l.length ≤ c ∧ (∀ n ∈ l, (Lit.int k n).wf = true) := by
  rcases open_ints ht he hc h with ⟨hcs, _⟩ | ⟨a, len, cap, zs, hcs, _, hl, hm, hz, _, hcell, hwf⟩
  · exact ⟨none, 0, [], by simpa using hcs, Kd.C_of_reads (d := (0 : Int)) (h1 := fun _ => rfl) ⟨rfl, by decide, fun h => absurd h (by decide)⟩, Nat.le_refl _, fun n hn => by cases hn⟩
  · obtain ⟨l, e1, hr, _, hw, hcap⟩ := ReadsInt.ofRowC (k := k) (w := w) (a := some a) (len := len) (cap := cap) (zs := zs) (.inr ⟨a, rfl, hl, hm, by simpa using hz, hcell, hwf⟩)
    subst e1
    exact ⟨some a, cap, l, by simpa using hcs, Kd.C_of_reads (d := (0 : Int)) (h1 := fun _ => rfl) hr, hcap, hw⟩
theorem ints_of {t e : TypeId} {k : IntKind} {v : Value} {d : DataW H} {p : List MemPlace} (ht : P.underlying t = some (.slice e)) (he : P.underlying e = some (.int k)) (hc : P.cellsOf e = 1)
    (hv : Value.okWide P w r b0 t v) (h : DataW.Trod enc P w base (fun _ => true) held t v d p) :
    ∃ (A : Option Addr) (c : Nat) (l : List Int), v = .slice A l.length c ∧ Kd.C (Kd.int k) w A l.length l ∧ l.length ≤ c ∧ (∀ n ∈ l, (Lit.int k n).wf = true) := by
  obtain ⟨A, n, c, rfl⟩ := okWide_slice ht hv
  obtain ⟨fuel, hf⟩ := h
  exact ints_at ht he hc hf
/-- An array of whole numbers. -/
theorem arr_at {t e : TypeId} {n : Nat} {k : IntKind} {fuel : Nat} {cs : List Value} {x : DataW H × List MemPlace} (ht : P.underlying t = some (.array n e)) (he : P.underlying e = some (.int k)) (hc : P.cellsOf e = 1) (hC : P.cellsOf t = n)
    (h : DataW.trod enc P w base (fun _ => true) held fuel t cs = some x) : ∃ l : List Int, l.length = n ∧ cs = l.map (Value.int k) ∧ ∀ z ∈ l, (Lit.int k z).wf = true := by
  obtain ⟨xs, m, _, _, hl, hn, hel⟩ := DataW.trod_array ht h
  rw [hC] at hl
  have hi : ∀ i, i < n → ∃ z, cs[i]? = some (.int k z) ∧ (Lit.int k z).wf = true := by
    intro i hi
    have h := hel i hi
    rw [hc, Nat.mul_one, List.getElem?_eq_getElem (by omega)] at h
    obtain ⟨z, e1, _, hw⟩ := DataW.trod_int he h
    have e5 := congrArg (fun l => l[0]?) e1
    simp only [List.getElem?_take, List.getElem?_drop, Nat.lt_add_one, if_true, Nat.add_zero] at e5
    exact ⟨z, by simpa using e5, hw⟩
  clear hel
  obtain ⟨f, hf⟩ : ∃ f : Value → Int, ∀ z, f (.int k z) = z := ⟨fun v => match v with | .int _ z => z | _ => 0, fun z => rfl⟩
  refine ⟨cs.map f, by simp [hl], ?_, ?_⟩
  · apply List.ext_getElem?
    intro i
    by_cases h' : i < n
    · obtain ⟨z, e1, _⟩ := hi i h'
      simp [e1, hf]
    · simp [List.getElem?_eq_none (show cs.length ≤ i by omega)]
  · intro z hz
    obtain ⟨v, hv, rfl⟩ := List.mem_map.1 hz
    obtain ⟨i, hi', rfl⟩ := List.mem_iff_getElem.1 hv
    obtain ⟨z, e1, e2⟩ := hi i (by omega)
    rw [List.getElem?_eq_getElem hi'] at e1
    rw [Option.some.inj e1, hf]
    exact e2
theorem okWide_array {t e : TypeId} {n : Nat} {v : Value} (ht : P.underlying t = some (.array n e)) (h : Value.okWide P w r b0 t v) : ∃ cs, v = .agg cs ∧ cs.size = P.cellsOf t := by
  simp only [Value.okWide, ht] at h
  obtain ⟨cs, h1, h2, _⟩ := h
  exact ⟨cs, h1, h2⟩
theorem arr_of {t e : TypeId} {n : Nat} {k : IntKind} {v : Value} {d : DataW H} {p : List MemPlace} (ht : P.underlying t = some (.array n e)) (he : P.underlying e = some (.int k)) (hc : P.cellsOf e = 1) (hC : P.cellsOf t = n)
    (hv : Value.okWide P w r b0 t v) (h : DataW.Trod enc P w base (fun _ => true) held t v d p) : ∃ l : List Int, l.length = n ∧ v = .agg (l.map (Value.int k)).toArray ∧ ∀ z ∈ l, (Lit.int k z).wf = true := by
  obtain ⟨cs, rfl, hs⟩ := okWide_array ht hv
  obtain ⟨fuel, hf⟩ := h
  obtain ⟨l, h1, h2, h3⟩ := arr_at ht he hc hC hf
  refine ⟨l, h1, ?_, h3⟩
  congr 1
  apply Array.ext'
  simpa [Value.cells] using h2
set_option maxRecDepth 100000 in
/-- A header. -/
theorem hdr_of {v : Value} {d : DataW H} {p : List MemPlace} (hv : Value.okWide Tryd.prog w r b0 25 v) (h : DataW.Trod enc Tryd.prog w base (fun _ => true) held 25 v d p) :
    ∃ (m a b c d : Int) (l : List Int), l.length = 20 ∧ v = .agg (([.int .u8 m, .int .i64 a, .int .i64 b, .int .i64 c, .int .i64 d] : List Value) ++ l.map (Value.int .u8)).toArray ∧ (Lit.int .u8 m).wf = true ∧ (Lit.int .i64 a).wf = true ∧ (Lit.int .i64 b).wf = true ∧ (Lit.int .i64 c).wf = true ∧ (Lit.int .i64 d).wf = true ∧ ∀ z ∈ l, (Lit.int .u8 z).wf = true := by
  obtain ⟨cs, rfl, hs⟩ := okWide_struct Tryd.underlying25 hv
  have c5 : Tryd.prog.cellsOf 5 = 1 := by kernel_rfl
  have c3 : Tryd.prog.cellsOf 3 = 1 := by kernel_rfl
  have c23 : Tryd.prog.cellsOf 23 = 20 := by kernel_rfl
  have c25 : Tryd.prog.cellsOf 25 = 25 := by kernel_rfl
  rw [c25] at hs
  obtain ⟨fuel, hf⟩ := h
  obtain ⟨xs, n, _, _, _, hlen, hg⟩ := DataW.trod_struct Tryd.underlying25 hf
  have g0 := hg 0 _ rfl
  have g1 := hg 1 _ rfl
  have g2 := hg 2 _ rfl
  have g3 := hg 3 _ rfl
  have g4 := hg 4 _ rfl
  have g5 := hg 5 _ rfl
  clear hg hf
  obtain ⟨cs⟩ := cs
  have hl : xs.length = 6 := by simpa using hlen
  match xs, hl with
  | [y0, y1, y2, y3, y4, y5], _ =>
    match cs, hs with
    | v0 :: v1 :: v2 :: v3 :: v4 :: tl, hs =>
      simp only [Value.cells] at g0 g1 g2 g3 g4 g5
      obtain ⟨m, e0, _, w0⟩ := DataW.trod_int Tryd.underlying5 (show DataW.trod enc Tryd.prog w base (fun _ => true) held n 5 [v0] = some y0 from g0)
      obtain ⟨a, e1, _, w1⟩ := DataW.trod_int Tryd.underlying3 (show DataW.trod enc Tryd.prog w base (fun _ => true) held n 3 [v1] = some y1 from g1)
      obtain ⟨b, e2, _, w2⟩ := DataW.trod_int Tryd.underlying3 (show DataW.trod enc Tryd.prog w base (fun _ => true) held n 3 [v2] = some y2 from g2)
      obtain ⟨c, e3, _, w3⟩ := DataW.trod_int Tryd.underlying3 (show DataW.trod enc Tryd.prog w base (fun _ => true) held n 3 [v3] = some y3 from g3)
      obtain ⟨d, e4, _, w4⟩ := DataW.trod_int Tryd.underlying3 (show DataW.trod enc Tryd.prog w base (fun _ => true) held n 3 [v4] = some y4 from g4)
      obtain ⟨l, hl, e5, w5⟩ := arr_at (k := .u8) Tryd.underlying23 Tryd.underlying5 c5 c23 (show DataW.trod enc Tryd.prog w base (fun _ => true) held n 23 (tl.take 20) = some y5 from g5)
      have ht : tl.take 20 = tl := List.take_of_length_le (by simp at hs; omega)
      rw [ht] at e5
      simp only [List.cons.injEq, and_true] at e0 e1 e2 e3 e4
      subst e0 e1 e2 e3 e4 e5
      exact ⟨m, a, b, c, d, l, hl, rfl, w0, w1, w2, w3, w4, w5⟩
theorem bytes_wf {l : List Int} (h : ∀ n ∈ l, (Lit.int .u8 n).wf = true) : ∀ n ∈ l, 0 ≤ n ∧ n < 256 := by
  intro n hn
  have := h n hn
  simp [Lit.wf] at this
  have h1 : IntKind.u8.min = 0 := by decide
  have h2 : IntKind.u8.max = 255 := by decide
  omega
end Go.Proofs.YtbldecdipicddaaDoor.RowOpen
