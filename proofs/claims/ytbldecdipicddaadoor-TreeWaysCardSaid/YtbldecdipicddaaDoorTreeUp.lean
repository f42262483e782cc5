/- Going up by a proof: what tree.Up answers. -/
import Derived.Test.YtbldecdipicddaaDoorTreeLaw
import Derived.Test.YtbldecdipicddaaDoorHUp
set_option linter.unusedSimpArgs false
set_option linter.unusedVariables false
namespace Go.Proofs.YtbldecdipicddaaDoor.Hand
open Go Go.RowKit Go.Proofs.YtbldecdipicddaaDoorW.PrintWords Go.Proofs.YtbldecdipicddaaDoor.QZ
theorem upk_cong (nd : Dg → Dg → Dg) (d : Dg) {bs bs' : Nat → Bool} {ps ps' : Nat → Dg} : ∀ m, (∀ k, k < m → bs k = bs' k ∧ ps k = ps' k) → upk nd bs ps d m = upk nd bs' ps' d m
  | 0, _ => rfl
  | m + 1, h => by
    rw [upk, upk, upk_cong nd d m (fun k hk => h k (by omega)), (h m (by omega)).1, (h m (by omega)).2]
theorem upk_goup : ∀ (s : List Bool) (pl : List Dg) (d : Dg), pl.length = s.length → upk ndg (fun k => s.getD (s.length - 1 - k) false) (fun k => pl.reverse.getD k zdg) d s.length = goup s pl d
  | [], pl, d, h => by
    obtain rfl := List.eq_nil_of_length_eq_zero h
    rfl
  | b :: s, [], d, h => by cases h
  | b :: s, p :: pl, d, h => by
    have hp : pl.length = s.length := by simpa using h
    have e : upk ndg (fun k => (b :: s).getD ((b :: s).length - 1 - k) false) (fun k => (p :: pl).reverse.getD k zdg) d s.length = upk ndg (fun k => s.getD (s.length - 1 - k) false) (fun k => pl.reverse.getD k zdg) d s.length := by
      refine upk_cong ndg d s.length (fun k hk => ⟨?_, ?_⟩)
      · show (b :: s).getD ((b :: s).length - 1 - k) false = s.getD (s.length - 1 - k) false
        rw [List.length_cons, show s.length + 1 - 1 - k = (s.length - 1 - k) + 1 by omega, List.getD_cons_succ]
      · show (p :: pl).reverse.getD k zdg = pl.reverse.getD k zdg
        rw [List.reverse_cons, List.getD_eq_getElem?_getD, List.getElem?_append_left (by rw [List.length_reverse]; omega), ← List.getD_eq_getElem?_getD]
    have e1 : (b :: s).getD ((b :: s).length - 1 - s.length) false = b := by rw [List.length_cons, show s.length + 1 - 1 - s.length = 0 by omega]; rfl
    have e2 : (p :: pl).reverse.getD s.length zdg = p := by
      rw [List.reverse_cons, List.getD_eq_getElem?_getD, List.getElem?_append_right (by rw [List.length_reverse]; omega), List.length_reverse, hp, Nat.sub_self]
      rfl
    rw [List.length_cons, upk, show s.length + 1 = (b :: s).length from rfl, e, upk_goup s pl d hp]
    show (if (b :: s).getD ((b :: s).length - 1 - s.length) false = true then ndg ((p :: pl).reverse.getD s.length zdg) _ else ndg _ ((p :: pl).reverse.getD s.length zdg)) = _
    rw [e1, e2]
    rfl
/-- The way to i of n, and what Steps and sides answer. -/
theorem way (n i : Nat) (h1 : i < n) (h2 : n ≤ 600) : ∃ s : List Bool, Sd s n i ∧ s.length < n ∧ (∀ W : World, Calls Tryd.prog 37 #[.int .i64 (n : Int), .int .i64 (i : Int)] W fun e w' => e = .returned (.tuple #[.int .i64 (s.length : Int), .int .i64 0]) ∧ Below W.heap.size W w') ∧ tree_sides.f (s.length + 6) (n : Int) (i : Int) = some s := by
  obtain ⟨s, hs, hsl⟩ := Sd_ex n i h1 h2
  have hsd : tree_sides.f (s.length + 6) (n : Int) (i : Int) = some s := by
    have := sides_eq s n i [] hs (by omega) (by simp; omega)
    rwa [List.nil_append] at this
  have hst : tree_Steps.f (s.length + 6) (n : Int) (i : Int) = some ((s.length : Int), 0) := by
    unfold tree_Steps.f
    rw [if_neg (by omega), if_neg (by omega), if_neg (by omega), if_neg (by omega), hsd]
    rfl
  exact ⟨s, hs, hsl, fun W => tree_Steps.calls (s.length + 6) (n : Int) (i : Int) (s.length : Int) 0 W hst, hsd⟩
/-- tree.Up with as many digests as the way has steps. -/
theorem pup_calls (n i : Nat) (h1 : i < n) (h2 : n ≤ 600) (s : List Bool) (hs : Sd s n i) (hsl : s.length < n) (A : Option Addr) (c : Nat) (pl : List Dg) (d : Dg) (W : World) (hT : TabQ W) (hr : Kd.C kdg W A pl.reverse.length pl.reverse) (hl : pl.length = s.length)
    (hst : ∀ W : World, Calls Tryd.prog 37 #[.int .i64 (n : Int), .int .i64 (i : Int)] W fun e w' => e = .returned (.tuple #[.int .i64 (s.length : Int), .int .i64 0]) ∧ Below W.heap.size W w') (hsd : tree_sides.f (s.length + 6) (n : Int) (i : Int) = some s) :
    Calls Tryd.prog 40 #[.int .i64 (n : Int), .int .i64 (i : Int), .agg #[.int .u8 (d 0), .int .u8 (d 1), .int .u8 (d 2), .int .u8 (d 3), .int .u8 (d 4), .int .u8 (d 5), .int .u8 (d 6), .int .u8 (d 7), .int .u8 (d 8), .int .u8 (d 9), .int .u8 (d 10), .int .u8 (d 11), .int .u8 (d 12), .int .u8 (d 13), .int .u8 (d 14), .int .u8 (d 15), .int .u8 (d 16), .int .u8 (d 17), .int .u8 (d 18), .int .u8 (d 19)], .slice A pl.reverse.length c] W fun e w' => e = .returned (.tuple #[.agg #[.int .u8 (goup s pl d 0), .int .u8 (goup s pl d 1), .int .u8 (goup s pl d 2), .int .u8 (goup s pl d 3), .int .u8 (goup s pl d 4), .int .u8 (goup s pl d 5), .int .u8 (goup s pl d 6), .int .u8 (goup s pl d 7), .int .u8 (goup s pl d 8), .int .u8 (goup s pl d 9), .int .u8 (goup s pl d 10), .int .u8 (goup s pl d 11), .int .u8 (goup s pl d 12), .int .u8 (goup s pl d 13), .int .u8 (goup s pl d 14), .int .u8 (goup s pl d 15), .int .u8 (goup s pl d 16), .int .u8 (goup s pl d 17), .int .u8 (goup s pl d 18), .int .u8 (goup s pl d 19)], .int .i64 0]) ∧ Below W.heap.size W w' := by
  have hrl : pl.reverse.length = s.length := by rw [List.length_reverse]; exact hl
  by_cases h0 : s.length = 0
  · obtain rfl := List.eq_nil_of_length_eq_zero h0
    obtain rfl := List.eq_nil_of_length_eq_zero (hl.trans h0)
    exact hUp_zero (n : Int) (i : Int) A c d W hT hst (fun W => tree_sides.calls 6 (n : Int) (i : Int) [] W hsd)
  · obtain ⟨ad, rfl, _⟩ := hr.2.2 (by omega)
    have hx := upk_goup s pl d hl
    rw [← hx, ← hrl]
    rw [← hrl] at hst
    exact hUp_ok (n : Int) (i : Int) ad pl.reverse.length c d W hT s ndg (fun k => s.getD (pl.reverse.length - 1 - k) false) (fun k => pl.reverse.getD k zdg) hst (fun W => tree_sides.calls (s.length + 6) (n : Int) (i : Int) s W hsd) (fun a b W hT => node_calls a b W hT) (fun W' hB' k hk => dg_load (Kd.C_below hr hB') hk) ⟨hrl.symm, fun k hk => rfl⟩ ⟨by omega, by omega⟩
end Go.Proofs.YtbldecdipicddaaDoor.Hand
