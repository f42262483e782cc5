/- What the reference's padding is. Laid by wip/s1/merge41.py. -/
import Derived.Test.YtbldecdipicddaaDoorPadMath
set_option linter.unusedSimpArgs false
set_option linter.unusedVariables false
namespace Go.Proofs.YtbldecdipicddaaDoor.Hand
open Go Go.RowKit Go.Proofs.YtbldecdipicddaaDoorW.PrintWords Go.Proofs.YtbldecdipicddaaDoor.QP
theorem rpad_step (k : Nat) (n : Int) (xs : List Int) (x : Int) (h0 : 0 ≤ n) (h1 : n ≤ 20000) (hl : xs.length < 1000) (hx : 0 ≤ x) (hx2 : x ≤ 100) : bitloftref01_Padding.l1 (k + 1) n xs x = bitloftref01_Padding.l1 k n (xs ++ [pv n (8 * x)]) (x - 1) := by
  have e : wrap64 (8 * x) = 8 * x := by unfold wrap64; omega
  rw [bitloftref01_Padding.l1, if_pos hx, e, if_pos (by omega), if_pos (by omega)]
  rw [show IntKind.u64.wrap (8 * IntKind.u64.wrap n) = n * 8 by rw [wrap_u64, wrap_u64]; omega, show wrap64 (x - 1) = x - 1 by unfold wrap64; omega]
  rfl
theorem rpad_tail (n : Int) (xs : List Int) (h0 : 0 ≤ n) (h1 : n ≤ 20000) (hl : xs.length < 900) : bitloftref01_Padding.l1 9 n xs 7 = some (xs ++ padt n) := by
  rw [rpad_step _ n _ _ h0 h1 (by omega) (by decide) (by decide)]
  rw [rpad_step _ n _ _ h0 h1 (by simp only [List.length_append, List.length_singleton]; omega) (by decide) (by decide)]
  rw [rpad_step _ n _ _ h0 h1 (by simp only [List.length_append, List.length_singleton]; omega) (by decide) (by decide)]
  rw [rpad_step _ n _ _ h0 h1 (by simp only [List.length_append, List.length_singleton]; omega) (by decide) (by decide)]
  rw [rpad_step _ n _ _ h0 h1 (by simp only [List.length_append, List.length_singleton]; omega) (by decide) (by decide)]
  rw [rpad_step _ n _ _ h0 h1 (by simp only [List.length_append, List.length_singleton]; omega) (by decide) (by decide)]
  rw [rpad_step _ n _ _ h0 h1 (by simp only [List.length_append, List.length_singleton]; omega) (by decide) (by decide)]
  rw [rpad_step _ n _ _ h0 h1 (by simp only [List.length_append, List.length_singleton]; omega) (by decide) (by decide)]
  rw [bitloftref01_Padding.l1, if_neg (by decide)]
  simp only [List.append_assoc, List.cons_append, List.nil_append]
  rfl
theorem rpad_zeros (n : Int) (h0 : 0 ≤ n) (h1 : n ≤ 20000) : ∀ (m : Nat) (xs : List Int), m < 64 → xs.length + m < 500 → (n + (xs.length : Int) + 8 + (m : Int)) % 64 = 0 → bitloftref01_Padding.l0 (m + 10) n xs = some (xs ++ List.replicate m 0 ++ padt n)
  | 0, xs, _, hl, h => by
    have e1 : wrap64 (n + (xs.length : Int)) = n + (xs.length : Int) := by unfold wrap64; omega
    have e2 : wrap64 (n + (xs.length : Int) + 8) = n + (xs.length : Int) + 8 := by unfold wrap64; omega
    have e3 : Int.tmod (n + (xs.length : Int) + 8) 64 = (n + (xs.length : Int) + 8) % 64 := Int.tmod_eq_emod_of_nonneg (by omega)
    rw [Nat.zero_add, bitloftref01_Padding.l0, e1, e2, e3, if_pos (by omega), rpad_tail n xs h0 h1 (by omega)]
    simp
  | m + 1, xs, hm, hl, h => by
    have e1 : wrap64 (n + (xs.length : Int)) = n + (xs.length : Int) := by unfold wrap64; omega
    have e2 : wrap64 (n + (xs.length : Int) + 8) = n + (xs.length : Int) + 8 := by unfold wrap64; omega
    have e3 : Int.tmod (n + (xs.length : Int) + 8) 64 = (n + (xs.length : Int) + 8) % 64 := Int.tmod_eq_emod_of_nonneg (by omega)
    rw [show m + 1 + 10 = (m + 10) + 1 by omega, bitloftref01_Padding.l0, e1, e2, e3, if_neg (by omega), if_pos (by omega), rpad_zeros n h0 h1 m (xs ++ [0]) (by omega) (by simp only [List.length_append, List.length_singleton]; omega) (by simp only [List.length_append, List.length_singleton]; omega), List.replicate_succ]
    simp
theorem rpad_eq (n : Int) (h0 : 0 ≤ n) (h1 : n ≤ 20000) : bitloftref01_Padding.f (((119 - n % 64) % 64).toNat + 10) n = some (padl n) := by
  unfold bitloftref01_Padding.f
  exact rpad_zeros n h0 h1 _ [128] (by omega) (by simp only [List.length_singleton]; omega) (by simp only [List.length_singleton]; omega)
end Go.Proofs.YtbldecdipicddaaDoor.Hand
