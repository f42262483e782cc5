/- What sha.Pad's padding is. Laid by wip/s1/mkbase.py. -/
import Derived.Test.YtbldecdipicddaaDoorQPx1
set_option linter.unusedSimpArgs false
set_option linter.unusedVariables false
namespace Go.Proofs.YtbldecdipicddaaDoor.Hand
open Go Go.RowKit Go.Proofs.YtbldecdipicddaaDoorW.PrintWords Go.Proofs.YtbldecdipicddaaDoor.QP
theorem wrap_u64 (n : Int) : IntKind.u64.wrap n = n % 18446744073709551616 := by simp [IntKind.wrap, IntKind.bits, IntKind.signed]
def pv (n s : Int) : Int := (shr .u64 (n * 8) s) % 256
def padt (n : Int) : List Int := [pv n 56, pv n 48, pv n 40, pv n 32, pv n 24, pv n 16, pv n 8, pv n 0]
def padl (n : Int) : List Int := [128] ++ List.replicate ((119 - n % 64) % 64).toNat 0 ++ padt n
theorem padt_length (n : Int) : (padt n).length = 8 := rfl
theorem pad_step (k : Nat) (n : Int) (xs : List Int) (x : Int) (h0 : 0 ≤ n) (h1 : n ≤ 20000) (hl : xs.length < 1000) (hx : 0 ≤ x) (hx2 : x ≤ 100) : sha_pad.l0 (k + 1) n xs x = sha_pad.l0 k n (xs ++ [pv n x]) (x - 8) := by
  rw [sha_pad.l0, if_pos hx, if_pos hx, if_pos (by omega)]
  rw [show IntKind.u64.wrap (IntKind.u64.wrap n * 8) = n * 8 by rw [wrap_u64, wrap_u64]; omega, show wrap64 (x - 8) = x - 8 by unfold wrap64; omega]
  rfl
theorem pad_tail (n : Int) (xs : List Int) (h0 : 0 ≤ n) (h1 : n ≤ 20000) (hl : xs.length < 900) : sha_pad.l0 9 n xs 56 = some (xs ++ padt n) := by
  rw [pad_step _ n _ _ h0 h1 (by omega) (by decide) (by decide)]
  rw [pad_step _ n _ _ h0 h1 (by simp only [List.length_append, List.length_singleton]; omega) (by decide) (by decide)]
  rw [pad_step _ n _ _ h0 h1 (by simp only [List.length_append, List.length_singleton]; omega) (by decide) (by decide)]
  rw [pad_step _ n _ _ h0 h1 (by simp only [List.length_append, List.length_singleton]; omega) (by decide) (by decide)]
  rw [pad_step _ n _ _ h0 h1 (by simp only [List.length_append, List.length_singleton]; omega) (by decide) (by decide)]
  rw [pad_step _ n _ _ h0 h1 (by simp only [List.length_append, List.length_singleton]; omega) (by decide) (by decide)]
  rw [pad_step _ n _ _ h0 h1 (by simp only [List.length_append, List.length_singleton]; omega) (by decide) (by decide)]
  rw [pad_step _ n _ _ h0 h1 (by simp only [List.length_append, List.length_singleton]; omega) (by decide) (by decide)]
  rw [sha_pad.l0, if_neg (by decide)]
  simp only [List.append_assoc, List.cons_append, List.nil_append]
  rfl
theorem pad_eq (n : Int) (h0 : 0 ≤ n) (h1 : n ≤ 20000) : sha_pad.f 9 n = some (padl n) := by
  have e1 : Int.tmod n 64 = n % 64 := Int.tmod_eq_emod_of_nonneg h0
  have e2 : wrap64 (119 - n % 64) = 119 - n % 64 := by unfold wrap64; omega
  have e3 : Int.tmod (119 - n % 64) 64 = (119 - n % 64) % 64 := Int.tmod_eq_emod_of_nonneg (by omega)
  unfold sha_pad.f
  rw [Option.bind_some, e1, e2, e3, if_pos (by omega), if_pos (by simp only [List.length_singleton]; omega), pad_tail n _ h0 h1 (by simp only [List.length_append, List.length_singleton, List.length_replicate]; omega)]
  rfl
end Go.Proofs.YtbldecdipicddaaDoor.Hand
