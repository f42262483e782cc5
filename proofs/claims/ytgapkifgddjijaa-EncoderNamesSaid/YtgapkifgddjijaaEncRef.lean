/- The encoder and its reference, as they were printed, do what the arithmetic says. -/
import Derived.Test.YtgapkifgddjijaaEncMath
import Derived.Test.YtgapkifgddjijaaQBx1
import Derived.Test.YtgapkifgddjijaaQBx2
import Derived.Test.YtgapkifgddjijaaQBx3
import Derived.Test.YtgapkifgddjijaaQBx5
import Derived.IntWalk
namespace Go.Proofs.Ytgapkifgddjijaa.Enc
open Go Go.RowKit Go.Proofs.Ytgapkifgddjijaa.QB Go.Proofs.YtgapkifgddjijaaW.PrintWords Go.Proofs.YtgapkifgddjijaaW.PrintLast Go.Proofs.YtgapkifgddjijaaW.PrintMore

theorem u64_id {n : Int} (h0 : 0 ≤ n) (h1 : n < 18446744073709551616) : IntKind.u64.wrap n = n := by
  simp only [IntKind.wrap, IntKind.bits, IntKind.signed]
  exact Int.emod_eq_of_lt h0 h1
theorem td {a b : Int} (h : 0 ≤ a) : Int.tdiv a b = a / b := Int.tdiv_eq_ediv_of_nonneg h
theorem tm {a b : Int} (h : 0 ≤ a) : Int.tmod a b = a % b := Int.tmod_eq_emod_of_nonneg h
theorem Middle_ok {x1 x2 p : Int} (h : Ok x1 x2) (h0 : 0 ≤ p) (h1 : p ≤ 4095) : bitloftref20_Middle.f x1 x2 p = some (md x1 x2 p) := by
  have hm := md_le h.lt h0
  have hl := md_lt h.lt h1
  have hs := md_split x1 x2 p
  obtain ⟨a, b, c⟩ := h
  unfold bitloftref20_Middle.f
  rw [u64_id (n := x1) (by omega) (by omega), u64_id (n := x2) (by omega) (by omega), u64_id (n := p) (by omega) (by omega), u64_id (n := x2 - x1) (by omega) (by omega), td (by omega), tm (by omega), u64_id (n := (x2 - x1) / 4096) (by omega) (by omega)]
  have m0 : 0 ≤ (x2 - x1) / 4096 * p := Int.mul_nonneg (by omega) h0
  have n0 : 0 ≤ (x2 - x1) % 4096 * p := Int.mul_nonneg (by omega) h0
  have m1 : (x2 - x1) / 4096 * p ≤ (x2 - x1) / 4096 * 4095 := Int.mul_le_mul_of_nonneg_left h1 (by omega)
  have n1 : (x2 - x1) % 4096 * p ≤ (x2 - x1) % 4096 * 4095 := Int.mul_le_mul_of_nonneg_left h1 (by omega)
  generalize (x2 - x1) / 4096 * p = r at *
  generalize (x2 - x1) % 4096 * p = s at *
  generalize md x1 x2 p = m at *
  rw [u64_id (n := r) (by omega) (by omega), u64_id (n := s) (by omega) (by omega), td (by omega), u64_id (n := s / 4096) (by omega) (by omega), u64_id (n := x1 + r) (by omega) (by omega), u64_id (n := x1 + r + s / 4096) (by omega) (by omega)]
  refine congrArg some ?_
  omega
theorem split_ok {x1 x2 p : Int} (h : Ok x1 x2) (h0 : 0 ≤ p) (h1 : p ≤ 4095) : encoder_split.f x1 x2 p = some (md x1 x2 p) := by
  have hm := md_le h.lt h0
  have hl := md_lt h.lt h1
  have hs := md_split x1 x2 p
  obtain ⟨a, b, c⟩ := h
  unfold encoder_split.f
  rw [Int.emod_eq_of_lt (a := x2 - x1) (by omega) (by omega), Int.emod_eq_of_lt (a := p) (by omega) (by omega), and4095 (by omega) (by omega)]
  have m0 : 0 ≤ (x2 - x1) / 4096 * p := Int.mul_nonneg (by omega) h0
  have n0 : 0 ≤ (x2 - x1) % 4096 * p := Int.mul_nonneg (by omega) h0
  have m1 : (x2 - x1) / 4096 * p ≤ (x2 - x1) / 4096 * 4095 := Int.mul_le_mul_of_nonneg_left h1 (by omega)
  have n1 : (x2 - x1) % 4096 * p ≤ (x2 - x1) % 4096 * 4095 := Int.mul_le_mul_of_nonneg_left h1 (by omega)
  generalize (x2 - x1) / 4096 * p = r at *
  generalize (x2 - x1) % 4096 * p = s at *
  generalize md x1 x2 p = m at *
  refine congrArg some ?_
  omega
/-- Whether a number is a probability. -/
def prb (p : Int) : Bool := decide (0 ≤ p) && decide (p ≤ 4095)
theorem prb_iff (p : Int) : prb p = true ↔ 0 ≤ p ∧ p ≤ 4095 := by simp [prb]
theorem Prob_ok (p : Int) : bitloftref20_Prob.f p = some (prb p) := by
  unfold bitloftref20_Prob.f prb
  by_cases h : p ≥ 0
  · rw [if_pos h, decide_eq_true h, Bool.true_and]
  · rw [if_neg h, decide_eq_false h, Bool.false_and]
theorem prob_ok (p : Int) : encoder_prob.f p = some (prb p) := by
  unfold encoder_prob.f prb
  by_cases h : p ≥ 0
  · rw [if_pos h, decide_eq_true h, Bool.true_and]
  · rw [if_neg h, decide_eq_false h, Bool.false_and]
/-- A split: the middle and the error. -/
def spl (x1 x2 p : Int) : Int × Int := if x1 < x2 ∧ prb p = true then (md x1 x2 p, 0) else (0, 2)
theorem Split_ok {x1 x2 : Int} (h0 : 0 ≤ x1) (h1 : x2 ≤ 4294967295) (p : Int) : encoder_Split.f x1 x2 p = some (spl x1 x2 p) ∧ bitloftref20_Split.f x1 x2 p = some (spl x1 x2 p) := by
  unfold encoder_Split.f bitloftref20_Split.f spl
  by_cases c : x1 ≥ x2
  · rw [if_pos c, if_pos c, if_neg (by omega)]
    exact ⟨rfl, rfl⟩
  · rw [if_neg c, if_neg c, prob_ok, Prob_ok, Option.bind_some, Option.bind_some]
    by_cases d : prb p = true
    · obtain ⟨a, b⟩ := (prb_iff p).1 d
      have o : Ok x1 x2 := ⟨h0, by omega, h1⟩
      rw [if_pos d, if_pos d, split_ok o a b, Middle_ok o a b, if_pos ⟨o.lt, d⟩]
      exact ⟨rfl, rfl⟩
    · rw [if_neg d, if_neg d, if_neg (fun h => d h.2)]
      exact ⟨rfl, rfl⟩
theorem Did_l0 : ∀ (f : Nat), f ≤ 4 → ∀ (k : Nat) (x1 x2 : Int) (o : List Int), f < k → In f x1 x2 → o.length + f < 140737488355328 → bitloftref20_Did.l0 k x1 x2 o = some (nrm f x1 x2 o) := by
  intro f
  induction f with
  | zero =>
    intro _ k x1 x2 o hk h _
    obtain ⟨k, rfl⟩ : ∃ m, k = m + 1 := ⟨k - 1, by omega⟩
    have n := h.apart
    have a := h.lo
    have b := h.hi
    have c := h.size
    rw [wd_zero] at c
    rw [bitloftref20_Did.l0.eq_2, td (by omega), td (by omega), if_neg (by omega), nrm]
  | succ f ih =>
    intro hf k x1 x2 o hk h ho
    obtain ⟨k, rfl⟩ : ∃ m, k = m + 1 := ⟨k - 1, by omega⟩
    have a := h.lo
    have b := h.hi
    have c := h.size
    have d := wd_pos (f + 1)
    rw [bitloftref20_Did.l0.eq_2, nrm, td (by omega), td (by omega)]
    by_cases e : x1 / 16777216 = x2 / 16777216
    · obtain ⟨h', _, b0, b1⟩ := h.step (by omega) e
      rw [if_pos (by omega), if_pos e, if_pos (by omega), show x1 / 16777216 % 256 = x1 / 16777216 by omega]
      exact ih (by omega) k _ _ _ (by omega) h' (by rw [List.length_append, List.length_singleton]; omega)
    · rw [if_neg (by omega), if_neg e]
theorem Did_ok {k : Nat} (hk : 6 ≤ k) {x1 x2 p : Int} (h : Ok x1 x2) (h0 : 0 ≤ p) (h1 : p ≤ 4095) (b : Bool) (o : List Int) (ho : o.length + 4 < 140737488355328) :
    bitloftref20_Did.f k x1 x2 o p b = some (stp x1 x2 p b o) := by
  obtain ⟨i1, i0⟩ := stp_in h h0 h1
  have hl := md_lt h.lt h1
  have hm := md_le h.lt h0
  have c := h.hi
  have l := h.lo
  obtain ⟨k, rfl⟩ : ∃ m, k = m + 1 := ⟨k - 1, by omega⟩
  unfold bitloftref20_Did.f stp
  rw [Option.bind_some, if_pos (by rw [List.length_nil]; omega), Option.bind_some, Middle_ok h h0 h1, Option.bind_some, List.nil_append]
  cases b
  · rw [if_neg (by decide), if_neg (by decide), bitloftref20_Did.j0.eq_2, Int.emod_eq_of_lt (by omega) (by omega)]
    exact Did_l0 4 (by omega) k _ _ o (by omega) i0 ho
  · rw [if_pos rfl, if_pos rfl, bitloftref20_Did.j0.eq_2]
    exact Did_l0 4 (by omega) k _ _ o (by omega) i1 ho
end Go.Proofs.Ytgapkifgddjijaa.Enc
