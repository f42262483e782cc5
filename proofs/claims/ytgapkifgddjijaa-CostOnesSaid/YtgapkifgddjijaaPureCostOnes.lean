/- CostOnes: Log, Bit and Step return what the reference returns, for any numbers. No condition beyond the statement's own. -/
import Derived.Test.YtgapkifgddjijaaQAx3
import Derived.Test.YtgapkifgddjijaaCostRef
import Derived.OpenShut
namespace Go.Proofs.Ytgapkifgddjijaa.Pure
open Go.RowKit Go.Proofs.Ytgapkifgddjijaa.QA Go.Proofs.YtgapkifgddjijaaW.PrintWords Go.Proofs.YtgapkifgddjijaaW.PrintLast
open Go.Proofs.Ytgapkifgddjijaa.Cost Go.Proofs.Ytgapkifgddjijaa.LogMath

theorem same_log {K : Nat} (hK : 120 ≤ K) (a : Int) : ∃ r, cost_Log.f K a = some r ∧ bitloftref23_Log.f K a = some r := by
  unfold cost_Log.f bitloftref23_Log.f
  by_cases c0 : a < 1
  · exact ⟨_, by rw [if_pos c0], by rw [if_pos c0]⟩
  · rw [if_neg c0, if_neg c0]
    by_cases c1 : a > 4294967296
    · exact ⟨_, by rw [if_pos c1], by rw [if_pos c1]⟩
    · rw [if_neg c1, if_neg c1]
      obtain ⟨n, rfl⟩ := Int.eq_ofNat_of_zero_le (show 0 ≤ a by omega)
      rw [log_at (by omega) n (by omega) (by omega), Logarithm_ok hK (by omega) (by omega)]
      exact ⟨_, rfl, rfl⟩
theorem same_bit {K : Nat} (hK : 120 ≤ K) (p : Int) (b : Bool) : ∃ r, cost_Bit.f K p b = some r ∧ bitloftref23_Bit.f K p b = some r := by
  unfold cost_Bit.f bitloftref23_Bit.f cost_prob.f bitloftref23_Prob.f
  by_cases c0 : p ≥ 1
  · rw [if_pos c0]
    simp only [Option.bind_some]
    by_cases c1 : p ≤ 4095
    · simp only [decide_eq_true c1, ↓reduceIte]
      obtain ⟨n, rfl⟩ := Int.eq_ofNat_of_zero_le (show 0 ≤ p by omega)
      unfold cost_ideal.f
      have e2 : (4096 : Int) - (n : Int) = ((4096 - n : Nat) : Int) := by omega
      rw [w64 (n := 4096 - (n : Int)) (by omega) (by omega), e2, wu64 (n := (n : Int)) (by omega) (by omega), wu64 (n := ((4096 - n : Nat) : Int)) (by omega) (by omega)]
      rw [log_at (by omega) n (by omega) (by omega), Logarithm_ok hK (n := n) (by omega) (by omega), log_at (by omega) (4096 - n) (by omega) (by omega), Logarithm_ok hK (n := 4096 - n) (by omega) (by omega)]
      cases b <;> exact ⟨_, rfl, rfl⟩
    · simp only [decide_eq_false c1, Bool.false_eq_true, ↓reduceIte]
      exact ⟨_, rfl, rfl⟩
  · rw [if_neg c0]
    exact ⟨_, rfl, rfl⟩
theorem same_step {K : Nat} (hK : 130 ≤ K) {x1 x2 : Int} (h1 : 0 ≤ x1) (h2 : x2 ≤ 4294967295) (p : Int) (b : Bool) : ∃ r, cost_Step.f K x1 x2 p b = some r ∧ bitloftref23_Step.f K x1 x2 p b = some r := by
  obtain ⟨k, rfl⟩ : ∃ m, K = m + 1 := ⟨K - 1, by omega⟩
  unfold cost_Step.f bitloftref23_Step.f
  by_cases c : x1 ≥ x2
  · rw [if_pos c, if_pos c, bitloftref23_Step.j0.eq_2, if_pos rfl]
    exact ⟨_, rfl, rfl⟩
  rw [if_neg c, if_neg c]
  unfold cost_prob.f bitloftref23_Prob.f
  by_cases c0 : p ≥ 1
  · rw [if_pos c0]
    simp only [Option.bind_some]
    by_cases c1 : p ≤ 4095
    · simp only [decide_eq_true c1, ↓reduceIte, Bool.not_true]
      obtain ⟨n, rfl⟩ := Int.eq_ofNat_of_zero_le (show 0 ≤ p by omega)
      obtain ⟨a, rfl⟩ := Int.eq_ofNat_of_zero_le h1
      obtain ⟨z, rfl⟩ := Int.eq_ofNat_of_zero_le (show 0 ≤ x2 by omega)
      have hm := mid_lt (x1 := a) (x2 := z) (p := n) (by omega) (by omega)
      have hl := mid_le a z n
      rw [bitloftref23_Step.j0.eq_2, if_neg (by simp), Middle_ok (by omega) (by omega) (by omega)]
      unfold cost_step.f encoder_Split.f encoder_prob.f
      rw [if_neg c, if_pos (show (n : Int) ≥ 0 by omega), split_ok (by omega) (by omega) (by omega)]
      simp only [Option.bind_some, decide_eq_true c1, ↓reduceIte]
      generalize mid a z n = m at *
      rw [wu64 (n := (a : Int)) (by omega) (by omega), wu64 (n := (z : Int)) (by omega) (by omega), wu64 (n := (m : Int)) (by omega) (by omega)]
      rw [wu64 (n := (z : Int) - (a : Int)) (by omega) (by omega), wu64 (n := (m : Int) - (a : Int)) (by omega) (by omega), wu64 (n := (z : Int) - (m : Int)) (by omega) (by omega)]
      rw [wu64 (n := (z : Int) - (a : Int) + 1) (by omega) (by omega), wu64 (n := (m : Int) - (a : Int) + 1) (by omega) (by omega)]
      have e1 : ((z : Int) - (a : Int)) % 4294967296 + 1 = ((z - a + 1 : Nat) : Int) := by omega
      have e2 : ((m : Int) - (a : Int)) % 4294967296 + 1 = ((m - a + 1 : Nat) : Int) := by omega
      have e3 : ((z : Int) - (m : Int)) % 4294967296 = ((z - m : Nat) : Int) := by omega
      have f1 : ((z : Int) - (a : Int)) + 1 = ((z - a + 1 : Nat) : Int) := by omega
      have f2 : ((m : Int) - (a : Int)) + 1 = ((m - a + 1 : Nat) : Int) := by omega
      have f3 : ((z : Int) - (m : Int)) = ((z - m : Nat) : Int) := by omega
      rw [e1, e2, e3, f1, f2, f3]
      rw [log_at (by omega) (z - a + 1) (by omega) (by omega), log_at (by omega) (m - a + 1) (by omega) (by omega), log_at (by omega) (z - m) (by omega) (by omega)]
      rw [Logarithm_ok (by omega) (n := z - a + 1) (by omega) (by omega), Logarithm_ok (by omega) (n := m - a + 1) (by omega) (by omega), Logarithm_ok (by omega) (n := z - m) (by omega) (by omega)]
      cases b <;> exact ⟨_, rfl, rfl⟩
    · simp only [decide_eq_false c1, Bool.false_eq_true, ↓reduceIte, Bool.not_false]
      rw [bitloftref23_Step.j0.eq_2, if_pos rfl]
      exact ⟨_, rfl, rfl⟩
  · rw [if_neg c0]
    simp only [Option.bind_some, Bool.false_eq_true, ↓reduceIte, Bool.not_false]
    rw [bitloftref23_Step.j0.eq_2, if_pos rfl]
    exact ⟨_, rfl, rfl⟩

theorem CostOnes : bitloftlaw23_CostOnes.Pure := by
  intro a0 a1 a2 a3 a4 w0 w1 w2 w3
  have b1 := bounds_u32 w1
  have b2 := bounds_u32 w2
  obtain ⟨k, hk⟩ : ∃ k, 130 ≤ k := ⟨130, Nat.le_refl _⟩
  obtain ⟨r1, p1, q1⟩ := same_log (K := k) (by omega) a0
  obtain ⟨r2, p2, q2⟩ := same_bit (K := k) (by omega) a3 a4
  obtain ⟨r3, p3, q3⟩ := same_step (K := k) hk b1.1 b2.2 a3 a4
  refine ⟨k, ?_⟩
  unfold bitloftlaw23_CostOnes.f
  rw [p1, q1, p2, q2, p3, q3]
  simp only [Option.bind_some, ↓reduceIte, beq_self_eq_true]
end Go.Proofs.Ytgapkifgddjijaa.Pure
