/- CostIdeal: in a range of at least 2^24 numbers a bit costs at most 4 more than its ideal cost, in no range more than 65,540 more, and neither is less than 0. No condition beyond the statement's own. -/
import Derived.Test.YtgapkifgddjijaaQAx3
import Derived.Test.YtgapkifgddjijaaCostRef
import Derived.OpenShut
namespace Go.Proofs.Ytgapkifgddjijaa.Pure
open Go.RowKit Go.Proofs.Ytgapkifgddjijaa.QA Go.Proofs.YtgapkifgddjijaaW.PrintWords Go.Proofs.YtgapkifgddjijaaW.PrintLast
open Go.Proofs.Ytgapkifgddjijaa.Cost Go.Proofs.Ytgapkifgddjijaa.LogMath

theorem alive_log_i : bitloftlaw23_alive.f 40 = some true := by decide +kernel
theorem alive_at_i {K : Nat} (hK : 40 ≤ K) : bitloftlaw23_alive.f K = some true := at_rounds bitloftlaw23_alive.mono hK alive_log_i

/-- How many numbers a bit's part has. -/
def part (a z p : Nat) (b : Bool) : Nat := if b then mid a z p - a + 1 else z - mid a z p
def pr (p : Nat) (b : Bool) : Nat := if b then p else 4096 - p
theorem part_range {a z p : Nat} (b : Bool) (h : a < z) (hp : p ≤ 4095) : 1 ≤ part a z p b ∧ part a z p b ≤ z - a + 1 := by
  have h1 := mid_lt h hp
  have h2 := mid_le a z p
  unfold part
  generalize mid a z p = m at *
  cases b <;> simp <;> omega
theorem part_wide {a z p : Nat} (b : Bool) (h : a < z) (hp : p ≤ 4095) : (z - a + 1 - 1) * pr p b ≤ part a z p b * 4096 := by
  have h1 := mid_lt h hp
  have h2 := mid_le a z p
  have h3 : mid a z p = a + (z - a) * p / 4096 := rfl
  unfold part pr
  rw [Nat.add_sub_cancel]
  cases b
  · simp only [Bool.false_eq_true, ↓reduceIte]
    rw [Nat.mul_sub]
    generalize (z - a) * p = q at *
    omega
  · simp only [↓reduceIte]
    generalize (z - a) * p = q at *
    omega
theorem step_val {K : Nat} (hK : 17 ≤ K) {a z p : Nat} (b : Bool) (h : a < z) (hz : z ≤ 4294967295) (h1 : 1 ≤ p) (h2 : p ≤ 4095) : cost_Step.f K (a : Int) (z : Int) (p : Int) b = some (((lg (z - a + 1) : Nat) : Int) - ((lg (part a z p b) : Nat) : Int), 0) := by
  unfold cost_Step.f cost_prob.f
  rw [if_neg (by omega), if_pos (by omega)]
  have hm := mid_lt (x1 := a) (x2 := z) (p := p) h h2
  have hl := mid_le a z p
  have hr := part_range b h h2
  have g1 := lg_le (n := z - a + 1) (by omega) (by omega)
  have g2 := lg_le (n := part a z p b) (by omega) (by omega)
  unfold cost_step.f encoder_Split.f encoder_prob.f
  rw [if_neg (by omega), if_pos (show (p : Int) ≥ 0 by omega), split_ok h hz h2]
  simp only [Option.bind_some, decide_eq_true (show (p : Int) ≤ 4095 by omega), ↓reduceIte]
  have e1 : ((z : Int) - (a : Int)) % 4294967296 + 1 = ((z - a + 1 : Nat) : Int) := by omega
  rw [e1, log_at hK (z - a + 1) (by omega) (by omega)]
  simp only [Option.bind_some]
  have hpart : part a z p b = if b then mid a z p - a + 1 else z - mid a z p := rfl
  generalize mid a z p = m at *
  cases b
  · simp only [Bool.false_eq_true, ↓reduceIte] at hpart ⊢
    have e3 : ((z : Int) - (m : Int)) % 4294967296 = ((z - m : Nat) : Int) := by omega
    rw [e3, log_at hK (z - m) (by omega) (by omega), ← hpart]
    simp only [Option.bind_some]
    rw [w64 (by omega) (by omega)]
  · simp only [↓reduceIte] at hpart ⊢
    have e2 : ((m : Int) - (a : Int)) % 4294967296 + 1 = ((m - a + 1 : Nat) : Int) := by omega
    rw [e2, log_at hK (m - a + 1) (by omega) (by omega), ← hpart]
    simp only [Option.bind_some]
    rw [w64 (by omega) (by omega)]
theorem bit_val {K : Nat} (hK : 17 ≤ K) {p : Nat} (b : Bool) (h1 : 1 ≤ p) (h2 : p ≤ 4095) : cost_Bit.f K (p : Int) b = some (786432 - ((lg (pr p b) : Nat) : Int), 0) := by
  unfold cost_Bit.f cost_prob.f cost_ideal.f
  rw [if_pos (by omega)]
  have e2 : (4096 : Int) - (p : Int) = ((4096 - p : Nat) : Int) := by omega
  have g1 := lg_le (n := p) (by omega) (by omega)
  have g2 := lg_le (n := 4096 - p) (by omega) (by omega)
  simp only [Option.bind_some, decide_eq_true (show (p : Int) ≤ 4095 by omega), ↓reduceIte]
  rw [w64 (n := 4096 - (p : Int)) (by omega) (by omega), e2, wu64 (n := (p : Int)) (by omega) (by omega), wu64 (n := ((4096 - p : Nat) : Int)) (by omega) (by omega)]
  rw [log_at hK p (by omega) (by omega), log_at hK (4096 - p) (by omega) (by omega)]
  unfold pr
  cases b
  · simp only [Bool.false_eq_true, ↓reduceIte, Option.bind_some]
    rw [w64 (by omega) (by omega)]
  · simp only [↓reduceIte, Option.bind_some]
    rw [w64 (by omega) (by omega)]
theorem lg_4096 : lg 4096 = 786432 := by
  have := lg_shift 12 (n := 1) (by omega)
  rw [show 2 ^ 12 * 1 = 4096 by decide] at this
  rw [this, lg_val]
  have h : D 16 (x0 1) = 0 := by decide +kernel
  rw [h]
  decide
theorem CostIdeal : bitloftlaw23_CostIdeal.Pure := by
  intro a0 a1 a2 a3 w0 w1 w2
  have b0 := bounds_u32 w0
  have b1 := bounds_u32 w1
  obtain ⟨k, hk⟩ : ∃ k, 60 ≤ k := ⟨60, Nat.le_refl _⟩
  refine ⟨k + 1, ?_⟩
  unfold bitloftlaw23_CostIdeal.f bitloftref23_Prob.f
  rw [alive_at_i (by omega)]
  simp only [Option.bind_some]
  have out : bitloftlaw23_CostIdeal.j0 (k + 1) a0 a1 a2 a3 true true = some true := by
    rw [bitloftlaw23_CostIdeal.j0.eq_2, if_pos rfl]
  by_cases c : a0 ≥ a1
  · rw [if_pos c, out]
  rw [if_neg c]
  by_cases c0 : a2 ≥ 1
  · rw [if_pos c0]
    simp only [Option.bind_some]
    by_cases c1 : a2 ≤ 4095
    · simp only [decide_eq_true c1, ↓reduceIte, Bool.not_true]
      obtain ⟨p, rfl⟩ := Int.eq_ofNat_of_zero_le (show 0 ≤ a2 by omega)
      obtain ⟨a, rfl⟩ := Int.eq_ofNat_of_zero_le b0.1
      obtain ⟨z, rfl⟩ := Int.eq_ofNat_of_zero_le (show 0 ≤ a1 by omega)
      have haz : a < z := by omega
      have hr := part_range (p := p) a3 haz (by omega)
      have hw := part_wide (p := p) a3 haz (by omega)
      have hpr : 1 ≤ pr p a3 ∧ pr p a3 ≤ 4096 := by unfold pr; cases a3 <;> simp <;> omega
      have any := lg_part_any (a := z - a + 1) (p := pr p a3) (q := part a z p a3) (by omega) (by omega) hpr.1 (by omega) hr.1 (by omega) hw
      have wide := fun (h : 131072 ≤ z - a + 1) => lg_part_wide (a := z - a + 1) (p := pr p a3) (q := part a z p a3) h (by omega) hpr.1 (by omega) hr.1 (by omega) hw
      have m1 := lg_mono hr.1 hr.2
      have m2 := lg_mono hpr.1 hpr.2
      rw [lg_4096] at m2
      have g1 := lg_le (n := z - a + 1) (by omega) (by omega)
      rw [bitloftlaw23_CostIdeal.j0.eq_2, if_neg (by simp), step_val (K := k) (by omega) a3 haz (by omega) (by omega) (by omega), bit_val (K := k) (by omega) a3 (by omega) (by omega)]
      simp only [Option.bind_some, ↓reduceIte]
      generalize lg (z - a + 1) = x at *
      generalize lg (part a z p a3) = y at *
      generalize lg (pr p a3) = u at *
      rw [if_neg (by omega), if_neg (by omega), w64 (n := 786432 - (u : Int) + 65540) (by omega) (by omega), if_neg (by omega), w64 (n := 786432 - (u : Int) + 4) (by omega) (by omega)]
      have e1 : ((z : Int) - (a : Int)) % 4294967296 = ((z - a : Nat) : Int) := by omega
      rw [e1]
      by_cases c2 : ((z - a : Nat) : Int) < 16777215
      · rw [if_pos c2]
      · rw [if_neg c2, decide_eq_true (by have := wide (by omega); omega)]
    · simp only [decide_eq_false c1, Bool.false_eq_true, ↓reduceIte]
      exact out
  · rw [if_neg c0]
    simp only [Option.bind_some, Bool.false_eq_true, ↓reduceIte]
    exact out
end Go.Proofs.Ytgapkifgddjijaa.Pure
