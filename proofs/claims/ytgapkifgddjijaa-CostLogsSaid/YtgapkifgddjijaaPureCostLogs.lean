/- CostLogs: logarithms grow, that of 2 n is 65,536 more than that of n, and that of a product is at most 3 more, and at most 1 less, than the sum of both. No condition beyond the statement's own. -/
import Derived.Test.YtgapkifgddjijaaQAx2
import Derived.Test.YtgapkifgddjijaaCostPure
import Derived.OpenShut
namespace Go.Proofs.Ytgapkifgddjijaa.Pure
open Go.RowKit Go.Proofs.Ytgapkifgddjijaa.QA Go.Proofs.YtgapkifgddjijaaW.PrintWords Go.Proofs.YtgapkifgddjijaaW.PrintLast
open Go.Proofs.Ytgapkifgddjijaa.Cost Go.Proofs.Ytgapkifgddjijaa.LogMath

theorem alive_log : bitloftlaw23_alive.f 40 = some true := by decide +kernel
theorem alive_at {K : Nat} (hK : 40 ≤ K) : bitloftlaw23_alive.f K = some true := at_rounds bitloftlaw23_alive.mono hK alive_log

theorem j1_ok {K : Nat} (hK : 18 ≤ K) (m : Nat) (h0 : 1 ≤ m) (h1 : m ≤ 4294967296) : bitloftlaw23_CostLogs.j1 K (m : Int) true ((lg m : Nat) : Int) false = some true := by
  obtain ⟨k, rfl⟩ : ∃ k, K = k + 1 := ⟨K - 1, by omega⟩
  rw [bitloftlaw23_CostLogs.j1.eq_2, if_neg (by simp)]
  have hw : IntKind.u64.wrap (2 * (m : Int)) = ((2 * m : Nat) : Int) := by rw [wu64 (by omega) (by omega)]; omega
  rw [hw]
  by_cases h : 2 * m ≤ 4294967296
  · rw [if_neg (by omega), Log_ok (K := k) (by omega) (2 * m) (by omega) h]
    have hd := lg_double h0
    have hb := lg_le h0 h1
    generalize lg (2 * m) = x at *
    generalize lg m = y at *
    subst hd
    simp only [Option.bind_some, ↓reduceIte]
    rw [w64 (by omega) (by omega)]
    exact congrArg some (beq_iff_eq.2 (by omega))
  · rw [if_pos (by omega)]

theorem CostLogs : bitloftlaw23_CostLogs.Pure := by
  intro a0 a1 w0 w1
  have b0 := bounds_u64 w0
  have b1 := bounds_u64 w1
  obtain ⟨n, rfl⟩ := Int.eq_ofNat_of_zero_le b0.1
  obtain ⟨m, rfl⟩ := Int.eq_ofNat_of_zero_le b1.1
  obtain ⟨k, hk⟩ : ∃ k, 60 ≤ k := ⟨60, Nat.le_refl _⟩
  refine ⟨k + 1, ?_⟩
  unfold bitloftlaw23_CostLogs.f
  rw [alive_at (by omega)]
  simp only [Option.bind_some]
  have out : bitloftlaw23_CostLogs.j0 (k + 1) (n : Int) (m : Int) true true = some true := by
    rw [bitloftlaw23_CostLogs.j0.eq_2, if_pos rfl]
  by_cases c0 : (n : Int) < 1
  · rw [if_pos c0, out]
  rw [if_neg c0]
  by_cases c1 : (n : Int) > (m : Int)
  · rw [if_pos c1, out]
  rw [if_neg c1]
  by_cases c2 : (m : Int) > 4294967296
  · rw [if_pos c2, out]
  rw [if_neg c2, if_neg (by omega)]
  by_cases c3 : (m : Int) > IntKind.u64.wrap (Int.tdiv 4294967296 (n : Int))
  · rw [if_pos c3, out]
  rw [if_neg c3]
  have hq : Int.tdiv 4294967296 (n : Int) = ((4294967296 / n : Nat) : Int) := by
    rw [Int.tdiv_eq_ediv_of_nonneg (by omega)]
    simp
  have hql : 4294967296 / n ≤ 4294967296 := Nat.div_le_self _ _
  rw [hq] at c3
  clear hq
  have hn : 1 ≤ n := by omega
  have hd := (Nat.le_div_iff_mul_le (x := m) (y := 4294967296) (k := n) (by omega)).1
  generalize 4294967296 / n = dq at *
  rw [wu64 (by omega) (by omega)] at c3
  have hp : n * m ≤ 4294967296 := by
    rw [Nat.mul_comm]
    exact hd (by omega)
  have hp1 : 1 ≤ n * m := Nat.mul_pos hn (by omega)
  have hmul : IntKind.u64.wrap ((n : Int) * (m : Int)) = ((n * m : Nat) : Int) := by
    have e : (n : Int) * (m : Int) = ((n * m : Nat) : Int) := by simp
    rw [e]
    generalize n * m = q at *
    exact wu64 (by omega) (by omega)
  have hg := lg_mono (n := n) (m := m) hn (by omega)
  have hm := lg_mul (n := n) (m := m) hn (by omega) hp
  have l1 := lg_le (n := n) hn (by omega)
  have l2 := lg_le (n := m) (by omega) (by omega)
  have l3 := lg_le hp1 hp
  rw [bitloftlaw23_CostLogs.j0.eq_2, if_neg (by simp), hmul, Log_ok (K := k) (by omega) n hn (by omega), Log_ok (K := k) (by omega) m (by omega) (by omega), Log_ok (K := k) (by omega) (n * m) hp1 hp]
  simp only [Option.bind_some, ↓reduceIte]
  have j := j1_ok (K := k) (by omega) m (by omega) (by omega)
  generalize lg (n * m) = z at *
  generalize lg n = x at *
  generalize lg m = y at *
  rw [if_neg (by omega), w64 (n := (x : Int) + (y : Int)) (by omega) (by omega), if_neg (by rw [w64 (by omega) (by omega)]; omega), w64 (n := (x : Int) + (y : Int) - 1) (by omega) (by omega)]
  rw [decide_eq_false (by omega)]
  exact j
end Go.Proofs.Ytgapkifgddjijaa.Pure
