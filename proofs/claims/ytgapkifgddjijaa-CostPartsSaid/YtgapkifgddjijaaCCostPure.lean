/- The printed logarithm of package cost is the plain one of LogMath, for every number from 1 to 2^32. -/
import Derived.Test.YtgapkifgddjijaaLogMath
import Derived.Test.YtgapkifgddjijaaQCx1
import Derived.Test.YtgapkifgddjijaaQCx6
import Derived.IntWalk
namespace Go.Proofs.Ytgapkifgddjijaa.CostC
open Go.RowKit Go.Proofs.Ytgapkifgddjijaa.QC Go.Proofs.YtgapkifgddjijaaW.PrintWords Go.Proofs.YtgapkifgddjijaaW.PrintLast Go.Proofs.YtgapkifgddjijaaW.PrintMore
open Go.Proofs.Ytgapkifgddjijaa.LogMath

theorem tab_nat : ∀ n : Nat, n < 256 → bt (⟨#[0, 1, 2, 2, 3, 3, 3, 3, 4, 4, 4, 4, 4, 4, 4, 4, 5, 5, 5, 5, 5, 5, 5, 5, 5, 5, 5, 5, 5, 5, 5, 5, 6, 6, 6, 6, 6, 6, 6, 6, 6, 6, 6, 6, 6, 6, 6, 6, 6, 6, 6, 6, 6, 6, 6, 6, 6, 6, 6, 6, 6, 6, 6, 6, 7, 7, 7, 7, 7, 7, 7, 7, 7, 7, 7, 7, 7, 7, 7, 7, 7, 7, 7, 7, 7, 7, 7, 7, 7, 7, 7, 7, 7, 7, 7, 7, 7, 7, 7, 7, 7, 7, 7, 7, 7, 7, 7, 7, 7, 7, 7, 7, 7, 7, 7, 7, 7, 7, 7, 7, 7, 7, 7, 7, 7, 7, 7, 7, 8, 8, 8, 8, 8, 8, 8, 8, 8, 8, 8, 8, 8, 8, 8, 8, 8, 8, 8, 8, 8, 8, 8, 8, 8, 8, 8, 8, 8, 8, 8, 8, 8, 8, 8, 8, 8, 8, 8, 8, 8, 8, 8, 8, 8, 8, 8, 8, 8, 8, 8, 8, 8, 8, 8, 8, 8, 8, 8, 8, 8, 8, 8, 8, 8, 8, 8, 8, 8, 8, 8, 8, 8, 8, 8, 8, 8, 8, 8, 8, 8, 8, 8, 8, 8, 8, 8, 8, 8, 8, 8, 8, 8, 8, 8, 8, 8, 8, 8, 8, 8, 8, 8, 8, 8, 8, 8, 8, 8, 8, 8, 8, 8, 8, 8, 8, 8, 8, 8, 8, 8, 8, 8, 8, 8, 8, 8, 8]⟩ : ByteArray) (n : Int) = ((if n = 0 then 0 else n.log2 + 1 : Nat) : Int) := by decide +kernel

theorem log2_div (k : Nat) {x : Nat} (h : 2 ^ k ≤ x) : (x / 2 ^ k).log2 + k = x.log2 := by
  have hp : 0 < 2 ^ k := Nat.pow_pos (by omega)
  have hx : x ≠ 0 := by omega
  have hq : x / 2 ^ k ≠ 0 := by
    have := Nat.div_pos h hp
    omega
  refine Nat.le_antisymm ?_ ?_
  · refine (Nat.le_log2 hx).2 ?_
    rw [Nat.pow_add]
    have a := Nat.log2_self_le hq
    calc 2 ^ (x / 2 ^ k).log2 * 2 ^ k ≤ x / 2 ^ k * 2 ^ k := Nat.mul_le_mul_right _ a
      _ ≤ x := Nat.div_mul_le_self x (2 ^ k)
  · have b : x / 2 ^ k < 2 ^ ((x / 2 ^ k).log2 + 1) := Nat.lt_log2_self
    have c : x < 2 ^ ((x / 2 ^ k).log2 + 1 + k) := by
      rw [Nat.pow_add]
      exact (Nat.div_lt_iff_lt_mul hp).1 b
    have := (Nat.log2_lt hx).2 c
    omega

theorem log2_u8 {x : Nat} (h : 256 ≤ x) : (x / 256).log2 + 8 = x.log2 := log2_div 8 h
theorem log2_u16 {x : Nat} (h : 65536 ≤ x) : (x / 65536).log2 + 16 = x.log2 := log2_div 16 h
theorem log2_u32 {x : Nat} (h : 4294967296 ≤ x) : (x / 4294967296).log2 + 32 = x.log2 := log2_div 32 h
theorem log2_small {x k : Nat} (h0 : 0 < x) (h : x < 2 ^ k) : x.log2 < k := (Nat.log2_lt (by omega)).2 h

theorem w64 {n : Int} (h0 : -9223372036854775808 ≤ n) (h1 : n ≤ 9223372036854775807) : wrap64 n = n := by unfold wrap64; omega
theorem wu64 {n : Int} (h0 : 0 ≤ n) (h1 : n ≤ 18446744073709551615) : IntKind.u64.wrap n = n := IntWalk.u64_in n ⟨h0, h1⟩

theorem j0_ok (k : Nat) (x : Nat) (c : Int) (h0 : 0 < x) (h1 : x < 4294967296) (c0 : 0 ≤ c) (c1 : c ≤ 1000) :
    bits_Len64.j0 (k + 1) (x : Int) c = some (c + ((x.log2 + 1 : Nat) : Int)) := by
  have tb : ∀ (m : Nat), 0 < m → m < 256 → bt (⟨#[0, 1, 2, 2, 3, 3, 3, 3, 4, 4, 4, 4, 4, 4, 4, 4, 5, 5, 5, 5, 5, 5, 5, 5, 5, 5, 5, 5, 5, 5, 5, 5, 6, 6, 6, 6, 6, 6, 6, 6, 6, 6, 6, 6, 6, 6, 6, 6, 6, 6, 6, 6, 6, 6, 6, 6, 6, 6, 6, 6, 6, 6, 6, 6, 7, 7, 7, 7, 7, 7, 7, 7, 7, 7, 7, 7, 7, 7, 7, 7, 7, 7, 7, 7, 7, 7, 7, 7, 7, 7, 7, 7, 7, 7, 7, 7, 7, 7, 7, 7, 7, 7, 7, 7, 7, 7, 7, 7, 7, 7, 7, 7, 7, 7, 7, 7, 7, 7, 7, 7, 7, 7, 7, 7, 7, 7, 7, 7, 8, 8, 8, 8, 8, 8, 8, 8, 8, 8, 8, 8, 8, 8, 8, 8, 8, 8, 8, 8, 8, 8, 8, 8, 8, 8, 8, 8, 8, 8, 8, 8, 8, 8, 8, 8, 8, 8, 8, 8, 8, 8, 8, 8, 8, 8, 8, 8, 8, 8, 8, 8, 8, 8, 8, 8, 8, 8, 8, 8, 8, 8, 8, 8, 8, 8, 8, 8, 8, 8, 8, 8, 8, 8, 8, 8, 8, 8, 8, 8, 8, 8, 8, 8, 8, 8, 8, 8, 8, 8, 8, 8, 8, 8, 8, 8, 8, 8, 8, 8, 8, 8, 8, 8, 8, 8, 8, 8, 8, 8, 8, 8, 8, 8, 8, 8, 8, 8, 8, 8, 8, 8, 8, 8, 8, 8, 8, 8]⟩ : ByteArray) (m : Int) = ((m.log2 + 1 : Nat) : Int) := fun m a b => by
    rw [tab_nat m b, if_neg (by omega)]
  have lb : ∀ (m : Nat), 0 < m → m < 256 → m.log2 < 8 := fun m a b => log2_small a b
  rw [bits_Len64.j0.eq_2]
  generalize (⟨#[0, 1, 2, 2, 3, 3, 3, 3, 4, 4, 4, 4, 4, 4, 4, 4, 5, 5, 5, 5, 5, 5, 5, 5, 5, 5, 5, 5, 5, 5, 5, 5, 6, 6, 6, 6, 6, 6, 6, 6, 6, 6, 6, 6, 6, 6, 6, 6, 6, 6, 6, 6, 6, 6, 6, 6, 6, 6, 6, 6, 6, 6, 6, 6, 7, 7, 7, 7, 7, 7, 7, 7, 7, 7, 7, 7, 7, 7, 7, 7, 7, 7, 7, 7, 7, 7, 7, 7, 7, 7, 7, 7, 7, 7, 7, 7, 7, 7, 7, 7, 7, 7, 7, 7, 7, 7, 7, 7, 7, 7, 7, 7, 7, 7, 7, 7, 7, 7, 7, 7, 7, 7, 7, 7, 7, 7, 7, 7, 8, 8, 8, 8, 8, 8, 8, 8, 8, 8, 8, 8, 8, 8, 8, 8, 8, 8, 8, 8, 8, 8, 8, 8, 8, 8, 8, 8, 8, 8, 8, 8, 8, 8, 8, 8, 8, 8, 8, 8, 8, 8, 8, 8, 8, 8, 8, 8, 8, 8, 8, 8, 8, 8, 8, 8, 8, 8, 8, 8, 8, 8, 8, 8, 8, 8, 8, 8, 8, 8, 8, 8, 8, 8, 8, 8, 8, 8, 8, 8, 8, 8, 8, 8, 8, 8, 8, 8, 8, 8, 8, 8, 8, 8, 8, 8, 8, 8, 8, 8, 8, 8, 8, 8, 8, 8, 8, 8, 8, 8, 8, 8, 8, 8, 8, 8, 8, 8, 8, 8, 8, 8, 8, 8, 8, 8, 8, 8]⟩ : ByteArray) = T at *
  by_cases h16 : (x : Int) ≥ 65536
  · rw [if_pos h16]
    have e16 := log2_u16 (x := x) (by omega)
    have d16 : (x : Int) / 65536 = ((x / 65536 : Nat) : Int) := by omega
    rw [d16]
    have hy : 0 < x / 65536 := by omega
    have hy2 : x / 65536 < 65536 := by omega
    generalize x / 65536 = y at *
    by_cases h8 : (y : Int) ≥ 256
    · rw [if_pos h8]
      have e8 := log2_u8 (x := y) (by omega)
      have d8 : (y : Int) / 256 % 256 = ((y / 256 : Nat) : Int) := by omega
      rw [d8, if_pos (by omega), if_pos (by omega)]
      have t := tb (y / 256) (by omega) (by omega)
      have l := lb (y / 256) (by omega) (by omega)
      rw [t]
      rw [w64 (n := c + 16) (by omega) (by omega), w64 (n := c + 16 + 8) (by omega) (by omega), w64 (n := (((y / 256).log2 + 1 : Nat) : Int)) (by omega) (by omega), w64 (by omega) (by omega)]
      congr 1
      omega
    · rw [if_neg h8]
      have d8 : (y : Int) % 256 = ((y : Nat) : Int) := by omega
      rw [d8, if_pos (by omega), if_pos (by omega)]
      have t := tb y (by omega) (by omega)
      have l := lb y (by omega) (by omega)
      rw [t]
      rw [w64 (n := c + 16) (by omega) (by omega), w64 (n := ((y.log2 + 1 : Nat) : Int)) (by omega) (by omega), w64 (by omega) (by omega)]
      congr 1
      omega
  · rw [if_neg h16]
    by_cases h8 : (x : Int) ≥ 256
    · rw [if_pos h8]
      have e8 := log2_u8 (x := x) (by omega)
      have d8 : (x : Int) / 256 % 256 = ((x / 256 : Nat) : Int) := by omega
      rw [d8, if_pos (by omega), if_pos (by omega)]
      have t := tb (x / 256) (by omega) (by omega)
      have l := lb (x / 256) (by omega) (by omega)
      rw [t]
      rw [w64 (n := c + 8) (by omega) (by omega), w64 (n := (((x / 256).log2 + 1 : Nat) : Int)) (by omega) (by omega), w64 (by omega) (by omega)]
      congr 1
      omega
    · rw [if_neg h8]
      have d8 : (x : Int) % 256 = ((x : Nat) : Int) := by omega
      rw [d8, if_pos (by omega), if_pos (by omega)]
      have t := tb x (by omega) (by omega)
      have l := lb x (by omega) (by omega)
      rw [t]
      rw [w64 (n := ((x.log2 + 1 : Nat) : Int)) (by omega) (by omega), w64 (by omega) (by omega)]

theorem len64 (k : Nat) (x : Nat) (h0 : 0 < x) (h1 : x < 18446744073709551616) : bits_Len64.f (k + 1) (x : Int) = some ((x.log2 + 1 : Nat) : Int) := by
  unfold bits_Len64.f
  by_cases h : (x : Int) ≥ 4294967296
  · rw [if_pos h]
    have e := log2_u32 (x := x) (by omega)
    have d : (x : Int) / 4294967296 = ((x / 4294967296 : Nat) : Int) := by omega
    rw [d, j0_ok k _ 32 (by omega) (by omega) (by omega) (by omega)]
    congr 1
    omega
  · rw [if_neg h, j0_ok k _ 0 h0 (by omega) (by omega) (by omega)]
    congr 1
    omega
theorem l0_ok (d : Nat) : ∀ (k : Nat) (h : Nat) (x acc : Nat) (i : Int), 2147483648 ≤ x → x < 4294967296 → i = 16 - (d : Int) → d ≤ 16 → d < k → h ≤ 32 → acc < 2 ^ (16 - d) →
    cost_log.l0 k (h : Int) (x : Int) (acc : Int) i = some (((65536 * h + (acc * 2 ^ d + D d x) : Nat)) : Int) := by
  induction d with
  | zero =>
    intro k h x acc i _ _ hi _ hk hh ha
    obtain ⟨k, rfl⟩ : ∃ m, k = m + 1 := ⟨k - 1, by omega⟩
    simp only [cost_log.l0]
    rw [if_neg (by omega)]
    simp only [Nat.sub_zero] at ha
    have ha' : acc < 65536 := ha
    rw [w64 (n := (h : Int) * 65536) (by omega) (by omega), w64 (by omega) (by omega)]
    simp only [D, Nat.pow_zero, Nat.mul_one, Nat.add_zero]
    congr 1
    omega
  | succ d ih =>
    intro k h x acc i h0 h1 hi hd hk hh ha
    obtain ⟨k, rfl⟩ : ∃ m, k = m + 1 := ⟨k - 1, by omega⟩
    simp only [cost_log.l0]
    rw [if_pos (by omega)]
    have hacc : acc < 65536 := Nat.lt_of_lt_of_le ha ((Nat.pow_le_pow_right (by omega) (by omega) : 2 ^ (16 - (d + 1)) ≤ 2 ^ 16))
    have hq : x * x ≤ 4294967295 * 4294967295 := Nat.mul_le_mul (by omega) (by omega)
    have hc : (x : Int) * (x : Int) = ((x * x : Nat) : Int) := by simp
    have hw : IntKind.u64.wrap ((x : Int) * (x : Int)) = ((x * x : Nat) : Int) := by
      rw [hc]; exact wu64 (by omega) (by omega)
    obtain ⟨r0, r1⟩ := nx_range h0 h1
    rw [hw]
    have e2 : 2 ^ (16 - d) = 2 * 2 ^ (16 - (d + 1)) := by
      rw [show 16 - d = (16 - (d + 1)) + 1 by omega, Nat.pow_succ, Nat.mul_comm]
    have hwi : wrap64 (i + 1) = 16 - (d : Int) := by rw [w64 (by omega) (by omega)]; omega
    rw [hwi, w64 (n := (acc : Int) * 2) (by omega) (by omega)]
    have hdg : dg x = if x * x / 2147483648 ≥ 4294967296 then 1 else 0 := rfl
    have hnx : nx x = if x * x / 2147483648 ≥ 4294967296 then x * x / 2147483648 / 2 else x * x / 2147483648 := rfl
    simp only [D]
    generalize x * x = q at *
    by_cases c : q / 2147483648 ≥ 4294967296
    · rw [if_pos (by omega)]
      rw [if_pos c] at hdg hnx
      have := ih k h (nx x) (acc * 2 + 1) (16 - (d : Int)) r0 r1 rfl (by omega) (by omega) hh (by omega)
      rw [hnx] at this
      rw [w64 (by omega) (by omega)]
      have e : ((q : Int) / 2147483648 / 2) = ((q / 2147483648 / 2 : Nat) : Int) := by omega
      have e' : ((acc : Int) * 2 + 1) = ((acc * 2 + 1 : Nat) : Int) := by omega
      rw [e, e', this, hdg, hnx]
      congr 2
      rw [Nat.add_mul, Nat.pow_succ, Nat.one_mul, Nat.mul_assoc, Nat.mul_comm 2]
      omega
    · rw [if_neg (by omega)]
      rw [if_neg c] at hdg hnx
      have := ih k h (nx x) (acc * 2) (16 - (d : Int)) r0 r1 rfl (by omega) (by omega) hh (by omega)
      rw [hnx] at this
      have e : ((q : Int) / 2147483648) = ((q / 2147483648 : Nat) : Int) := by omega
      have e' : ((acc : Int) * 2) = ((acc * 2 : Nat) : Int) := by omega
      rw [e, e', this, hdg, hnx]
      congr 2
      rw [Nat.pow_succ, Nat.zero_mul, Nat.zero_add, Nat.mul_assoc, Nat.mul_comm 2]

theorem log_ok (k : Nat) (n : Nat) (h0 : 1 ≤ n) (h1 : n ≤ 4294967296) : cost_log.f (k + 17) (n : Int) = some ((lg n : Nat) : Int) := by
  unfold cost_log.f
  rw [len64 (k + 16) n (by omega) (by omega)]
  simp only [Option.bind_some]
  have hl := log2_le h0 h1
  obtain ⟨r0, r1⟩ := x0_range h0 h1
  have hw : wrap64 (((n.log2 + 1 : Nat) : Int) - 1) = (n.log2 : Int) := by rw [w64 (by omega) (by omega)]; omega
  rw [hw, if_pos (by omega), wu64 (by omega) (by omega)]
  have hs : shr .u64 ((n : Int) * 2147483648) (n.log2 : Int) = ((x0 n : Nat) : Int) := by
    unfold shr
    rw [Int.toNat_natCast, Nat.min_eq_left (by show _ ≤ 64; omega)]
    have : x0 n = n * 2147483648 / 2 ^ n.log2 := by simp only [x0]
    rw [this]
    simp
  rw [hs]
  have := l0_ok 16 (k + 17) n.log2 (x0 n) 0 0 r0 r1 (by omega) (by omega) (by omega) hl (by decide)
  simp only [Int.ofNat_zero, Nat.zero_mul, Nat.zero_add] at this
  rw [this, lg_val]
theorem log_at {K : Nat} (hK : 17 ≤ K) (n : Nat) (h0 : 1 ≤ n) (h1 : n ≤ 4294967296) : cost_log.f K (n : Int) = some ((lg n : Nat) : Int) := by
  obtain ⟨k, rfl⟩ : ∃ k, K = k + 17 := ⟨K - 17, by omega⟩
  exact log_ok k n h0 h1
theorem Log_ok {K : Nat} (hK : 17 ≤ K) (n : Nat) (h0 : 1 ≤ n) (h1 : n ≤ 4294967296) : cost_Log.f K (n : Int) = some (((lg n : Nat) : Int), 0) := by
  unfold cost_Log.f
  rw [if_neg (by omega), if_neg (by omega), log_at hK n h0 h1]
  rfl
theorem lg_le {n : Nat} (h0 : 1 ≤ n) (h1 : n ≤ 4294967296) : lg n ≤ 2162687 := by
  rw [lg_val]
  have a := log2_le h0 h1
  have b := D_lt 16 (x0 n)
  generalize D 16 (x0 n) = q at *
  have c : (2 : Nat) ^ 16 = 65536 := by decide
  rw [c] at b
  omega
end Go.Proofs.Ytgapkifgddjijaa.CostC
