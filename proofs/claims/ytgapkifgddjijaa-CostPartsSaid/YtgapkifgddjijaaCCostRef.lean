/- The reference's logarithm is the plain one, for every number from 1 to 2^32; both middles of a range are the plain one, for every range x1 < x2 of 32 bits and every p from 0 to 4,095. -/
import Derived.Test.YtgapkifgddjijaaCCostPure
import Derived.Test.YtgapkifgddjijaaQCx2
import Derived.Test.YtgapkifgddjijaaQCx3
import Derived.Laws.BitsLemmas
namespace Go.Proofs.Ytgapkifgddjijaa.CostC
open Go.RowKit Go.Proofs.Ytgapkifgddjijaa.QC Go.Proofs.YtgapkifgddjijaaW.PrintWords Go.Proofs.YtgapkifgddjijaaW.PrintLast Go.Proofs.YtgapkifgddjijaaW.PrintMore
open Go.Proofs.Ytgapkifgddjijaa.LogMath

theorem tdiv_nat (a b : Nat) : Int.tdiv (a : Int) (b : Int) = ((a / b : Nat) : Int) := by
  rw [Int.tdiv_eq_ediv_of_nonneg (by omega)]
  simp
theorem pow_half (d : Nat) : 2 ^ (d + 1) / 2 = 2 ^ d := by rw [Nat.pow_succ]; omega
theorem pow_le16 {d : Nat} (h : d ≤ 16) : 2 ^ d ≤ 65536 := by
  have : 2 ^ d ≤ 2 ^ 16 := Nat.pow_le_pow_right (by omega) h
  have c : (2 : Nat) ^ 16 = 65536 := by decide
  omega
theorem D_le (d : Nat) (h : d ≤ 16) (x : Nat) : D d x < 65536 := Nat.lt_of_lt_of_le (D_lt d x) (pow_le16 h)

theorem r2_ok (d : Nat) : ∀ (k : Nat) (x acc : Nat), 2147483648 ≤ x → x < 4294967296 → d ≤ 16 → d < k → acc + 2 ^ d ≤ 3000000 →
    bitloftref23_Logarithm.l2 k (x : Int) (acc : Int) ((2 ^ d / 2 : Nat) : Int) = some ((acc + D d x : Nat) : Int) := by
  induction d with
  | zero =>
    intro k x acc _ _ _ hk _
    obtain ⟨k, rfl⟩ : ∃ m, k = m + 1 := ⟨k - 1, by omega⟩
    rw [bitloftref23_Logarithm.l2.eq_2, if_neg (by simp)]
    simp only [D, Nat.add_zero]
  | succ d ih =>
    intro k x acc h0 h1 hd hk ha
    obtain ⟨k, rfl⟩ : ∃ m, k = m + 1 := ⟨k - 1, by omega⟩
    have hq : x * x ≤ 4294967295 * 4294967295 := Nat.mul_le_mul (by omega) (by omega)
    have hc : (x : Int) * (x : Int) = ((x * x : Nat) : Int) := by simp
    obtain ⟨r0, r1⟩ := nx_range h0 h1
    have hdg : dg x = if x * x / 2147483648 ≥ 4294967296 then 1 else 0 := rfl
    have hnx : nx x = if x * x / 2147483648 ≥ 4294967296 then x * x / 2147483648 / 2 else x * x / 2147483648 := rfl
    have hp := pow_le16 (d := d) (by omega)
    have hp0 : 0 < 2 ^ d := Nat.pow_pos (by omega)
    have hD := D_le d (by omega) (nx x)
    have hps : 2 ^ (d + 1) = 2 ^ d + 2 ^ d := by rw [Nat.pow_succ]; omega
    have ih1 := ih k (nx x) (acc + 2 ^ d) r0 r1 (by omega) (by omega) (by omega)
    have ih0 := ih k (nx x) acc r0 r1 (by omega) (by omega) (by omega)
    have hDe : D (d + 1) x = dg x * 2 ^ d + D d (nx x) := by simp only [D]
    rw [bitloftref23_Logarithm.l2.eq_2, pow_half, hDe, hc]
    generalize x * x = q at *
    have t1 : Int.tdiv (q : Int) 2147483648 = ((q / 2147483648 : Nat) : Int) := tdiv_nat q 2147483648
    have t2 : Int.tdiv ((q / 2147483648 : Nat) : Int) 2 = ((q / 2147483648 / 2 : Nat) : Int) := tdiv_nat _ 2
    have t3 : Int.tdiv ((2 ^ d : Nat) : Int) 2 = ((2 ^ d / 2 : Nat) : Int) := tdiv_nat _ 2
    rw [wu64 (n := (q : Int)) (by omega) (by omega), t1, wu64 (n := ((q / 2147483648 : Nat) : Int)) (by omega) (by omega), t2, wu64 (n := ((q / 2147483648 / 2 : Nat) : Int)) (by omega) (by omega), t3]
    generalize hpd : 2 ^ d = p at *
    rw [if_pos (by omega), w64 (n := ((p / 2 : Nat) : Int)) (by omega) (by omega)]
    by_cases c : q / 2147483648 ≥ 4294967296
    · rw [if_pos (by omega)]
      rw [if_pos c] at hdg hnx
      rw [← hnx, w64 (by omega) (by omega), show (acc : Int) + (p : Int) = ((acc + p : Nat) : Int) by omega, hdg, Nat.one_mul, ← Nat.add_assoc]
      exact ih1
    · rw [if_neg (by omega)]
      rw [if_neg c] at hdg hnx
      rw [← hnx, hdg, Nat.zero_mul, Nat.zero_add]
      exact ih0

/-- What the reference's second loop begins with. -/
theorem r1_ok (d : Nat) : ∀ (k : Nat) (n h x : Nat) (i : Int), 1 ≤ n → n ≤ 4294967296 → h = n.log2 → h ≤ 31 → i = 31 - (d : Int) → d ≤ 31 - h → x * 2 ^ d = x0 n → d + 20 < k →
    bitloftref23_Logarithm.l1 k (n : Int) (h : Int) (x : Int) i = some ((lg n : Nat) : Int) := by
  induction d with
  | zero =>
    intro k n h x i h0 h1 hh hl hi hd hx hk
    obtain ⟨k, rfl⟩ : ∃ m, k = m + 1 + 1 := ⟨k - 2, by omega⟩
    obtain ⟨r0, r1⟩ := x0_range h0 h1
    have hx' : x = x0 n := by simpa using hx
    have hD := D_le 16 (by omega) (x0 n)
    have l := r2_ok 16 k (x0 n) (65536 * h) r0 r1 (by omega) (by omega) (by rw [show (2 : Nat) ^ 16 = 65536 by decide]; omega)
    rw [show ((2 ^ 16 / 2 : Nat) : Int) = 32768 by decide] at l
    rw [bitloftref23_Logarithm.l1.eq_2, if_neg (by omega), if_neg (by omega), bitloftref23_Logarithm.j3.eq_2, w64 (by omega) (by omega), show (h : Int) * 65536 = ((65536 * h : Nat) : Int) by omega, hx', l, lg_val, hh]
  | succ d ih =>
    intro k n h x i h0 h1 hh hl hi hd hx hk
    obtain ⟨k, rfl⟩ : ∃ m, k = m + 1 := ⟨k - 1, by omega⟩
    obtain ⟨r0, r1⟩ := x0_range h0 h1
    have hp : 0 < 2 ^ d := Nat.pow_pos (by omega)
    have hxx : x * 2 * 2 ^ d = x0 n := by rw [← hx, Nat.pow_succ, Nat.mul_assoc, Nat.mul_comm 2]
    have hxl : x * 2 ≤ x0 n := by rw [← hxx]; exact Nat.le_mul_of_pos_right _ hp
    rw [bitloftref23_Logarithm.l1.eq_2, if_pos (by omega), wu64 (by omega) (by omega), w64 (by omega) (by omega), show (x : Int) * 2 = ((x * 2 : Nat) : Int) by omega]
    exact ih k n h (x * 2) (i + 1) h0 h1 hh hl (by omega) (by omega) hxx (by omega)
theorem j1r_ok {K : Nat} (hK : 60 ≤ K) {n : Nat} (h0 : 1 ≤ n) (h1 : n ≤ 4294967296) : bitloftref23_Logarithm.j1 K (n : Int) (n.log2 : Int) = some ((lg n : Nat) : Int) := by
  obtain ⟨k, rfl⟩ : ∃ m, K = m + 1 := ⟨K - 1, by omega⟩
  have hl := log2_le h0 h1
  have e := x0_eq h0 h1
  obtain ⟨r0, r1⟩ := x0_range h0 h1
  rw [bitloftref23_Logarithm.j1.eq_2]
  rcases Nat.lt_or_ge n.log2 32 with h | h
  · refine r1_ok (31 - n.log2) k n n.log2 n _ h0 h1 rfl (by omega) (by omega) (by omega) ?_ (by omega)
    have hp : 0 < 2 ^ n.log2 := Nat.pow_pos (by omega)
    have hs : 2 ^ (31 - n.log2) * 2 ^ n.log2 = 2147483648 := by rw [← Nat.pow_add, show 31 - n.log2 + n.log2 = 31 by omega]
    refine Nat.eq_of_mul_eq_mul_right hp ?_
    rw [e, Nat.mul_assoc, hs]
  · have h32 : n.log2 = 32 := by omega
    have hs := Nat.log2_self_le (n := n) (by omega)
    rw [h32, show (2 : Nat) ^ 32 = 4294967296 by decide] at hs
    have hn : n = 4294967296 := by omega
    obtain ⟨k, rfl⟩ : ∃ m, k = m + 1 + 1 := ⟨k - 2, by omega⟩
    rw [h32] at e ⊢
    rw [show (2 : Nat) ^ 32 = 4294967296 by decide] at e
    have hx : x0 n = n / 2 := by omega
    have l := r2_ok 16 k (x0 n) 2097152 r0 r1 (by omega) (by omega) (by rw [show (2 : Nat) ^ 16 = 65536 by decide]; omega)
    rw [show ((2 ^ 16 / 2 : Nat) : Int) = 32768 by decide] at l
    have t1 : Int.tdiv (n : Int) 2 = ((n / 2 : Nat) : Int) := tdiv_nat n 2
    have hv := lg_val n
    rw [h32] at hv
    rw [bitloftref23_Logarithm.l1.eq_2, if_neg (by omega), if_pos (by omega), t1, bitloftref23_Logarithm.j3.eq_2, w64 (by omega) (by omega), wu64 (by omega) (by omega), ← hx, show ((32 : Nat) : Int) * 65536 = ((2097152 : Nat) : Int) by decide, l, hv]
theorem r0_ok (d : Nat) : ∀ (k : Nat) (n h : Nat), 1 ≤ n → n ≤ 4294967296 → h + d = n.log2 → d + 80 < k →
    bitloftref23_Logarithm.l0 k (n : Int) (h : Int) = some ((lg n : Nat) : Int) := by
  induction d with
  | zero =>
    intro k n h h0 h1 hh hk
    obtain ⟨k, rfl⟩ : ∃ m, k = m + 1 := ⟨k - 1, by omega⟩
    have hl := log2_le h0 h1
    have j := j1r_ok (K := k) (by omega) h0 h1
    have hlt : n < 2 ^ (n.log2 + 1) := Nat.lt_log2_self
    rw [show h = n.log2 by omega]
    rw [bitloftref23_Logarithm.l0.eq_2]
    by_cases c : (n.log2 : Int) < 32
    · rw [if_pos c, w64 (by omega) (by omega), if_pos (by omega)]
      have hs : shl .u64 1 ((n.log2 : Int) + 1) = ((2 ^ (n.log2 + 1) : Nat) : Int) := by
        unfold shl
        rw [show ((n.log2 : Int) + 1).toNat = n.log2 + 1 by omega, Nat.min_eq_left (by show _ ≤ 64; omega), Int.one_mul]
        have hb : 2 ^ (n.log2 + 1) ≤ 2 ^ 32 := Nat.pow_le_pow_right (by omega) (by omega)
        rw [show (2 : Nat) ^ 32 = 4294967296 by decide] at hb
        have hc : ((2 : Int) ^ (n.log2 + 1)) = ((2 ^ (n.log2 + 1) : Nat) : Int) := by simp
        rw [hc]
        exact wu64 (by omega) (by omega)
      rw [hs, if_neg (by omega)]
      exact j
    · rw [if_neg c]
      exact j
  | succ d ih =>
    intro k n h h0 h1 hh hk
    obtain ⟨k, rfl⟩ : ∃ m, k = m + 1 := ⟨k - 1, by omega⟩
    have hl := log2_le h0 h1
    have hle : 2 ^ (h + 1) ≤ n := Nat.le_trans (Nat.pow_le_pow_right (by omega) (by omega)) (Nat.log2_self_le (n := n) (by omega))
    rw [bitloftref23_Logarithm.l0.eq_2, if_pos (by omega), w64 (by omega) (by omega), if_pos (by omega)]
    have hs : shl .u64 1 ((h : Int) + 1) = ((2 ^ (h + 1) : Nat) : Int) := by
      unfold shl
      rw [show ((h : Int) + 1).toNat = h + 1 by omega, Nat.min_eq_left (by show _ ≤ 64; omega), Int.one_mul]
      have hc : ((2 : Int) ^ (h + 1)) = ((2 ^ (h + 1) : Nat) : Int) := by simp
      rw [hc]
      exact wu64 (Int.natCast_nonneg _) (by generalize 2 ^ (h + 1) = q at *; omega)
    rw [hs, if_pos (Int.ofNat_le.2 hle), show (h : Int) + 1 = ((h + 1 : Nat) : Int) by omega]
    exact ih k n (h + 1) h0 h1 (by omega) (by omega)
theorem Logarithm_ok {K : Nat} (hK : 120 ≤ K) {n : Nat} (h0 : 1 ≤ n) (h1 : n ≤ 4294967296) : bitloftref23_Logarithm.f K (n : Int) = some ((lg n : Nat) : Int) := by
  have hl := log2_le h0 h1
  exact r0_ok n.log2 K n 0 h0 h1 (by omega) (by omega)

/-- The middle of a range. -/
def mid (x1 x2 p : Nat) : Nat := x1 + (x2 - x1) * p / 4096
theorem mid_split (x1 x2 p : Nat) : mid x1 x2 p = x1 + ((x2 - x1) / 4096 * p + (x2 - x1) % 4096 * p / 4096) := by
  unfold mid
  generalize x2 - x1 = w
  have e : w * p = w / 4096 * p * 4096 + w % 4096 * p := by
    have h := Nat.div_add_mod w 4096
    calc w * p = (4096 * (w / 4096) + w % 4096) * p := by rw [h]
      _ = w / 4096 * p * 4096 + w % 4096 * p := by rw [Nat.add_mul, Nat.mul_comm 4096, Nat.mul_assoc, Nat.mul_comm 4096, ← Nat.mul_assoc]
  rw [e, Nat.add_comm (w / 4096 * p * 4096), Nat.add_mul_div_right _ _ (by omega), Nat.add_comm (w % 4096 * p / 4096)]
theorem mid_lt {x1 x2 p : Nat} (h : x1 < x2) (hp : p ≤ 4095) : mid x1 x2 p < x2 := by
  unfold mid
  have a : (x2 - x1) * p ≤ (x2 - x1) * 4095 := Nat.mul_le_mul_left _ hp
  generalize (x2 - x1) * p = q at *
  omega
theorem mid_le (x1 x2 p : Nat) : x1 ≤ mid x1 x2 p := Nat.le_add_right _ _
theorem wraps_u32 (n : Int) (h₀ : 0 ≤ n) (h₁ : n < 2 ^ 32) : IntKind.u32.wrap n = n := by rw [IntKind.wrap_u32]; omega
theorem and4095 (x : Int) (h0 : 0 ≤ x) (h1 : x < 4294967296) : Go.bits .and .u32 x 4095 = x % 4096 := bits_mask .u32 32 (by decide) wraps_u32 12 (by decide) x h0 h1

theorem split_ok {x1 x2 p : Nat} (h : x1 < x2) (h2 : x2 ≤ 4294967295) (hp : p ≤ 4095) : encoder_split.f (x1 : Int) (x2 : Int) (p : Int) = some ((mid x1 x2 p : Nat) : Int) := by
  unfold encoder_split.f
  have hm := mid_lt h hp
  have hs := mid_split x1 x2 p
  have hw : ((x2 : Int) - (x1 : Int)) % 4294967296 = ((x2 - x1 : Nat) : Int) := by omega
  rw [hw]
  generalize x2 - x1 = w at *
  have hb : w ≤ 4294967295 := by omega
  rw [and4095 _ (by omega) (by omega)]
  have hpm : (p : Int) % 4294967296 = (p : Int) := by omega
  rw [hpm]
  have e1 : (w : Int) / 4096 = ((w / 4096 : Nat) : Int) := by omega
  have e2 : (w : Int) % 4096 = ((w % 4096 : Nat) : Int) := by omega
  rw [e1, e2]
  have m1 : w / 4096 * p ≤ w / 4096 * 4095 := Nat.mul_le_mul_left _ hp
  have m2 : w % 4096 * p ≤ w % 4096 * 4095 := Nat.mul_le_mul_left _ hp
  have c1 : ((w / 4096 : Nat) : Int) * (p : Int) = ((w / 4096 * p : Nat) : Int) := by simp
  have c2 : ((w % 4096 : Nat) : Int) * (p : Int) = ((w % 4096 * p : Nat) : Int) := by simp
  rw [c1, c2]
  generalize w / 4096 * p = a at *
  generalize w % 4096 * p = b at *
  generalize mid x1 x2 p = m at *
  refine congrArg some ?_
  omega
theorem Middle_ok {x1 x2 p : Nat} (h : x1 < x2) (h2 : x2 ≤ 4294967295) (hp : p ≤ 4095) : bitloftref20_Middle.f (x1 : Int) (x2 : Int) (p : Int) = some ((mid x1 x2 p : Nat) : Int) := by
  unfold bitloftref20_Middle.f
  have hm := mid_lt h hp
  have hs := mid_split x1 x2 p
  rw [wu64 (n := (x1 : Int)) (by omega) (by omega), wu64 (n := (x2 : Int)) (by omega) (by omega), wu64 (n := (p : Int)) (by omega) (by omega)]
  have hw : ((x2 : Int) - (x1 : Int)) = ((x2 - x1 : Nat) : Int) := by omega
  rw [hw]
  generalize x2 - x1 = w at *
  have hb : w ≤ 4294967295 := by omega
  rw [wu64 (n := (w : Int)) (by omega) (by omega)]
  have t1 : Int.tdiv (w : Int) 4096 = ((w / 4096 : Nat) : Int) := tdiv_nat w 4096
  have t2 : Int.tmod (w : Int) 4096 = ((w % 4096 : Nat) : Int) := by
    rw [Int.tmod_eq_emod_of_nonneg (by omega)]
    omega
  rw [t1, t2]
  have m1 : w / 4096 * p ≤ w / 4096 * 4095 := Nat.mul_le_mul_left _ hp
  have m2 : w % 4096 * p ≤ w % 4096 * 4095 := Nat.mul_le_mul_left _ hp
  have c1 : ((w / 4096 : Nat) : Int) * (p : Int) = ((w / 4096 * p : Nat) : Int) := by simp
  have c2 : ((w % 4096 : Nat) : Int) * (p : Int) = ((w % 4096 * p : Nat) : Int) := by simp
  rw [wu64 (n := ((w / 4096 : Nat) : Int)) (by omega) (by omega), c1, c2]
  generalize w / 4096 * p = a at *
  generalize w % 4096 * p = b at *
  have t3 : Int.tdiv (b : Int) 4096 = ((b / 4096 : Nat) : Int) := tdiv_nat b 4096
  rw [wu64 (n := (b : Int)) (by omega) (by omega), t3, wu64 (n := ((b / 4096 : Nat) : Int)) (by omega) (by omega), wu64 (n := (a : Int)) (by omega) (by omega), wu64 (n := (x1 : Int) + (a : Int)) (by omega) (by omega), wu64 (by omega) (by omega)]
  generalize mid x1 x2 p = m at *
  refine congrArg some ?_
  omega
end Go.Proofs.Ytgapkifgddjijaa.CostC
