/- The plain law of the logarithm in whole numbers: it grows, that of 2 n is 65,536 more, and that of a product is at most 3 more and at most 1 less than the sum; for numbers from 1 to 2^32. Nothing of the program stands here. -/
namespace Go.Proofs.Ytgapkifgddjijaa.LogMath
/-- One digit: the next number and the digit. -/
def nx (x : Nat) : Nat := if x * x / 2147483648 ≥ 4294967296 then x * x / 2147483648 / 2 else x * x / 2147483648
def dg (x : Nat) : Nat := if x * x / 2147483648 ≥ 4294967296 then 1 else 0
/-- k digits. -/
def D : Nat → Nat → Nat
  | 0, _ => 0
  | k + 1, x => dg x * 2 ^ k + D k (nx x)

theorem D_lt (k : Nat) : ∀ x, D k x < 2 ^ k := by
  induction k with
  | zero => intro x; simp [D]
  | succ k ih =>
    intro x
    have h := ih (nx x)
    have : dg x ≤ 1 := by unfold dg; split <;> omega
    simp only [D, Nat.pow_succ]
    have : dg x * 2 ^ k ≤ 1 * 2 ^ k := Nat.mul_le_mul_right _ this
    omega

theorem nx_range {x : Nat} (h0 : 2147483648 ≤ x) (h1 : x < 4294967296) : 2147483648 ≤ nx x ∧ nx x < 4294967296 := by
  have a : 2147483648 * 2147483648 ≤ x * x := Nat.mul_le_mul h0 h0
  have b : x * x ≤ 4294967295 * 4294967295 := Nat.mul_le_mul (by omega) (by omega)
  unfold nx
  split <;> omega

theorem D_mono (k : Nat) : ∀ x y, x ≤ y → D k x ≤ D k y := by
  induction k with
  | zero => intro x y _; simp [D]
  | succ k ih =>
    intro x y h
    have q : x * x / 2147483648 ≤ y * y / 2147483648 := Nat.div_le_div_right (Nat.mul_le_mul h h)
    simp only [D]
    unfold dg nx
    have l := D_lt k
    by_cases hx : x * x / 2147483648 ≥ 4294967296
    · rw [if_pos hx, if_pos hx, if_pos (by omega), if_pos (by omega)]
      have := ih _ _ (Nat.div_le_div_right (c := 2) q)
      omega
    · rw [if_neg hx, if_neg hx]
      by_cases hy : y * y / 2147483648 ≥ 4294967296
      · rw [if_pos hy, if_pos hy]
        have := l (x * x / 2147483648)
        omega
      · rw [if_neg hy, if_neg hy]
        have := ih _ _ q
        omega

/-- What is known of x: x is at most r's power, and nearly so. -/
theorem nx_dg (x : Nat) : 2 ^ dg x * nx x * 2147483648 ≤ x * x := by
  unfold dg nx
  split <;> simp <;> omega
theorem half_up {q : Nat} (h : 4294967296 ≤ q) : q * 2147483648 ≤ 2 * (q / 2) * 2147483649 := by omega
theorem div_up {q : Nat} (h : 4611686018427387904 ≤ q) : q * 2147483648 ≤ q / 2147483648 * (2147483649 * 2147483648) := by omega
theorem dg_nx {x : Nat} (h0 : 2147483648 ≤ x) : x * x * (2147483648 * 2147483648) ≤ 2 ^ dg x * nx x * (2147483649 * 2147483649 * 2147483648) := by
  have a : 2147483648 * 2147483648 ≤ x * x := Nat.mul_le_mul h0 h0
  have d := div_up a
  have y0 : 2147483648 ≤ x * x / 2147483648 := by omega
  unfold dg nx
  generalize x * x / 2147483648 = y at *
  generalize x * x = q at *
  have e : q * (2147483648 * 2147483648) ≤ y * (2147483649 * 2147483648) * 2147483648 := by
    rw [← Nat.mul_assoc]; exact Nat.mul_le_mul_right _ d
  refine Nat.le_trans e ?_
  have f : y * 2147483648 ≤ 2 ^ (if y ≥ 4294967296 then 1 else 0) * (if y ≥ 4294967296 then y / 2 else y) * 2147483649 := by
    by_cases h : y ≥ 4294967296
    · rw [if_pos h, if_pos h, Nat.pow_one]
      exact half_up h
    · rw [if_neg h, if_neg h, Nat.pow_zero, Nat.one_mul]
      exact Nat.mul_le_mul_left _ (by omega)
  have g := Nat.mul_le_mul_right (2147483649 * 2147483648) f
  generalize 2 ^ (if y ≥ 4294967296 then 1 else 0) * (if y ≥ 4294967296 then y / 2 else y) = z at *
  generalize 2147483649 = C at *
  generalize 2147483648 = B at *
  simp only [Nat.mul_comm, Nat.mul_left_comm] at g ⊢
  exact g

theorem D_upper (k : Nat) : ∀ x, 2147483648 ≤ x → x < 4294967296 → 2 ^ D k x * 2147483648 ^ (2 ^ k) ≤ x ^ (2 ^ k) := by
  induction k with
  | zero => intro x h _; simpa [D] using h
  | succ k ih =>
    intro x h0 h1
    obtain ⟨r0, r1⟩ := nx_range h0 h1
    have h := ih _ r0 r1
    have s := Nat.pow_le_pow_left (nx_dg x) (2 ^ k)
    rw [Nat.mul_pow x x] at s
    have e : 2 ^ (k + 1) = 2 ^ k + 2 ^ k := by rw [Nat.pow_succ]; omega
    simp only [D]
    rw [e, Nat.pow_add 2 (dg x * 2 ^ k), Nat.pow_mul, Nat.pow_add, Nat.pow_add]
    refine Nat.le_trans ?_ s
    rw [Nat.mul_pow, Nat.mul_pow]
    generalize (2 ^ dg x) ^ 2 ^ k = a
    generalize 2147483648 ^ 2 ^ k = b at *
    generalize 2 ^ D k (nx x) = c at *
    calc a * c * (b * b) = a * (c * b) * b := by simp only [Nat.mul_assoc]
      _ ≤ _ := Nat.mul_le_mul_right _ (Nat.mul_le_mul_left _ h)

theorem D_lower (k : Nat) : ∀ x, 2147483648 ≤ x → x < 4294967296 → x ^ (2 ^ k) * 2147483648 ^ (2 * (2 ^ k - 1)) < 2 ^ (D k x + 1) * 2147483648 ^ (2 ^ k) * 2147483649 ^ (2 * (2 ^ k - 1)) := by
  induction k with
  | zero => intro x _ h; simp [D]; omega
  | succ k ih =>
    intro x h0 h1
    obtain ⟨r0, r1⟩ := nx_range h0 h1
    have h := ih _ r0 r1
    have s := Nat.pow_le_pow_left (dg_nx h0) (2 ^ k)
    have e : 2 ^ (k + 1) = 2 ^ k + 2 ^ k := by rw [Nat.pow_succ]; omega
    have p : 0 < 2 ^ k := Nat.pow_pos (by omega)
    have e2 : 2 * (2 ^ (k + 1) - 1) = 2 ^ k + 2 ^ k + 2 * (2 ^ k - 1) := by omega
    simp only [D]
    rw [e2, e, Nat.add_assoc (dg x * 2 ^ k)]
    simp only [Nat.pow_add _ (2 ^ k + 2 ^ k), Nat.pow_add _ (2 ^ k) (2 ^ k), Nat.pow_add _ (dg x * 2 ^ k), Nat.pow_mul _ (dg x)]
    simp only [Nat.mul_pow] at s
    have ha : 0 < (2 ^ dg x) ^ 2 ^ k := Nat.pow_pos (Nat.pow_pos (by omega))
    generalize (2 ^ dg x) ^ 2 ^ k = a at *
    have hb : 0 < 2147483648 ^ 2 ^ k := Nat.pow_pos (by omega)
    have hc : 0 < 2147483649 ^ 2 ^ k := Nat.pow_pos (by omega)
    generalize 2147483648 ^ 2 ^ k = b at *
    generalize 2147483649 ^ 2 ^ k = c at *
    generalize 2147483648 ^ (2 * (2 ^ k - 1)) = b' at *
    generalize 2147483649 ^ (2 * (2 ^ k - 1)) = c' at *
    generalize x ^ 2 ^ k = y at *
    generalize nx x ^ 2 ^ k = z at *
    generalize 2 ^ (D k (nx x) + 1) = d at *
    calc y * y * (b * b * b') = y * y * (b * b) * b' := by simp only [Nat.mul_assoc]
      _ ≤ a * z * (c * c * b) * b' := Nat.mul_le_mul_right _ s
      _ = (a * (c * c * b)) * (z * b') := by simp only [Nat.mul_comm, Nat.mul_left_comm]
      _ < (a * (c * c * b)) * (d * b * c') := Nat.mul_lt_mul_of_pos_left h (Nat.mul_pos ha (Nat.mul_pos (Nat.mul_pos hc hc) hb))
      _ = a * d * (b * b) * (c * c * c') := by simp only [Nat.mul_comm, Nat.mul_left_comm]

theorem bern (m : Nat) : m ≤ 2147483648 → 2147483649 ^ m * (2147483648 - m) ≤ 2147483648 ^ m * 2147483648 := by
  induction m with
  | zero => intro _; simp
  | succ m ih =>
    intro h
    have i := ih (by omega)
    have q : 2147483649 * (2147483648 - (m + 1)) ≤ 2147483648 * (2147483648 - m) := by omega
    rw [Nat.pow_succ, Nat.pow_succ]
    generalize 2147483649 ^ m = a at *
    generalize 2147483648 ^ m = b at *
    calc a * 2147483649 * (2147483648 - (m + 1)) = a * (2147483649 * (2147483648 - (m + 1))) := by rw [Nat.mul_assoc]
      _ ≤ a * (2147483648 * (2147483648 - m)) := Nat.mul_le_mul_left _ q
      _ = a * (2147483648 - m) * 2147483648 := by simp only [Nat.mul_comm, Nat.mul_left_comm]
      _ ≤ b * 2147483648 * 2147483648 := Nat.mul_le_mul_right _ i
theorem bern2 {m : Nat} (h : m ≤ 1000000) : 2147483649 ^ m ≤ 2 * 2147483648 ^ m := by
  have i := bern m (by omega)
  have q : 2147483648 ≤ 2 * (2147483648 - m) := by omega
  have p : 0 < 2147483648 - m := by omega
  generalize 2147483649 ^ m = a at *
  generalize 2147483648 ^ m = b at *
  refine Nat.le_of_mul_le_mul_right (c := 2147483648 - m) ?_ p
  calc a * (2147483648 - m) ≤ b * 2147483648 := i
    _ ≤ b * (2 * (2147483648 - m)) := Nat.mul_le_mul_left _ q
    _ = 2 * b * (2147483648 - m) := by rw [Nat.mul_comm 2 b, Nat.mul_assoc]

/-- The number that the digits begin with. -/
def x0 (n : Nat) : Nat := n * 2147483648 / 2 ^ n.log2
theorem log2_le {n : Nat} (h0 : 1 ≤ n) (h1 : n ≤ 4294967296) : n.log2 ≤ 32 := by
  have := (Nat.log2_lt (n := n) (k := 33) (by omega)).2 (by omega)
  omega
theorem x0_eq {n : Nat} (h0 : 1 ≤ n) (h1 : n ≤ 4294967296) : x0 n * 2 ^ n.log2 = n * 2147483648 := by
  have hl := log2_le h0 h1
  have hs := Nat.log2_self_le (n := n) (by omega)
  unfold x0
  refine Nat.div_mul_cancel ?_
  rcases Nat.lt_or_ge n.log2 32 with h | h
  · refine Nat.dvd_mul_left_of_dvd ?_ _
    exact Nat.pow_dvd_pow 2 (show n.log2 ≤ 31 by omega)
  · have e : n.log2 = 32 := by omega
    rw [e] at hs ⊢
    have : n = 4294967296 := by omega
    subst this
    exact Nat.dvd_mul_right _ _
theorem x0_range {n : Nat} (h0 : 1 ≤ n) (h1 : n ≤ 4294967296) : 2147483648 ≤ x0 n ∧ x0 n < 4294967296 := by
  have e := x0_eq h0 h1
  have hs := Nat.log2_self_le (n := n) (by omega)
  have hl : n < 2 ^ (n.log2 + 1) := Nat.lt_log2_self
  rw [Nat.pow_succ] at hl
  have hp : 0 < 2 ^ n.log2 := Nat.pow_pos (by omega)
  generalize 2 ^ n.log2 = p at *
  generalize x0 n = x at *
  constructor
  · refine Nat.le_of_mul_le_mul_right (c := p) ?_ hp
    rw [e]; omega
  · refine Nat.lt_of_mul_lt_mul_right (a := p) ?_
    rw [e]; omega
/-- The logarithm, with k digits. -/
def lk (k n : Nat) : Nat := 2 ^ k * n.log2 + D k (x0 n)

theorem lk_upper (k : Nat) {n : Nat} (h0 : 1 ≤ n) (h1 : n ≤ 4294967296) : 2 ^ lk k n ≤ n ^ 2 ^ k := by
  obtain ⟨r0, r1⟩ := x0_range h0 h1
  have u := D_upper k _ r0 r1
  have e := x0_eq h0 h1
  unfold lk
  rw [Nat.pow_add, Nat.mul_comm (2 ^ k), Nat.pow_mul]
  have hb : 0 < 2147483648 ^ 2 ^ k := Nat.pow_pos (by omega)
  refine Nat.le_of_mul_le_mul_right (c := 2147483648 ^ 2 ^ k) ?_ hb
  rw [← Nat.mul_pow n, ← e, Nat.mul_pow (x0 n), Nat.mul_assoc, Nat.mul_comm (x0 n ^ 2 ^ k)]
  exact Nat.mul_le_mul_left _ u
theorem lk_lower (k : Nat) (hk : 2 * (2 ^ k - 1) ≤ 1000000) {n : Nat} (h0 : 1 ≤ n) (h1 : n ≤ 4294967296) : n ^ 2 ^ k < 2 ^ (lk k n + 2) := by
  obtain ⟨r0, r1⟩ := x0_range h0 h1
  have u := D_lower k _ r0 r1
  have e := x0_eq h0 h1
  have b2 := bern2 hk
  unfold lk
  rw [Nat.add_assoc, Nat.pow_add, Nat.mul_comm (2 ^ k), Nat.pow_mul]
  have hb2 : 0 < 2147483648 ^ (2 * (2 ^ k - 1)) := Nat.pow_pos (by omega)
  refine Nat.lt_of_mul_lt_mul_right (a := 2147483648 ^ 2 ^ k) ?_
  rw [← Nat.mul_pow n, ← e, Nat.mul_pow (x0 n), Nat.mul_assoc, Nat.mul_comm (x0 n ^ 2 ^ k)]
  have hp : 0 < (2 ^ n.log2) ^ 2 ^ k := Nat.pow_pos (Nat.pow_pos (by omega))
  refine Nat.mul_lt_mul_of_pos_left ?_ hp
  have e2 : 2 ^ (D k (x0 n) + 2) = 2 ^ (D k (x0 n) + 1) * 2 := Nat.pow_succ 2 (D k (x0 n) + 1)
  rw [e2]
  generalize 2 ^ (D k (x0 n) + 1) = d at *
  generalize x0 n ^ 2 ^ k = y at *
  generalize 2147483648 ^ 2 ^ k = b at *
  generalize 2147483648 ^ (2 * (2 ^ k - 1)) = b' at *
  generalize 2147483649 ^ (2 * (2 ^ k - 1)) = c' at *
  refine Nat.lt_of_mul_lt_mul_right (a := b') ?_
  calc y * b' < d * b * c' := u
    _ ≤ d * b * (2 * b') := Nat.mul_le_mul_left _ b2
    _ = d * 2 * b * b' := by rw [← Nat.mul_assoc, Nat.mul_right_comm d b 2]

theorem lk_mul (k : Nat) (hk : 2 * (2 ^ k - 1) ≤ 1000000) {n m : Nat} (h0 : 1 ≤ n) (h1 : 1 ≤ m) (h : n * m ≤ 4294967296) : lk k (n * m) ≤ lk k n + lk k m + 3 ∧ lk k n + lk k m ≤ lk k (n * m) + 1 := by
  have hn : n ≤ 4294967296 := Nat.le_trans (Nat.le_mul_of_pos_right n h1) h
  have hm : m ≤ 4294967296 := Nat.le_trans (Nat.le_mul_of_pos_left m h0) h
  have hp : 1 ≤ n * m := Nat.mul_pos h0 h1
  have u1 := lk_upper k h0 hn
  have u2 := lk_upper k h1 hm
  have u3 := lk_upper k hp h
  have l1 := lk_lower k hk h0 hn
  have l2 := lk_lower k hk h1 hm
  have l3 := lk_lower k hk hp h
  rw [Nat.mul_pow] at u3 l3
  constructor
  · have : 2 ^ lk k (n * m) < 2 ^ (lk k n + 2 + (lk k m + 2)) := by
      rw [Nat.pow_add 2 (lk k n + 2)]
      exact Nat.lt_of_le_of_lt u3 (Nat.mul_lt_mul'' l1 l2)
    have := (Nat.pow_lt_pow_iff_right (by omega)).1 this
    omega
  · have : 2 ^ (lk k n + lk k m) < 2 ^ (lk k (n * m) + 2) := by
      rw [Nat.pow_add 2 (lk k n)]
      exact Nat.lt_of_le_of_lt (Nat.mul_le_mul u1 u2) l3
    have := (Nat.pow_lt_pow_iff_right (by omega)).1 this
    omega
/-- A part of a range: p of 4,096 of it, but for a little (1 / 2^e). -/
theorem lk_part (k e : Nat) (hk : 2 * (2 ^ k - 1) ≤ 1000000) {a p q : Nat} (ha : 1 ≤ a) (ha1 : a ≤ 4294967296) (hp : 1 ≤ p) (hp1 : p ≤ 4294967296) (hq : 1 ≤ q) (hq1 : q ≤ 4294967296)
    (h : (a * p) ^ 2 ^ k ≤ 2 ^ e * (q * 4096) ^ 2 ^ k) : lk k a + lk k p < lk k q + 12 * 2 ^ k + 2 + e := by
  have u1 := lk_upper k ha ha1
  have u2 := lk_upper k hp hp1
  have l3 := lk_lower k hk hq hq1
  refine (Nat.pow_lt_pow_iff_right (a := 2) (by omega)).1 ?_
  rw [Nat.pow_add]
  refine Nat.lt_of_le_of_lt (Nat.mul_le_mul u1 u2) ?_
  rw [← Nat.mul_pow]
  refine Nat.lt_of_le_of_lt h ?_
  rw [Nat.mul_pow]
  have e1 : 4096 ^ 2 ^ k = 2 ^ (12 * 2 ^ k) := by rw [Nat.pow_mul]
  have e2 : 2 ^ (lk k q + 12 * 2 ^ k + 2 + e) = 2 ^ e * (2 ^ (lk k q + 2) * 2 ^ (12 * 2 ^ k)) := by
    rw [← Nat.pow_add, ← Nat.pow_add]
    congr 1
    omega
  rw [e1, e2]
  exact Nat.mul_lt_mul_of_pos_left (Nat.mul_lt_mul_of_pos_right l3 (Nat.pow_pos (by omega))) (Nat.pow_pos (by omega))
/-- (1 - 1 / a) to the m is at least a half. -/
theorem near (a : Nat) (m : Nat) : m ≤ a → a ^ m * (a - m) ≤ (a - 1) ^ m * a := by
  induction m with
  | zero => intro _; simp
  | succ m ih =>
    intro h
    have i := ih (by omega)
    have q : a * (a - (m + 1)) ≤ (a - 1) * (a - m) := by
      obtain ⟨c, rfl⟩ : ∃ c, a = c + m + 1 := ⟨a - m - 1, by omega⟩
      rw [show c + m + 1 - (m + 1) = c by omega, show c + m + 1 - 1 = c + m by omega, show c + m + 1 - m = c + 1 by omega]
      rw [Nat.mul_add, Nat.add_mul, Nat.add_mul, Nat.add_mul]
      omega
    rw [Nat.pow_succ, Nat.pow_succ]
    generalize a ^ m = x at *
    generalize (a - 1) ^ m = y at *
    calc x * a * (a - (m + 1)) = x * (a * (a - (m + 1))) := by rw [Nat.mul_assoc]
      _ ≤ x * ((a - 1) * (a - m)) := Nat.mul_le_mul_left _ q
      _ = x * (a - m) * (a - 1) := by rw [Nat.mul_comm (a - 1), Nat.mul_assoc]
      _ ≤ y * a * (a - 1) := Nat.mul_le_mul_right _ i
      _ = y * (a - 1) * a := by rw [Nat.mul_right_comm]
theorem near2 {a m : Nat} (h : 2 * m ≤ a) (h0 : 0 < a) : a ^ m ≤ 2 * (a - 1) ^ m := by
  have i := near a m (by omega)
  generalize a ^ m = x at *
  generalize (a - 1) ^ m = y at *
  refine Nat.le_of_mul_le_mul_right (c := a - m) ?_ (by omega)
  calc x * (a - m) ≤ y * a := i
    _ ≤ y * (2 * (a - m)) := Nat.mul_le_mul_left _ (by omega)
    _ = 2 * y * (a - m) := by rw [Nat.mul_comm 2 y, Nat.mul_assoc]

theorem lk_mono (k : Nat) {n m : Nat} (h0 : 1 ≤ n) (h : n ≤ m) : lk k n ≤ lk k m := by
  unfold lk
  have dn := D_lt k (x0 n)
  have hl : n.log2 ≤ m.log2 := by
    refine (Nat.le_log2 (by omega)).2 ?_
    exact Nat.le_trans (Nat.log2_self_le (by omega)) h
  rcases Nat.eq_or_lt_of_le hl with e | l
  · have : x0 n ≤ x0 m := by
      unfold x0
      rw [e]
      exact Nat.div_le_div_right (Nat.mul_le_mul_right _ h)
    have := D_mono k _ _ this
    rw [e]
    omega
  · have := Nat.mul_le_mul_left (2 ^ k) (show n.log2 + 1 ≤ m.log2 from l)
    rw [Nat.mul_add, Nat.mul_one] at this
    omega
theorem log2_double {n : Nat} (h0 : 1 ≤ n) : (2 * n).log2 = n.log2 + 1 := by
  have a := Nat.log2_self_le (n := n) (by omega)
  have b : n < 2 ^ (n.log2 + 1) := Nat.lt_log2_self
  refine Nat.le_antisymm ?_ ?_
  · have := (Nat.log2_lt (n := 2 * n) (k := n.log2 + 1 + 1) (by omega)).2 (by rw [Nat.pow_succ]; omega)
    omega
  · refine (Nat.le_log2 (by omega)).2 ?_
    rw [Nat.pow_succ]; omega
theorem x0_double {n : Nat} (h0 : 1 ≤ n) : x0 (2 * n) = x0 n := by
  unfold x0
  rw [log2_double h0, Nat.pow_succ, Nat.mul_comm (2 ^ n.log2), Nat.mul_assoc, Nat.mul_div_mul_left _ _ (by omega)]

theorem lk_val (k n : Nat) : lk k n = 2 ^ k * n.log2 + D k (x0 n) := rfl
theorem lg_any (n : Nat) : ∃ v, v = lk 16 n := ⟨_, rfl⟩
/-- The logarithm: 65,536 times it, in whole numbers. (By choice, so that no check unfolds it.) -/
noncomputable def lg (n : Nat) : Nat := Classical.choose (lg_any n)
theorem lg_def (n : Nat) : lg n = lk 16 n := Classical.choose_spec (lg_any n)
theorem lg_val (n : Nat) : lg n = 65536 * n.log2 + D 16 (x0 n) := by
  rw [lg_def, lk_val]
theorem lg_mono {n m : Nat} (h0 : 1 ≤ n) (h : n ≤ m) : lg n ≤ lg m := by
  rw [lg_def, lg_def]
  exact lk_mono 16 h0 h
theorem small16 : 2 * (2 ^ 16 - 1) ≤ 1000000 := by decide
theorem lg_double {n : Nat} (h0 : 1 ≤ n) : lg (2 * n) = lg n + 65536 := by
  rw [lg_val, lg_val, x0_double h0, log2_double h0]
  generalize D 16 (x0 n) = q
  omega
theorem lg_mul {n m : Nat} (h0 : 1 ≤ n) (h1 : 1 ≤ m) (h : n * m ≤ 4294967296) : lg (n * m) ≤ lg n + lg m + 3 ∧ lg n + lg m ≤ lg (n * m) + 1 := by
  rw [lg_def, lg_def, lg_def]
  exact lk_mul 16 small16 h0 h1 h
theorem shift_gen (f : Nat → Nat) (hf : ∀ n, 1 ≤ n → f (2 * n) = f n + 65536) (k : Nat) : ∀ n, 1 ≤ n → f (2 ^ k * n) = f n + 65536 * k := by
  induction k with
  | zero => intro n _; simp
  | succ k ih =>
    intro n h
    have hp : 0 < 2 ^ k := Nat.pow_pos (by omega)
    have h1 : 1 ≤ 2 ^ k * n := Nat.mul_pos hp h
    rw [Nat.pow_succ, Nat.mul_comm (2 ^ k) 2, Nat.mul_assoc, hf _ h1, ih n h]
    omega
theorem lg_shift (k : Nat) {n : Nat} (h : 1 ≤ n) : lg (2 ^ k * n) = lg n + 65536 * k := shift_gen lg (fun _ h => lg_double h) k n h
theorem lk_part_any (k : Nat) (hk : 2 * (2 ^ k - 1) ≤ 1000000) {a p q : Nat} (ha : 2 ≤ a) (ha1 : a ≤ 4294967296) (hp : 1 ≤ p) (hp1 : p ≤ 4294967296) (hq : 1 ≤ q) (hq1 : q ≤ 4294967296)
    (h : (a - 1) * p ≤ q * 4096) : lk k a + lk k p < lk k q + 12 * 2 ^ k + 2 + 2 ^ k := by
  refine lk_part k (2 ^ k) hk (by omega) ha1 hp hp1 hq hq1 ?_
  rw [← Nat.mul_pow 2]
  refine Nat.pow_le_pow_left ?_ _
  calc a * p ≤ 2 * (a - 1) * p := Nat.mul_le_mul_right _ (by omega)
    _ = 2 * ((a - 1) * p) := Nat.mul_assoc _ _ _
    _ ≤ 2 * (q * 4096) := Nat.mul_le_mul_left _ h
theorem lk_part_wide (k : Nat) (hk : 2 * (2 ^ k - 1) ≤ 1000000) {a p q : Nat} (ha : 2 * 2 ^ k ≤ a) (ha1 : a ≤ 4294967296) (hp : 1 ≤ p) (hp1 : p ≤ 4294967296) (hq : 1 ≤ q) (hq1 : q ≤ 4294967296)
    (h : (a - 1) * p ≤ q * 4096) : lk k a + lk k p < lk k q + 12 * 2 ^ k + 2 + 1 := by
  have h2 : 0 < 2 ^ k := Nat.pow_pos (by omega)
  refine lk_part k 1 hk (by omega) ha1 hp hp1 hq hq1 ?_
  have n := near2 ha (by omega)
  have hm := Nat.pow_le_pow_left h (2 ^ k)
  rw [Nat.mul_pow] at hm
  rw [Nat.mul_pow a, Nat.pow_one]
  generalize a ^ 2 ^ k = x at *
  generalize (a - 1) ^ 2 ^ k = y at *
  generalize p ^ 2 ^ k = z at *
  generalize (q * 4096) ^ 2 ^ k = u at *
  calc x * z ≤ 2 * y * z := Nat.mul_le_mul_right _ n
    _ = 2 * (y * z) := Nat.mul_assoc _ _ _
    _ ≤ 2 * u := Nat.mul_le_mul_left _ hm
theorem p16 : (2 : Nat) ^ 16 = 65536 := by decide
/-- A part of a range, whatever the range. -/
theorem lg_part_any {a p q : Nat} (ha : 2 ≤ a) (ha1 : a ≤ 4294967296) (hp : 1 ≤ p) (hp1 : p ≤ 4294967296) (hq : 1 ≤ q) (hq1 : q ≤ 4294967296)
    (h : (a - 1) * p ≤ q * 4096) : lg a + lg p < lg q + 851972 := by
  have l := lk_part_any 16 small16 ha ha1 hp hp1 hq hq1 h
  rw [← lg_def, ← lg_def, ← lg_def, p16] at l
  omega
/-- A part of a range of at least 2^17 numbers. -/
theorem lg_part_wide {a p q : Nat} (ha : 131072 ≤ a) (ha1 : a ≤ 4294967296) (hp : 1 ≤ p) (hp1 : p ≤ 4294967296) (hq : 1 ≤ q) (hq1 : q ≤ 4294967296)
    (h : (a - 1) * p ≤ q * 4096) : lg a + lg p < lg q + 786435 := by
  have l := lk_part_wide 16 small16 (by rw [p16]; exact ha) ha1 hp hp1 hq hq1 h
  rw [← lg_def, ← lg_def, ← lg_def, p16] at l
  omega
attribute [irreducible] lk D x0
end Go.Proofs.Ytgapkifgddjijaa.LogMath
