/- What lists of bits cost: the cost of each bit and of all, as the program and its reference count it. -/
import Derived.Test.YtgapkifgddjijaaEncRefC
import Derived.Test.YtgapkifgddjijaaCCostRef
import Derived.Test.YtgapkifgddjijaaQCx1
import Derived.Test.YtgapkifgddjijaaQCx2
import Derived.Test.YtgapkifgddjijaaQCx3
import Derived.Test.YtgapkifgddjijaaQCx5
import Derived.Test.YtgapkifgddjijaaQCx6
namespace Go.Proofs.Ytgapkifgddjijaa.EncC
open Go Go.RowKit Go.Proofs.Ytgapkifgddjijaa.Enc Go.Proofs.Ytgapkifgddjijaa.QC Go.Proofs.YtgapkifgddjijaaW.PrintWords Go.Proofs.YtgapkifgddjijaaW.PrintLast Go.Proofs.YtgapkifgddjijaaW.PrintMore
open Go.Proofs.Ytgapkifgddjijaa.LogMath (lg lg_mono lg_shift)

/-- The logarithm, of a whole number. -/
noncomputable def L (n : Int) : Int := (lg n.toNat : Int)
theorem L_nonneg (n : Int) : 0 ≤ L n := Int.natCast_nonneg _
theorem L_mono {n m : Int} (h0 : 1 ≤ n) (h : n ≤ m) : L n ≤ L m := by
  have := lg_mono (n := n.toNat) (m := m.toNat) (by omega) (by omega)
  unfold L; omega
theorem L_256 {n : Int} (h : 1 ≤ n) : L (n * 256) = L n + 524288 := by
  have a := lg_shift 8 (n := n.toNat) (by omega)
  have e : 2 ^ 8 * n.toNat = (n * 256).toNat := by
    have : (2 : Nat) ^ 8 = 256 := by decide
    rw [this]; omega
  rw [e] at a
  unfold L; omega
theorem L_pow {n : Int} (h : 1 ≤ n) : ∀ j : Nat, L (n * 256 ^ j) = L n + 524288 * (j : Int) := by
  intro j
  induction j with
  | zero => simp
  | succ j ih =>
    have hp : (1 : Int) ≤ n * 256 ^ j := by
      have : (0 : Int) < 256 ^ j := Int.pow_pos (by decide)
      have := Int.mul_le_mul h (show (1 : Int) ≤ 256 ^ j by omega) (by omega) (by omega)
      omega
    rw [Int.pow_succ, ← Int.mul_assoc, L_256 hp, ih]
    omega
theorem L_1 : L 1 = 0 := by
  have : lg 1 = 0 := by rw [LogMath.lg_def]; decide +kernel
  unfold L
  rw [show (1 : Int).toNat = 1 by decide, this]; rfl
theorem L_2 : L 2 = 65536 := by
  have a := lg_shift 1 (n := 1) (by omega)
  have b := L_1
  unfold L at *
  rw [show (1 : Int).toNat = 1 by decide] at b
  rw [show (2 : Int).toNat = 2 ^ 1 * 1 by decide]
  omega
theorem L_all : L 4294967296 = 2097152 := by
  have a := lg_shift 32 (n := 1) (by omega)
  have b := L_1
  unfold L at *
  rw [show (1 : Int).toNat = 1 by decide] at b
  rw [show (4294967296 : Int).toNat = 2 ^ 32 * 1 by decide]
  omega
theorem L_4096 : L 4096 = 786432 := by
  have a := lg_shift 12 (n := 1) (by omega)
  have b := L_1
  unfold L at *
  rw [show (1 : Int).toNat = 1 by decide] at b
  rw [show (4096 : Int).toNat = 2 ^ 12 * 1 by decide]
  omega
theorem L_le {n : Int} (h0 : 1 ≤ n) (h1 : n ≤ 4294967296) : L n ≤ 2097152 := by
  have := L_mono h0 h1
  rw [L_all] at this
  exact this
theorem log_L {k : Nat} (hk : 17 ≤ k) {n : Int} (h0 : 1 ≤ n) (h1 : n ≤ 4294967296) : cost_log.f k n = some (L n) := by
  obtain ⟨m, rfl⟩ := Int.eq_ofNat_of_zero_le (show 0 ≤ n by omega)
  exact CostC.log_at hk m (by omega) (by omega)
theorem Logarithm_L {k : Nat} (hk : 120 ≤ k) {n : Int} (h0 : 1 ≤ n) (h1 : n ≤ 4294967296) : bitloftref23_Logarithm.f k n = some (L n) := by
  obtain ⟨m, rfl⟩ := Int.eq_ofNat_of_zero_le (show 0 ≤ n by omega)
  exact CostC.Logarithm_ok hk (by omega) (by omega)
/-- Whether a number is a probability that may be paid for. -/
def pr1 (p : Int) : Bool := decide (1 ≤ p) && decide (p ≤ 4095)
theorem pr1_iff (p : Int) : pr1 p = true ↔ 1 ≤ p ∧ p ≤ 4095 := by simp [pr1]
theorem cprob_ok (p : Int) : cost_prob.f p = some (pr1 p) := by
  unfold cost_prob.f pr1
  by_cases h : p ≥ 1
  · rw [if_pos h, decide_eq_true h, Bool.true_and]
  · rw [if_neg h, decide_eq_false h, Bool.false_and]
theorem rprob_ok (p : Int) : bitloftref23_Prob.f p = some (pr1 p) := cprob_ok p
/-- What a bit costs in thought. -/
noncomputable def idl (p : Int) (b : Bool) : Int := 786432 - (if b = true then L p else L (4096 - p))
theorem idl_in {p : Int} (h0 : 1 ≤ p) (h1 : p ≤ 4095) (b : Bool) : 0 ≤ idl p b ∧ idl p b ≤ 786432 := by
  have a := L_nonneg p
  have c := L_nonneg (4096 - p)
  have d := L_mono (n := p) (m := 4096) h0 (by omega)
  have e := L_mono (n := 4096 - p) (m := 4096) (by omega) (by omega)
  rw [L_4096] at d e
  unfold idl
  cases b
  · rw [if_neg (by decide)]; omega
  · rw [if_pos rfl]; omega
theorem ideal_ok {k : Nat} (hk : 17 ≤ k) {p : Int} (h0 : 1 ≤ p) (h1 : p ≤ 4095) (b : Bool) : cost_ideal.f k p b = some (idl p b) := by
  have i := idl_in h0 h1 b
  unfold idl at i ⊢
  unfold cost_ideal.f
  cases b
  · rw [if_neg (by decide)] at i ⊢
    rw [if_neg (by decide), IntWalk.wrap64_in (4096 - p) (by omega), u64_id (by omega) (by omega), log_L hk (by omega) (by omega), Option.bind_some, IntWalk.wrap64_in _ (by omega)]
  · rw [if_pos rfl] at i ⊢
    rw [if_pos rfl, u64_id (by omega) (by omega), log_L hk (by omega) (by omega), Option.bind_some, IntWalk.wrap64_in _ (by omega)]
theorem Bit_ok {k : Nat} (hk : 120 ≤ k) {p : Int} (h0 : 1 ≤ p) (h1 : p ≤ 4095) (b : Bool) : bitloftref23_Bit.f k p b = some (idl p b, 0) := by
  have i := idl_in h0 h1 b
  unfold idl at i ⊢
  unfold bitloftref23_Bit.f
  rw [rprob_ok, Option.bind_some, if_pos ((pr1_iff p).2 ⟨h0, h1⟩)]
  cases b
  · rw [if_neg (by decide)] at i ⊢
    rw [if_neg (by decide), IntWalk.wrap64_in (4096 - p) (by omega), u64_id (by omega) (by omega), Logarithm_L hk (by omega) (by omega), Option.bind_some, IntWalk.wrap64_in _ (by omega)]
  · rw [if_pos rfl] at i ⊢
    rw [if_pos rfl, u64_id (by omega) (by omega), Logarithm_L hk (by omega) (by omega), Option.bind_some, IntWalk.wrap64_in _ (by omega)]
/-- The size of a bit's part of a range. -/
def prt (x1 x2 p : Int) (b : Bool) : Int := if b = true then md x1 x2 p - x1 + 1 else x2 - md x1 x2 p
theorem prt_in {x1 x2 p : Int} (h : Ok x1 x2) (h0 : 0 ≤ p) (h1 : p ≤ 4095) (b : Bool) : 1 ≤ prt x1 x2 p b ∧ prt x1 x2 p b ≤ x2 - x1 + 1 := by
  have a := md_le h.lt h0
  have c := md_lt h.lt h1
  unfold prt
  cases b
  · rw [if_neg (by decide)]; omega
  · rw [if_pos rfl]; omega
/-- What a bit costs in truth. -/
noncomputable def cst (x1 x2 p : Int) (b : Bool) : Int := L (x2 - x1 + 1) - L (prt x1 x2 p b)
theorem cst_in {x1 x2 p : Int} (h : Ok x1 x2) (h0 : 0 ≤ p) (h1 : p ≤ 4095) (b : Bool) : 0 ≤ cst x1 x2 p b ∧ cst x1 x2 p b ≤ 2097152 := by
  obtain ⟨a, c⟩ := prt_in h h0 h1 b
  have d := L_mono a c
  have e := L_nonneg (prt x1 x2 p b)
  have l := h.lt
  have lo := h.lo
  have hi := h.hi
  have f := L_le (n := x2 - x1 + 1) (by omega) (by omega)
  unfold cst; omega
theorem step_ok {k : Nat} (hk : 17 ≤ k) {x1 x2 p : Int} (h : Ok x1 x2) (h0 : 1 ≤ p) (h1 : p ≤ 4095) (b : Bool) : cost_step.f k x1 x2 p b = some (cst x1 x2 p b) := by
  have i := cst_in h (by omega) h1 b
  have a := md_le (p := p) h.lt (by omega)
  have c := md_lt h.lt h1
  have s : encoder_Split.f x1 x2 p = some (md x1 x2 p, 0) := by
    unfold encoder_Split.f
    rw [if_neg (by have := h.lt; omega), prob_ok, Option.bind_some, if_pos ((prb_iff p).2 ⟨by omega, h1⟩), split_ok h (by omega) h1, Option.bind_some]
  obtain ⟨lo, lt, hi⟩ := h
  unfold cst prt at i ⊢
  unfold cost_step.f
  rw [s, Option.bind_some]
  cases b
  · rw [if_neg (by decide)] at i ⊢
    rw [if_neg (by decide), Int.emod_eq_of_lt (a := x2 - x1) (by omega) (by omega)]
    simp only []
    rw [Int.emod_eq_of_lt (a := x2 - md x1 x2 p) (by omega) (by omega), log_L hk (n := x2 - x1 + 1) (by omega) (by omega), Option.bind_some, log_L hk (by omega) (by omega), Option.bind_some, IntWalk.wrap64_in _ (by omega)]
  · rw [if_pos rfl] at i ⊢
    rw [if_pos rfl, Int.emod_eq_of_lt (a := x2 - x1) (by omega) (by omega)]
    simp only []
    rw [Int.emod_eq_of_lt (a := md x1 x2 p - x1) (by omega) (by omega), log_L hk (n := x2 - x1 + 1) (by omega) (by omega), Option.bind_some, log_L hk (by omega) (by omega), Option.bind_some, IntWalk.wrap64_in _ (by omega)]
theorem Step_ok {k : Nat} (hk : 121 ≤ k) {x1 x2 p : Int} (h : Ok x1 x2) (h0 : 1 ≤ p) (h1 : p ≤ 4095) (b : Bool) : bitloftref23_Step.f k x1 x2 p b = some (cst x1 x2 p b, 0) := by
  obtain ⟨k, rfl⟩ : ∃ m, k = m + 1 := ⟨k - 1, by omega⟩
  have i := cst_in h (by omega) h1 b
  have a := md_le (p := p) h.lt (by omega)
  have c := md_lt h.lt h1
  have s := Middle_ok h (show 0 ≤ p by omega) h1
  obtain ⟨lo, lt, hi⟩ := h
  unfold cst prt at i ⊢
  unfold bitloftref23_Step.f
  rw [if_neg (by omega), rprob_ok, Option.bind_some, (pr1_iff p).2 ⟨h0, h1⟩, Bool.not_true, bitloftref23_Step.j0.eq_2, if_neg (by decide), s, Option.bind_some]
  rw [u64_id (n := x1) (by omega) (by omega), u64_id (n := x2) (by omega) (by omega), u64_id (n := md x1 x2 p) (by omega) (by omega), u64_id (n := x2 - x1) (by omega) (by omega), u64_id (n := x2 - x1 + 1) (by omega) (by omega)]
  cases b
  · rw [if_neg (by decide)] at i ⊢
    rw [if_neg (by decide), u64_id (n := x2 - md x1 x2 p) (by omega) (by omega), Logarithm_L (by omega) (n := x2 - x1 + 1) (by omega) (by omega), Option.bind_some, Logarithm_L (by omega) (by omega) (by omega), Option.bind_some, IntWalk.wrap64_in _ (by omega)]
  · rw [if_pos rfl] at i ⊢
    rw [if_pos rfl, u64_id (n := md x1 x2 p - x1) (by omega) (by omega), u64_id (n := md x1 x2 p - x1 + 1) (by omega) (by omega), Logarithm_L (by omega) (n := x2 - x1 + 1) (by omega) (by omega), Option.bind_some, Logarithm_L (by omega) (by omega) (by omega), Option.bind_some, IntWalk.wrap64_in _ (by omega)]

/-- The error of lists. -/
def prs1 (ps : List Int) (n : Nat) : Int := if 2000 < n then 4 else if ps.length = n then (if ps.all pr1 = true then 0 else 2) else 2
theorem rd_at {ps : List Int} {i : Nat} (hl : i < ps.length) : rd ps (i : Int) = ps[i] := by
  unfold rd
  rw [Int.toNat_natCast, List.getD_eq_getElem?_getD, List.getElem?_eq_getElem hl]
  rfl
theorem rb_at {bs : List Bool} {i : Nat} (hl : i < bs.length) : rdOf false bs (i : Int) = bs[i] := by
  unfold rdOf
  rw [Int.toNat_natCast, List.getD_eq_getElem?_getD, List.getElem?_eq_getElem hl]
  rfl
theorem check_l0 (ps : List Int) (hn : ps.length ≤ 2000) : ∀ (d k : Nat) (i : Nat), i + d = ps.length → d < k →
    cost_check.l0 k ps (ps.length : Int) (i : Int) = some (if (ps.drop i).all pr1 = true then 0 else 2) := by
  intro d
  induction d with
  | zero =>
    intro k i hi hk
    obtain ⟨k, rfl⟩ : ∃ m, k = m + 1 := ⟨k - 1, by omega⟩
    rw [cost_check.l0.eq_2, if_neg (by omega), List.drop_eq_nil_of_le (by omega)]
    rfl
  | succ d ih =>
    intro k i hi hk
    obtain ⟨k, rfl⟩ : ∃ m, k = m + 1 := ⟨k - 1, by omega⟩
    have hl : i < ps.length := by omega
    rw [cost_check.l0.eq_2, if_pos (by omega), if_pos (by omega), if_pos (by omega), rd_at hl, cprob_ok, Option.bind_some, List.drop_eq_getElem_cons hl, List.all_cons]
    by_cases c : pr1 ps[i] = true
    · rw [if_pos c, c, Bool.true_and, IntWalk.wrap64_in _ (by omega), show (i : Int) + 1 = ((i + 1 : Nat) : Int) by omega]
      exact ih k (i + 1) (by omega) (by omega)
    · rw [if_neg c, Bool.eq_false_iff.2 c, Bool.false_and, if_neg (by decide)]
theorem check_ok {k : Nat} (hk : 2002 ≤ k) (ps : List Int) (bs : List Bool) : cost_check.f k ps bs = some (prs1 ps bs.length) := by
  unfold cost_check.f prs1
  by_cases c : 2000 < bs.length
  · rw [if_pos (by omega), if_pos c]
  · rw [if_neg (by omega), if_neg c]
    by_cases d : ps.length = bs.length
    · rw [if_pos (by omega), if_pos d]
      have := check_l0 ps (by omega) ps.length k 0 (by omega) (by omega)
      rw [List.drop_zero] at this
      exact this
    · rw [if_neg (by omega), if_neg d]
theorem Lists_l0 (ps : List Int) (hn : ps.length ≤ 2000) : ∀ (d k : Nat) (i : Nat), i + d = ps.length → d < k →
    bitloftref23_Lists.l0 k ps (i : Int) = some (if (ps.drop i).all pr1 = true then 0 else 2) := by
  intro d
  induction d with
  | zero =>
    intro k i hi hk
    obtain ⟨k, rfl⟩ : ∃ m, k = m + 1 := ⟨k - 1, by omega⟩
    rw [bitloftref23_Lists.l0.eq_2, if_neg (by omega), List.drop_eq_nil_of_le (by omega)]
    rfl
  | succ d ih =>
    intro k i hi hk
    obtain ⟨k, rfl⟩ : ∃ m, k = m + 1 := ⟨k - 1, by omega⟩
    have hl : i < ps.length := by omega
    rw [bitloftref23_Lists.l0.eq_2, if_pos (by omega), if_pos (by omega), rd_at hl, rprob_ok, Option.bind_some, List.drop_eq_getElem_cons hl, List.all_cons]
    by_cases c : pr1 ps[i] = true
    · rw [if_pos c, c, Bool.true_and, IntWalk.wrap64_in _ (by omega), show (i : Int) + 1 = ((i + 1 : Nat) : Int) by omega]
      exact ih k (i + 1) (by omega) (by omega)
    · rw [if_neg c, Bool.eq_false_iff.2 c, Bool.false_and, if_neg (by decide)]
theorem Lists_ok {k : Nat} (hk : 2002 ≤ k) (ps : List Int) (bs : List Bool) : bitloftref23_Lists.f k ps bs = some (prs1 ps bs.length) := by
  unfold bitloftref23_Lists.f prs1
  by_cases c : 2000 < bs.length
  · rw [if_pos (by omega), if_pos c]
  · rw [if_neg (by omega), if_neg c]
    by_cases d : ps.length = bs.length
    · rw [if_pos (by omega), if_pos d]
      have := Lists_l0 ps (by omega) ps.length k 0 (by omega) (by omega)
      rw [List.drop_zero] at this
      exact this
    · rw [if_neg (by omega), if_neg d]
theorem prs1_zero {ps : List Int} {n : Nat} (h : prs1 ps n = 0) : n ≤ 2000 ∧ ps.length = n ∧ ∀ p ∈ ps, 1 ≤ p ∧ p ≤ 4095 := by
  unfold prs1 at h
  by_cases c : 2000 < n
  · rw [if_pos c] at h; cases h
  · rw [if_neg c] at h
    by_cases d : ps.length = n
    · rw [if_pos d] at h
      by_cases e : ps.all pr1 = true
      · exact ⟨by omega, d, fun p hp => (pr1_iff p).1 (List.all_eq_true.1 e p hp)⟩
      · rw [if_neg e] at h; cases h
    · rw [if_neg d] at h; cases h
theorem prs1_mk {ps : List Int} {n : Nat} (h0 : n ≤ 2000) (h1 : ps.length = n) (h : ∀ p ∈ ps, 1 ≤ p ∧ p ≤ 4095) : prs1 ps n = 0 := by
  unfold prs1
  rw [if_neg (by omega), if_pos h1, if_pos (List.all_eq_true.2 fun p hp => (pr1_iff p).2 (h p hp))]

/-- What all bits cost in thought. -/
noncomputable def isum : List Int → List Bool → Int
  | p :: ps, b :: bs => idl p b + isum ps bs
  | [], _ => 0
  | _ :: _, [] => 0
theorem isum_in : ∀ (ps : List Int) (bs : List Bool), (∀ p ∈ ps, 1 ≤ p ∧ p ≤ 4095) → 0 ≤ isum ps bs ∧ isum ps bs ≤ 786432 * (ps.length : Int) := by
  intro ps
  induction ps with
  | nil => intro bs _; simp [isum]
  | cons p ps ih =>
    intro bs h
    cases bs with
    | nil => simp only [isum, List.length_cons]; omega
    | cons b bs =>
      obtain ⟨p0, p1⟩ := h p (List.mem_cons_self ..)
      have a := idl_in p0 p1 b
      have c := ih bs (fun q hq => h q (List.mem_cons_of_mem _ hq))
      simp only [isum, List.length_cons]
      omega
theorem Ideal_l0 (ps : List Int) (bs : List Bool) (hn : ps.length ≤ 2000) (hb : ps.length = bs.length) (hp : ∀ p ∈ ps, 1 ≤ p ∧ p ≤ 4095) : ∀ (d k : Nat) (i : Nat) (n : Int), i + d = ps.length → d + 20 < k → 0 ≤ n → n ≤ 786432 * (i : Int) →
    cost_Ideal.l0 k ps n bs (bs.length : Int) (i : Int) = some (n + isum (ps.drop i) (bs.drop i), 0) := by
  intro d
  induction d with
  | zero =>
    intro k i n hi hk _ _
    obtain ⟨k, rfl⟩ : ∃ m, k = m + 1 := ⟨k - 1, by omega⟩
    rw [cost_Ideal.l0.eq_2, if_neg (by omega), List.drop_eq_nil_of_le (by omega)]
    simp only [isum, Int.add_zero]
  | succ d ih =>
    intro k i n hi hk h0 h1
    obtain ⟨k, rfl⟩ : ∃ m, k = m + 1 := ⟨k - 1, by omega⟩
    have hl : i < ps.length := by omega
    have hl' : i < bs.length := by omega
    obtain ⟨p0, p1⟩ := hp ps[i] (List.getElem_mem hl)
    have a := idl_in p0 p1 bs[i]
    rw [cost_Ideal.l0.eq_2, if_pos (by omega), if_pos (by omega), if_pos (by omega), if_pos (by omega), rd_at hl, rb_at hl', ideal_ok (by omega) p0 p1, Option.bind_some, IntWalk.wrap64_in (n + _) (by omega), IntWalk.wrap64_in _ (by omega), show (i : Int) + 1 = ((i + 1 : Nat) : Int) by omega, List.drop_eq_getElem_cons hl, List.drop_eq_getElem_cons hl']
    simp only [isum]
    rw [ih k (i + 1) (n + idl ps[i] bs[i]) (by omega) (by omega) (by omega) (by omega), Int.add_assoc]
theorem RIdeal_l0 (ps : List Int) (bs : List Bool) (hn : ps.length ≤ 2000) (hb : ps.length = bs.length) (hp : ∀ p ∈ ps, 1 ≤ p ∧ p ≤ 4095) : ∀ (d k : Nat) (i : Nat) (n : Int), i + d = ps.length → d + 130 < k → 0 ≤ n → n ≤ 786432 * (i : Int) →
    bitloftref23_Ideal.l0 k ps bs n (i : Int) = some (n + isum (ps.drop i) (bs.drop i), 0) := by
  intro d
  induction d with
  | zero =>
    intro k i n hi hk _ _
    obtain ⟨k, rfl⟩ : ∃ m, k = m + 1 := ⟨k - 1, by omega⟩
    rw [bitloftref23_Ideal.l0.eq_2, if_neg (by omega), List.drop_eq_nil_of_le (by omega)]
    simp only [isum, Int.add_zero]
  | succ d ih =>
    intro k i n hi hk h0 h1
    obtain ⟨k, rfl⟩ : ∃ m, k = m + 1 := ⟨k - 1, by omega⟩
    have hl : i < ps.length := by omega
    have hl' : i < bs.length := by omega
    obtain ⟨p0, p1⟩ := hp ps[i] (List.getElem_mem hl)
    have a := idl_in p0 p1 bs[i]
    rw [bitloftref23_Ideal.l0.eq_2, if_pos (by omega), if_pos (by omega), if_pos (by omega), rd_at hl, rb_at hl', Bit_ok (by omega) p0 p1, Option.bind_some, IntWalk.wrap64_in (n + _) (by omega), IntWalk.wrap64_in _ (by omega), show (i : Int) + 1 = ((i + 1 : Nat) : Int) by omega, List.drop_eq_getElem_cons hl, List.drop_eq_getElem_cons hl']
    simp only [isum]
    rw [ih k (i + 1) (n + idl ps[i] bs[i]) (by omega) (by omega) (by omega) (by omega), Int.add_assoc]
noncomputable def ideals (ps : List Int) (bs : List Bool) : Int × Int := if prs1 ps bs.length = 0 then (isum ps bs, 0) else (0, prs1 ps bs.length)
theorem Ideal_ok {k : Nat} (hk : 2200 ≤ k) (ps : List Int) (bs : List Bool) : cost_Ideal.f k ps bs = some (ideals ps bs) ∧ bitloftref23_Ideal.f k ps bs = some (ideals ps bs) := by
  unfold cost_Ideal.f bitloftref23_Ideal.f ideals
  rw [check_ok (by omega), Lists_ok (by omega), Option.bind_some, Option.bind_some, Option.bind_some]
  by_cases c : prs1 ps bs.length = 0
  · obtain ⟨h0, h1, h2⟩ := prs1_zero c
    rw [if_pos c, if_pos c, if_pos c]
    have a := Ideal_l0 ps bs (by omega) h1 h2 ps.length k 0 0 (by omega) (by omega) (by omega) (by omega)
    have b := RIdeal_l0 ps bs (by omega) h1 h2 ps.length k 0 0 (by omega) (by omega) (by omega) (by omega)
    rw [List.drop_zero, List.drop_zero, Int.zero_add] at a b
    exact ⟨a, b⟩
  · rw [if_neg c, if_neg c, if_neg c]
    exact ⟨rfl, rfl⟩
end Go.Proofs.Ytgapkifgddjijaa.EncC
