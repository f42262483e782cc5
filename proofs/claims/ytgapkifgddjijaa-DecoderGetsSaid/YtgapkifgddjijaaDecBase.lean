/- The arithmetic of the encoder and the decoder: what the hand contracts compute, with no program in sight. Laid by wip/c1/mkD.py. -/
import Derived.Test.YtgapkifgddjijaaHandMono
import Derived.Test.YtgapkifgddjijaaEncMath
import Derived.IntWalk
import Derived.Laws.BitsLemmas
namespace Go.Proofs.Ytgapkifgddjijaa.Dec
open Go Go.RowKit Go.Proofs.Ytgapkifgddjijaa.Enc Go.Proofs.Ytgapkifgddjijaa.QE Go.Proofs.YtgapkifgddjijaaW.PrintWords Go.Proofs.YtgapkifgddjijaaW.PrintLast Go.Proofs.YtgapkifgddjijaaW.PrintMore

theorem u64_id {n : Int} (h0 : 0 ≤ n) (h1 : n < 18446744073709551616) : IntKind.u64.wrap n = n := by
  simp only [IntKind.wrap, IntKind.bits, IntKind.signed]
  exact Int.emod_eq_of_lt h0 h1
theorem td {a b : Int} (h : 0 ≤ a) : Int.tdiv a b = a / b := Int.tdiv_eq_ediv_of_nonneg h
theorem tm {a b : Int} (h : 0 ≤ a) : Int.tmod a b = a % b := Int.tmod_eq_emod_of_nonneg h
theorem Middle_ok {x1 x2 p : Int} (h : Ok x1 x2) (h0 : 0 ≤ p) (h1 : p ≤ 4095) : bitloftref20_Middle.f x1 x2 p = some (md x1 x2 p) := by
  have hm := md_le h.lt h0
  have hl := md_lt h.lt h1
  have hs := md_split x1 x2 p
  obtain ⟨a, b, c⟩ := h
  unfold bitloftref20_Middle.f
  rw [u64_id (n := x1) (by omega) (by omega), u64_id (n := x2) (by omega) (by omega), u64_id (n := p) (by omega) (by omega), u64_id (n := x2 - x1) (by omega) (by omega), td (by omega), tm (by omega), u64_id (n := (x2 - x1) / 4096) (by omega) (by omega)]
  have m0 : 0 ≤ (x2 - x1) / 4096 * p := Int.mul_nonneg (by omega) h0
  have n0 : 0 ≤ (x2 - x1) % 4096 * p := Int.mul_nonneg (by omega) h0
  have m1 : (x2 - x1) / 4096 * p ≤ (x2 - x1) / 4096 * 4095 := Int.mul_le_mul_of_nonneg_left h1 (by omega)
  have n1 : (x2 - x1) % 4096 * p ≤ (x2 - x1) % 4096 * 4095 := Int.mul_le_mul_of_nonneg_left h1 (by omega)
  generalize (x2 - x1) / 4096 * p = r at *
  generalize (x2 - x1) % 4096 * p = s at *
  generalize md x1 x2 p = m at *
  rw [u64_id (n := r) (by omega) (by omega), u64_id (n := s) (by omega) (by omega), td (by omega), u64_id (n := s / 4096) (by omega) (by omega), u64_id (n := x1 + r) (by omega) (by omega), u64_id (n := x1 + r + s / 4096) (by omega) (by omega)]
  refine congrArg some ?_
  omega
theorem split_ok {x1 x2 p : Int} (h : Ok x1 x2) (h0 : 0 ≤ p) (h1 : p ≤ 4095) : encoder_split.f x1 x2 p = some (md x1 x2 p) := by
  have hm := md_le h.lt h0
  have hl := md_lt h.lt h1
  have hs := md_split x1 x2 p
  obtain ⟨a, b, c⟩ := h
  unfold encoder_split.f
  rw [Int.emod_eq_of_lt (a := x2 - x1) (by omega) (by omega), Int.emod_eq_of_lt (a := p) (by omega) (by omega), and4095 (by omega) (by omega)]
  have m0 : 0 ≤ (x2 - x1) / 4096 * p := Int.mul_nonneg (by omega) h0
  have n0 : 0 ≤ (x2 - x1) % 4096 * p := Int.mul_nonneg (by omega) h0
  have m1 : (x2 - x1) / 4096 * p ≤ (x2 - x1) / 4096 * 4095 := Int.mul_le_mul_of_nonneg_left h1 (by omega)
  have n1 : (x2 - x1) % 4096 * p ≤ (x2 - x1) % 4096 * 4095 := Int.mul_le_mul_of_nonneg_left h1 (by omega)
  generalize (x2 - x1) / 4096 * p = r at *
  generalize (x2 - x1) % 4096 * p = s at *
  generalize md x1 x2 p = m at *
  refine congrArg some ?_
  omega
/-- Whether a number is a probability. -/
def prb (p : Int) : Bool := decide (0 ≤ p) && decide (p ≤ 4095)
theorem prb_iff (p : Int) : prb p = true ↔ 0 ≤ p ∧ p ≤ 4095 := by simp [prb]
theorem Prob_ok (p : Int) : bitloftref20_Prob.f p = some (prb p) := by
  unfold bitloftref20_Prob.f prb
  by_cases h : p ≥ 0
  · rw [if_pos h, decide_eq_true h, Bool.true_and]
  · rw [if_neg h, decide_eq_false h, Bool.false_and]
theorem prob_ok (p : Int) : encoder_prob.f p = some (prb p) := by
  unfold encoder_prob.f prb
  by_cases h : p ≥ 0
  · rw [if_pos h, decide_eq_true h, Bool.true_and]
  · rw [if_neg h, decide_eq_false h, Bool.false_and]
/-- A run from a state. -/
def rn : Int → Int → List Int → List Int → List Bool → Int × Int × List Int
  | x1, x2, o, p :: ps, b :: bs => rn (stp x1 x2 p b o).1 (stp x1 x2 p b o).2.1 (stp x1 x2 p b o).2.2 ps bs
  | x1, x2, o, [], _ => (x1, x2, o)
  | x1, x2, o, _ :: _, [] => (x1, x2, o)
/-- The bytes of an encoder that was ended. -/
def ende (x1 : Int) (o : List Int) : List Int := o ++ [x1 / 16777216 % 256, x1 / 65536 % 256, x1 / 256 % 256, x1 % 256]
theorem runl_rn {k : Nat} (hk : 5 ≤ k) : ∀ (ps : List Int) (bs : List Bool) (x1 x2 : Int) (o : List Int), Ok x1 x2 → (∀ p ∈ ps, 0 ≤ p ∧ p ≤ 4095) → o.length + 4 * ps.length + 4 < 140737488355328 →
    Hand.runl k x1 x2 o ps bs = some (rn x1 x2 o ps bs) := by
  intro ps
  induction ps with
  | nil => intro bs x1 x2 o _ _ _; simp only [Hand.runl, rn]
  | cons p ps ih =>
    intro bs x1 x2 o h hp ho
    cases bs with
    | nil => simp only [Hand.runl, rn]
    | cons b bs =>
      obtain ⟨p0, p1⟩ := hp p (List.mem_cons_self ..)
      rw [List.length_cons] at ho
      obtain ⟨y1, y2, e, g, ok, _, el, _⟩ := stp_ok h p0 p1 b
      simp only [Hand.runl, rn]
      rw [putf_stp hk h p0 p1 b o (by omega), Option.bind_some, g o]
      exact ih bs y1 y2 (o ++ e) ok (fun q hq => hp q (List.mem_cons_of_mem _ hq)) (by rw [List.length_append]; omega)
theorem end_ok (x1 x2 : Int) (o : List Int) (ho : o.length + 4 < 140737488355328) : QE.encoder_end.f x1 x2 o = some (ende x1 o) := by
  unfold QE.encoder_end.f QE.slices_Clone_byte_byte.f ende
  rw [if_pos (by omega), Option.bind_some, Option.bind_some, if_pos (by simp only [List.length_cons, List.length_nil]; omega)]
/-- The error of probabilities for so many bits. -/
def prs (ps : List Int) (n : Nat) : Int := if 2000 < n then 4 else if ps.length = n then (if ps.all prb = true then 0 else 2) else 2
/-- What both Runs give. -/
def rund (ps : List Int) (bs : List Bool) : List Int × Int :=
  if prs ps bs.length = 0 then (ende (rn 0 4294967295 [] ps bs).1 (rn 0 4294967295 [] ps bs).2.2, 0) else ([], prs ps bs.length)
theorem rn_ok : ∀ (ps : List Int) (bs : List Bool) (x1 x2 : Int) (o : List Int), Ok x1 x2 → (∀ p ∈ ps, 0 ≤ p ∧ p ≤ 4095) → Ok (rn x1 x2 o ps bs).1 (rn x1 x2 o ps bs).2.1 ∧ ∃ e, (rn x1 x2 o ps bs).2.2 = o ++ e ∧ e.length ≤ 4 * ps.length := by
  intro ps
  induction ps with
  | nil => intro bs x1 x2 o h _; simp only [rn]; exact ⟨h, [], by simp, by simp⟩
  | cons p ps ih =>
    intro bs x1 x2 o h hp
    cases bs with
    | nil => simp only [rn]; exact ⟨h, [], by simp, by simp⟩
    | cons b bs =>
      obtain ⟨p0, p1⟩ := hp p (List.mem_cons_self ..)
      obtain ⟨y1, y2, e, g, ok, _, el, _⟩ := stp_ok h p0 p1 b
      simp only [rn]
      rw [g o]
      obtain ⟨a, f, b1, b2⟩ := ih bs y1 y2 (o ++ e) ok (fun q hq => hp q (List.mem_cons_of_mem _ hq))
      exact ⟨a, e ++ f, by rw [b1, List.append_assoc], by rw [List.length_append, List.length_cons]; omega⟩
theorem any_all (ps : List Int) : ps.any Hand.noProb = !(ps.all prb) := by
  induction ps with
  | nil => rfl
  | cons p ps ih => rw [List.any_cons, List.all_cons, ih, Bool.not_and]; rfl
theorem all_in {ps : List Int} (h : ps.all prb = true) : ∀ p ∈ ps, 0 ≤ p ∧ p ≤ 4095 := fun p hp => (prb_iff p).1 (List.all_eq_true.1 h p hp)
theorem prs_zero {ps : List Int} {n : Nat} (h : prs ps n = 0) : n ≤ 2000 ∧ ps.length = n ∧ ∀ p ∈ ps, 0 ≤ p ∧ p ≤ 4095 := by
  unfold prs at h
  by_cases c : 2000 < n
  · rw [if_pos c] at h; cases h
  · rw [if_neg c] at h
    by_cases d : ps.length = n
    · rw [if_pos d] at h
      by_cases e : ps.all prb = true
      · exact ⟨by omega, d, all_in e⟩
      · rw [if_neg e] at h; cases h
    · rw [if_neg d] at h; cases h
theorem ok0 : Ok 0 4294967295 := ⟨by decide, by decide, by decide⟩
theorem Runf_ok {k : Nat} (hk : 5 ≤ k) (ps : List Int) (bs : List Bool) : Hand.Runf k ps bs = some (rund ps bs) := by
  unfold Hand.Runf rund
  by_cases c : 2000 < bs.length
  · have e : prs ps bs.length = 4 := if_pos c
    rw [if_pos c, e, if_neg (by decide)]
  · rw [if_neg c]
    by_cases d : ps.length = bs.length
    · rw [if_pos d, any_all]
      by_cases f : ps.all prb = true
      · have e : prs ps bs.length = 0 := by unfold prs; rw [if_neg c, if_pos d, if_pos f]
        obtain ⟨_, x, hx, hl⟩ := rn_ok ps bs 0 4294967295 [] ok0 (all_in f)
        rw [f, if_neg (by decide), e, if_pos rfl, runl_rn hk ps bs 0 4294967295 [] ok0 (all_in f) (by rw [List.length_nil]; omega), Option.bind_some, end_ok _ _ _ (by rw [hx, List.nil_append]; omega), Option.bind_some]
      · have e : prs ps bs.length = 2 := by unfold prs; rw [if_neg c, if_pos d, if_neg f]
        rw [Bool.eq_false_iff.2 f, Bool.not_false, if_pos rfl, e, if_neg (by decide)]
    · have e : prs ps bs.length = 2 := by unfold prs; rw [if_neg c, if_neg d]
      rw [if_neg d, e, if_neg (by decide)]
/-- The error of an encoder. -/
def chk (x1 x2 : Int) (l : List Int) : Int := if x1 ≥ x2 then 8 else if x1 / 16777216 = x2 / 16777216 then 8 else if (l.length : Int) > 20000 then 8 else 0
theorem chk_zero {x1 x2 : Int} {l : List Int} (h : chk x1 x2 l = 0) : x1 < x2 ∧ x1 / 16777216 ≠ x2 / 16777216 ∧ l.length ≤ 20000 := by
  unfold chk at h
  by_cases a : x1 ≥ x2
  · rw [if_pos a] at h; cases h
  · rw [if_neg a] at h
    by_cases b : x1 / 16777216 = x2 / 16777216
    · rw [if_pos b] at h; cases h
    · rw [if_neg b] at h
      by_cases c : (l.length : Int) > 20000
      · rw [if_pos c] at h; cases h
      · exact ⟨by omega, b, by omega⟩
theorem chk_mk {x1 x2 : Int} {l : List Int} (a : x1 < x2) (b : x1 / 16777216 ≠ x2 / 16777216) (c : l.length ≤ 20000) : chk x1 x2 l = 0 := by
  unfold chk
  rw [if_neg (by omega), if_neg b, if_neg (by omega)]
theorem check_ok (x1 x2 : Int) (l : List Int) : encoder_Check.f x1 x2 l = some (chk x1 x2 l) := by
  unfold encoder_Check.f chk
  split
  · rfl
  · split
    · rfl
    · split <;> rfl
theorem checkE_ok (x1 x2 : Int) (l : List Int) : QE.encoder_Check.f x1 x2 l = some (chk x1 x2 l) := check_ok x1 x2 l
/-- An encoder after a bit, and the error. -/
def ptd (x1 x2 : Int) (l : List Int) (p : Int) (b : Bool) : Int × Int × List Int × Int :=
  if chk x1 x2 l = 0 then (if prb p = true then (if ((stp x1 x2 p b l).2.2.length : Int) > 20000 then (0, 0, ([] : List Int), 4) else ((stp x1 x2 p b l).1, (stp x1 x2 p b l).2.1, (stp x1 x2 p b l).2.2, 0)) else (0, 0, ([] : List Int), 2)) else (0, 0, ([] : List Int), chk x1 x2 l)
theorem Putf_ok {k : Nat} (hk : 5 ≤ k) {x1 x2 : Int} (h0 : 0 ≤ x1) (h3 : x2 ≤ 4294967295) (l : List Int) (p : Int) (b : Bool) : Hand.Putf k x1 x2 l p b = some (ptd x1 x2 l p b) := by
  unfold Hand.Putf ptd
  rw [checkE_ok, Option.bind_some]
  by_cases c : chk x1 x2 l = 0
  · obtain ⟨lt, _, hl⟩ := chk_zero c
    rw [if_pos c, if_pos c, show QE.encoder_prob.f p = some (prb p) from prob_ok p, Option.bind_some]
    by_cases d : prb p = true
    · obtain ⟨p0, p1⟩ := (prb_iff p).1 d
      rw [if_pos d, if_pos d, if_pos (by omega), putf_stp hk ⟨h0, lt, h3⟩ p0 p1 b l (by omega), Option.bind_some]
      split <;> rfl
    · rw [if_neg d, if_neg d]
  · rw [if_neg c, if_neg c]

/-- The byte at a place, or 0 behind the end. -/
def byt (l : List Int) (t : Int) : Int := if t < (l.length : Int) then rd l t else 0
def Byts (l : List Int) : Prop := ∀ n ∈ l, 0 ≤ n ∧ n < 256
theorem byt_in {l : List Int} (h : Byts l) {t : Int} (h0 : 0 ≤ t) : 0 ≤ byt l t ∧ byt l t < 256 := by
  unfold byt
  by_cases c : t < (l.length : Int)
  · rw [if_pos c]
    have hl : t.toNat < l.length := by omega
    unfold rd
    rw [List.getD_eq_getElem?_getD, List.getElem?_eq_getElem hl]
    exact h _ (List.getElem_mem hl)
  · rw [if_neg c]
    omega
theorem at_ok (l : List Int) {t : Int} (h0 : 0 ≤ t) : QE.decoder_at.f l t = some (byt l t) := by
  unfold QE.decoder_at.f byt
  by_cases c : t < (l.length : Int)
  · rw [if_pos c, if_pos c, if_pos h0]
  · rw [if_neg c, if_neg c]
theorem ByteE_ok (l : List Int) {t : Int} (h0 : 0 ≤ t) : QE.bitloftref21_Byte.f l t = some (byt l t) := by
  unfold QE.bitloftref21_Byte.f byt
  by_cases c : t < (l.length : Int)
  · rw [if_neg (by omega), if_pos c, if_pos h0, if_pos c]
  · rw [if_pos (by omega), if_neg c]
theorem orb {x b : Int} (h0 : 0 ≤ x) (h1 : x < 4294967296) (h2 : x % 256 = 0) (b0 : 0 ≤ b) (b1 : b < 256) : Go.bits .or .u32 x b = x + b :=
  bits_join .u32 32 (by decide) (fun n a b => by rw [IntKind.wrap_u32]; omega) 8 x b h0 h2 h1 b0 b1 (Int.lt_trans b1 (by decide))

/-- How a decoder takes bytes, at most so many. -/
def nrd : Nat → Int → Int → Int → List Int → Int → Int × Int × Int × Int
  | 0, x1, x2, x, _, t => (x1, x2, x, t)
  | f + 1, x1, x2, x, l, t => if x1 / 16777216 = x2 / 16777216 then nrd f (x1 * 256 % 4294967296) (x2 * 256 % 4294967296 + 255) (x * 256 % 4294967296 + byt l t) l (t + 1) else (x1, x2, x, t)
theorem wr1 {t : Int} (h0 : 0 ≤ t) (h1 : t < 4611686018427387904) : wrap64 (t + 1) = t + 1 := IntWalk.wrap64_in _ (by omega)
theorem getl_nrd {l : List Int} (hl : Byts l) : ∀ (f : Nat), f ≤ 4 → ∀ (k : Nat) (x1 x2 x t : Int), f < k → In f x1 x2 → 0 ≤ t → t + f < 4611686018427387904 → Hand.getl k x1 x2 x l t = some (nrd f x1 x2 x l t) := by
  intro f
  induction f with
  | zero =>
    intro _ k x1 x2 x t hk h _ _
    obtain ⟨k, rfl⟩ : ∃ m, k = m + 1 := ⟨k - 1, by omega⟩
    rw [Hand.getl, if_neg h.apart, nrd]
  | succ f ih =>
    intro hf k x1 x2 x t hk h t0 t1
    obtain ⟨k, rfl⟩ : ∃ m, k = m + 1 := ⟨k - 1, by omega⟩
    rw [Hand.getl, nrd]
    by_cases e : x1 / 16777216 = x2 / 16777216
    · obtain ⟨h', _, b0, b1⟩ := h.step (by omega) e
      obtain ⟨c0, c1⟩ := byt_in hl t0
      have a := h.lo
      have b := h.hi
      have c := h.size
      have d := wd_pos (f + 1)
      rw [if_pos e, if_pos e, at_ok l t0, Option.bind_some, or255 (by omega) (by omega) (by omega), Int.emod_eq_of_lt (a := byt l t) c0 (by omega), orb (by omega) (by omega) (by omega) c0 c1, wr1 t0 (by omega)]
      exact ih (by omega) k _ _ _ _ (by omega) h' (by omega) (by omega)
    · rw [if_neg e, if_neg e]
theorem didl_nrd {l : List Int} (hl : Byts l) : ∀ (f : Nat), f ≤ 4 → ∀ (k : Nat) (x1 x2 x t : Int), f < k → In f x1 x2 → 0 ≤ t → t + f < 4611686018427387904 → Hand.didl k x1 x2 x l t = some (nrd f x1 x2 x l t) := by
  intro f
  induction f with
  | zero =>
    intro _ k x1 x2 x t hk h _ _
    obtain ⟨k, rfl⟩ : ∃ m, k = m + 1 := ⟨k - 1, by omega⟩
    have n := h.apart
    obtain ⟨a, b, c⟩ := h
    rw [wd_zero] at c
    rw [Hand.didl, td (by omega), td (by omega), if_neg (by omega), nrd]
  | succ f ih =>
    intro hf k x1 x2 x t hk h t0 t1
    obtain ⟨k, rfl⟩ : ∃ m, k = m + 1 := ⟨k - 1, by omega⟩
    have a := h.lo
    have b := h.hi
    have c := h.size
    have d := wd_pos (f + 1)
    rw [Hand.didl, nrd, td (by omega), td (by omega)]
    by_cases e : x1 / 16777216 = x2 / 16777216
    · obtain ⟨h', _, b0, b1⟩ := h.step (by omega) e
      obtain ⟨c0, c1⟩ := byt_in hl t0
      rw [if_pos (by omega), if_pos e, ByteE_ok l t0, Option.bind_some, show (x * 256 + byt l t) % 4294967296 = x * 256 % 4294967296 + byt l t by omega, wr1 t0 (by omega)]
      exact ih (by omega) k _ _ _ _ (by omega) h' (by omega) (by omega)
    · rw [if_neg (by omega), if_neg e]
/-- What a bit makes of a decoder. -/
def dst (x1 x2 x : Int) (l : List Int) (t p : Int) : Int × Int × Int × Int × Bool :=
  if x ≤ md x1 x2 p then ((nrd 4 x1 (md x1 x2 p) x l t).1, (nrd 4 x1 (md x1 x2 p) x l t).2.1, (nrd 4 x1 (md x1 x2 p) x l t).2.2.1, (nrd 4 x1 (md x1 x2 p) x l t).2.2.2, true) else ((nrd 4 (md x1 x2 p + 1) x2 x l t).1, (nrd 4 (md x1 x2 p + 1) x2 x l t).2.1, (nrd 4 (md x1 x2 p + 1) x2 x l t).2.2.1, (nrd 4 (md x1 x2 p + 1) x2 x l t).2.2.2, false)
theorem SplitE_ok {x1 x2 p : Int} (h : Ok x1 x2) (h0 : 0 ≤ p) (h1 : p ≤ 4095) : QE.encoder_Split.f x1 x2 p = some (md x1 x2 p, 0) := by
  have l := h.lt
  unfold QE.encoder_Split.f
  rw [if_neg (by omega), prob_ok, Option.bind_some, if_pos ((prb_iff p).2 ⟨h0, h1⟩), split_ok h h0 h1, Option.bind_some]
theorem getf_ok {l : List Int} (hl : Byts l) {k : Nat} (hk : 5 ≤ k) {x1 x2 p : Int} (h : Ok x1 x2) (h0 : 0 ≤ p) (h1 : p ≤ 4095) (x : Int) {t : Int} (t0 : 0 ≤ t) (t1 : t + 4 < 4611686018427387904) :
    Hand.getf k x1 x2 x l t p = some (dst x1 x2 x l t p) := by
  obtain ⟨i1, i0⟩ := stp_in h h0 h1
  have ml := md_lt h.lt h1
  have mg := md_le h.lt h0
  have c := h.hi
  have d := h.lo
  unfold Hand.getf dst
  rw [SplitE_ok h h0 h1, Option.bind_some]
  by_cases e : x ≤ md x1 x2 p
  · rw [if_pos e, if_pos e, getl_nrd hl 4 (by omega) k _ _ _ _ (by omega) i1 t0 (by omega), Option.bind_some]
  · rw [if_neg e, if_neg e, Int.emod_eq_of_lt (by omega) (by omega), getl_nrd hl 4 (by omega) k _ _ _ _ (by omega) i0 t0 (by omega), Option.bind_some]
theorem Didf_ok {l : List Int} (hl : Byts l) {k : Nat} (hk : 5 ≤ k) {x1 x2 p : Int} (h : Ok x1 x2) (h0 : 0 ≤ p) (h1 : p ≤ 4095) (x : Int) {t : Int} (t0 : 0 ≤ t) (t1 : t + 4 < 4611686018427387904) :
    Hand.Didf k x1 x2 x l t p = some (dst x1 x2 x l t p) := by
  obtain ⟨i1, i0⟩ := stp_in h h0 h1
  have ml := md_lt h.lt h1
  have mg := md_le h.lt h0
  have c := h.hi
  have d := h.lo
  unfold Hand.Didf dst
  rw [Middle_ok h h0 h1, Option.bind_some]
  by_cases e : x ≤ md x1 x2 p
  · rw [if_pos e, if_pos e, didl_nrd hl 4 (by omega) k _ _ _ _ (by omega) i1 t0 (by omega), Option.bind_some]
  · rw [if_neg e, if_neg e, Int.emod_eq_of_lt (by omega) (by omega), didl_nrd hl 4 (by omega) k _ _ _ _ (by omega) i0 t0 (by omega), Option.bind_some]
/-- The error of a decoder. -/
def chd (x1 x2 x : Int) (l : List Int) (t : Int) : Int := if x1 ≥ x2 then 8 else if x1 / 16777216 = x2 / 16777216 then 8 else if x < x1 then 8 else if x > x2 then 8 else if (l.length : Int) > 20000 then 8 else if t < 4 then 8 else if t > 1000000 then 8 else 0
theorem chd_zero {x1 x2 x t : Int} {l : List Int} (h : chd x1 x2 x l t = 0) : x1 < x2 ∧ x1 / 16777216 ≠ x2 / 16777216 ∧ x1 ≤ x ∧ x ≤ x2 ∧ l.length ≤ 20000 ∧ 4 ≤ t ∧ t ≤ 1000000 := by
  unfold chd at h
  by_cases a : x1 ≥ x2
  · rw [if_pos a] at h; cases h
  rw [if_neg a] at h
  by_cases b : x1 / 16777216 = x2 / 16777216
  · rw [if_pos b] at h; cases h
  rw [if_neg b] at h
  by_cases c : x < x1
  · rw [if_pos c] at h; cases h
  rw [if_neg c] at h
  by_cases d : x > x2
  · rw [if_pos d] at h; cases h
  rw [if_neg d] at h
  by_cases e : (l.length : Int) > 20000
  · rw [if_pos e] at h; cases h
  rw [if_neg e] at h
  by_cases f : t < 4
  · rw [if_pos f] at h; cases h
  rw [if_neg f] at h
  by_cases g : t > 1000000
  · rw [if_pos g] at h; cases h
  exact ⟨by omega, b, by omega, by omega, by omega, by omega, by omega⟩
theorem chd_mk {x1 x2 x t : Int} {l : List Int} (a : x1 < x2) (b : x1 / 16777216 ≠ x2 / 16777216) (c : x1 ≤ x) (d : x ≤ x2) (e : l.length ≤ 20000) (f : 4 ≤ t) (g : t ≤ 1000000) : chd x1 x2 x l t = 0 := by
  unfold chd
  rw [if_neg (by omega), if_neg b, if_neg (by omega), if_neg (by omega), if_neg (by omega), if_neg (by omega), if_neg (by omega)]
theorem chdE_ok (x1 x2 x : Int) (l : List Int) (t : Int) : QE.decoder_Check.f x1 x2 x l t = some (chd x1 x2 x l t) := by
  unfold QE.decoder_Check.f chd
  repeat' (first | rfl | split)
/-- A decoder after a bit, the bit, and the error. -/
def gtd (x1 x2 x : Int) (l : List Int) (t p : Int) : Int × Int × Int × List Int × Int × Bool × Int :=
  if chd x1 x2 x l t = 0 then (if prb p = true then (if (dst x1 x2 x l t p).2.2.2.1 > 1000000 then (0, 0, 0, ([] : List Int), 0, false, 4) else ((dst x1 x2 x l t p).1, (dst x1 x2 x l t p).2.1, (dst x1 x2 x l t p).2.2.1, l, (dst x1 x2 x l t p).2.2.2.1, (dst x1 x2 x l t p).2.2.2.2, 0)) else (0, 0, 0, ([] : List Int), 0, false, 2)) else (0, 0, 0, ([] : List Int), 0, false, chd x1 x2 x l t)
theorem wrong_prb (p : Int) : Hand.wrongf p = !prb p := by
  unfold Hand.wrongf prb
  rw [Bool.not_and, ← decide_not, ← decide_not]
  congr 1
  · exact decide_eq_decide.2 (by omega)
  · exact decide_eq_decide.2 (by omega)
theorem Getf_ok {l : List Int} (hl : Byts l) {k : Nat} (hk : 5 ≤ k) {x1 x2 : Int} (h0 : 0 ≤ x1) (h3 : x2 ≤ 4294967295) (x t p : Int) : Hand.Getf k x1 x2 x l t p = some (gtd x1 x2 x l t p) := by
  unfold Hand.Getf gtd
  rw [chdE_ok, Option.bind_some]
  by_cases c : chd x1 x2 x l t = 0
  · obtain ⟨lt, _, _, _, ll, t0, t1⟩ := chd_zero c
    rw [if_pos c, if_pos c, wrong_prb]
    by_cases d : prb p = true
    · obtain ⟨p0, p1⟩ := (prb_iff p).1 d
      rw [d, if_neg (by decide), if_pos rfl, if_pos (by omega), getf_ok hl hk ⟨h0, lt, h3⟩ p0 p1 x (by omega) (by omega), Option.bind_some]
      split <;> rfl
    · rw [Bool.eq_false_iff.2 d, if_pos (by decide), if_neg (by decide)]
  · rw [if_neg c, if_neg c]
/-- The four bytes from a place on, as a number. -/
def win (l : List Int) (n : Int) : Int := byt l n * 16777216 + byt l (n + 1) * 65536 + byt l (n + 2) * 256 + byt l (n + 3)
theorem win_in {l : List Int} (hl : Byts l) {n : Int} (h0 : 0 ≤ n) : 0 ≤ win l n ∧ win l n ≤ 4294967295 := by
  obtain ⟨a, b⟩ := byt_in hl h0
  obtain ⟨c, d⟩ := byt_in hl (t := n + 1) (by omega)
  obtain ⟨e, f⟩ := byt_in hl (t := n + 2) (by omega)
  obtain ⟨g, h⟩ := byt_in hl (t := n + 3) (by omega)
  unfold win
  omega
theorem win_top {l : List Int} (hl : Byts l) {n : Int} (h0 : 0 ≤ n) : win l n / 16777216 = byt l n := by
  obtain ⟨a, b⟩ := byt_in hl h0
  obtain ⟨c, d⟩ := byt_in hl (t := n + 1) (by omega)
  obtain ⟨e, f⟩ := byt_in hl (t := n + 2) (by omega)
  obtain ⟨g, h⟩ := byt_in hl (t := n + 3) (by omega)
  unfold win
  omega
theorem win_next {l : List Int} (hl : Byts l) {n : Int} (h0 : 0 ≤ n) : win l n * 256 % 4294967296 + byt l (n + 4) = win l (n + 1) := by
  obtain ⟨a, b⟩ := byt_in hl h0
  obtain ⟨c, d⟩ := byt_in hl (t := n + 1) (by omega)
  obtain ⟨e, f⟩ := byt_in hl (t := n + 2) (by omega)
  obtain ⟨g, h⟩ := byt_in hl (t := n + 3) (by omega)
  unfold win
  rw [show n + 1 + 1 = n + 2 by omega, show n + 1 + 2 = n + 3 by omega, show n + 1 + 3 = n + 4 by omega]
  omega
/-- So many bytes from a place on. -/
def byts (l : List Int) : Int → Nat → List Int
  | _, 0 => []
  | n, k + 1 => byt l n :: byts l (n + 1) k
theorem byts_length (l : List Int) : ∀ (k : Nat) (n : Int), (byts l n k).length = k := by
  intro k
  induction k with
  | zero => intro n; rfl
  | succ k ih => intro n; rw [byts, List.length_cons, ih]
theorem byts_add (l : List Int) : ∀ (a b : Nat) (n : Int), byts l n (a + b) = byts l n a ++ byts l (n + a) b := by
  intro a
  induction a with
  | zero => intro b n; rw [Nat.zero_add, byts, List.nil_append, Int.natCast_zero, Int.add_zero]
  | succ a ih =>
    intro b n
    rw [Nat.add_right_comm, byts, byts, ih, List.cons_append, show n + 1 + (a : Int) = n + ((a + 1 : Nat) : Int) by omega]
/-- Taking bytes keeps the number between the ends, and what is given out is what was read. -/
theorem nrd_win {l : List Int} (hl : Byts l) : ∀ (f : Nat), f ≤ 4 → ∀ (x1 x2 : Int), In f x1 x2 → ∀ n : Int, 0 ≤ n → x1 ≤ win l n → win l n ≤ x2 →
    ∃ y1 y2 e, (∀ o, nrm f x1 x2 o = (y1, y2, o ++ e)) ∧ nrd f x1 x2 (win l n) l (n + 4) = (y1, y2, win l (n + e.length), n + e.length + 4) ∧ y1 ≤ win l (n + e.length) ∧ win l (n + e.length) ≤ y2 ∧ e = byts l n e.length := by
  intro f
  induction f with
  | zero =>
    intro _ x1 x2 h n h0 a b
    exact ⟨x1, x2, [], fun o => by rw [nrm, List.append_nil], by rw [nrd, List.length_nil, Int.natCast_zero, Int.add_zero], by simpa using a, by simpa using b, rfl⟩
  | succ f ih =>
    intro hf x1 x2 h n h0 a b
    by_cases e : x1 / 16777216 = x2 / 16777216
    · obtain ⟨h', _, b0, b1⟩ := h.step (by omega) e
      have c := h.lo
      have d := h.hi
      have ht := win_top hl h0
      have hw := win_next hl h0
      obtain ⟨c0, c1⟩ := byt_in hl (t := n + 4) (by omega)
      obtain ⟨y1, y2, t, g, r, u, v, z⟩ := ih (by omega) _ _ h' (n + 1) (by omega) (by omega) (by omega)
      refine ⟨y1, y2, x1 / 16777216 :: t, fun o => ?_, ?_, ?_, ?_, ?_⟩
      · rw [nrm, if_pos e, g, List.append_assoc]
        rfl
      · rw [nrd, if_pos e, hw, show n + 4 + 1 = n + 1 + 4 by omega, r, List.length_cons, show n + 1 + (t.length : Int) = n + ((t.length + 1 : Nat) : Int) by omega]
      · rw [List.length_cons, ← show n + 1 + (t.length : Int) = n + ((t.length + 1 : Nat) : Int) by omega]
        exact u
      · rw [List.length_cons, ← show n + 1 + (t.length : Int) = n + ((t.length + 1 : Nat) : Int) by omega]
        exact v
      · rw [List.length_cons, byts, ← z, ← ht]
        congr 1
        omega
    · refine ⟨x1, x2, [], fun o => by rw [nrm, if_neg e, List.append_nil], by rw [nrd, if_neg e, List.length_nil, Int.natCast_zero, Int.add_zero], by simpa using a, by simpa using b, rfl⟩
theorem dst_win {l : List Int} (hl : Byts l) {x1 x2 p : Int} (h : Ok x1 x2) (h0 : 0 ≤ p) (h1 : p ≤ 4095) {n : Int} (n0 : 0 ≤ n) (a : x1 ≤ win l n) (b : win l n ≤ x2) :
    ∃ y1 y2 e, (∀ o, stp x1 x2 p (decide (win l n ≤ md x1 x2 p)) o = (y1, y2, o ++ e)) ∧ dst x1 x2 (win l n) l (n + 4) p = (y1, y2, win l (n + e.length), n + e.length + 4, decide (win l n ≤ md x1 x2 p)) ∧ y1 ≤ win l (n + e.length) ∧ win l (n + e.length) ≤ y2 ∧ e = byts l n e.length ∧ Ok y1 y2 ∧ y1 / 16777216 ≠ y2 / 16777216 ∧ e.length ≤ 4 := by
  obtain ⟨i1, i0⟩ := stp_in h h0 h1
  obtain ⟨z1, z2, u, g', ok, ne, ul, _⟩ := stp_ok h h0 h1 (decide (win l n ≤ md x1 x2 p))
  by_cases c : win l n ≤ md x1 x2 p
  · obtain ⟨y1, y2, e, g, r, s, t, v⟩ := nrd_win hl 4 (by omega) _ _ i1 n n0 a c
    have q : ∀ o, stp x1 x2 p (decide (win l n ≤ md x1 x2 p)) o = (y1, y2, o ++ e) := fun o => by
      rw [decide_eq_true c, stp, if_pos rfl]; exact g o
    have w := (g' []).symm.trans (q [])
    simp only [List.nil_append, Prod.mk.injEq] at w
    obtain ⟨rfl, rfl, rfl⟩ := w
    refine ⟨z1, z2, u, q, ?_, s, t, v, ok, ne, ul⟩
    unfold dst
    rw [if_pos c, r, decide_eq_true c]
  · obtain ⟨y1, y2, e, g, r, s, t, v⟩ := nrd_win hl 4 (by omega) _ _ i0 n n0 (by omega) b
    have q : ∀ o, stp x1 x2 p (decide (win l n ≤ md x1 x2 p)) o = (y1, y2, o ++ e) := fun o => by
      rw [decide_eq_false c, stp, if_neg (by decide)]; exact g o
    have w := (g' []).symm.trans (q [])
    simp only [List.nil_append, Prod.mk.injEq] at w
    obtain ⟨rfl, rfl, rfl⟩ := w
    refine ⟨z1, z2, u, q, ?_, s, t, v, ok, ne, ul⟩
    unfold dst
    rw [if_neg c, r, decide_eq_false c]

/-- The bits that are got from a state on. -/
def drn (l : List Int) : Int → Int → Int → List Int → List Bool
  | _, _, _, [] => []
  | x1, x2, n, p :: ps => decide (win l n ≤ md x1 x2 p) :: drn l (stp x1 x2 p (decide (win l n ≤ md x1 x2 p)) []).1 (stp x1 x2 p (decide (win l n ≤ md x1 x2 p)) []).2.1 (n + (stp x1 x2 p (decide (win l n ≤ md x1 x2 p)) []).2.2.length) ps
theorem drn_length (l : List Int) : ∀ (ps : List Int) (x1 x2 n : Int), (drn l x1 x2 n ps).length = ps.length := by
  intro ps
  induction ps with
  | nil => intro _ _ _; rfl
  | cons p ps ih => intro x1 x2 n; rw [drn, List.length_cons, ih, List.length_cons]
theorem drn_take (l : List Int) : ∀ (ps : List Int) (x1 x2 n : Int) (k : Nat), drn l x1 x2 n (ps.take k) = (drn l x1 x2 n ps).take k := by
  intro ps
  induction ps with
  | nil => intro x1 x2 n k; simp [drn]
  | cons p ps ih =>
    intro x1 x2 n k
    cases k with
    | zero => simp [drn]
    | succ k => rw [List.take_succ_cons, drn, drn, ih, List.take_succ_cons]
theorem grun_ok {l : List Int} (hl : Byts l) {k : Nat} (hk : 5 ≤ k) : ∀ (ps : List Int) (x1 x2 n : Int) (acc : List Bool), Ok x1 x2 → (∀ p ∈ ps, 0 ≤ p ∧ p ≤ 4095) → 0 ≤ n → x1 ≤ win l n → win l n ≤ x2 → n + 4 * ps.length + 8 < 4611686018427387904 → acc.length + ps.length < 140737488355328 →
    Hand.grun k x1 x2 (win l n) l (n + 4) ps acc = some (acc ++ drn l x1 x2 n ps) := by
  intro ps
  induction ps with
  | nil => intro x1 x2 n acc _ _ _ _ _ _ _; simp only [Hand.grun, drn, List.append_nil]
  | cons p ps ih =>
    intro x1 x2 n acc h hp n0 a b hn hacc
    obtain ⟨p0, p1⟩ := hp p (List.mem_cons_self ..)
    rw [List.length_cons] at hn hacc
    obtain ⟨y1, y2, e, g, r, s, t, v, ok, ne, el⟩ := dst_win hl h p0 p1 n0 a b
    simp only [Hand.grun, drn]
    rw [getf_ok hl hk h p0 p1 _ (by omega) (by omega), Option.bind_some, if_pos (by omega), r, g []]
    have := ih y1 y2 (n + e.length) (acc ++ [decide (win l n ≤ md x1 x2 p)]) ok (fun q hq => hp q (List.mem_cons_of_mem _ hq)) (by omega) s t (by omega) (by rw [List.length_append, List.length_singleton]; omega)
    rw [List.append_assoc] at this
    exact this
theorem startl_ok {l : List Int} (hl : Byts l) {k : Nat} (hk : 5 ≤ k) : Hand.startl k 0 l 0 = some (win l 0, 4) := by
  obtain ⟨k, rfl⟩ : ∃ m, k = m + 5 := ⟨k - 5, by omega⟩
  obtain ⟨a, b⟩ := byt_in hl (t := 0) (by omega)
  obtain ⟨c, d⟩ := byt_in hl (t := 1) (by omega)
  obtain ⟨e, f⟩ := byt_in hl (t := 2) (by omega)
  obtain ⟨g, h⟩ := byt_in hl (t := 3) (by omega)
  rw [Hand.startl, if_pos (by omega), at_ok l (by omega), Option.bind_some, wr1 (by omega) (by omega), Int.emod_eq_of_lt (a := byt l 0) a (by omega), orb (by omega) (by omega) (by omega) a b]
  rw [Hand.startl, if_pos (by omega), at_ok l (by omega), Option.bind_some, wr1 (by omega) (by omega), show (0 : Int) + 1 = 1 by rfl, Int.emod_eq_of_lt (a := byt l 1) c (by omega), orb (by omega) (by omega) (by omega) c d]
  rw [Hand.startl, if_pos (by omega), at_ok l (by omega), Option.bind_some, wr1 (by omega) (by omega), show (1 : Int) + 1 = 2 by rfl, Int.emod_eq_of_lt (a := byt l 2) e (by omega), orb (by omega) (by omega) (by omega) e f]
  rw [Hand.startl, if_pos (by omega), at_ok l (by omega), Option.bind_some, wr1 (by omega) (by omega), show (2 : Int) + 1 = 3 by rfl, Int.emod_eq_of_lt (a := byt l 3) g (by omega), orb (by omega) (by omega) (by omega) g h]
  rw [Hand.startl, if_neg (by omega)]
  refine congrArg some (Prod.ext ?_ rfl)
  show _ = win l 0
  unfold win
  rw [show (0 : Int) + 1 = 1 by rfl, show (0 : Int) + 2 = 2 by rfl, show (0 : Int) + 3 = 3 by rfl]
  omega
/-- A new decoder, and the error. -/
def nwd (l : List Int) : Int × Int × Int × List Int × Int × Int := if 20000 < l.length then (0, 0, 0, ([] : List Int), 0, 4) else (0, 4294967295, win l 0, l, 4, 0)
theorem Newf_ok {l : List Int} (hl : Byts l) {k : Nat} (hk : 5 ≤ k) : Hand.Newf k l = some (nwd l) := by
  unfold Hand.Newf nwd
  by_cases c : 20000 < l.length
  · rw [if_pos c, if_pos c]
  · rw [if_neg c, if_neg c, startl_ok hl hk, Option.bind_some]
/-- What both Runs of the decoder give. -/
def rdd (l ps : List Int) : List Bool × Int := if 20000 < l.length then (([] : List Bool), 4) else if 2000 < ps.length then (([] : List Bool), 4) else if ps.all prb = true then (drn l 0 4294967295 0 ps, 0) else (([] : List Bool), 2)
theorem any_all' (ps : List Int) : ps.any Hand.wrongf = !(ps.all prb) := by
  induction ps with
  | nil => rfl
  | cons p ps ih => rw [List.any_cons, List.all_cons, ih, Bool.not_and, wrong_prb]
theorem RunDf_ok {l : List Int} (hl : Byts l) {k : Nat} (hk : 5 ≤ k) (ps : List Int) : Hand.RunDf k l ps = some (rdd l ps) := by
  unfold Hand.RunDf rdd
  by_cases c : 20000 < l.length
  · rw [if_pos c, if_pos c]
  rw [if_neg c, if_neg c]
  by_cases d : 2000 < ps.length
  · rw [if_pos d, if_pos d]
  rw [if_neg d, if_neg d, any_all']
  by_cases e : ps.all prb = true
  · obtain ⟨a, b⟩ := win_in hl (n := 0) (by omega)
    rw [e, if_neg (by decide), if_pos rfl, startl_ok hl hk, Option.bind_some]
    have := grun_ok hl hk ps 0 4294967295 0 [] ok0 (all_in e) (by omega) a b (by omega) (by rw [List.length_nil]; omega)
    rw [Int.zero_add, List.nil_append] at this
    rw [this, Option.bind_some]
  · rw [Bool.eq_false_iff.2 e, Bool.not_false, if_pos rfl, if_neg (by decide)]
end Go.Proofs.Ytgapkifgddjijaa.Dec
