/- Whole runs of the encoder and of its reference. -/
import Derived.Test.YtgapkifgddjijaaEncRef
import Derived.Test.YtgapkifgddjijaaQBx1
import Derived.Test.YtgapkifgddjijaaQBx2
import Derived.Test.YtgapkifgddjijaaQBx3
namespace Go.Proofs.Ytgapkifgddjijaa.Enc
open Go Go.RowKit Go.Proofs.Ytgapkifgddjijaa.QB Go.Proofs.YtgapkifgddjijaaW.PrintWords Go.Proofs.YtgapkifgddjijaaW.PrintLast Go.Proofs.YtgapkifgddjijaaW.PrintMore

/-- A run from a state. -/
def rn : Int → Int → List Int → List Int → List Bool → Int × Int × List Int
  | x1, x2, o, p :: ps, b :: bs => rn (stp x1 x2 p b o).1 (stp x1 x2 p b o).2.1 (stp x1 x2 p b o).2.2 ps bs
  | x1, x2, o, [], _ => (x1, x2, o)
  | x1, x2, o, _ :: _, [] => (x1, x2, o)
/-- The bytes of an encoder that was ended. -/
def ende (x1 : Int) (o : List Int) : List Int := o ++ [x1 / 16777216 % 256, x1 / 65536 % 256, x1 / 256 % 256, x1 % 256]
theorem runl_rn {k : Nat} (hk : 5 ≤ k) : ∀ (ps : List Int) (bs : List Bool) (x1 x2 : Int) (o : List Int), Ok x1 x2 → (∀ p ∈ ps, 0 ≤ p ∧ p ≤ 4095) → o.length + 4 * ps.length + 4 < 140737488355328 →
    Hand.runl k x1 x2 o ps bs = some (rn x1 x2 o ps bs) := by
  intro ps
  induction ps with
  | nil => intro bs x1 x2 o _ _ _; simp only [Hand.runl, rn]
  | cons p ps ih =>
    intro bs x1 x2 o h hp ho
    cases bs with
    | nil => simp only [Hand.runl, rn]
    | cons b bs =>
      obtain ⟨p0, p1⟩ := hp p (List.mem_cons_self ..)
      rw [List.length_cons] at ho
      obtain ⟨y1, y2, e, g, ok, _, el, _⟩ := stp_ok h p0 p1 b
      simp only [Hand.runl, rn]
      rw [putf_stp hk h p0 p1 b o (by omega), Option.bind_some, g o]
      exact ih bs y1 y2 (o ++ e) ok (fun q hq => hp q (List.mem_cons_of_mem _ hq)) (by rw [List.length_append]; omega)
theorem end_ok (x1 x2 : Int) (o : List Int) (ho : o.length + 4 < 140737488355328) : QE.encoder_end.f x1 x2 o = some (ende x1 o) := by
  unfold QE.encoder_end.f QE.slices_Clone_byte_byte.f ende
  rw [if_pos (by omega), Option.bind_some, Option.bind_some, if_pos (by simp only [List.length_cons, List.length_nil]; omega)]
theorem shr_ok (x : Int) : shr .u32 x 24 = x / 16777216 ∧ shr .u32 x 16 = x / 65536 ∧ shr .u32 x 8 = x / 256 ∧ shr .u32 x 0 = x := by
  have e0 : (2 : Int) ^ min (24 : Int).toNat IntKind.u32.bits = 16777216 := by decide
  have e1 : (2 : Int) ^ min (16 : Int).toNat IntKind.u32.bits = 65536 := by decide
  have e2 : (2 : Int) ^ min (8 : Int).toNat IntKind.u32.bits = 256 := by decide
  have e3 : (2 : Int) ^ min (0 : Int).toNat IntKind.u32.bits = 1 := by decide
  unfold shr
  rw [e0, e1, e2, e3]
  exact ⟨rfl, rfl, rfl, by omega⟩
theorem Ended_ok {k : Nat} (hk : 6 ≤ k) (x1 x2 : Int) (o : List Int) (ho : o.length + 4 < 140737488355328) : bitloftref20_Ended.f k x1 x2 o = some (ende x1 o) := by
  obtain ⟨k, rfl⟩ : ∃ m, k = m + 5 := ⟨k - 5, by omega⟩
  obtain ⟨s0, s1, s2, s3⟩ := shr_ok x1
  unfold bitloftref20_Ended.f ende
  rw [Option.bind_some, if_pos (by rw [List.length_nil]; omega), List.nil_append]
  rw [bitloftref20_Ended.l0.eq_2, if_pos (by decide), if_pos (by decide), if_pos (by omega), show wrap64 (24 - 8) = 16 from IntWalk.wrap64_in _ (by decide)]
  rw [bitloftref20_Ended.l0.eq_2, if_pos (by decide), if_pos (by decide), if_pos (by simp only [List.length_append, List.length_cons, List.length_nil]; omega), show wrap64 (16 - 8) = 8 from IntWalk.wrap64_in _ (by decide)]
  rw [bitloftref20_Ended.l0.eq_2, if_pos (by decide), if_pos (by decide), if_pos (by simp only [List.length_append, List.length_cons, List.length_nil]; omega), show wrap64 (8 - 8) = 0 from IntWalk.wrap64_in _ (by decide)]
  rw [bitloftref20_Ended.l0.eq_2, if_pos (by decide), if_pos (by decide), if_pos (by simp only [List.length_append, List.length_cons, List.length_nil]; omega), show wrap64 (0 - 8) = -8 from IntWalk.wrap64_in _ (by decide)]
  rw [bitloftref20_Ended.l0.eq_2, if_neg (by decide), s0, s1, s2, s3]
  simp only [List.append_assoc, List.cons_append, List.nil_append]
/-- The error of probabilities for so many bits. -/
def prs (ps : List Int) (n : Nat) : Int := if 2000 < n then 4 else if ps.length = n then (if ps.all prb = true then 0 else 2) else 2
theorem Probs_l0 (ps : List Int) (hn : ps.length ≤ 2000) : ∀ (d k : Nat) (i : Nat), i + d = ps.length → d < k →
    bitloftref20_Probs.l0 k ps (ps.length : Int) (i : Int) = some (if (ps.drop i).all prb = true then 0 else 2) := by
  intro d
  induction d with
  | zero =>
    intro k i hi hk
    obtain ⟨k, rfl⟩ : ∃ m, k = m + 1 := ⟨k - 1, by omega⟩
    rw [bitloftref20_Probs.l0.eq_2, if_neg (by omega), List.drop_eq_nil_of_le (by omega)]
    rfl
  | succ d ih =>
    intro k i hi hk
    obtain ⟨k, rfl⟩ : ∃ m, k = m + 1 := ⟨k - 1, by omega⟩
    have hl : i < ps.length := by omega
    have e : rd ps (i : Int) = ps[i] := by
      unfold rd
      rw [Int.toNat_natCast, List.getD_eq_getElem?_getD, List.getElem?_eq_getElem hl]
      rfl
    rw [bitloftref20_Probs.l0.eq_2, if_pos (by omega), if_pos (by omega), if_pos (by omega), e, Prob_ok, Option.bind_some, List.drop_eq_getElem_cons hl, List.all_cons]
    by_cases c : prb ps[i] = true
    · rw [if_pos c, c, Bool.true_and, IntWalk.wrap64_in _ (by omega), show (i : Int) + 1 = ((i + 1 : Nat) : Int) by omega]
      exact ih k (i + 1) (by omega) (by omega)
    · rw [if_neg c, Bool.eq_false_iff.2 c, Bool.false_and, if_neg (by decide)]
theorem Probs_ok {k : Nat} (hk : 2002 ≤ k) (ps : List Int) (n : Nat) : bitloftref20_Probs.f k ps (n : Int) = some (prs ps n) := by
  unfold bitloftref20_Probs.f prs
  by_cases c : 2000 < n
  · rw [if_pos (by omega), if_pos c]
  · rw [if_neg (by omega), if_neg c]
    by_cases d : ps.length = n
    · subst d
      rw [if_pos rfl, if_pos rfl]
      have := Probs_l0 ps (by omega) ps.length k 0 (by omega) (by omega)
      rw [List.drop_zero] at this
      exact this
    · rw [if_neg (by omega), if_neg d]
/-- What both Runs give. -/
def rund (ps : List Int) (bs : List Bool) : List Int × Int :=
  if prs ps bs.length = 0 then (ende (rn 0 4294967295 [] ps bs).1 (rn 0 4294967295 [] ps bs).2.2, 0) else ([], prs ps bs.length)
theorem rn_ok : ∀ (ps : List Int) (bs : List Bool) (x1 x2 : Int) (o : List Int), Ok x1 x2 → (∀ p ∈ ps, 0 ≤ p ∧ p ≤ 4095) → Ok (rn x1 x2 o ps bs).1 (rn x1 x2 o ps bs).2.1 ∧ ∃ e, (rn x1 x2 o ps bs).2.2 = o ++ e ∧ e.length ≤ 4 * ps.length := by
  intro ps
  induction ps with
  | nil => intro bs x1 x2 o h _; simp only [rn]; exact ⟨h, [], by simp, by simp⟩
  | cons p ps ih =>
    intro bs x1 x2 o h hp
    cases bs with
    | nil => simp only [rn]; exact ⟨h, [], by simp, by simp⟩
    | cons b bs =>
      obtain ⟨p0, p1⟩ := hp p (List.mem_cons_self ..)
      obtain ⟨y1, y2, e, g, ok, _, el, _⟩ := stp_ok h p0 p1 b
      simp only [rn]
      rw [g o]
      obtain ⟨a, f, b1, b2⟩ := ih bs y1 y2 (o ++ e) ok (fun q hq => hp q (List.mem_cons_of_mem _ hq))
      exact ⟨a, e ++ f, by rw [b1, List.append_assoc], by rw [List.length_append, List.length_cons]; omega⟩
theorem any_all (ps : List Int) : ps.any Hand.noProb = !(ps.all prb) := by
  induction ps with
  | nil => rfl
  | cons p ps ih => rw [List.any_cons, List.all_cons, ih, Bool.not_and]; rfl
theorem all_in {ps : List Int} (h : ps.all prb = true) : ∀ p ∈ ps, 0 ≤ p ∧ p ≤ 4095 := fun p hp => (prb_iff p).1 (List.all_eq_true.1 h p hp)
theorem prs_zero {ps : List Int} {n : Nat} (h : prs ps n = 0) : n ≤ 2000 ∧ ps.length = n ∧ ∀ p ∈ ps, 0 ≤ p ∧ p ≤ 4095 := by
  unfold prs at h
  by_cases c : 2000 < n
  · rw [if_pos c] at h; cases h
  · rw [if_neg c] at h
    by_cases d : ps.length = n
    · rw [if_pos d] at h
      by_cases e : ps.all prb = true
      · exact ⟨by omega, d, all_in e⟩
      · rw [if_neg e] at h; cases h
    · rw [if_neg d] at h; cases h
theorem ok0 : Ok 0 4294967295 := ⟨by decide, by decide, by decide⟩
theorem Runf_ok {k : Nat} (hk : 5 ≤ k) (ps : List Int) (bs : List Bool) : Hand.Runf k ps bs = some (rund ps bs) := by
  unfold Hand.Runf rund
  by_cases c : 2000 < bs.length
  · have e : prs ps bs.length = 4 := if_pos c
    rw [if_pos c, e, if_neg (by decide)]
  · rw [if_neg c]
    by_cases d : ps.length = bs.length
    · rw [if_pos d, any_all]
      by_cases f : ps.all prb = true
      · have e : prs ps bs.length = 0 := by unfold prs; rw [if_neg c, if_pos d, if_pos f]
        obtain ⟨_, x, hx, hl⟩ := rn_ok ps bs 0 4294967295 [] ok0 (all_in f)
        rw [f, if_neg (by decide), e, if_pos rfl, runl_rn hk ps bs 0 4294967295 [] ok0 (all_in f) (by rw [List.length_nil]; omega), Option.bind_some, end_ok _ _ _ (by rw [hx, List.nil_append]; omega), Option.bind_some]
      · have e : prs ps bs.length = 2 := by unfold prs; rw [if_neg c, if_pos d, if_neg f]
        rw [Bool.eq_false_iff.2 f, Bool.not_false, if_pos rfl, e, if_neg (by decide)]
    · have e : prs ps bs.length = 2 := by unfold prs; rw [if_neg c, if_neg d]
      rw [if_neg d, e, if_neg (by decide)]
theorem Run_l0 (ps : List Int) (bs : List Bool) (hn : ps.length ≤ 2000) (hb : ps.length = bs.length) (hp : ∀ p ∈ ps, 0 ≤ p ∧ p ≤ 4095) : ∀ (d k : Nat) (i : Nat) (x1 x2 : Int) (o : List Int), i + d = ps.length → d + 10 < k → Ok x1 x2 → o.length + 4 * d + 4 < 140737488355328 →
    bitloftref20_Run.l0 k ps bs (i : Int) x1 x2 o = some (ende (rn x1 x2 o (ps.drop i) (bs.drop i)).1 (rn x1 x2 o (ps.drop i) (bs.drop i)).2.2, 0) := by
  intro d
  induction d with
  | zero =>
    intro k i x1 x2 o hi hk h ho
    obtain ⟨k, rfl⟩ : ∃ m, k = m + 1 := ⟨k - 1, by omega⟩
    obtain ⟨a, b, c⟩ := h
    rw [bitloftref20_Run.l0.eq_2, if_neg (by omega), List.drop_eq_nil_of_le (by omega), Ended_ok (by omega) x1 x2 o (by omega), Option.bind_some]
    simp only [rn]
  | succ d ih =>
    intro k i x1 x2 o hi hk h ho
    obtain ⟨k, rfl⟩ : ∃ m, k = m + 1 := ⟨k - 1, by omega⟩
    have hl : i < ps.length := by omega
    have hl' : i < bs.length := by omega
    have e : rd ps (i : Int) = ps[i] := by
      unfold rd
      rw [Int.toNat_natCast, List.getD_eq_getElem?_getD, List.getElem?_eq_getElem hl]
      rfl
    have e' : rdOf false bs (i : Int) = bs[i] := by
      unfold rdOf
      rw [Int.toNat_natCast, List.getD_eq_getElem?_getD, List.getElem?_eq_getElem hl']
      rfl
    obtain ⟨p0, p1⟩ := hp ps[i] (List.getElem_mem hl)
    obtain ⟨y1, y2, t, g, ok, _, el, _⟩ := stp_ok h p0 p1 bs[i]
    rw [bitloftref20_Run.l0.eq_2, if_pos (by omega), if_pos (by omega), if_pos (by omega), e, e', Did_ok (by omega) h p0 p1 bs[i] o (by omega), Option.bind_some, IntWalk.wrap64_in _ (by omega), show (i : Int) + 1 = ((i + 1 : Nat) : Int) by omega, List.drop_eq_getElem_cons hl, List.drop_eq_getElem_cons hl']
    simp only [rn]
    rw [g o]
    exact ih k (i + 1) y1 y2 (o ++ t) (by omega) (by omega) ok (by rw [List.length_append]; omega)
theorem Run_ok {k : Nat} (hk : 2020 ≤ k) (ps : List Int) (bs : List Bool) : bitloftref20_Run.f k ps bs = some (rund ps bs) := by
  unfold bitloftref20_Run.f rund
  rw [Probs_ok (by omega), Option.bind_some, Option.bind_some]
  by_cases c : prs ps bs.length = 0
  · obtain ⟨h1, h2, h3⟩ := prs_zero c
    rw [if_pos c, if_pos c]
    unfold bitloftref20_New.f
    rw [Option.bind_some]
    exact Run_l0 ps bs (by omega) h2 h3 ps.length k 0 0 4294967295 [] (by omega) (by omega) ok0 (by rw [List.length_nil]; omega)
  · rw [if_neg c, if_neg c]
end Go.Proofs.Ytgapkifgddjijaa.Enc
