/- Put and End of the encoder and of its reference. -/
import Derived.Test.YtgapkifgddjijaaEncRun
import Derived.Test.YtgapkifgddjijaaQBx5
import Derived.Test.YtgapkifgddjijaaQBx6
namespace Go.Proofs.Ytgapkifgddjijaa.Enc
open Go Go.RowKit Go.Proofs.Ytgapkifgddjijaa.QB Go.Proofs.YtgapkifgddjijaaW.PrintWords Go.Proofs.YtgapkifgddjijaaW.PrintLast Go.Proofs.YtgapkifgddjijaaW.PrintMore
/-- The error of an encoder. -/
def chk (x1 x2 : Int) (l : List Int) : Int := if x1 ≥ x2 then 8 else if x1 / 16777216 = x2 / 16777216 then 8 else if (l.length : Int) > 20000 then 8 else 0
theorem chk_zero {x1 x2 : Int} {l : List Int} (h : chk x1 x2 l = 0) : x1 < x2 ∧ x1 / 16777216 ≠ x2 / 16777216 ∧ l.length ≤ 20000 := by
  unfold chk at h
  by_cases a : x1 ≥ x2
  · rw [if_pos a] at h; cases h
  · rw [if_neg a] at h
    by_cases b : x1 / 16777216 = x2 / 16777216
    · rw [if_pos b] at h; cases h
    · rw [if_neg b] at h
      by_cases c : (l.length : Int) > 20000
      · rw [if_pos c] at h; cases h
      · exact ⟨by omega, b, by omega⟩
theorem chk_mk {x1 x2 : Int} {l : List Int} (a : x1 < x2) (b : x1 / 16777216 ≠ x2 / 16777216) (c : l.length ≤ 20000) : chk x1 x2 l = 0 := by
  unfold chk
  rw [if_neg (by omega), if_neg b, if_neg (by omega)]
theorem check_ok (x1 x2 : Int) (l : List Int) : encoder_Check.f x1 x2 l = some (chk x1 x2 l) := by
  unfold encoder_Check.f chk
  split
  · rfl
  · split
    · rfl
    · split <;> rfl
theorem checkE_ok (x1 x2 : Int) (l : List Int) : QE.encoder_Check.f x1 x2 l = some (chk x1 x2 l) := check_ok x1 x2 l
theorem Check_ok {x1 x2 : Int} (h0 : 0 ≤ x1) (h1 : x1 ≤ 4294967295) (h2 : 0 ≤ x2) (h3 : x2 ≤ 4294967295) (l : List Int) : bitloftref20_Check.f x1 x2 l = some (chk x1 x2 l) := by
  unfold bitloftref20_Check.f chk
  rw [td h0, td h2, Int.emod_eq_of_lt (a := x1 / 16777216) (by omega) (by omega), Int.emod_eq_of_lt (a := x2 / 16777216) (by omega) (by omega)]
  split
  · rfl
  · split
    · rfl
    · split <;> rfl
/-- An encoder after a bit, and the error. -/
def ptd (x1 x2 : Int) (l : List Int) (p : Int) (b : Bool) : Int × Int × List Int × Int :=
  if chk x1 x2 l = 0 then (if prb p = true then (if ((stp x1 x2 p b l).2.2.length : Int) > 20000 then (0, 0, ([] : List Int), 4) else ((stp x1 x2 p b l).1, (stp x1 x2 p b l).2.1, (stp x1 x2 p b l).2.2, 0)) else (0, 0, ([] : List Int), 2)) else (0, 0, ([] : List Int), chk x1 x2 l)
theorem Putf_ok {k : Nat} (hk : 5 ≤ k) {x1 x2 : Int} (h0 : 0 ≤ x1) (h3 : x2 ≤ 4294967295) (l : List Int) (p : Int) (b : Bool) : Hand.Putf k x1 x2 l p b = some (ptd x1 x2 l p b) := by
  unfold Hand.Putf ptd
  rw [checkE_ok, Option.bind_some]
  by_cases c : chk x1 x2 l = 0
  · obtain ⟨lt, _, hl⟩ := chk_zero c
    rw [if_pos c, if_pos c, show QE.encoder_prob.f p = some (prb p) from prob_ok p, Option.bind_some]
    by_cases d : prb p = true
    · obtain ⟨p0, p1⟩ := (prb_iff p).1 d
      rw [if_pos d, if_pos d, if_pos (by omega), putf_stp hk ⟨h0, lt, h3⟩ p0 p1 b l (by omega), Option.bind_some]
      split <;> rfl
    · rw [if_neg d, if_neg d]
  · rw [if_neg c, if_neg c]
theorem Put_ok {k : Nat} (hk : 6 ≤ k) {x1 x2 : Int} (h0 : 0 ≤ x1) (h1 : x1 ≤ 4294967295) (h2 : 0 ≤ x2) (h3 : x2 ≤ 4294967295) (l : List Int) (p : Int) (b : Bool) : bitloftref20_Put.f k x1 x2 l p b = some (ptd x1 x2 l p b) := by
  unfold bitloftref20_Put.f ptd
  rw [Check_ok h0 h1 h2 h3, Option.bind_some, Option.bind_some]
  by_cases c : chk x1 x2 l = 0
  · obtain ⟨lt, _, hl⟩ := chk_zero c
    rw [if_pos c, if_pos c, Prob_ok, Option.bind_some]
    by_cases d : prb p = true
    · obtain ⟨p0, p1⟩ := (prb_iff p).1 d
      rw [if_pos d, if_pos d, Did_ok hk ⟨h0, lt, h3⟩ p0 p1 b l (by omega), Option.bind_some]
      split <;> rfl
    · rw [if_neg d, if_neg d]
  · rw [if_neg c, if_neg c]
/-- The bytes of an encoder that is ended, and the error. -/
def edd (x1 x2 : Int) (l : List Int) : List Int × Int := if chk x1 x2 l = 0 then (if (l.length : Int) > 19996 then (([] : List Int), 4) else (ende x1 l, 0)) else (([] : List Int), chk x1 x2 l)
theorem endB_ok (x1 x2 : Int) (o : List Int) (ho : o.length + 4 < 140737488355328) : encoder_end.f x1 x2 o = some (ende x1 o) := end_ok x1 x2 o ho
theorem EndB_ok (x1 x2 : Int) (l : List Int) : encoder_End.f x1 x2 l = some (edd x1 x2 l) := by
  unfold encoder_End.f edd
  rw [check_ok, Option.bind_some]
  by_cases c : chk x1 x2 l = 0
  · obtain ⟨lt, _, hl⟩ := chk_zero c
    rw [if_pos c, if_pos c]
    by_cases d : (l.length : Int) > 19996
    · rw [if_pos d, if_pos d]
    · rw [if_neg d, if_neg d, endB_ok _ _ _ (by omega), Option.bind_some]
  · rw [if_neg c, if_neg c]
theorem EndR_ok {k : Nat} (hk : 6 ≤ k) {x1 x2 : Int} (h0 : 0 ≤ x1) (h1 : x1 ≤ 4294967295) (h2 : 0 ≤ x2) (h3 : x2 ≤ 4294967295) (l : List Int) : bitloftref20_End.f k x1 x2 l = some (edd x1 x2 l) := by
  unfold bitloftref20_End.f edd
  rw [Check_ok h0 h1 h2 h3, Option.bind_some, Option.bind_some]
  by_cases c : chk x1 x2 l = 0
  · obtain ⟨lt, _, hl⟩ := chk_zero c
    rw [if_pos c, if_pos c, IntWalk.wrap64_in _ (by omega)]
    by_cases d : (l.length : Int) > 19996
    · rw [if_pos d, if_pos (by omega)]
    · rw [if_neg d, if_neg (by omega), Ended_ok hk _ _ _ (by omega), Option.bind_some]
  · rw [if_neg c, if_neg c]
end Go.Proofs.Ytgapkifgddjijaa.Enc
