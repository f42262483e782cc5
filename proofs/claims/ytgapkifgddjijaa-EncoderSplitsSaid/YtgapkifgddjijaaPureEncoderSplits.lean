/- EncoderSplits: both parts of a split are not empty. -/
import Derived.Test.YtgapkifgddjijaaEncAlive
import Derived.Test.YtgapkifgddjijaaQBx5
namespace Go.Proofs.Ytgapkifgddjijaa.Pure
open Go Go.RowKit Go.Proofs.Ytgapkifgddjijaa.QB Go.Proofs.YtgapkifgddjijaaW.PrintWords Go.Proofs.YtgapkifgddjijaaW.PrintLast
open Go.Proofs.Ytgapkifgddjijaa.Enc
theorem EncoderSplits : bitloftlaw20_EncoderSplits.Pure := by
  intro a0 a1 a2 a3 w0 w1 w2 w3
  have b0 := bounds_u32 w0
  have b1 := bounds_u32 w1
  refine ⟨20, ?_⟩
  unfold bitloftlaw20_EncoderSplits.f
  rw [alive20 (Nat.le_refl _), Option.bind_some, Prob_ok, Prob_ok, Option.bind_some, Option.bind_some]
  by_cases c : a0 ≥ a1
  · rw [if_pos c, bitloftlaw20_EncoderSplits.j0.eq_2, if_pos rfl]
  rw [if_neg c]
  by_cases c2 : prb a2 = true
  rotate_left
  · rw [if_neg c2, bitloftlaw20_EncoderSplits.j0.eq_2, if_pos rfl]
  rw [if_pos c2]
  by_cases c3 : prb a3 = true
  rotate_left
  · rw [if_neg c3, bitloftlaw20_EncoderSplits.j0.eq_2, if_pos rfl]
  rw [if_pos c3]
  by_cases c4 : a2 > a3
  · rw [if_pos c4, bitloftlaw20_EncoderSplits.j0.eq_2, if_pos rfl]
  have lt : a0 < a1 := by omega
  have s2 : spl a0 a1 a2 = (md a0 a1 a2, 0) := if_pos ⟨lt, c2⟩
  have s3 : spl a0 a1 a3 = (md a0 a1 a3, 0) := if_pos ⟨lt, c3⟩
  have s0 : spl a0 a1 0 = (md a0 a1 0, 0) := if_pos ⟨lt, by decide⟩
  have p2 := (prb_iff a2).1 c2
  have p3 := (prb_iff a3).1 c3
  have z := md_zero a0 a1
  have l2 := md_le lt p2.1
  have u2 := md_lt lt p2.2
  have u3 := md_lt lt p3.2
  have m := md_mono (p := a2) (q := a3) lt (by omega)
  rw [if_neg c4, bitloftlaw20_EncoderSplits.j0.eq_2, Bool.not_true, if_neg (by decide), (Split_ok (by omega) (by omega) a2).1, (Split_ok (by omega) (by omega) a3).1, (Split_ok (by omega) (by omega) 0).1, s2, s3, s0]
  simp only [Option.bind_some]
  rw [if_pos trivial, if_pos trivial, if_pos trivial, if_pos l2, if_pos u2, if_pos m, if_pos u3, if_pos trivial, z, beq_self_eq_true]
end Go.Proofs.Ytgapkifgddjijaa.Pure
