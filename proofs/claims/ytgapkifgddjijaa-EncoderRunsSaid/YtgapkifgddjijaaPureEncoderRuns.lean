/- EncoderRuns: Run gives what the reference gives. -/
import Derived.Test.YtgapkifgddjijaaEncRun
import Derived.Test.YtgapkifgddjijaaQBx3
import Derived.OpenShut
namespace Go.Proofs.Ytgapkifgddjijaa.Pure
open Go Go.RowKit Go.Proofs.Ytgapkifgddjijaa.QB Go.Proofs.Ytgapkifgddjijaa.Enc Go.Proofs.YtgapkifgddjijaaW.PrintWords Go.Proofs.YtgapkifgddjijaaW.PrintLast
theorem runs_j0 (l0 : List Int) (l1 : List Bool) (b : Bool) : bitloftlaw20_EncoderRuns.j0 2021 l0 l1 b = some true := by
  have e : encoder_Run.f 2020 l0 l1 = some (rund l0 l1) := Runf_ok (by decide) l0 l1
  rw [bitloftlaw20_EncoderRuns.j0.eq_2]
  cases b
  · rw [if_neg (by decide), e, Option.bind_some, Run_ok (by decide), Option.bind_some, if_pos rfl, beq_self_eq_true]
  · rw [if_pos rfl]
theorem EncoderRuns (l0 : List Int) (l1 : List Bool) (_ : ∀ n ∈ l0, (Lit.int .i64 n).wf = true) : ∃ k, bitloftlaw20_EncoderRuns.f k l0 l1 = some true := by
  refine ⟨2021, ?_⟩
  unfold bitloftlaw20_EncoderRuns.f
  split <;> split <;> first | exact runs_j0 _ _ _ | (split <;> exact runs_j0 _ _ _)
end Go.Proofs.Ytgapkifgddjijaa.Pure
