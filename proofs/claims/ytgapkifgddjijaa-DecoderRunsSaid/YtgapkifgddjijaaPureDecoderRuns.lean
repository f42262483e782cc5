/- DecoderRuns: Run returns what the reference returns. -/
import Derived.Test.YtgapkifgddjijaaDecR
import Derived.Test.YtgapkifgddjijaaQDx7
import Derived.OpenShut
namespace Go.Proofs.Ytgapkifgddjijaa.Pure
open Go Go.RowKit Go.Proofs.Ytgapkifgddjijaa.QD Go.Proofs.Ytgapkifgddjijaa.Dec Go.Proofs.Ytgapkifgddjijaa.Enc Go.Proofs.YtgapkifgddjijaaW.PrintWords Go.Proofs.YtgapkifgddjijaaW.PrintLast Go.Proofs.YtgapkifgddjijaaW.PrintMore
theorem rdd_length (l ps : List Int) : (rdd l ps).1.length ≤ 2000 := by
  unfold rdd
  split
  · simp
  split
  · simp
  split
  · show (drn l 0 4294967295 0 ps).length ≤ 2000
    rw [drn_length]; omega
  · simp
theorem runs_j0 {l : List Int} (hl : Byts l) (ps : List Int) (b : Bool) : bitloftlaw21_DecoderRuns.j0 2030 l ps b = some true := by
  rw [bitloftlaw21_DecoderRuns.j0.eq_2]
  cases b
  rotate_left
  · rw [if_pos rfl]
  have a : decoder_Run.f 2029 l ps = some (rdd l ps) := RunDf_ok hl (by decide) ps
  have hn := rdd_length l ps
  rw [if_neg (by decide), a, Run_ok hl (by decide), Option.bind_some, Option.bind_some, Same_ok _ (by omega) (by omega), Option.bind_some, if_pos rfl, beq_self_eq_true]
theorem DecoderRuns (l ps : List Int) (wl : ∀ n ∈ l, (Lit.int .u8 n).wf = true) (_ : ∀ n ∈ ps, (Lit.int .i64 n).wf = true) : ∃ k, bitloftlaw21_DecoderRuns.f k l ps = some true := by
  refine ⟨2030, ?_⟩
  have hl := byts_wf wl
  unfold bitloftlaw21_DecoderRuns.f
  repeat' (first | exact runs_j0 hl ps _ | split)
end Go.Proofs.Ytgapkifgddjijaa.Pure
