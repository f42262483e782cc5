/- CostLists: Ideal, Real and Bytes give what the reference gives. -/
import Derived.Test.YtgapkifgddjijaaCRun2
import Derived.Test.YtgapkifgddjijaaQCx6
import Derived.OpenShut
namespace Go.Proofs.Ytgapkifgddjijaa.Pure
open Go Go.RowKit Go.Proofs.Ytgapkifgddjijaa.QC Go.Proofs.Ytgapkifgddjijaa.EncC Go.Proofs.YtgapkifgddjijaaW.PrintWords Go.Proofs.YtgapkifgddjijaaW.PrintLast
theorem lists_j0 (l0 : List Int) (l1 : List Bool) (b : Bool) : bitloftlaw23_CostLists.j0 2201 l0 l1 b = some true := by
  rw [bitloftlaw23_CostLists.j0.eq_2]
  cases b
  · rw [if_neg (by decide), (Ideal_ok (by decide) l0 l1).1, (Ideal_ok (by decide) l0 l1).2, (Real_ok (by decide) l0 l1).1, (Real_ok (by decide) l0 l1).2, (Bytes_ok (by decide) l0 l1).1, (Bytes_ok (by decide) l0 l1).2]
    simp only [Option.bind_some, if_true, beq_self_eq_true]
  · rw [if_pos rfl]
theorem CostLists (l0 : List Int) (l1 : List Bool) (_ : ∀ n ∈ l0, (Lit.int .i64 n).wf = true) : ∃ k, bitloftlaw23_CostLists.f k l0 l1 = some true := by
  refine ⟨2201, ?_⟩
  unfold bitloftlaw23_CostLists.f
  split <;> split <;> first | exact lists_j0 _ _ _ | (split <;> exact lists_j0 _ _ _)
end Go.Proofs.Ytgapkifgddjijaa.Pure
