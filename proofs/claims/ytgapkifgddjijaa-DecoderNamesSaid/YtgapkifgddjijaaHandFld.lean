/- A field of a struct of three cells by value (type 42), as the walk's simp runs it. -/
import Derived.Test.YtgapkifgddjijaaHB
import Derived.WalkKit
namespace Go.Proofs.Ytgapkifgddjijaa.Hand
open Go.RowKit
@[go_sem] theorem run_field42_0 (a b v : Value) (w : World) : Sem.run Try.prog (Instr.field 42 (.agg #[a, b, v]) 0) w = .ok a w := by kernel_rfl
@[go_sem] theorem run_field42_1 (a b v : Value) (w : World) : Sem.run Try.prog (Instr.field 42 (.agg #[a, b, v]) 1) w = .ok b w := by kernel_rfl
@[go_sem] theorem run_field42_2 (a b v : Value) (w : World) : Sem.run Try.prog (Instr.field 42 (.agg #[a, b, v]) 2) w = .ok v w := by kernel_rfl
end Go.Proofs.Ytgapkifgddjijaa.Hand
