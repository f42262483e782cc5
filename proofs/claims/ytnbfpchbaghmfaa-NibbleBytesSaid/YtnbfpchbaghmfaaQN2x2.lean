-- Written by qprint.py (a program of this session) out of the translation's print. Not trusted: Lean checks it.
import Derived.Test.YtnbfpchbaghmfaaQN2x0
namespace Go.Proofs.Ytnbfpchbaghmfaa.QN2
open Go.RowKit Go.Proofs.YtnbfpchbaghmfaaW.PrintWords Go.Proofs.YtnbfpchbaghmfaaW.PrintLast Go.Proofs.YtnbfpchbaghmfaaW.PrintMore
attribute [local go_sem] max2_int min2_int max_two min_two max_three min_three max_four min_four   -- for this text's walks alone
set_option linter.unusedVariables false
set_option linter.unusedSimpArgs false

theorem eqA37 (d : Nat) (w : World) (x0 y0 : Int) (x1 y1 : Int) (x2 y2 : Int) (x3 y3 : Int) (x4 y4 : Int) (x5 y5 : Int) (x6 y6 : Int) (x7 y7 : Int) :
    (Op.equalIn (d + 2) 37 (.agg #[.int .i64 x0, .int .i64 x1, .int .i64 x2, .int .i64 x3, .int .i64 x4, .int .i64 x5, .int .i64 x6, .int .i64 x7]) (.agg #[.int .i64 y0, .int .i64 y1, .int .i64 y2, .int .i64 y3, .int .i64 y4, .int .i64 y5, .int .i64 y6, .int .i64 y7])).run Try.prog w = .ok (x0 == y0 && (x1 == y1 && (x2 == y2 && (x3 == y3 && (x4 == y4 && (x5 == y5 && (x6 == y6 && (x7 == y7)))))))) w := by
  refine (eqArr (P := Try.prog) d w Try.underlying37 Try.underlying3 (by kernel_rfl) [x0, x1, x2, x3, x4, x5, x6, x7] [y0, y1, y2, y3, y4, y5, y6, y7] rfl rfl).trans ?_
  simp only [List.cons_beq_cons, List.nil_beq_eq, List.isEmpty_nil, Bool.and_true]
end Go.Proofs.Ytnbfpchbaghmfaa.QN2
