/- CostNames: no argument; the kernel computes it. -/
import Derived.Test.YtgapkifgddjijaaQNx3
namespace Go.Proofs.Ytgapkifgddjijaa.Pure
open Go.RowKit Go.Proofs.Ytgapkifgddjijaa.QN Go.Proofs.YtgapkifgddjijaaW.PrintWords Go.Proofs.YtgapkifgddjijaaW.PrintLast
set_option maxRecDepth 100000 in
theorem CostNames : bitloftlaw23_CostNames.Pure := ⟨140, by decide +kernel⟩
end Go.Proofs.Ytgapkifgddjijaa.Pure
