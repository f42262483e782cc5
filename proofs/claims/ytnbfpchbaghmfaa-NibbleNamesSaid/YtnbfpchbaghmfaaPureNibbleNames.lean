/- NibbleNames: the limits and errors of walks, reckoned. -/
import Derived.Test.YtnbfpchbaghmfaaQN1x9
namespace Go.Proofs.Ytnbfpchbaghmfaa.Pure
open Go Go.RowKit Go.Proofs.Ytnbfpchbaghmfaa.QN1 Go.Proofs.YtnbfpchbaghmfaaW.PrintWords Go.Proofs.YtnbfpchbaghmfaaW.PrintLast
set_option maxRecDepth 100000 in
theorem NibbleNames : bitloftlaw14_NibbleNames.Pure := ⟨60, by decide +kernel⟩
end Go.Proofs.Ytnbfpchbaghmfaa.Pure
