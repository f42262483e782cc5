/- The chapter's examples, and the law EncoderSplits. -/
import Derived.Test.YtgapkifgddjijaaEncRef
import Derived.Test.YtgapkifgddjijaaQBx4
import Derived.OpenShut
namespace Go.Proofs.Ytgapkifgddjijaa.Enc
open Go Go.RowKit Go.Proofs.Ytgapkifgddjijaa.QB Go.Proofs.YtgapkifgddjijaaW.PrintWords Go.Proofs.YtgapkifgddjijaaW.PrintLast Go.Proofs.YtgapkifgddjijaaW.PrintMore
theorem alive20 {K : Nat} (hK : 20 ≤ K) : bitloftlaw20_alive.f K = some true := at_rounds bitloftlaw20_alive.mono hK (by decide +kernel)
end Go.Proofs.Ytgapkifgddjijaa.Enc
