/- The reference's Get answers the same with one more round. -/
import Derived.Test.YtgapkifgddjijaaHandMono
import Derived.Test.YtgapkifgddjijaaHandRGet
namespace Go.Proofs.Ytgapkifgddjijaa.Hand
open Go.RowKit Go.Proofs.YtgapkifgddjijaaW.PrintWords Go.Proofs.YtgapkifgddjijaaW.PrintLast Go.Proofs.YtgapkifgddjijaaW.PrintMore
open Go.Proofs.Ytgapkifgddjijaa.QE

theorem RGetf_mono (x1 x2 x : Int) (l : List Int) (t p : Int) (k : Nat) : LeO (RGetf k x1 x2 x l t p) (RGetf (k + 1) x1 x2 x l t p) := by
  unfold RGetf
  exact LeO.bind (bitloftref21_Check.mono x1 x2 x l t k) (fun u => LeO.ite (LeO.bind (LeO.refl _) (fun v => LeO.ite (LeO.ite (LeO.bind (Didf_mono _ _ _ _ _ _ _) (fun _ => LeO.refl _)) (LeO.refl _)) (LeO.refl _))) (LeO.refl _))
end Go.Proofs.Ytgapkifgddjijaa.Hand
