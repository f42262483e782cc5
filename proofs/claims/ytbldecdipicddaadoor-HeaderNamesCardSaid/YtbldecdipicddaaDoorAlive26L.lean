/- alive of law 26 answers true. Written by wip/s1/mklsealed.py. -/
import Derived.Test.YtbldecdipicddaaDoorHAlive26
import Derived.Test.YtbldecdipicddaaDoorHEncode
set_option linter.unusedSimpArgs false
set_option linter.unusedVariables false
namespace Go.Proofs.YtbldecdipicddaaDoor.Hand
open Go Go.RowKit Go.Proofs.YtbldecdipicddaaDoorW.PrintWords
theorem alive26w (W : World) (hT : TabW W) : Calls Tryd.prog 27 #[] W fun e w' => e = .returned (.bool true) ∧ Below W.heap.size W w' :=
  alive26 W hT (fun W => example_calls W) (fun W hT => enc_yes 1 3 512 16 16 0 0 0 0 0 0 0 0 0 0 0 0 0 0 0 0 0 0 0 0 (by decide) W hT) (fun W => check_at 2 3 512 16 16 0 0 0 0 0 0 0 0 0 0 0 0 0 0 0 0 0 0 0 0 8 (.inr ⟨by decide, rfl⟩) W)
end Go.Proofs.YtbldecdipicddaaDoor.Hand
