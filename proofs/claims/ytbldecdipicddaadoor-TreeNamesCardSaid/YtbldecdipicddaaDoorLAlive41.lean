/- The chapter's examples of the tree hold. -/
import Derived.Test.YtbldecdipicddaaDoorHAlive41
import Derived.Test.YtbldecdipicddaaDoorLTreeP
set_option linter.unusedSimpArgs false
set_option linter.unusedVariables false
namespace Go.Proofs.YtbldecdipicddaaDoor.Hand
open Go Go.RowKit Go.Proofs.YtbldecdipicddaaDoorW.PrintWords Go.Proofs.YtbldecdipicddaaDoor.QZ
theorem root0 : rootg 600 [] = zdg := rootg_fuel 600 0 [] (by decide) (by decide) (by decide)
theorem root1 (a : Dg) : rootg 600 [a] = a := rootg_one [a] rfl
theorem root2 (a b : Dg) : rootg 600 [a, b] = ndg a b := by
  rw [rootg_two [a, b] (by show 2 ≤ 2; decide) (by show 2 ≤ 600; decide), show hf [a, b].length = 1 from (by decide : hf 2 = 1)]
  show ndg (rootg 600 [a]) (rootg 600 [b]) = _
  rw [root1, root1]
theorem root3 (a b c : Dg) : rootg 600 [a, b, c] = ndg (ndg a b) c := by
  rw [rootg_two [a, b, c] (by show 2 ≤ 3; decide) (by show 3 ≤ 600; decide), show hf [a, b, c].length = 2 from (by decide : hf 3 = 2)]
  show ndg (rootg 600 [a, b]) (rootg 600 [c]) = _
  rw [root2, root1]
theorem steps_at (n i m : Int) (h : tree_Steps.f 30 n i = some (m, 0)) (W : World) : Calls Tryd.prog 37 #[.int .i64 n, .int .i64 i] W fun e w' => e = .returned (.tuple #[.int .i64 m, .int .i64 0]) ∧ Below W.heap.size W w' := tree_Steps.calls 30 n i m 0 W h
theorem alive41 (w : World) (hT : TabQ w) : Calls Tryd.prog 33 #[] w fun e w' => e = .returned (.bool true) ∧ Below w.heap.size w w' :=
  alive_walk (lfg [97]) (lfg [98]) (lfg [99]) (ndg (lfg [97]) (lfg [98])) (ndg (ndg (lfg [97]) (lfg [98])) (lfg [99])) w hT
    (fun W hT => by
      have := proot_calls none 0 [] W hT ⟨rfl, by decide, fun h => absurd h (by decide)⟩ (by decide) (fun j hj => absurd hj (Nat.not_lt_zero _))
      rw [show ([] : List (List Int)).map lfg = [] from rfl, root0] at this
      exact this)
    (fun W A1 c1 hT hC hc => by
      have := proot_calls A1 c1 [[97]] W hT hC (by decide) (fun j hj => by match j, hj with | 0, _ => show 1 ≤ 10000; decide)
      rw [show ([[97]] : List (List Int)).map lfg = [lfg [97]] from rfl, root1] at this
      exact this)
    (fun W A1 c1 hT hC => leaf_ok A1 c1 [97] W hT hC (by show ¬ 10000 < 1; decide))
    (fun W A1 c1 hT hC => leaf_ok A1 c1 [98] W hT hC (by show ¬ 10000 < 1; decide))
    (fun W A1 c1 hT hC => leaf_ok A1 c1 [99] W hT hC (by show ¬ 10000 < 1; decide))
    (fun W A1 hT hC => leaf_sum [97] (by show 1 ≤ 10000; decide) A1 2 W hT hC (Nat.le_refl 2))
    (fun W hT => lnode_calls _ _ W hT)
    (fun W hT => lnode_calls _ _ W hT)
    (fun W A1 c1 hT hC hc => by
      have := proot_calls A1 c1 [[97], [98], [99]] W hT hC (by decide) (fun j hj => by match j, hj with | 0, _ | 1, _ | 2, _ => show 1 ≤ 10000; decide)
      rw [show ([[97], [98], [99]] : List (List Int)).map lfg = [lfg [97], lfg [98], lfg [99]] from rfl, root3] at this
      exact this)
    (fun W => steps_at 3 0 2 (by decide +kernel) W) (fun W => steps_at 3 1 2 (by decide +kernel) W) (fun W => steps_at 3 2 1 (by decide +kernel) W)
end Go.Proofs.YtbldecdipicddaaDoor.Hand
