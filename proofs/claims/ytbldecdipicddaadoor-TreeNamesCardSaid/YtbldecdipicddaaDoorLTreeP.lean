/- tree.Root and tree.Prove of lists of at most 600 strings, none too long. -/
import Derived.Test.YtbldecdipicddaaDoorTreeLaw
import Derived.Test.YtbldecdipicddaaDoorHLeaves
set_option linter.unusedSimpArgs false
set_option linter.unusedVariables false
namespace Go.Proofs.YtbldecdipicddaaDoor.Hand
open Go Go.RowKit Go.Proofs.YtbldecdipicddaaDoorW.PrintWords Go.Proofs.YtbldecdipicddaaDoor.QZ
section
variable (A : Option Addr) (c : Nat) (ll : List (List Int)) (w : World) (hT : TabQ w) (hr : Kd.C (Kd.slice 5 (Kd.int .u8)) w A ll.length ll) (hl : ll.length ≤ 600) (hs : ∀ j, j < ll.length → (ll.getD j []).length ≤ 10000)
theorem short_any (ll : List (List Int)) (hs : ∀ j, j < ll.length → (ll.getD j []).length ≤ 10000) : ll.any long = false := by
  rw [List.any_eq_false]
  intro x hx
  obtain ⟨j, hj, rfl⟩ := List.mem_iff_getElem.1 hx
  have := hs j hj
  rw [List.getD_eq_getElem?_getD, List.getElem?_eq_getElem hj] at this
  have h2 : ll[j].length ≤ 10000 := this
  unfold long
  simp
  omega
include hr hl hs in
theorem pleaves (W : World) (hT : TabQ W) (hB : Below w.heap.size w W) : Calls Tryd.prog 72 #[.slice A ll.length c] W fun e w' => ∃ v0_ : Value, e = .returned (.tuple #[v0_, .int .i64 0]) ∧ Kd.R kdg 23 w' W.heap.size (fun _ => True) v0_ (ll.map lfg) ∧ Below W.heap.size W w' :=
  leaves_ok A c ll lfg W hT (Kd.C_below hr hB) hl (short_any ll hs) (fun j hj W1 A1 c1 hT1 hC hc => leaf_ok A1 c1 (ll.getD j []) W1 hT1 hC (by have := hs j hj; omega))
include hT hr hl hs in
theorem proot_calls : Calls Tryd.prog 35 #[.slice A ll.length c] w fun e w' => e = .returned (.tuple #[.agg #[.int .u8 (rootg 600 (ll.map lfg) 0), .int .u8 (rootg 600 (ll.map lfg) 1), .int .u8 (rootg 600 (ll.map lfg) 2), .int .u8 (rootg 600 (ll.map lfg) 3), .int .u8 (rootg 600 (ll.map lfg) 4), .int .u8 (rootg 600 (ll.map lfg) 5), .int .u8 (rootg 600 (ll.map lfg) 6), .int .u8 (rootg 600 (ll.map lfg) 7), .int .u8 (rootg 600 (ll.map lfg) 8), .int .u8 (rootg 600 (ll.map lfg) 9), .int .u8 (rootg 600 (ll.map lfg) 10), .int .u8 (rootg 600 (ll.map lfg) 11), .int .u8 (rootg 600 (ll.map lfg) 12), .int .u8 (rootg 600 (ll.map lfg) 13), .int .u8 (rootg 600 (ll.map lfg) 14), .int .u8 (rootg 600 (ll.map lfg) 15), .int .u8 (rootg 600 (ll.map lfg) 16), .int .u8 (rootg 600 (ll.map lfg) 17), .int .u8 (rootg 600 (ll.map lfg) 18), .int .u8 (rootg 600 (ll.map lfg) 19)], .int .i64 0]) ∧ Below w.heap.size w w' :=
  hRoot_ok A ll.length c (ll.map lfg) (rootg 600 (ll.map lfg)) w hT (fun W1 hT1 hB1 => pleaves A c ll w hr hl hs W1 hT1 hB1) (fun A1 c1 W1 hT1 hC hc => hroot_calls 600 A1 c1 (ll.map lfg) W1 hT1 (by rw [List.length_map]; exact hl) (by rw [List.length_map]; exact hl) hC hc)
include hT hr hl hs in
theorem pprove_calls (i : Nat) (hi : i < ll.length) : Calls Tryd.prog 36 #[.slice A ll.length c, .int .i64 (i : Int)] w fun e w' => ∃ v0_ : Value, e = .returned (.tuple #[v0_, .int .i64 0]) ∧ Kd.R kdg 23 w' w.heap.size (fun _ => True) v0_ (pwr (rootg 600) 600 (ll.map lfg) i).reverse ∧ Below w.heap.size w w' := by
  have hm : (ll.map lfg).length = ll.length := List.length_map ..
  rw [pwr_fuel (rootg 600) 600 (ll.map lfg).length (ll.map lfg) i (by omega) (Nat.le_refl _) (by omega)]
  exact hProve_ok A ll.length c i (ll.map lfg) (rootg 600) w hT (by omega) (by omega) (fun W1 hT1 hB1 => pleaves A c ll w hr hl hs W1 hT1 hB1) (fun n h2 hn W1 => half_calls n h2 hn W1) (fun l n A1 c1 W1 hT1 hln hn hC hc => by subst hln; exact hroot_calls 600 A1 c1 l W1 hT1 hn hn hC hc)
end
end Go.Proofs.YtbldecdipicddaaDoor.Hand
