/- bitloftlaw01.alive answers true. Written by wip/s1/mklalive01.py. -/
import Derived.Test.YtbldecdipicddaaDoorHAlive01
set_option linter.unusedSimpArgs false
set_option linter.unusedVariables false
namespace Go.Proofs.YtbldecdipicddaaDoor.Hand
open Go Go.RowKit Go.Proofs.YtbldecdipicddaaDoorW.PrintWords Go.Proofs.YtbldecdipicddaaDoorW.PrintMore Go.Proofs.YtbldecdipicddaaDoor.QP
theorem pad_c (n : Int) (h0 : 0 ≤ n) (h1 : n ≤ 20000) (W : World) : Calls Tryd.prog 28 #[.int .i64 n] W fun e w' => ∃ v0_ : Value, e = .returned (.tuple #[v0_, .int .i64 0]) ∧ Kd.R (Kd.int .u8) 5 w' W.heap.size (fun _ => True) v0_ (padl n) ∧ Below W.heap.size W w' :=
  sha_Pad.calls 9 n (padl n) 0 W (by rw [sha_Pad.f, if_neg (by omega), if_neg (by omega), pad_eq n h0 h1]; rfl)
theorem alive01 (w : World) (hT : TabQ w) : Calls Tryd.prog 48 #[] w fun e w' => e = .returned (.bool true) ∧ Below w.heap.size w w' := by
  have hb : ∀ z ∈ ([97, 98, 99] : List Int), 0 ≤ z ∧ z < 256 := by decide
  have hs : ∀ (W : World) (A : Option Addr) (c : Nat), TabQ W → Kd.C (Kd.int .u8) W A 3 [97, 98, 99] → 3 ≤ c → Calls Tryd.prog 44 #[.slice A 3 c] W fun e w' => e = .returned (.tuple #[.agg (([169, 153, 62, 54, 71, 6, 129, 106, 186, 62, 37, 113, 120, 80, 194, 108, 156, 208, 216, 157] : List Int).map (Value.int .u8)).toArray, .int .i64 0]) ∧ Below W.heap.size W w' := by
    intro W A c hT hr hc
    have := sum_c A c [97, 98, 99] W hT hr hc (by decide)
    rw [dig_abc] at this
    exact this
  have h0 : ∀ (W : World) (A : Option Addr) (c : Nat), TabQ W → Kd.C (Kd.int .u8) W A 0 [] → 0 ≤ c → Calls Tryd.prog 44 #[.slice A 0 c] W fun e w' => e = .returned (.tuple #[.agg (([218, 57, 163, 238, 94, 107, 75, 13, 50, 85, 191, 239, 149, 96, 24, 144, 175, 216, 7, 9] : List Int).map (Value.int .u8)).toArray, .int .i64 0]) ∧ Below W.heap.size W w' := by
    intro W A c hT hr hc
    have := sum_c A c [] W hT hr hc (by decide)
    rw [dig_nil] at this
    exact this
  refine alive_walk 169 153 62 54 71 6 129 106 186 62 37 113 120 80 194 108 156 208 216 157 w hT hs ?_ (fun W => pad_c 55 (by decide) (by decide) W) (fun W => pad_c 56 (by decide) (by decide) W) (fun W hT => Is.is_walk [] 218 57 163 238 94 107 75 13 50 85 191 239 149 96 24 144 175 216 7 9 W hT (by decide) (fun z hz => by cases hz) h0) (fun W hT => Is.is_walk [97, 98, 99] 169 153 62 54 71 6 129 106 186 62 37 113 120 80 194 108 156 208 216 157 W hT (by decide) hb hs)
  intro W A c hT hr hc
  exact pieces_ok 169 153 62 54 71 6 129 106 186 62 37 113 120 80 194 108 156 208 216 157 0 A c [[97], [], [98, 99]] [97, 98, 99] W hT (by decide) (fun W' hB' => concat_calls A c [[97], [], [98, 99]] W' (Kd.C_below hr hB') (by decide) (fun W n hn => grow_calls W n hn)) hs
end Go.Proofs.YtbldecdipicddaaDoor.Hand
