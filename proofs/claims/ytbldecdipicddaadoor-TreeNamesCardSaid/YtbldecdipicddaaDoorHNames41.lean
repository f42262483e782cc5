/- The walk of the law TreeNames. Written by wip/s1/mknames41.py. -/
import Derived.Test.YtbldecdipicddaaDoorHFit
set_option linter.unusedSimpArgs false
set_option linter.unusedVariables false
namespace Go.Proofs.YtbldecdipicddaaDoor.Hand
open Go Go.RowKit Go.Proofs.YtbldecdipicddaaDoorW.PrintWords Go.Proofs.YtbldecdipicddaaDoorW.PrintLast
set_option maxHeartbeats 3200000 in
set_option maxRecDepth 100000 in
theorem hRoot_errb (A : Option Addr) (N c : Nat) (w : World) (hlv : ∀ W : World, Below w.heap.size w W → Calls Tryd.prog 72 #[.slice A N c] W fun e w' => e = .returned (.tuple #[.slice none 0 0, .int .i64 4]) ∧ w' = W) : Calls Tryd.prog 35 #[.slice A N c] w fun e w' => e = .returned (.tuple #[.agg #[.int .u8 0, .int .u8 0, .int .u8 0, .int .u8 0, .int .u8 0, .int .u8 0, .int .u8 0, .int .u8 0, .int .u8 0, .int .u8 0, .int .u8 0, .int .u8 0, .int .u8 0, .int .u8 0, .int .u8 0, .int .u8 0, .int .u8 0, .int .u8 0, .int .u8 0, .int .u8 0], .int .i64 4]) ∧ Below w.heap.size w w' := by
  have Hhlv := Aside0.mk hlv
  clear hlv
  go_enter Tryd.func35, Tryd.ntmps35
  go_wp2_with (first | ((with_reducible refine gate_dst (N := 2) rfl ?_); refine box_event ?hg (N := 2) ?hd (cs := #[.int .u8 0, .int .u8 0, .int .u8 0, .int .u8 0, .int .u8 0, .int .u8 0, .int .u8 0, .int .u8 0, .int .u8 0, .int .u8 0, .int .u8 0, .int .u8 0, .int .u8 0, .int .u8 0, .int .u8 0, .int .u8 0, .int .u8 0, .int .u8 0, .int .u8 0, .int .u8 0]) (t := 23) ?hr ?_; (case hd => rfl); (case hg => rfl); (case hr => first | (go_simp; done) | (go_simp; rfl)); intro g1 hgg1 w2 hhg1 hbg1; have H5 := Aside0.mk hhg1; have G3 : w.heap.size ≤ g1 := Nat.le_of_eq hgg1.symm; have B4 := Aside0.mk (hbg1); clear hgg1 hhg1 hbg1))
  refine (Hhlv.out _ B4.out).mono ?_
  rintro e w' ⟨rfl, hw_⟩
  obtain rfl := hw_
  go_wp2_with (first | ((with_reducible refine gate_store (t := 23) (p := _) rfl ?_); refine storeN_event (T := 23) rfl rfl rfl rfl rfl (storeVar_blk H5.out 23 0 [.int .u8 0, .int .u8 0, .int .u8 0, .int .u8 0, .int .u8 0, .int .u8 0, .int .u8 0, .int .u8 0, .int .u8 0, .int .u8 0, .int .u8 0, .int .u8 0, .int .u8 0, .int .u8 0, .int .u8 0, .int .u8 0, .int .u8 0, .int .u8 0, .int .u8 0, .int .u8 0] (by kernel_rfl) rfl (by simp)) ?_; have H7 := Aside0.mk (show (World.setCells w' g1 0 [.int .u8 0, .int .u8 0, .int .u8 0, .int .u8 0, .int .u8 0, .int .u8 0, .int .u8 0, .int .u8 0, .int .u8 0, .int .u8 0, .int .u8 0, .int .u8 0, .int .u8 0, .int .u8 0, .int .u8 0, .int .u8 0, .int .u8 0, .int .u8 0, .int .u8 0, .int .u8 0]).heap[g1]? = some (.cells #[.int .u8 0, .int .u8 0, .int .u8 0, .int .u8 0, .int .u8 0, .int .u8 0, .int .u8 0, .int .u8 0, .int .u8 0, .int .u8 0, .int .u8 0, .int .u8 0, .int .u8 0, .int .u8 0, .int .u8 0, .int .u8 0, .int .u8 0, .int .u8 0, .int .u8 0, .int .u8 0] 23 (0, 0)) from blk_setCells [] [.int .u8 0, .int .u8 0, .int .u8 0, .int .u8 0, .int .u8 0, .int .u8 0, .int .u8 0, .int .u8 0, .int .u8 0, .int .u8 0, .int .u8 0, .int .u8 0, .int .u8 0, .int .u8 0, .int .u8 0, .int .u8 0, .int .u8 0, .int .u8 0, .int .u8 0, .int .u8 0] [.int .u8 0, .int .u8 0, .int .u8 0, .int .u8 0, .int .u8 0, .int .u8 0, .int .u8 0, .int .u8 0, .int .u8 0, .int .u8 0, .int .u8 0, .int .u8 0, .int .u8 0, .int .u8 0, .int .u8 0, .int .u8 0, .int .u8 0, .int .u8 0, .int .u8 0, .int .u8 0] [] w' rfl H5.out); have B8 := Aside0.mk (below_setCells G3 [.int .u8 0, .int .u8 0, .int .u8 0, .int .u8 0, .int .u8 0, .int .u8 0, .int .u8 0, .int .u8 0, .int .u8 0, .int .u8 0, .int .u8 0, .int .u8 0, .int .u8 0, .int .u8 0, .int .u8 0, .int .u8 0, .int .u8 0, .int .u8 0, .int .u8 0, .int .u8 0] 0 w' B4.out); clear H5 B4; generalize World.setCells w' g1 0 [.int .u8 0, .int .u8 0, .int .u8 0, .int .u8 0, .int .u8 0, .int .u8 0, .int .u8 0, .int .u8 0, .int .u8 0, .int .u8 0, .int .u8 0, .int .u8 0, .int .u8 0, .int .u8 0, .int .u8 0, .int .u8 0, .int .u8 0, .int .u8 0, .int .u8 0, .int .u8 0] = w6 at H7 B8 ⊢))
  exact bodyPost_ret (results_ct rfl _ _ g1 23 #[.int .u8 0, .int .u8 0, .int .u8 0, .int .u8 0, .int .u8 0, .int .u8 0, .int .u8 0, .int .u8 0, .int .u8 0, .int .u8 0, .int .u8 0, .int .u8 0, .int .u8 0, .int .u8 0, .int .u8 0, .int .u8 0, .int .u8 0, .int .u8 0, .int .u8 0, .int .u8 0] (0, 0) _ rfl H7.out Tryd.underlying23 rfl (by kernel_rfl)) rfl ⟨rfl, B8.out⟩
set_option maxHeartbeats 6400000 in
set_option maxRecDepth 100000 in
theorem names41_walk (w : World) (hT : TabQ w) (hal : ∀ W : World, TabQ W → Calls Tryd.prog 33 #[] W fun e w' => e = .returned (.bool true) ∧ Below W.heap.size W w') (y z : Dg) (q : Bool) (hq : ∀ (k : Nat) (W : World), (Op.equalIn (k + 2) 23 (.agg #[.int .u8 (y 0), .int .u8 (y 1), .int .u8 (y 2), .int .u8 (y 3), .int .u8 (y 4), .int .u8 (y 5), .int .u8 (y 6), .int .u8 (y 7), .int .u8 (y 8), .int .u8 (y 9), .int .u8 (y 10), .int .u8 (y 11), .int .u8 (y 12), .int .u8 (y 13), .int .u8 (y 14), .int .u8 (y 15), .int .u8 (y 16), .int .u8 (y 17), .int .u8 (y 18), .int .u8 (y 19)]) (.agg #[.int .u8 (z 0), .int .u8 (z 1), .int .u8 (z 2), .int .u8 (z 3), .int .u8 (z 4), .int .u8 (z 5), .int .u8 (z 6), .int .u8 (z 7), .int .u8 (z 8), .int .u8 (z 9), .int .u8 (z 10), .int .u8 (z 11), .int .u8 (z 12), .int .u8 (z 13), .int .u8 (z 14), .int .u8 (z 15), .int .u8 (z 16), .int .u8 (z 17), .int .u8 (z 18), .int .u8 (z 19)])).run Tryd.prog W = .ok q W)
    (st1 : ∀ (W : World), Calls Tryd.prog 37 #[.int .i64 1, .int .i64 0] W fun e w' => e = .returned (.tuple #[.int .i64 0, .int .i64 0]) ∧ Below W.heap.size W w')
    (st2 : ∀ (W : World), Calls Tryd.prog 37 #[.int .i64 2, .int .i64 0] W fun e w' => e = .returned (.tuple #[.int .i64 1, .int .i64 0]) ∧ Below W.heap.size W w')
    (st3 : ∀ (W : World), Calls Tryd.prog 37 #[.int .i64 3, .int .i64 0] W fun e w' => e = .returned (.tuple #[.int .i64 2, .int .i64 0]) ∧ Below W.heap.size W w')
    (st4 : ∀ (W : World), Calls Tryd.prog 37 #[.int .i64 4, .int .i64 0] W fun e w' => e = .returned (.tuple #[.int .i64 2, .int .i64 0]) ∧ Below W.heap.size W w')
    (st5 : ∀ (W : World), Calls Tryd.prog 37 #[.int .i64 5, .int .i64 0] W fun e w' => e = .returned (.tuple #[.int .i64 3, .int .i64 0]) ∧ Below W.heap.size W w')
    (st6 : ∀ (W : World), Calls Tryd.prog 37 #[.int .i64 6, .int .i64 0] W fun e w' => e = .returned (.tuple #[.int .i64 3, .int .i64 0]) ∧ Below W.heap.size W w')
    (st7 : ∀ (W : World), Calls Tryd.prog 37 #[.int .i64 7, .int .i64 0] W fun e w' => e = .returned (.tuple #[.int .i64 3, .int .i64 0]) ∧ Below W.heap.size W w')
    (st8 : ∀ (W : World), Calls Tryd.prog 37 #[.int .i64 8, .int .i64 0] W fun e w' => e = .returned (.tuple #[.int .i64 3, .int .i64 0]) ∧ Below W.heap.size W w')
    (sa : ∀ (W : World), Calls Tryd.prog 37 #[.int .i64 600, .int .i64 599] W fun e w' => e = .returned (.tuple #[.int .i64 6, .int .i64 0]) ∧ Below W.heap.size W w')
    (sb : ∀ (W : World), Calls Tryd.prog 37 #[.int .i64 600, .int .i64 0] W fun e w' => e = .returned (.tuple #[.int .i64 10, .int .i64 0]) ∧ Below W.heap.size W w')
    (sc : ∀ (W : World), Calls Tryd.prog 37 #[.int .i64 5, .int .i64 4] W fun e w' => e = .returned (.tuple #[.int .i64 1, .int .i64 0]) ∧ Below W.heap.size W w')
    (sd : ∀ (W : World), Calls Tryd.prog 37 #[.int .i64 0, .int .i64 0] W fun e w' => e = .returned (.tuple #[.int .i64 0, .int .i64 2]) ∧ Below W.heap.size W w')
    (se : ∀ (W : World), Calls Tryd.prog 37 #[.int .i64 601, .int .i64 0] W fun e w' => e = .returned (.tuple #[.int .i64 0, .int .i64 2]) ∧ Below W.heap.size W w')
    (sf : ∀ (W : World), Calls Tryd.prog 37 #[.int .i64 3, .int .i64 3] W fun e w' => e = .returned (.tuple #[.int .i64 0, .int .i64 2]) ∧ Below W.heap.size W w')
    (sg : ∀ (W : World), Calls Tryd.prog 37 #[.int .i64 3, .int .i64 (-1)] W fun e w' => e = .returned (.tuple #[.int .i64 0, .int .i64 2]) ∧ Below W.heap.size W w')
    (lf : ∀ (W : World) (A : Option Addr) (c : Nat), Calls Tryd.prog 39 #[.slice A 10001 c] W fun e w' => e = .returned (.tuple #[.agg #[.int .u8 0, .int .u8 0, .int .u8 0, .int .u8 0, .int .u8 0, .int .u8 0, .int .u8 0, .int .u8 0, .int .u8 0, .int .u8 0, .int .u8 0, .int .u8 0, .int .u8 0, .int .u8 0, .int .u8 0, .int .u8 0, .int .u8 0, .int .u8 0, .int .u8 0, .int .u8 0], .int .i64 4]) ∧ Below W.heap.size W w')
    (ra : ∀ (W : World) (A : Option Addr) (c : Nat), Calls Tryd.prog 35 #[.slice A 601 c] W fun e w' => e = .returned (.tuple #[.agg #[.int .u8 0, .int .u8 0, .int .u8 0, .int .u8 0, .int .u8 0, .int .u8 0, .int .u8 0, .int .u8 0, .int .u8 0, .int .u8 0, .int .u8 0, .int .u8 0, .int .u8 0, .int .u8 0, .int .u8 0, .int .u8 0, .int .u8 0, .int .u8 0, .int .u8 0, .int .u8 0], .int .i64 4]) ∧ Below W.heap.size W w')
    (rb : ∀ (W : World) (A : Option Addr) (c : Nat), Kd.C (Kd.slice 5 (Kd.int .u8)) W A 2 [[], List.replicate 10001 (0 : Int)] → Calls Tryd.prog 35 #[.slice A 2 c] W fun e w' => e = .returned (.tuple #[.agg #[.int .u8 0, .int .u8 0, .int .u8 0, .int .u8 0, .int .u8 0, .int .u8 0, .int .u8 0, .int .u8 0, .int .u8 0, .int .u8 0, .int .u8 0, .int .u8 0, .int .u8 0, .int .u8 0, .int .u8 0, .int .u8 0, .int .u8 0, .int .u8 0, .int .u8 0, .int .u8 0], .int .i64 4]) ∧ Below W.heap.size W w')
    (pa : ∀ (W : World) (A : Option Addr) (c : Nat), Calls Tryd.prog 36 #[.slice A 601 c, .int .i64 (-1)] W fun e w' => e = .returned (.tuple #[.slice none 0 0, .int .i64 4]) ∧ Below W.heap.size W w')
    (pb : ∀ (W : World), TabQ W → Calls Tryd.prog 36 #[.slice none 0 0, .int .i64 0] W fun e w' => e = .returned (.tuple #[.slice none 0 0, .int .i64 2]) ∧ Below W.heap.size W w')
    (pc : ∀ (W : World) (A : Option Addr) (c : Nat), TabQ W → Kd.C (Kd.slice 5 (Kd.int .u8)) W A 2 (List.replicate 2 ([] : List Int)) → Calls Tryd.prog 36 #[.slice A 2 c, .int .i64 2] W fun e w' => e = .returned (.tuple #[.slice none 0 0, .int .i64 2]) ∧ Below W.heap.size W w')
    (pd : ∀ (W : World) (A : Option Addr) (c : Nat), TabQ W → Kd.C (Kd.slice 5 (Kd.int .u8)) W A 1 (List.replicate 1 ([] : List Int)) → Calls Tryd.prog 36 #[.slice A 1 c, .int .i64 0] W fun e w' => ∃ v0_ : Value, e = .returned (.tuple #[v0_, .int .i64 0]) ∧ Kd.R kdg 23 w' W.heap.size (fun _ => True) v0_ [] ∧ Below W.heap.size W w')
    (ua : ∀ (W : World), TabQ W → Calls Tryd.prog 40 #[.int .i64 3, .int .i64 3, .agg #[.int .u8 0, .int .u8 0, .int .u8 0, .int .u8 0, .int .u8 0, .int .u8 0, .int .u8 0, .int .u8 0, .int .u8 0, .int .u8 0, .int .u8 0, .int .u8 0, .int .u8 0, .int .u8 0, .int .u8 0, .int .u8 0, .int .u8 0, .int .u8 0, .int .u8 0, .int .u8 0], .slice none 0 0] W fun e w' => e = .returned (.tuple #[.agg #[.int .u8 0, .int .u8 0, .int .u8 0, .int .u8 0, .int .u8 0, .int .u8 0, .int .u8 0, .int .u8 0, .int .u8 0, .int .u8 0, .int .u8 0, .int .u8 0, .int .u8 0, .int .u8 0, .int .u8 0, .int .u8 0, .int .u8 0, .int .u8 0, .int .u8 0, .int .u8 0], .int .i64 2]) ∧ Below W.heap.size W w')
    (ub : ∀ (W : World), TabQ W → Calls Tryd.prog 40 #[.int .i64 3, .int .i64 2, .agg #[.int .u8 0, .int .u8 0, .int .u8 0, .int .u8 0, .int .u8 0, .int .u8 0, .int .u8 0, .int .u8 0, .int .u8 0, .int .u8 0, .int .u8 0, .int .u8 0, .int .u8 0, .int .u8 0, .int .u8 0, .int .u8 0, .int .u8 0, .int .u8 0, .int .u8 0, .int .u8 0], .slice none 0 0] W fun e w' => e = .returned (.tuple #[.agg #[.int .u8 0, .int .u8 0, .int .u8 0, .int .u8 0, .int .u8 0, .int .u8 0, .int .u8 0, .int .u8 0, .int .u8 0, .int .u8 0, .int .u8 0, .int .u8 0, .int .u8 0, .int .u8 0, .int .u8 0, .int .u8 0, .int .u8 0, .int .u8 0, .int .u8 0, .int .u8 0], .int .i64 12]) ∧ Below W.heap.size W w')
    (uc : ∀ (W : World) (A : Option Addr) (c : Nat), TabQ W → Calls Tryd.prog 40 #[.int .i64 1, .int .i64 0, .agg #[.int .u8 0, .int .u8 0, .int .u8 0, .int .u8 0, .int .u8 0, .int .u8 0, .int .u8 0, .int .u8 0, .int .u8 0, .int .u8 0, .int .u8 0, .int .u8 0, .int .u8 0, .int .u8 0, .int .u8 0, .int .u8 0, .int .u8 0, .int .u8 0, .int .u8 0, .int .u8 0], .slice A 1 c] W fun e w' => e = .returned (.tuple #[.agg #[.int .u8 0, .int .u8 0, .int .u8 0, .int .u8 0, .int .u8 0, .int .u8 0, .int .u8 0, .int .u8 0, .int .u8 0, .int .u8 0, .int .u8 0, .int .u8 0, .int .u8 0, .int .u8 0, .int .u8 0, .int .u8 0, .int .u8 0, .int .u8 0, .int .u8 0, .int .u8 0], .int .i64 12]) ∧ Below W.heap.size W w')
    (ud : ∀ (W : World), TabQ W → Calls Tryd.prog 40 #[.int .i64 1, .int .i64 0, .agg #[.int .u8 7, .int .u8 0, .int .u8 0, .int .u8 0, .int .u8 0, .int .u8 0, .int .u8 0, .int .u8 0, .int .u8 0, .int .u8 0, .int .u8 0, .int .u8 0, .int .u8 0, .int .u8 0, .int .u8 0, .int .u8 0, .int .u8 0, .int .u8 0, .int .u8 0, .int .u8 0], .slice none 0 0] W fun e w' => e = .returned (.tuple #[.agg #[.int .u8 7, .int .u8 0, .int .u8 0, .int .u8 0, .int .u8 0, .int .u8 0, .int .u8 0, .int .u8 0, .int .u8 0, .int .u8 0, .int .u8 0, .int .u8 0, .int .u8 0, .int .u8 0, .int .u8 0, .int .u8 0, .int .u8 0, .int .u8 0, .int .u8 0, .int .u8 0], .int .i64 0]) ∧ Below W.heap.size W w')
    (va : ∀ (W : World) (A : Option Addr) (c : Nat), TabQ W → Calls Tryd.prog 38 #[.agg #[.int .u8 0, .int .u8 0, .int .u8 0, .int .u8 0, .int .u8 0, .int .u8 0, .int .u8 0, .int .u8 0, .int .u8 0, .int .u8 0, .int .u8 0, .int .u8 0, .int .u8 0, .int .u8 0, .int .u8 0, .int .u8 0, .int .u8 0, .int .u8 0, .int .u8 0, .int .u8 0], .int .i64 0, .int .i64 0, .slice A 10001 c, .slice none 0 0] W fun e w' => e = .returned (.tuple #[.bool false, .int .i64 4]) ∧ Below W.heap.size W w')
    (vb : ∀ (W : World), TabQ W → Calls Tryd.prog 38 #[.agg #[.int .u8 0, .int .u8 0, .int .u8 0, .int .u8 0, .int .u8 0, .int .u8 0, .int .u8 0, .int .u8 0, .int .u8 0, .int .u8 0, .int .u8 0, .int .u8 0, .int .u8 0, .int .u8 0, .int .u8 0, .int .u8 0, .int .u8 0, .int .u8 0, .int .u8 0, .int .u8 0], .int .i64 0, .int .i64 0, .slice none 0 0, .slice none 0 0] W fun e w' => e = .returned (.tuple #[.bool false, .int .i64 2]) ∧ Below W.heap.size W w')
    (vc : ∀ (W : World), TabQ W → Calls Tryd.prog 38 #[.agg #[.int .u8 0, .int .u8 0, .int .u8 0, .int .u8 0, .int .u8 0, .int .u8 0, .int .u8 0, .int .u8 0, .int .u8 0, .int .u8 0, .int .u8 0, .int .u8 0, .int .u8 0, .int .u8 0, .int .u8 0, .int .u8 0, .int .u8 0, .int .u8 0, .int .u8 0, .int .u8 0], .int .i64 2, .int .i64 0, .slice none 0 0, .slice none 0 0] W fun e w' => e = .returned (.tuple #[.bool false, .int .i64 12]) ∧ Below W.heap.size W w')
    (rc : ∀ (W : World) (A : Option Addr) (c : Nat), TabQ W → Kd.C (Kd.slice 5 (Kd.int .u8)) W A 600 (List.replicate 600 ([] : List Int)) → Calls Tryd.prog 35 #[.slice A 600 c] W fun e w' => e = .returned (.tuple #[.agg #[.int .u8 (y 0), .int .u8 (y 1), .int .u8 (y 2), .int .u8 (y 3), .int .u8 (y 4), .int .u8 (y 5), .int .u8 (y 6), .int .u8 (y 7), .int .u8 (y 8), .int .u8 (y 9), .int .u8 (y 10), .int .u8 (y 11), .int .u8 (y 12), .int .u8 (y 13), .int .u8 (y 14), .int .u8 (y 15), .int .u8 (y 16), .int .u8 (y 17), .int .u8 (y 18), .int .u8 (y 19)], .int .i64 0]) ∧ Below W.heap.size W w')
    (rd : ∀ (W : World) (A : Option Addr) (c : Nat), TabQ W → Kd.C (Kd.slice 5 (Kd.int .u8)) W A 1 (List.replicate 1 ([] : List Int)) → Calls Tryd.prog 35 #[.slice A 1 c] W fun e w' => e = .returned (.tuple #[.agg #[.int .u8 (z 0), .int .u8 (z 1), .int .u8 (z 2), .int .u8 (z 3), .int .u8 (z 4), .int .u8 (z 5), .int .u8 (z 6), .int .u8 (z 7), .int .u8 (z 8), .int .u8 (z 9), .int .u8 (z 10), .int .u8 (z 11), .int .u8 (z 12), .int .u8 (z 13), .int .u8 (z 14), .int .u8 (z 15), .int .u8 (z 16), .int .u8 (z 17), .int .u8 (z 18), .int .u8 (z 19)], .int .i64 0]) ∧ Below W.heap.size W w')
    (vd : ∀ (W : World), TabQ W → Calls Tryd.prog 38 #[.agg #[.int .u8 (y 0), .int .u8 (y 1), .int .u8 (y 2), .int .u8 (y 3), .int .u8 (y 4), .int .u8 (y 5), .int .u8 (y 6), .int .u8 (y 7), .int .u8 (y 8), .int .u8 (y 9), .int .u8 (y 10), .int .u8 (y 11), .int .u8 (y 12), .int .u8 (y 13), .int .u8 (y 14), .int .u8 (y 15), .int .u8 (y 16), .int .u8 (y 17), .int .u8 (y 18), .int .u8 (y 19)], .int .i64 1, .int .i64 0, .slice none 0 0, .slice none 0 0] W fun e w' => e = .returned (.tuple #[.bool q, .int .i64 0]) ∧ Below W.heap.size W w')
    (ve : ∀ (W : World), TabQ W → Calls Tryd.prog 38 #[.agg #[.int .u8 (z 0), .int .u8 (z 1), .int .u8 (z 2), .int .u8 (z 3), .int .u8 (z 4), .int .u8 (z 5), .int .u8 (z 6), .int .u8 (z 7), .int .u8 (z 8), .int .u8 (z 9), .int .u8 (z 10), .int .u8 (z 11), .int .u8 (z 12), .int .u8 (z 13), .int .u8 (z 14), .int .u8 (z 15), .int .u8 (z 16), .int .u8 (z 17), .int .u8 (z 18), .int .u8 (z 19)], .int .i64 1, .int .i64 0, .slice none 0 0, .slice none 0 0] W fun e w' => e = .returned (.tuple #[.bool true, .int .i64 0]) ∧ Below W.heap.size W w') :
    Calls Tryd.prog 20 #[] w fun e w' => e = .returned (.bool true) ∧ Below w.heap.size w w' := by
  have HhT := Aside0.mk hT
  have Hhal := Aside0.mk hal
  have Hst1 := Aside0.mk st1
  have Hst2 := Aside0.mk st2
  have Hst3 := Aside0.mk st3
  have Hst4 := Aside0.mk st4
  have Hst5 := Aside0.mk st5
  have Hst6 := Aside0.mk st6
  have Hst7 := Aside0.mk st7
  have Hst8 := Aside0.mk st8
  have Hsa := Aside0.mk sa
  have Hsb := Aside0.mk sb
  have Hsc := Aside0.mk sc
  have Hsd := Aside0.mk sd
  have Hse := Aside0.mk se
  have Hsf := Aside0.mk sf
  have Hsg := Aside0.mk sg
  have Hlf := Aside0.mk lf
  have Hra := Aside0.mk ra
  have Hrb := Aside0.mk rb
  have Hpa := Aside0.mk pa
  have Hpb := Aside0.mk pb
  have Hpc := Aside0.mk pc
  have Hpd := Aside0.mk pd
  have Hua := Aside0.mk ua
  have Hub := Aside0.mk ub
  have Huc := Aside0.mk uc
  have Hud := Aside0.mk ud
  have Hva := Aside0.mk va
  have Hvb := Aside0.mk vb
  have Hvc := Aside0.mk vc
  have Hrc := Aside0.mk rc
  have Hrd := Aside0.mk rd
  have Hvd := Aside0.mk vd
  have Hve := Aside0.mk ve
  have hqq := hq
  have hq7 := fun (k : Nat) (W : World) => eqA23 k W 7 7 0 0 0 0 0 0 0 0 0 0 0 0 0 0 0 0 0 0 0 0 0 0 0 0 0 0 0 0 0 0 0 0 0 0 0 0 0 0
  simp only [beq_self_eq_true, Bool.and_self] at hq7
  clear hT hal hq st1 st2 st3 st4 st5 st6 st7 st8 sa sb sc sd se sf sg lf ra rb pa pb pc pd ua ub uc ud va vb vc rc rd vd ve
  go_enter Tryd.func20, Tryd.ntmps20
  dsimp only [List.append]
  go_wp2_with (first | ((with_reducible refine gate_dst (N := 58) rfl ?_); refine lit_event ?hg (N := 58) ?hd (cs := #[.int .i64 0, .int .i64 1, .int .i64 2, .int .i64 2, .int .i64 3, .int .i64 3, .int .i64 3, .int .i64 3]) (t := 3) (n := 8) ?hr ?_; (case hd => rfl); (case hg => rfl); (case hr => first | (go_simp; done) | (go_simp; rfl)); intro g1 hgg1 w2 hhg1 hbg1; have H5 := Aside0.mk hhg1; have G3 : w.heap.size ≤ g1 := Nat.le_of_eq hgg1.symm; have B4 := Aside0.mk (hbg1); clear hgg1 hhg1 hbg1))
  go_loopg [1, 3] 8 (fun m v1 v3 w1 => ∃ (k : Nat), v1 = .bool true ∧ v3 = .int .i64 (k : Int) ∧ Aside0 (k + m = 9 ∧ 1 ≤ k) ∧ Aside0 (w1.heap[g1]? = some (.cells #[.int .i64 0, .int .i64 1, .int .i64 2, .int .i64 2, .int .i64 3, .int .i64 3, .int .i64 3, .int .i64 3] 3 (0, 0))) ∧ Aside0 (Below w.heap.size w w1))
  case atStart => exact ⟨1, rfl, rfl, ⟨by omega⟩, H5, B4⟩
  case round =>
    clear H5 B4
    obtain ⟨k, rfl, rfl, HK, HB, BB⟩ := hrel
    have hc : k = 1 ∨ k = 2 ∨ k = 3 ∨ k = 4 ∨ k = 5 ∨ k = 6 ∨ k = 7 ∨ k = 8 ∨ k = 9 := by have := HK.out; omega
    rcases hc with rfl | rfl | rfl | rfl | rfl | rfl | rfl | rfl | rfl
    · obtain ⟨go, rfl⟩ : ∃ j, gk = j + 1 := ⟨gk - 1, by have := HK.out; omega⟩
      go_wp2_with fail
      refine (Hst1.out wr).mono ?_
      rintro e w101 ⟨rfl, hb_⟩
      have B102 := Aside0.mk (below_step BB.out hb_)
      have H103 := Aside0.mk (blk_below HB.out hb_)
      clear hb_ BB HB
      have c0 := (blk_cell (i := 0) H103.out).trans (show _ = some (Value.int .i64 0) from rfl)
      go_wp2_with fail
      go_roundg go
      case measure => have := HK.out; omega
      case rel => exact ⟨2, rfl, rfl, ⟨by have := HK.out; omega⟩, H103, B102⟩
    · obtain ⟨go, rfl⟩ : ∃ j, gk = j + 1 := ⟨gk - 1, by have := HK.out; omega⟩
      go_wp2_with fail
      refine (Hst2.out wr).mono ?_
      rintro e w201 ⟨rfl, hb_⟩
      have B202 := Aside0.mk (below_step BB.out hb_)
      have H203 := Aside0.mk (blk_below HB.out hb_)
      clear hb_ BB HB
      have c0 := (blk_cell (i := 1) H203.out).trans (show _ = some (Value.int .i64 1) from rfl)
      go_wp2_with fail
      go_roundg go
      case measure => have := HK.out; omega
      case rel => exact ⟨3, rfl, rfl, ⟨by have := HK.out; omega⟩, H203, B202⟩
    · obtain ⟨go, rfl⟩ : ∃ j, gk = j + 1 := ⟨gk - 1, by have := HK.out; omega⟩
      go_wp2_with fail
      refine (Hst3.out wr).mono ?_
      rintro e w301 ⟨rfl, hb_⟩
      have B302 := Aside0.mk (below_step BB.out hb_)
      have H303 := Aside0.mk (blk_below HB.out hb_)
      clear hb_ BB HB
      have c0 := (blk_cell (i := 2) H303.out).trans (show _ = some (Value.int .i64 2) from rfl)
      go_wp2_with fail
      go_roundg go
      case measure => have := HK.out; omega
      case rel => exact ⟨4, rfl, rfl, ⟨by have := HK.out; omega⟩, H303, B302⟩
    · obtain ⟨go, rfl⟩ : ∃ j, gk = j + 1 := ⟨gk - 1, by have := HK.out; omega⟩
      go_wp2_with fail
      refine (Hst4.out wr).mono ?_
      rintro e w401 ⟨rfl, hb_⟩
      have B402 := Aside0.mk (below_step BB.out hb_)
      have H403 := Aside0.mk (blk_below HB.out hb_)
      clear hb_ BB HB
      have c0 := (blk_cell (i := 3) H403.out).trans (show _ = some (Value.int .i64 2) from rfl)
      go_wp2_with fail
      go_roundg go
      case measure => have := HK.out; omega
      case rel => exact ⟨5, rfl, rfl, ⟨by have := HK.out; omega⟩, H403, B402⟩
    · obtain ⟨go, rfl⟩ : ∃ j, gk = j + 1 := ⟨gk - 1, by have := HK.out; omega⟩
      go_wp2_with fail
      refine (Hst5.out wr).mono ?_
      rintro e w501 ⟨rfl, hb_⟩
      have B502 := Aside0.mk (below_step BB.out hb_)
      have H503 := Aside0.mk (blk_below HB.out hb_)
      clear hb_ BB HB
      have c0 := (blk_cell (i := 4) H503.out).trans (show _ = some (Value.int .i64 3) from rfl)
      go_wp2_with fail
      go_roundg go
      case measure => have := HK.out; omega
      case rel => exact ⟨6, rfl, rfl, ⟨by have := HK.out; omega⟩, H503, B502⟩
    · obtain ⟨go, rfl⟩ : ∃ j, gk = j + 1 := ⟨gk - 1, by have := HK.out; omega⟩
      go_wp2_with fail
      refine (Hst6.out wr).mono ?_
      rintro e w601 ⟨rfl, hb_⟩
      have B602 := Aside0.mk (below_step BB.out hb_)
      have H603 := Aside0.mk (blk_below HB.out hb_)
      clear hb_ BB HB
      have c0 := (blk_cell (i := 5) H603.out).trans (show _ = some (Value.int .i64 3) from rfl)
      go_wp2_with fail
      go_roundg go
      case measure => have := HK.out; omega
      case rel => exact ⟨7, rfl, rfl, ⟨by have := HK.out; omega⟩, H603, B602⟩
    · obtain ⟨go, rfl⟩ : ∃ j, gk = j + 1 := ⟨gk - 1, by have := HK.out; omega⟩
      go_wp2_with fail
      refine (Hst7.out wr).mono ?_
      rintro e w701 ⟨rfl, hb_⟩
      have B702 := Aside0.mk (below_step BB.out hb_)
      have H703 := Aside0.mk (blk_below HB.out hb_)
      clear hb_ BB HB
      have c0 := (blk_cell (i := 6) H703.out).trans (show _ = some (Value.int .i64 3) from rfl)
      go_wp2_with fail
      go_roundg go
      case measure => have := HK.out; omega
      case rel => exact ⟨8, rfl, rfl, ⟨by have := HK.out; omega⟩, H703, B702⟩
    · obtain ⟨go, rfl⟩ : ∃ j, gk = j + 1 := ⟨gk - 1, by have := HK.out; omega⟩
      go_wp2_with fail
      refine (Hst8.out wr).mono ?_
      rintro e w801 ⟨rfl, hb_⟩
      have B802 := Aside0.mk (below_step BB.out hb_)
      have H803 := Aside0.mk (blk_below HB.out hb_)
      clear hb_ BB HB
      have c0 := (blk_cell (i := 7) H803.out).trans (show _ = some (Value.int .i64 3) from rfl)
      go_wp2_with fail
      go_roundg go
      case measure => have := HK.out; omega
      case rel => exact ⟨9, rfl, rfl, ⟨by have := HK.out; omega⟩, H803, B802⟩
    · clear HK HB
      have h0 := True.intro
      go_wp2_with fail
      refine (Hsa.out wr).mono ?_
      rintro e w2001 ⟨rfl, hb_⟩
      have B2002 := Aside0.mk (below_step BB.out hb_)
      clear hb_ BB
      go_wp2_with fail
      refine (Hsb.out w2001).mono ?_
      rintro e w2003 ⟨rfl, hb_⟩
      have B2004 := Aside0.mk (below_step B2002.out hb_)
      clear hb_ B2002
      go_wp2_with fail
      refine (Hsc.out w2003).mono ?_
      rintro e w2005 ⟨rfl, hb_⟩
      have B2006 := Aside0.mk (below_step B2004.out hb_)
      clear hb_ B2004
      go_wp2_with fail
      refine (Hsd.out w2005).mono ?_
      rintro e w2007 ⟨rfl, hb_⟩
      have B2008 := Aside0.mk (below_step B2006.out hb_)
      clear hb_ B2006
      go_wp2_with fail
      refine (Hse.out w2007).mono ?_
      rintro e w2009 ⟨rfl, hb_⟩
      have B2010 := Aside0.mk (below_step B2008.out hb_)
      clear hb_ B2008
      go_wp2_with fail
      refine (Hsf.out w2009).mono ?_
      rintro e w2011 ⟨rfl, hb_⟩
      have B2012 := Aside0.mk (below_step B2010.out hb_)
      clear hb_ B2010
      go_wp2_with fail
      refine (Hsg.out w2011).mono ?_
      rintro e w2013 ⟨rfl, hb_⟩
      have B2014 := Aside0.mk (below_step B2012.out hb_)
      clear hb_ B2012
      go_wp2_with (first | ((with_reducible refine gate_dst (N := 111) rfl ?_); refine Kd.R_make (Kd.int .u8) (w0 := w2013) _ 5 rfl (N := 111) rfl 26 _ _ rfl 10001 rfl rfl Tryd.underlying26 (.int .u8 0) 1 info5p rfl (by decide) (by decide) (0 : Int) (ok := fun _ => True) (okp := fun _ => True) rfl (fun _ h => h) trivial (by decide) (by decide) (Below.refl _ _) (Nat.le_refl _) ?_; intro v_ w2015 hO_ hb_ hg_ _; clear hg_; obtain ⟨ga, c_ga, rfl, hle_, hC_⟩ := row_formK (n := 10001) hO_ List.length_replicate (by decide); have B2016 := Aside0.mk (below_step B2014.out hb_); have R2017 := Aside0.mk (show Kd.C (Kd.int .u8) w2015 (some ⟨ga, 0, none⟩) 10001 (List.replicate 10001 (0 : Int)) from hC_); have L2018 := Aside0.mk hle_; clear hO_ hb_ hle_ hC_ B2014))
      refine (Hlf.out w2015 (some ⟨ga, 0, none⟩) c_ga).mono ?_
      rintro e w2019 ⟨rfl, hb_⟩
      have B2020 := Aside0.mk (below_step B2016.out hb_)
      have B2021 := Aside0.mk (hb_)
      clear hb_ B2016
      go_wp2_with (first | ((with_reducible refine gate_dst (N := 20) rfl ?_); refine box_event ?hg (N := 20) ?hd (cs := #[.int .u8 0, .int .u8 0, .int .u8 0, .int .u8 0, .int .u8 0, .int .u8 0, .int .u8 0, .int .u8 0, .int .u8 0, .int .u8 0, .int .u8 0, .int .u8 0, .int .u8 0, .int .u8 0, .int .u8 0, .int .u8 0, .int .u8 0, .int .u8 0, .int .u8 0, .int .u8 0]) (t := 23) ?hr ?_; (case hd => rfl); (case hg => rfl); (case hr => first | (go_simp; done) | (go_simp; rfl)); intro g2022 hgg2022 w2023 hhg2022 hbg2022; have H2026 := Aside0.mk hhg2022; have G2024 : w.heap.size ≤ g2022 := Nat.le_trans B2020.out.size (Nat.le_of_eq hgg2022.symm); have B2025 := Aside0.mk (below_step B2020.out hbg2022); clear hgg2022 hhg2022 hbg2022 B2020) | ((with_reducible refine gate_store (t := 23) (p := _) rfl ?_); refine storeN_event (T := 23) rfl rfl rfl rfl rfl (storeVar_blk H2026.out 23 0 [.int .u8 0, .int .u8 0, .int .u8 0, .int .u8 0, .int .u8 0, .int .u8 0, .int .u8 0, .int .u8 0, .int .u8 0, .int .u8 0, .int .u8 0, .int .u8 0, .int .u8 0, .int .u8 0, .int .u8 0, .int .u8 0, .int .u8 0, .int .u8 0, .int .u8 0, .int .u8 0] (by kernel_rfl) rfl (by simp)) ?_; have H2028 := Aside0.mk (show (World.setCells w2023 g2022 0 [.int .u8 0, .int .u8 0, .int .u8 0, .int .u8 0, .int .u8 0, .int .u8 0, .int .u8 0, .int .u8 0, .int .u8 0, .int .u8 0, .int .u8 0, .int .u8 0, .int .u8 0, .int .u8 0, .int .u8 0, .int .u8 0, .int .u8 0, .int .u8 0, .int .u8 0, .int .u8 0]).heap[g2022]? = some (.cells #[.int .u8 0, .int .u8 0, .int .u8 0, .int .u8 0, .int .u8 0, .int .u8 0, .int .u8 0, .int .u8 0, .int .u8 0, .int .u8 0, .int .u8 0, .int .u8 0, .int .u8 0, .int .u8 0, .int .u8 0, .int .u8 0, .int .u8 0, .int .u8 0, .int .u8 0, .int .u8 0] 23 (0, 0)) from blk_setCells [] [.int .u8 0, .int .u8 0, .int .u8 0, .int .u8 0, .int .u8 0, .int .u8 0, .int .u8 0, .int .u8 0, .int .u8 0, .int .u8 0, .int .u8 0, .int .u8 0, .int .u8 0, .int .u8 0, .int .u8 0, .int .u8 0, .int .u8 0, .int .u8 0, .int .u8 0, .int .u8 0] [.int .u8 0, .int .u8 0, .int .u8 0, .int .u8 0, .int .u8 0, .int .u8 0, .int .u8 0, .int .u8 0, .int .u8 0, .int .u8 0, .int .u8 0, .int .u8 0, .int .u8 0, .int .u8 0, .int .u8 0, .int .u8 0, .int .u8 0, .int .u8 0, .int .u8 0, .int .u8 0] [] w2023 rfl H2026.out); have B2029 := Aside0.mk (below_setCells G2024 [.int .u8 0, .int .u8 0, .int .u8 0, .int .u8 0, .int .u8 0, .int .u8 0, .int .u8 0, .int .u8 0, .int .u8 0, .int .u8 0, .int .u8 0, .int .u8 0, .int .u8 0, .int .u8 0, .int .u8 0, .int .u8 0, .int .u8 0, .int .u8 0, .int .u8 0, .int .u8 0] 0 w2023 B2025.out); clear H2026 B2025; generalize World.setCells w2023 g2022 0 [.int .u8 0, .int .u8 0, .int .u8 0, .int .u8 0, .int .u8 0, .int .u8 0, .int .u8 0, .int .u8 0, .int .u8 0, .int .u8 0, .int .u8 0, .int .u8 0, .int .u8 0, .int .u8 0, .int .u8 0, .int .u8 0, .int .u8 0, .int .u8 0, .int .u8 0, .int .u8 0] = w2027 at H2028 B2029 ⊢) | ((with_reducible refine gate_dst (N := 116) rfl ?_); refine Kd.R_make (Kd.slice 5 (Kd.int .u8)) (w0 := w2027) _ 26 rfl (N := 116) rfl 51 _ _ rfl 601 rfl rfl Tryd.underlying51 (.slice none 0 0) 24 (by kernel_rfl) rfl (by decide) (by decide) ([] : List Int) (ok := fun _ => True) (okp := fun _ => True) ⟨_, rfl, Kd.R_nil _ _ _ _ _⟩ (fun _ h => h) trivial (by decide) (by decide) (Below.refl _ _) (Nat.le_refl _) ?_; intro v_ w2030 hO_ hb_ hg_ _; clear hg_; obtain ⟨gb, c_gb, rfl, hle_, hC_⟩ := row_formK (n := 601) hO_ List.length_replicate (by decide); have B2031 := Aside0.mk (below_step B2029.out hb_); have R2032 := Aside0.mk (show Kd.C (Kd.slice 5 (Kd.int .u8)) w2030 (some ⟨gb, 0, none⟩) 601 (List.replicate 601 ([] : List Int)) from hC_); have L2033 := Aside0.mk hle_; clear hO_ hb_ hle_ hC_ B2029))
      refine (Hra.out w2030 (some ⟨gb, 0, none⟩) c_gb).mono ?_
      rintro e w2034 ⟨rfl, hb_⟩
      have B2035 := Aside0.mk (below_step B2031.out hb_)
      have B2036 := Aside0.mk (hb_)
      clear hb_ B2031
      go_wp2_with (first | ((with_reducible refine gate_dst (N := 22) rfl ?_); refine box_event ?hg (N := 22) ?hd (cs := #[.int .u8 0, .int .u8 0, .int .u8 0, .int .u8 0, .int .u8 0, .int .u8 0, .int .u8 0, .int .u8 0, .int .u8 0, .int .u8 0, .int .u8 0, .int .u8 0, .int .u8 0, .int .u8 0, .int .u8 0, .int .u8 0, .int .u8 0, .int .u8 0, .int .u8 0, .int .u8 0]) (t := 23) ?hr ?_; (case hd => rfl); (case hg => rfl); (case hr => first | (go_simp; done) | (go_simp; rfl)); intro g2037 hgg2037 w2038 hhg2037 hbg2037; have H2041 := Aside0.mk hhg2037; have G2039 : w.heap.size ≤ g2037 := Nat.le_trans B2035.out.size (Nat.le_of_eq hgg2037.symm); have B2040 := Aside0.mk (below_step B2035.out hbg2037); clear hgg2037 hhg2037 hbg2037 B2035) | ((with_reducible refine gate_store (t := 23) (p := _) rfl ?_); refine storeN_event (T := 23) rfl rfl rfl rfl rfl (storeVar_blk H2041.out 23 0 [.int .u8 0, .int .u8 0, .int .u8 0, .int .u8 0, .int .u8 0, .int .u8 0, .int .u8 0, .int .u8 0, .int .u8 0, .int .u8 0, .int .u8 0, .int .u8 0, .int .u8 0, .int .u8 0, .int .u8 0, .int .u8 0, .int .u8 0, .int .u8 0, .int .u8 0, .int .u8 0] (by kernel_rfl) rfl (by simp)) ?_; have H2043 := Aside0.mk (show (World.setCells w2038 g2037 0 [.int .u8 0, .int .u8 0, .int .u8 0, .int .u8 0, .int .u8 0, .int .u8 0, .int .u8 0, .int .u8 0, .int .u8 0, .int .u8 0, .int .u8 0, .int .u8 0, .int .u8 0, .int .u8 0, .int .u8 0, .int .u8 0, .int .u8 0, .int .u8 0, .int .u8 0, .int .u8 0]).heap[g2037]? = some (.cells #[.int .u8 0, .int .u8 0, .int .u8 0, .int .u8 0, .int .u8 0, .int .u8 0, .int .u8 0, .int .u8 0, .int .u8 0, .int .u8 0, .int .u8 0, .int .u8 0, .int .u8 0, .int .u8 0, .int .u8 0, .int .u8 0, .int .u8 0, .int .u8 0, .int .u8 0, .int .u8 0] 23 (0, 0)) from blk_setCells [] [.int .u8 0, .int .u8 0, .int .u8 0, .int .u8 0, .int .u8 0, .int .u8 0, .int .u8 0, .int .u8 0, .int .u8 0, .int .u8 0, .int .u8 0, .int .u8 0, .int .u8 0, .int .u8 0, .int .u8 0, .int .u8 0, .int .u8 0, .int .u8 0, .int .u8 0, .int .u8 0] [.int .u8 0, .int .u8 0, .int .u8 0, .int .u8 0, .int .u8 0, .int .u8 0, .int .u8 0, .int .u8 0, .int .u8 0, .int .u8 0, .int .u8 0, .int .u8 0, .int .u8 0, .int .u8 0, .int .u8 0, .int .u8 0, .int .u8 0, .int .u8 0, .int .u8 0, .int .u8 0] [] w2038 rfl H2041.out); have B2044 := Aside0.mk (below_setCells G2039 [.int .u8 0, .int .u8 0, .int .u8 0, .int .u8 0, .int .u8 0, .int .u8 0, .int .u8 0, .int .u8 0, .int .u8 0, .int .u8 0, .int .u8 0, .int .u8 0, .int .u8 0, .int .u8 0, .int .u8 0, .int .u8 0, .int .u8 0, .int .u8 0, .int .u8 0, .int .u8 0] 0 w2038 B2040.out); clear H2041 B2040; generalize World.setCells w2038 g2037 0 [.int .u8 0, .int .u8 0, .int .u8 0, .int .u8 0, .int .u8 0, .int .u8 0, .int .u8 0, .int .u8 0, .int .u8 0, .int .u8 0, .int .u8 0, .int .u8 0, .int .u8 0, .int .u8 0, .int .u8 0, .int .u8 0, .int .u8 0, .int .u8 0, .int .u8 0, .int .u8 0] = w2042 at H2043 B2044 ⊢) | ((with_reducible refine gate_dst (N := 121) rfl ?_); refine Kd.R_make (Kd.int .u8) (w0 := w2042) _ 5 rfl (N := 121) rfl 26 _ _ rfl 10001 rfl rfl Tryd.underlying26 (.int .u8 0) 1 info5p rfl (by decide) (by decide) (0 : Int) (ok := fun _ => True) (okp := fun _ => True) rfl (fun _ h => h) trivial (by decide) (by decide) (Below.refl _ _) (Nat.le_refl _) ?_; intro v_ w2045 hO_ hb_ hg_ _; clear hg_; obtain ⟨gc, c_gc, rfl, hle_, hC_⟩ := row_formK (n := 10001) hO_ List.length_replicate (by decide); have B2046 := Aside0.mk (below_step B2044.out hb_); have R2047 := Aside0.mk (show Kd.C (Kd.int .u8) w2045 (some ⟨gc, 0, none⟩) 10001 (List.replicate 10001 (0 : Int)) from hC_); have L2048 := Aside0.mk hle_; clear hO_ hb_ hle_ hC_ B2044) | ((with_reducible refine gate_dst (N := 122) rfl ?_); refine lit_event ?hg (N := 122) ?hd (cs := #[.slice none 0 0, .slice (some ⟨gc, 0, none⟩) 10001 c_gc]) (t := 26) (n := 2) ?hr ?_; (case hd => rfl); (case hg => rfl); (case hr => first | (go_simp; done) | (go_simp; rfl)); intro g2049 hgg2049 w2050 hhg2049 hbg2049; have H2055 := Aside0.mk hhg2049; have G2051 : w.heap.size ≤ g2049 := Nat.le_trans B2046.out.size (Nat.le_of_eq hgg2049.symm); have G2052 : w2045.heap.size ≤ g2049 := Nat.le_of_eq hgg2049.symm; have B2053 := Aside0.mk (below_step B2046.out hbg2049); have B2054 := Aside0.mk (hbg2049); clear hgg2049 hhg2049 hbg2049 B2046))
      refine (Hrb.out w2050 (some ⟨g2049, 0, none⟩) 2 (rows2n (l := []) (p := List.replicate 10001 (0 : Int)) rfl List.length_replicate H2055.out (Kd.R_reads' (Kd.R_nil (Kd.int .u8) 5 _ 0 (fun _ => True))).2.2 (Nat.le_refl 0) (Kd.C_below R2047.out B2054.out) L2048.out)).mono ?_
      rintro e w2056 ⟨rfl, hb_⟩
      have B2057 := Aside0.mk (below_step B2053.out hb_)
      have B2058 := Aside0.mk (below_step B2054.out hb_)
      have H2059 := Aside0.mk (blk_below H2055.out hb_)
      clear hb_ B2053 B2054 H2055
      go_wp2_with (first | ((with_reducible refine gate_dst (N := 24) rfl ?_); refine box_event ?hg (N := 24) ?hd (cs := #[.int .u8 0, .int .u8 0, .int .u8 0, .int .u8 0, .int .u8 0, .int .u8 0, .int .u8 0, .int .u8 0, .int .u8 0, .int .u8 0, .int .u8 0, .int .u8 0, .int .u8 0, .int .u8 0, .int .u8 0, .int .u8 0, .int .u8 0, .int .u8 0, .int .u8 0, .int .u8 0]) (t := 23) ?hr ?_; (case hd => rfl); (case hg => rfl); (case hr => first | (go_simp; done) | (go_simp; rfl)); intro g2060 hgg2060 w2061 hhg2060 hbg2060; have H2064 := Aside0.mk hhg2060; have G2062 : w.heap.size ≤ g2060 := Nat.le_trans B2057.out.size (Nat.le_of_eq hgg2060.symm); have B2063 := Aside0.mk (below_step B2057.out hbg2060); clear hgg2060 hhg2060 hbg2060 B2057) | ((with_reducible refine gate_store (t := 23) (p := _) rfl ?_); refine storeN_event (T := 23) rfl rfl rfl rfl rfl (storeVar_blk H2064.out 23 0 [.int .u8 0, .int .u8 0, .int .u8 0, .int .u8 0, .int .u8 0, .int .u8 0, .int .u8 0, .int .u8 0, .int .u8 0, .int .u8 0, .int .u8 0, .int .u8 0, .int .u8 0, .int .u8 0, .int .u8 0, .int .u8 0, .int .u8 0, .int .u8 0, .int .u8 0, .int .u8 0] (by kernel_rfl) rfl (by simp)) ?_; have H2066 := Aside0.mk (show (World.setCells w2061 g2060 0 [.int .u8 0, .int .u8 0, .int .u8 0, .int .u8 0, .int .u8 0, .int .u8 0, .int .u8 0, .int .u8 0, .int .u8 0, .int .u8 0, .int .u8 0, .int .u8 0, .int .u8 0, .int .u8 0, .int .u8 0, .int .u8 0, .int .u8 0, .int .u8 0, .int .u8 0, .int .u8 0]).heap[g2060]? = some (.cells #[.int .u8 0, .int .u8 0, .int .u8 0, .int .u8 0, .int .u8 0, .int .u8 0, .int .u8 0, .int .u8 0, .int .u8 0, .int .u8 0, .int .u8 0, .int .u8 0, .int .u8 0, .int .u8 0, .int .u8 0, .int .u8 0, .int .u8 0, .int .u8 0, .int .u8 0, .int .u8 0] 23 (0, 0)) from blk_setCells [] [.int .u8 0, .int .u8 0, .int .u8 0, .int .u8 0, .int .u8 0, .int .u8 0, .int .u8 0, .int .u8 0, .int .u8 0, .int .u8 0, .int .u8 0, .int .u8 0, .int .u8 0, .int .u8 0, .int .u8 0, .int .u8 0, .int .u8 0, .int .u8 0, .int .u8 0, .int .u8 0] [.int .u8 0, .int .u8 0, .int .u8 0, .int .u8 0, .int .u8 0, .int .u8 0, .int .u8 0, .int .u8 0, .int .u8 0, .int .u8 0, .int .u8 0, .int .u8 0, .int .u8 0, .int .u8 0, .int .u8 0, .int .u8 0, .int .u8 0, .int .u8 0, .int .u8 0, .int .u8 0] [] w2061 rfl H2064.out); have B2067 := Aside0.mk (below_setCells G2062 [.int .u8 0, .int .u8 0, .int .u8 0, .int .u8 0, .int .u8 0, .int .u8 0, .int .u8 0, .int .u8 0, .int .u8 0, .int .u8 0, .int .u8 0, .int .u8 0, .int .u8 0, .int .u8 0, .int .u8 0, .int .u8 0, .int .u8 0, .int .u8 0, .int .u8 0, .int .u8 0] 0 w2061 B2063.out); clear H2064 B2063; generalize World.setCells w2061 g2060 0 [.int .u8 0, .int .u8 0, .int .u8 0, .int .u8 0, .int .u8 0, .int .u8 0, .int .u8 0, .int .u8 0, .int .u8 0, .int .u8 0, .int .u8 0, .int .u8 0, .int .u8 0, .int .u8 0, .int .u8 0, .int .u8 0, .int .u8 0, .int .u8 0, .int .u8 0, .int .u8 0] = w2065 at H2066 B2067 ⊢) | ((with_reducible refine gate_dst (N := 127) rfl ?_); refine Kd.R_make (Kd.slice 5 (Kd.int .u8)) (w0 := w2065) _ 26 rfl (N := 127) rfl 51 _ _ rfl 601 rfl rfl Tryd.underlying51 (.slice none 0 0) 24 (by kernel_rfl) rfl (by decide) (by decide) ([] : List Int) (ok := fun _ => True) (okp := fun _ => True) ⟨_, rfl, Kd.R_nil _ _ _ _ _⟩ (fun _ h => h) trivial (by decide) (by decide) (Below.refl _ _) (Nat.le_refl _) ?_; intro v_ w2068 hO_ hb_ hg_ _; clear hg_; obtain ⟨gd, c_gd, rfl, hle_, hC_⟩ := row_formK (n := 601) hO_ List.length_replicate (by decide); have B2069 := Aside0.mk (below_step B2067.out hb_); have R2070 := Aside0.mk (show Kd.C (Kd.slice 5 (Kd.int .u8)) w2068 (some ⟨gd, 0, none⟩) 601 (List.replicate 601 ([] : List Int)) from hC_); have L2071 := Aside0.mk hle_; clear hO_ hb_ hle_ hC_ B2067))
      refine (Hpa.out w2068 (some ⟨gd, 0, none⟩) c_gd).mono ?_
      rintro e w2072 ⟨rfl, hb_⟩
      have B2073 := Aside0.mk (below_step B2069.out hb_)
      have B2074 := Aside0.mk (hb_)
      clear hb_ B2069
      go_wp2_with fail
      refine (Hpb.out w2072 (HhT.out.at B2073.out)).mono ?_
      rintro e w2075 ⟨rfl, hb_⟩
      have B2076 := Aside0.mk (below_step B2073.out hb_)
      clear hb_ B2073
      go_wp2_with (first | ((with_reducible refine gate_dst (N := 136) rfl ?_); refine Kd.R_make (Kd.slice 5 (Kd.int .u8)) (w0 := w2075) _ 26 rfl (N := 136) rfl 51 _ _ rfl 2 rfl rfl Tryd.underlying51 (.slice none 0 0) 24 (by kernel_rfl) rfl (by decide) (by decide) ([] : List Int) (ok := fun _ => True) (okp := fun _ => True) ⟨_, rfl, Kd.R_nil _ _ _ _ _⟩ (fun _ h => h) trivial (by decide) (by decide) (Below.refl _ _) (Nat.le_refl _) ?_; intro v_ w2077 hO_ hb_ hg_ _; clear hg_; obtain ⟨ge, c_ge, rfl, hle_, hC_⟩ := row_formK (n := 2) hO_ List.length_replicate (by decide); have B2078 := Aside0.mk (below_step B2076.out hb_); have R2079 := Aside0.mk (show Kd.C (Kd.slice 5 (Kd.int .u8)) w2077 (some ⟨ge, 0, none⟩) 2 (List.replicate 2 ([] : List Int)) from hC_); have L2080 := Aside0.mk hle_; clear hO_ hb_ hle_ hC_ B2076))
      refine (Hpc.out w2077 (some ⟨ge, 0, none⟩) c_ge (HhT.out.at B2078.out) (Kd.C_below R2079.out (Below.refl _ _))).mono ?_
      rintro e w2081 ⟨rfl, hb_⟩
      have B2082 := Aside0.mk (below_step B2078.out hb_)
      have B2083 := Aside0.mk (hb_)
      clear hb_ B2078
      go_wp2_with (first | ((with_reducible refine gate_dst (N := 141) rfl ?_); refine Kd.R_make (Kd.slice 5 (Kd.int .u8)) (w0 := w2081) _ 26 rfl (N := 141) rfl 51 _ _ rfl 1 rfl rfl Tryd.underlying51 (.slice none 0 0) 24 (by kernel_rfl) rfl (by decide) (by decide) ([] : List Int) (ok := fun _ => True) (okp := fun _ => True) ⟨_, rfl, Kd.R_nil _ _ _ _ _⟩ (fun _ h => h) trivial (by decide) (by decide) (Below.refl _ _) (Nat.le_refl _) ?_; intro v_ w2084 hO_ hb_ hg_ _; clear hg_; obtain ⟨gf, c_gf, rfl, hle_, hC_⟩ := row_formK (n := 1) hO_ List.length_replicate (by decide); have B2085 := Aside0.mk (below_step B2082.out hb_); have R2086 := Aside0.mk (show Kd.C (Kd.slice 5 (Kd.int .u8)) w2084 (some ⟨gf, 0, none⟩) 1 (List.replicate 1 ([] : List Int)) from hC_); have L2087 := Aside0.mk hle_; clear hO_ hb_ hle_ hC_ B2082))
      refine (Hpd.out w2084 (some ⟨gf, 0, none⟩) c_gf (HhT.out.at B2085.out) (Kd.C_below R2086.out (Below.refl _ _))).mono ?_
      rintro e w2088 ⟨vp_, rfl, hR_, hb_⟩
      have B2089 := Aside0.mk (below_step B2085.out hb_)
      have B2090 := Aside0.mk (hb_)
      clear hb_ B2085
      obtain ⟨rp, cp, rfl, hle_, hC_⟩ := Kd.R_reads hR_
      clear hle_ hC_ hR_
      rw [show ([] : List Dg).length = 0 from rfl]
      go_wp2_with fail
      refine (Hua.out w2088 (HhT.out.at B2089.out)).mono ?_
      rintro e w2091 ⟨rfl, hb_⟩
      have B2092 := Aside0.mk (below_step B2089.out hb_)
      clear hb_ B2089
      go_wp2_with (first | ((with_reducible refine gate_dst (N := 34) rfl ?_); refine box_event ?hg (N := 34) ?hd (cs := #[.int .u8 0, .int .u8 0, .int .u8 0, .int .u8 0, .int .u8 0, .int .u8 0, .int .u8 0, .int .u8 0, .int .u8 0, .int .u8 0, .int .u8 0, .int .u8 0, .int .u8 0, .int .u8 0, .int .u8 0, .int .u8 0, .int .u8 0, .int .u8 0, .int .u8 0, .int .u8 0]) (t := 23) ?hr ?_; (case hd => rfl); (case hg => rfl); (case hr => first | (go_simp; done) | (go_simp; rfl)); intro g2093 hgg2093 w2094 hhg2093 hbg2093; have H2097 := Aside0.mk hhg2093; have G2095 : w.heap.size ≤ g2093 := Nat.le_trans B2092.out.size (Nat.le_of_eq hgg2093.symm); have B2096 := Aside0.mk (below_step B2092.out hbg2093); clear hgg2093 hhg2093 hbg2093 B2092) | ((with_reducible refine gate_store (t := 23) (p := _) rfl ?_); refine storeN_event (T := 23) rfl rfl rfl rfl rfl (storeVar_blk H2097.out 23 0 [.int .u8 0, .int .u8 0, .int .u8 0, .int .u8 0, .int .u8 0, .int .u8 0, .int .u8 0, .int .u8 0, .int .u8 0, .int .u8 0, .int .u8 0, .int .u8 0, .int .u8 0, .int .u8 0, .int .u8 0, .int .u8 0, .int .u8 0, .int .u8 0, .int .u8 0, .int .u8 0] (by kernel_rfl) rfl (by simp)) ?_; have H2099 := Aside0.mk (show (World.setCells w2094 g2093 0 [.int .u8 0, .int .u8 0, .int .u8 0, .int .u8 0, .int .u8 0, .int .u8 0, .int .u8 0, .int .u8 0, .int .u8 0, .int .u8 0, .int .u8 0, .int .u8 0, .int .u8 0, .int .u8 0, .int .u8 0, .int .u8 0, .int .u8 0, .int .u8 0, .int .u8 0, .int .u8 0]).heap[g2093]? = some (.cells #[.int .u8 0, .int .u8 0, .int .u8 0, .int .u8 0, .int .u8 0, .int .u8 0, .int .u8 0, .int .u8 0, .int .u8 0, .int .u8 0, .int .u8 0, .int .u8 0, .int .u8 0, .int .u8 0, .int .u8 0, .int .u8 0, .int .u8 0, .int .u8 0, .int .u8 0, .int .u8 0] 23 (0, 0)) from blk_setCells [] [.int .u8 0, .int .u8 0, .int .u8 0, .int .u8 0, .int .u8 0, .int .u8 0, .int .u8 0, .int .u8 0, .int .u8 0, .int .u8 0, .int .u8 0, .int .u8 0, .int .u8 0, .int .u8 0, .int .u8 0, .int .u8 0, .int .u8 0, .int .u8 0, .int .u8 0, .int .u8 0] [.int .u8 0, .int .u8 0, .int .u8 0, .int .u8 0, .int .u8 0, .int .u8 0, .int .u8 0, .int .u8 0, .int .u8 0, .int .u8 0, .int .u8 0, .int .u8 0, .int .u8 0, .int .u8 0, .int .u8 0, .int .u8 0, .int .u8 0, .int .u8 0, .int .u8 0, .int .u8 0] [] w2094 rfl H2097.out); have B2100 := Aside0.mk (below_setCells G2095 [.int .u8 0, .int .u8 0, .int .u8 0, .int .u8 0, .int .u8 0, .int .u8 0, .int .u8 0, .int .u8 0, .int .u8 0, .int .u8 0, .int .u8 0, .int .u8 0, .int .u8 0, .int .u8 0, .int .u8 0, .int .u8 0, .int .u8 0, .int .u8 0, .int .u8 0, .int .u8 0] 0 w2094 B2096.out); clear H2097 B2096; generalize World.setCells w2094 g2093 0 [.int .u8 0, .int .u8 0, .int .u8 0, .int .u8 0, .int .u8 0, .int .u8 0, .int .u8 0, .int .u8 0, .int .u8 0, .int .u8 0, .int .u8 0, .int .u8 0, .int .u8 0, .int .u8 0, .int .u8 0, .int .u8 0, .int .u8 0, .int .u8 0, .int .u8 0, .int .u8 0] = w2098 at H2099 B2100 ⊢))
      refine (Hub.out w2098 (HhT.out.at B2100.out)).mono ?_
      rintro e w2101 ⟨rfl, hb_⟩
      have B2102 := Aside0.mk (below_step B2100.out hb_)
      clear hb_ B2100
      go_wp2_with (first | ((with_reducible refine gate_dst (N := 36) rfl ?_); refine box_event ?hg (N := 36) ?hd (cs := #[.int .u8 0, .int .u8 0, .int .u8 0, .int .u8 0, .int .u8 0, .int .u8 0, .int .u8 0, .int .u8 0, .int .u8 0, .int .u8 0, .int .u8 0, .int .u8 0, .int .u8 0, .int .u8 0, .int .u8 0, .int .u8 0, .int .u8 0, .int .u8 0, .int .u8 0, .int .u8 0]) (t := 23) ?hr ?_; (case hd => rfl); (case hg => rfl); (case hr => first | (go_simp; done) | (go_simp; rfl)); intro g2103 hgg2103 w2104 hhg2103 hbg2103; have H2107 := Aside0.mk hhg2103; have G2105 : w.heap.size ≤ g2103 := Nat.le_trans B2102.out.size (Nat.le_of_eq hgg2103.symm); have B2106 := Aside0.mk (below_step B2102.out hbg2103); clear hgg2103 hhg2103 hbg2103 B2102) | ((with_reducible refine gate_store (t := 23) (p := _) rfl ?_); refine storeN_event (T := 23) rfl rfl rfl rfl rfl (storeVar_blk H2107.out 23 0 [.int .u8 0, .int .u8 0, .int .u8 0, .int .u8 0, .int .u8 0, .int .u8 0, .int .u8 0, .int .u8 0, .int .u8 0, .int .u8 0, .int .u8 0, .int .u8 0, .int .u8 0, .int .u8 0, .int .u8 0, .int .u8 0, .int .u8 0, .int .u8 0, .int .u8 0, .int .u8 0] (by kernel_rfl) rfl (by simp)) ?_; have H2109 := Aside0.mk (show (World.setCells w2104 g2103 0 [.int .u8 0, .int .u8 0, .int .u8 0, .int .u8 0, .int .u8 0, .int .u8 0, .int .u8 0, .int .u8 0, .int .u8 0, .int .u8 0, .int .u8 0, .int .u8 0, .int .u8 0, .int .u8 0, .int .u8 0, .int .u8 0, .int .u8 0, .int .u8 0, .int .u8 0, .int .u8 0]).heap[g2103]? = some (.cells #[.int .u8 0, .int .u8 0, .int .u8 0, .int .u8 0, .int .u8 0, .int .u8 0, .int .u8 0, .int .u8 0, .int .u8 0, .int .u8 0, .int .u8 0, .int .u8 0, .int .u8 0, .int .u8 0, .int .u8 0, .int .u8 0, .int .u8 0, .int .u8 0, .int .u8 0, .int .u8 0] 23 (0, 0)) from blk_setCells [] [.int .u8 0, .int .u8 0, .int .u8 0, .int .u8 0, .int .u8 0, .int .u8 0, .int .u8 0, .int .u8 0, .int .u8 0, .int .u8 0, .int .u8 0, .int .u8 0, .int .u8 0, .int .u8 0, .int .u8 0, .int .u8 0, .int .u8 0, .int .u8 0, .int .u8 0, .int .u8 0] [.int .u8 0, .int .u8 0, .int .u8 0, .int .u8 0, .int .u8 0, .int .u8 0, .int .u8 0, .int .u8 0, .int .u8 0, .int .u8 0, .int .u8 0, .int .u8 0, .int .u8 0, .int .u8 0, .int .u8 0, .int .u8 0, .int .u8 0, .int .u8 0, .int .u8 0, .int .u8 0] [] w2104 rfl H2107.out); have B2110 := Aside0.mk (below_setCells G2105 [.int .u8 0, .int .u8 0, .int .u8 0, .int .u8 0, .int .u8 0, .int .u8 0, .int .u8 0, .int .u8 0, .int .u8 0, .int .u8 0, .int .u8 0, .int .u8 0, .int .u8 0, .int .u8 0, .int .u8 0, .int .u8 0, .int .u8 0, .int .u8 0, .int .u8 0, .int .u8 0] 0 w2104 B2106.out); clear H2107 B2106; generalize World.setCells w2104 g2103 0 [.int .u8 0, .int .u8 0, .int .u8 0, .int .u8 0, .int .u8 0, .int .u8 0, .int .u8 0, .int .u8 0, .int .u8 0, .int .u8 0, .int .u8 0, .int .u8 0, .int .u8 0, .int .u8 0, .int .u8 0, .int .u8 0, .int .u8 0, .int .u8 0, .int .u8 0, .int .u8 0] = w2108 at H2109 B2110 ⊢) | ((with_reducible refine gate_dst (N := 157) rfl ?_); refine Kd.R_make kdg (w0 := w2108) _ 23 rfl (N := 157) rfl 55 _ _ rfl 1 rfl rfl Tryd.underlying55 (.agg #[.int .u8 0, .int .u8 0, .int .u8 0, .int .u8 0, .int .u8 0, .int .u8 0, .int .u8 0, .int .u8 0, .int .u8 0, .int .u8 0, .int .u8 0, .int .u8 0, .int .u8 0, .int .u8 0, .int .u8 0, .int .u8 0, .int .u8 0, .int .u8 0, .int .u8 0, .int .u8 0]) 20 info23p rfl (by decide) (by decide) zdg (ok := fun _ => True) (okp := fun _ => True) (dgM _ _ _ zdg) (fun _ h => h) trivial (by decide) (by decide) (Below.refl _ _) (Nat.le_refl _) ?_; intro v_ w2111 hO_ hb_ hg_ _; clear hg_; obtain ⟨gg, c_gg, rfl, hle_, hC_⟩ := row_formK (n := 1) hO_ List.length_replicate (by decide); have B2112 := Aside0.mk (below_step B2110.out hb_); have R2113 := Aside0.mk (show Kd.C kdg w2111 (some ⟨gg, 0, none⟩) 1 (List.replicate 1 zdg) from hC_); have L2114 := Aside0.mk hle_; clear hO_ hb_ hle_ hC_ B2110))
      refine (Huc.out w2111 (some ⟨gg, 0, none⟩) c_gg (HhT.out.at B2112.out)).mono ?_
      rintro e w2115 ⟨rfl, hb_⟩
      have B2116 := Aside0.mk (below_step B2112.out hb_)
      have B2117 := Aside0.mk (hb_)
      clear hb_ B2112
      go_wp2_with (first | ((with_reducible refine gate_dst (N := 38) rfl ?_); refine box_event ?hg (N := 38) ?hd (cs := #[.int .u8 0, .int .u8 0, .int .u8 0, .int .u8 0, .int .u8 0, .int .u8 0, .int .u8 0, .int .u8 0, .int .u8 0, .int .u8 0, .int .u8 0, .int .u8 0, .int .u8 0, .int .u8 0, .int .u8 0, .int .u8 0, .int .u8 0, .int .u8 0, .int .u8 0, .int .u8 0]) (t := 23) ?hr ?_; (case hd => rfl); (case hg => rfl); (case hr => first | (go_simp; done) | (go_simp; rfl)); intro g2118 hgg2118 w2119 hhg2118 hbg2118; have H2122 := Aside0.mk hhg2118; have G2120 : w.heap.size ≤ g2118 := Nat.le_trans B2116.out.size (Nat.le_of_eq hgg2118.symm); have B2121 := Aside0.mk (below_step B2116.out hbg2118); clear hgg2118 hhg2118 hbg2118 B2116) | ((with_reducible refine gate_store (t := 23) (p := _) rfl ?_); refine storeN_event (T := 23) rfl rfl rfl rfl rfl (storeVar_blk H2122.out 23 0 [.int .u8 0, .int .u8 0, .int .u8 0, .int .u8 0, .int .u8 0, .int .u8 0, .int .u8 0, .int .u8 0, .int .u8 0, .int .u8 0, .int .u8 0, .int .u8 0, .int .u8 0, .int .u8 0, .int .u8 0, .int .u8 0, .int .u8 0, .int .u8 0, .int .u8 0, .int .u8 0] (by kernel_rfl) rfl (by simp)) ?_; have H2124 := Aside0.mk (show (World.setCells w2119 g2118 0 [.int .u8 0, .int .u8 0, .int .u8 0, .int .u8 0, .int .u8 0, .int .u8 0, .int .u8 0, .int .u8 0, .int .u8 0, .int .u8 0, .int .u8 0, .int .u8 0, .int .u8 0, .int .u8 0, .int .u8 0, .int .u8 0, .int .u8 0, .int .u8 0, .int .u8 0, .int .u8 0]).heap[g2118]? = some (.cells #[.int .u8 0, .int .u8 0, .int .u8 0, .int .u8 0, .int .u8 0, .int .u8 0, .int .u8 0, .int .u8 0, .int .u8 0, .int .u8 0, .int .u8 0, .int .u8 0, .int .u8 0, .int .u8 0, .int .u8 0, .int .u8 0, .int .u8 0, .int .u8 0, .int .u8 0, .int .u8 0] 23 (0, 0)) from blk_setCells [] [.int .u8 0, .int .u8 0, .int .u8 0, .int .u8 0, .int .u8 0, .int .u8 0, .int .u8 0, .int .u8 0, .int .u8 0, .int .u8 0, .int .u8 0, .int .u8 0, .int .u8 0, .int .u8 0, .int .u8 0, .int .u8 0, .int .u8 0, .int .u8 0, .int .u8 0, .int .u8 0] [.int .u8 0, .int .u8 0, .int .u8 0, .int .u8 0, .int .u8 0, .int .u8 0, .int .u8 0, .int .u8 0, .int .u8 0, .int .u8 0, .int .u8 0, .int .u8 0, .int .u8 0, .int .u8 0, .int .u8 0, .int .u8 0, .int .u8 0, .int .u8 0, .int .u8 0, .int .u8 0] [] w2119 rfl H2122.out); have B2125 := Aside0.mk (below_setCells G2120 [.int .u8 0, .int .u8 0, .int .u8 0, .int .u8 0, .int .u8 0, .int .u8 0, .int .u8 0, .int .u8 0, .int .u8 0, .int .u8 0, .int .u8 0, .int .u8 0, .int .u8 0, .int .u8 0, .int .u8 0, .int .u8 0, .int .u8 0, .int .u8 0, .int .u8 0, .int .u8 0] 0 w2119 B2121.out); clear H2122 B2121; generalize World.setCells w2119 g2118 0 [.int .u8 0, .int .u8 0, .int .u8 0, .int .u8 0, .int .u8 0, .int .u8 0, .int .u8 0, .int .u8 0, .int .u8 0, .int .u8 0, .int .u8 0, .int .u8 0, .int .u8 0, .int .u8 0, .int .u8 0, .int .u8 0, .int .u8 0, .int .u8 0, .int .u8 0, .int .u8 0] = w2123 at H2124 B2125 ⊢))
      refine (Hud.out w2123 (HhT.out.at B2125.out)).mono ?_
      rintro e w2126 ⟨rfl, hb_⟩
      have B2127 := Aside0.mk (below_step B2125.out hb_)
      clear hb_ B2125
      go_wp2_with (first | ((with_reducible refine gate_dst (N := 40) rfl ?_); refine box_event ?hg (N := 40) ?hd (cs := #[.int .u8 0, .int .u8 0, .int .u8 0, .int .u8 0, .int .u8 0, .int .u8 0, .int .u8 0, .int .u8 0, .int .u8 0, .int .u8 0, .int .u8 0, .int .u8 0, .int .u8 0, .int .u8 0, .int .u8 0, .int .u8 0, .int .u8 0, .int .u8 0, .int .u8 0, .int .u8 0]) (t := 23) ?hr ?_; (case hd => rfl); (case hg => rfl); (case hr => first | (go_simp; done) | (go_simp; rfl)); intro g2128 hgg2128 w2129 hhg2128 hbg2128; have H2132 := Aside0.mk hhg2128; have G2130 : w.heap.size ≤ g2128 := Nat.le_trans B2127.out.size (Nat.le_of_eq hgg2128.symm); have B2131 := Aside0.mk (below_step B2127.out hbg2128); clear hgg2128 hhg2128 hbg2128 B2127) | ((with_reducible refine gate_store (t := 23) (p := _) rfl ?_); refine storeN_event (T := 23) rfl rfl rfl rfl rfl (storeVar_blk H2132.out 23 0 [.int .u8 7, .int .u8 0, .int .u8 0, .int .u8 0, .int .u8 0, .int .u8 0, .int .u8 0, .int .u8 0, .int .u8 0, .int .u8 0, .int .u8 0, .int .u8 0, .int .u8 0, .int .u8 0, .int .u8 0, .int .u8 0, .int .u8 0, .int .u8 0, .int .u8 0, .int .u8 0] (by kernel_rfl) rfl (by simp)) ?_; have H2134 := Aside0.mk (show (World.setCells w2129 g2128 0 [.int .u8 7, .int .u8 0, .int .u8 0, .int .u8 0, .int .u8 0, .int .u8 0, .int .u8 0, .int .u8 0, .int .u8 0, .int .u8 0, .int .u8 0, .int .u8 0, .int .u8 0, .int .u8 0, .int .u8 0, .int .u8 0, .int .u8 0, .int .u8 0, .int .u8 0, .int .u8 0]).heap[g2128]? = some (.cells #[.int .u8 7, .int .u8 0, .int .u8 0, .int .u8 0, .int .u8 0, .int .u8 0, .int .u8 0, .int .u8 0, .int .u8 0, .int .u8 0, .int .u8 0, .int .u8 0, .int .u8 0, .int .u8 0, .int .u8 0, .int .u8 0, .int .u8 0, .int .u8 0, .int .u8 0, .int .u8 0] 23 (0, 0)) from blk_setCells [] [.int .u8 7, .int .u8 0, .int .u8 0, .int .u8 0, .int .u8 0, .int .u8 0, .int .u8 0, .int .u8 0, .int .u8 0, .int .u8 0, .int .u8 0, .int .u8 0, .int .u8 0, .int .u8 0, .int .u8 0, .int .u8 0, .int .u8 0, .int .u8 0, .int .u8 0, .int .u8 0] [.int .u8 0, .int .u8 0, .int .u8 0, .int .u8 0, .int .u8 0, .int .u8 0, .int .u8 0, .int .u8 0, .int .u8 0, .int .u8 0, .int .u8 0, .int .u8 0, .int .u8 0, .int .u8 0, .int .u8 0, .int .u8 0, .int .u8 0, .int .u8 0, .int .u8 0, .int .u8 0] [] w2129 rfl H2132.out); have B2135 := Aside0.mk (below_setCells G2130 [.int .u8 7, .int .u8 0, .int .u8 0, .int .u8 0, .int .u8 0, .int .u8 0, .int .u8 0, .int .u8 0, .int .u8 0, .int .u8 0, .int .u8 0, .int .u8 0, .int .u8 0, .int .u8 0, .int .u8 0, .int .u8 0, .int .u8 0, .int .u8 0, .int .u8 0, .int .u8 0] 0 w2129 B2131.out); clear H2132 B2131; generalize World.setCells w2129 g2128 0 [.int .u8 7, .int .u8 0, .int .u8 0, .int .u8 0, .int .u8 0, .int .u8 0, .int .u8 0, .int .u8 0, .int .u8 0, .int .u8 0, .int .u8 0, .int .u8 0, .int .u8 0, .int .u8 0, .int .u8 0, .int .u8 0, .int .u8 0, .int .u8 0, .int .u8 0, .int .u8 0] = w2133 at H2134 B2135 ⊢) | ((with_reducible refine gate_dst (N := 168) rfl ?_); refine Kd.R_make (Kd.int .u8) (w0 := w2133) _ 5 rfl (N := 168) rfl 26 _ _ rfl 10001 rfl rfl Tryd.underlying26 (.int .u8 0) 1 info5p rfl (by decide) (by decide) (0 : Int) (ok := fun _ => True) (okp := fun _ => True) rfl (fun _ h => h) trivial (by decide) (by decide) (Below.refl _ _) (Nat.le_refl _) ?_; intro v_ w2136 hO_ hb_ hg_ _; clear hg_; obtain ⟨gh, c_gh, rfl, hle_, hC_⟩ := row_formK (n := 10001) hO_ List.length_replicate (by decide); have B2137 := Aside0.mk (below_step B2135.out hb_); have H2138 := Aside0.mk (blk_below H2134.out hb_); have R2139 := Aside0.mk (show Kd.C (Kd.int .u8) w2136 (some ⟨gh, 0, none⟩) 10001 (List.replicate 10001 (0 : Int)) from hC_); have L2140 := Aside0.mk hle_; clear hO_ hb_ hle_ hC_ B2135 H2134))
      refine (Hva.out w2136 (some ⟨gh, 0, none⟩) c_gh (HhT.out.at B2137.out)).mono ?_
      rintro e w2141 ⟨rfl, hb_⟩
      have B2142 := Aside0.mk (below_step B2137.out hb_)
      have B2143 := Aside0.mk (hb_)
      have H2144 := Aside0.mk (blk_below H2138.out hb_)
      clear hb_ B2137 H2138
      go_wp2_with fail
      refine (Hvb.out w2141 (HhT.out.at B2142.out)).mono ?_
      rintro e w2145 ⟨rfl, hb_⟩
      have B2146 := Aside0.mk (below_step B2142.out hb_)
      have H2147 := Aside0.mk (blk_below H2144.out hb_)
      clear hb_ B2142 H2144
      go_wp2_with fail
      refine (Hvc.out w2145 (HhT.out.at B2146.out)).mono ?_
      rintro e w2148 ⟨rfl, hb_⟩
      have B2149 := Aside0.mk (below_step B2146.out hb_)
      have H2150 := Aside0.mk (blk_below H2147.out hb_)
      clear hb_ B2146 H2147
      go_wp2_with (first | ((with_reducible refine gate_dst (N := 183) rfl ?_); refine Kd.R_make (Kd.slice 5 (Kd.int .u8)) (w0 := w2148) _ 26 rfl (N := 183) rfl 51 _ _ rfl 600 rfl rfl Tryd.underlying51 (.slice none 0 0) 24 (by kernel_rfl) rfl (by decide) (by decide) ([] : List Int) (ok := fun _ => True) (okp := fun _ => True) ⟨_, rfl, Kd.R_nil _ _ _ _ _⟩ (fun _ h => h) trivial (by decide) (by decide) (Below.refl _ _) (Nat.le_refl _) ?_; intro v_ w2151 hO_ hb_ hg_ _; clear hg_; obtain ⟨gi, c_gi, rfl, hle_, hC_⟩ := row_formK (n := 600) hO_ List.length_replicate (by decide); have B2152 := Aside0.mk (below_step B2149.out hb_); have H2153 := Aside0.mk (blk_below H2150.out hb_); have R2154 := Aside0.mk (show Kd.C (Kd.slice 5 (Kd.int .u8)) w2151 (some ⟨gi, 0, none⟩) 600 (List.replicate 600 ([] : List Int)) from hC_); have L2155 := Aside0.mk hle_; clear hO_ hb_ hle_ hC_ B2149 H2150))
      refine (Hrc.out w2151 (some ⟨gi, 0, none⟩) c_gi (HhT.out.at B2152.out) (Kd.C_below R2154.out (Below.refl _ _))).mono ?_
      rintro e w2156 ⟨rfl, hb_⟩
      have B2157 := Aside0.mk (below_step B2152.out hb_)
      have B2158 := Aside0.mk (hb_)
      have H2159 := Aside0.mk (blk_below H2153.out hb_)
      clear hb_ B2152 H2153
      go_wp2_with (first | ((with_reducible refine gate_dst (N := 48) rfl ?_); refine box_event ?hg (N := 48) ?hd (cs := #[.int .u8 0, .int .u8 0, .int .u8 0, .int .u8 0, .int .u8 0, .int .u8 0, .int .u8 0, .int .u8 0, .int .u8 0, .int .u8 0, .int .u8 0, .int .u8 0, .int .u8 0, .int .u8 0, .int .u8 0, .int .u8 0, .int .u8 0, .int .u8 0, .int .u8 0, .int .u8 0]) (t := 23) ?hr ?_; (case hd => rfl); (case hg => rfl); (case hr => first | (go_simp; done) | (go_simp; rfl)); intro g2160 hgg2160 w2161 hhg2160 hbg2160; have H2166 := Aside0.mk hhg2160; have N2162 : g2128 ≠ g2160 := Nat.ne_of_lt (Nat.lt_of_lt_of_eq (blk_lt H2159.out) hgg2160.symm); have G2163 : w.heap.size ≤ g2160 := Nat.le_trans B2157.out.size (Nat.le_of_eq hgg2160.symm); have B2164 := Aside0.mk (below_step B2157.out hbg2160); have H2165 := Aside0.mk (blk_below H2159.out hbg2160); clear hgg2160 hhg2160 hbg2160 B2157 H2159) | ((with_reducible refine gate_store (t := 23) (p := _) rfl ?_); refine storeN_event (T := 23) rfl rfl rfl rfl rfl (storeVar_blk H2166.out 23 0 [.int .u8 (y 0), .int .u8 (y 1), .int .u8 (y 2), .int .u8 (y 3), .int .u8 (y 4), .int .u8 (y 5), .int .u8 (y 6), .int .u8 (y 7), .int .u8 (y 8), .int .u8 (y 9), .int .u8 (y 10), .int .u8 (y 11), .int .u8 (y 12), .int .u8 (y 13), .int .u8 (y 14), .int .u8 (y 15), .int .u8 (y 16), .int .u8 (y 17), .int .u8 (y 18), .int .u8 (y 19)] (by kernel_rfl) rfl (by simp)) ?_; have H2168 := Aside0.mk (show (World.setCells w2161 g2160 0 [.int .u8 (y 0), .int .u8 (y 1), .int .u8 (y 2), .int .u8 (y 3), .int .u8 (y 4), .int .u8 (y 5), .int .u8 (y 6), .int .u8 (y 7), .int .u8 (y 8), .int .u8 (y 9), .int .u8 (y 10), .int .u8 (y 11), .int .u8 (y 12), .int .u8 (y 13), .int .u8 (y 14), .int .u8 (y 15), .int .u8 (y 16), .int .u8 (y 17), .int .u8 (y 18), .int .u8 (y 19)]).heap[g2160]? = some (.cells #[.int .u8 (y 0), .int .u8 (y 1), .int .u8 (y 2), .int .u8 (y 3), .int .u8 (y 4), .int .u8 (y 5), .int .u8 (y 6), .int .u8 (y 7), .int .u8 (y 8), .int .u8 (y 9), .int .u8 (y 10), .int .u8 (y 11), .int .u8 (y 12), .int .u8 (y 13), .int .u8 (y 14), .int .u8 (y 15), .int .u8 (y 16), .int .u8 (y 17), .int .u8 (y 18), .int .u8 (y 19)] 23 (0, 0)) from blk_setCells [] [.int .u8 (y 0), .int .u8 (y 1), .int .u8 (y 2), .int .u8 (y 3), .int .u8 (y 4), .int .u8 (y 5), .int .u8 (y 6), .int .u8 (y 7), .int .u8 (y 8), .int .u8 (y 9), .int .u8 (y 10), .int .u8 (y 11), .int .u8 (y 12), .int .u8 (y 13), .int .u8 (y 14), .int .u8 (y 15), .int .u8 (y 16), .int .u8 (y 17), .int .u8 (y 18), .int .u8 (y 19)] [.int .u8 0, .int .u8 0, .int .u8 0, .int .u8 0, .int .u8 0, .int .u8 0, .int .u8 0, .int .u8 0, .int .u8 0, .int .u8 0, .int .u8 0, .int .u8 0, .int .u8 0, .int .u8 0, .int .u8 0, .int .u8 0, .int .u8 0, .int .u8 0, .int .u8 0, .int .u8 0] [] w2161 rfl H2166.out); have H2169 := Aside0.mk (far_setCells N2162 [.int .u8 (y 0), .int .u8 (y 1), .int .u8 (y 2), .int .u8 (y 3), .int .u8 (y 4), .int .u8 (y 5), .int .u8 (y 6), .int .u8 (y 7), .int .u8 (y 8), .int .u8 (y 9), .int .u8 (y 10), .int .u8 (y 11), .int .u8 (y 12), .int .u8 (y 13), .int .u8 (y 14), .int .u8 (y 15), .int .u8 (y 16), .int .u8 (y 17), .int .u8 (y 18), .int .u8 (y 19)] 0 w2161 H2165.out); have B2170 := Aside0.mk (below_setCells G2163 [.int .u8 (y 0), .int .u8 (y 1), .int .u8 (y 2), .int .u8 (y 3), .int .u8 (y 4), .int .u8 (y 5), .int .u8 (y 6), .int .u8 (y 7), .int .u8 (y 8), .int .u8 (y 9), .int .u8 (y 10), .int .u8 (y 11), .int .u8 (y 12), .int .u8 (y 13), .int .u8 (y 14), .int .u8 (y 15), .int .u8 (y 16), .int .u8 (y 17), .int .u8 (y 18), .int .u8 (y 19)] 0 w2161 B2164.out); clear H2166 H2165 B2164; generalize World.setCells w2161 g2160 0 [.int .u8 (y 0), .int .u8 (y 1), .int .u8 (y 2), .int .u8 (y 3), .int .u8 (y 4), .int .u8 (y 5), .int .u8 (y 6), .int .u8 (y 7), .int .u8 (y 8), .int .u8 (y 9), .int .u8 (y 10), .int .u8 (y 11), .int .u8 (y 12), .int .u8 (y 13), .int .u8 (y 14), .int .u8 (y 15), .int .u8 (y 16), .int .u8 (y 17), .int .u8 (y 18), .int .u8 (y 19)] = w2167 at H2169 H2168 B2170 ⊢; generalize Value.tuple #[.agg #[.int .u8 (y 0), .int .u8 (y 1), .int .u8 (y 2), .int .u8 (y 3), .int .u8 (y 4), .int .u8 (y 5), .int .u8 (y 6), .int .u8 (y 7), .int .u8 (y 8), .int .u8 (y 9), .int .u8 (y 10), .int .u8 (y 11), .int .u8 (y 12), .int .u8 (y 13), .int .u8 (y 14), .int .u8 (y 15), .int .u8 (y 16), .int .u8 (y 17), .int .u8 (y 18), .int .u8 (y 19)], .int .i64 0] = V2171; generalize Value.agg #[.int .u8 (y 0), .int .u8 (y 1), .int .u8 (y 2), .int .u8 (y 3), .int .u8 (y 4), .int .u8 (y 5), .int .u8 (y 6), .int .u8 (y 7), .int .u8 (y 8), .int .u8 (y 9), .int .u8 (y 10), .int .u8 (y 11), .int .u8 (y 12), .int .u8 (y 13), .int .u8 (y 14), .int .u8 (y 15), .int .u8 (y 16), .int .u8 (y 17), .int .u8 (y 18), .int .u8 (y 19)] = V2172) | ((with_reducible refine gate_dst (N := 188) rfl ?_); refine Kd.R_make (Kd.slice 5 (Kd.int .u8)) (w0 := w2167) _ 26 rfl (N := 188) rfl 51 _ _ rfl 1 rfl rfl Tryd.underlying51 (.slice none 0 0) 24 (by kernel_rfl) rfl (by decide) (by decide) ([] : List Int) (ok := fun _ => True) (okp := fun _ => True) ⟨_, rfl, Kd.R_nil _ _ _ _ _⟩ (fun _ h => h) trivial (by decide) (by decide) (Below.refl _ _) (Nat.le_refl _) ?_; intro v_ w2173 hO_ hb_ hg_ _; clear hg_; obtain ⟨gj, c_gj, rfl, hle_, hC_⟩ := row_formK (n := 1) hO_ List.length_replicate (by decide); have B2174 := Aside0.mk (below_step B2170.out hb_); have H2175 := Aside0.mk (blk_below H2169.out hb_); have H2176 := Aside0.mk (blk_below H2168.out hb_); have R2177 := Aside0.mk (show Kd.C (Kd.slice 5 (Kd.int .u8)) w2173 (some ⟨gj, 0, none⟩) 1 (List.replicate 1 ([] : List Int)) from hC_); have L2178 := Aside0.mk hle_; clear hO_ hb_ hle_ hC_ B2170 H2169 H2168))
      refine (Hrd.out w2173 (some ⟨gj, 0, none⟩) c_gj (HhT.out.at B2174.out) (Kd.C_below R2177.out (Below.refl _ _))).mono ?_
      rintro e w2179 ⟨rfl, hb_⟩
      have B2180 := Aside0.mk (below_step B2174.out hb_)
      have B2181 := Aside0.mk (hb_)
      have H2182 := Aside0.mk (blk_below H2175.out hb_)
      have H2183 := Aside0.mk (blk_below H2176.out hb_)
      clear hb_ B2174 H2175 H2176
      go_wp2_with (first | ((with_reducible refine gate_dst (N := 50) rfl ?_); refine box_event ?hg (N := 50) ?hd (cs := #[.int .u8 0, .int .u8 0, .int .u8 0, .int .u8 0, .int .u8 0, .int .u8 0, .int .u8 0, .int .u8 0, .int .u8 0, .int .u8 0, .int .u8 0, .int .u8 0, .int .u8 0, .int .u8 0, .int .u8 0, .int .u8 0, .int .u8 0, .int .u8 0, .int .u8 0, .int .u8 0]) (t := 23) ?hr ?_; (case hd => rfl); (case hg => rfl); (case hr => first | (go_simp; done) | (go_simp; rfl)); intro g2184 hgg2184 w2185 hhg2184 hbg2184; have H2192 := Aside0.mk hhg2184; have N2186 : g2128 ≠ g2184 := Nat.ne_of_lt (Nat.lt_of_lt_of_eq (blk_lt H2182.out) hgg2184.symm); have N2187 : g2160 ≠ g2184 := Nat.ne_of_lt (Nat.lt_of_lt_of_eq (blk_lt H2183.out) hgg2184.symm); have G2188 : w.heap.size ≤ g2184 := Nat.le_trans B2180.out.size (Nat.le_of_eq hgg2184.symm); have B2189 := Aside0.mk (below_step B2180.out hbg2184); have H2190 := Aside0.mk (blk_below H2182.out hbg2184); have H2191 := Aside0.mk (blk_below H2183.out hbg2184); clear hgg2184 hhg2184 hbg2184 B2180 H2182 H2183) | ((with_reducible refine gate_store (t := 23) (p := _) rfl ?_); refine storeN_event (T := 23) rfl rfl rfl rfl rfl (storeVar_blk H2192.out 23 0 [.int .u8 (z 0), .int .u8 (z 1), .int .u8 (z 2), .int .u8 (z 3), .int .u8 (z 4), .int .u8 (z 5), .int .u8 (z 6), .int .u8 (z 7), .int .u8 (z 8), .int .u8 (z 9), .int .u8 (z 10), .int .u8 (z 11), .int .u8 (z 12), .int .u8 (z 13), .int .u8 (z 14), .int .u8 (z 15), .int .u8 (z 16), .int .u8 (z 17), .int .u8 (z 18), .int .u8 (z 19)] (by kernel_rfl) rfl (by simp)) ?_; have H2194 := Aside0.mk (show (World.setCells w2185 g2184 0 [.int .u8 (z 0), .int .u8 (z 1), .int .u8 (z 2), .int .u8 (z 3), .int .u8 (z 4), .int .u8 (z 5), .int .u8 (z 6), .int .u8 (z 7), .int .u8 (z 8), .int .u8 (z 9), .int .u8 (z 10), .int .u8 (z 11), .int .u8 (z 12), .int .u8 (z 13), .int .u8 (z 14), .int .u8 (z 15), .int .u8 (z 16), .int .u8 (z 17), .int .u8 (z 18), .int .u8 (z 19)]).heap[g2184]? = some (.cells #[.int .u8 (z 0), .int .u8 (z 1), .int .u8 (z 2), .int .u8 (z 3), .int .u8 (z 4), .int .u8 (z 5), .int .u8 (z 6), .int .u8 (z 7), .int .u8 (z 8), .int .u8 (z 9), .int .u8 (z 10), .int .u8 (z 11), .int .u8 (z 12), .int .u8 (z 13), .int .u8 (z 14), .int .u8 (z 15), .int .u8 (z 16), .int .u8 (z 17), .int .u8 (z 18), .int .u8 (z 19)] 23 (0, 0)) from blk_setCells [] [.int .u8 (z 0), .int .u8 (z 1), .int .u8 (z 2), .int .u8 (z 3), .int .u8 (z 4), .int .u8 (z 5), .int .u8 (z 6), .int .u8 (z 7), .int .u8 (z 8), .int .u8 (z 9), .int .u8 (z 10), .int .u8 (z 11), .int .u8 (z 12), .int .u8 (z 13), .int .u8 (z 14), .int .u8 (z 15), .int .u8 (z 16), .int .u8 (z 17), .int .u8 (z 18), .int .u8 (z 19)] [.int .u8 0, .int .u8 0, .int .u8 0, .int .u8 0, .int .u8 0, .int .u8 0, .int .u8 0, .int .u8 0, .int .u8 0, .int .u8 0, .int .u8 0, .int .u8 0, .int .u8 0, .int .u8 0, .int .u8 0, .int .u8 0, .int .u8 0, .int .u8 0, .int .u8 0, .int .u8 0] [] w2185 rfl H2192.out); have H2195 := Aside0.mk (far_setCells N2186 [.int .u8 (z 0), .int .u8 (z 1), .int .u8 (z 2), .int .u8 (z 3), .int .u8 (z 4), .int .u8 (z 5), .int .u8 (z 6), .int .u8 (z 7), .int .u8 (z 8), .int .u8 (z 9), .int .u8 (z 10), .int .u8 (z 11), .int .u8 (z 12), .int .u8 (z 13), .int .u8 (z 14), .int .u8 (z 15), .int .u8 (z 16), .int .u8 (z 17), .int .u8 (z 18), .int .u8 (z 19)] 0 w2185 H2190.out); have H2196 := Aside0.mk (far_setCells N2187 [.int .u8 (z 0), .int .u8 (z 1), .int .u8 (z 2), .int .u8 (z 3), .int .u8 (z 4), .int .u8 (z 5), .int .u8 (z 6), .int .u8 (z 7), .int .u8 (z 8), .int .u8 (z 9), .int .u8 (z 10), .int .u8 (z 11), .int .u8 (z 12), .int .u8 (z 13), .int .u8 (z 14), .int .u8 (z 15), .int .u8 (z 16), .int .u8 (z 17), .int .u8 (z 18), .int .u8 (z 19)] 0 w2185 H2191.out); have B2197 := Aside0.mk (below_setCells G2188 [.int .u8 (z 0), .int .u8 (z 1), .int .u8 (z 2), .int .u8 (z 3), .int .u8 (z 4), .int .u8 (z 5), .int .u8 (z 6), .int .u8 (z 7), .int .u8 (z 8), .int .u8 (z 9), .int .u8 (z 10), .int .u8 (z 11), .int .u8 (z 12), .int .u8 (z 13), .int .u8 (z 14), .int .u8 (z 15), .int .u8 (z 16), .int .u8 (z 17), .int .u8 (z 18), .int .u8 (z 19)] 0 w2185 B2189.out); clear H2192 H2190 H2191 B2189; generalize World.setCells w2185 g2184 0 [.int .u8 (z 0), .int .u8 (z 1), .int .u8 (z 2), .int .u8 (z 3), .int .u8 (z 4), .int .u8 (z 5), .int .u8 (z 6), .int .u8 (z 7), .int .u8 (z 8), .int .u8 (z 9), .int .u8 (z 10), .int .u8 (z 11), .int .u8 (z 12), .int .u8 (z 13), .int .u8 (z 14), .int .u8 (z 15), .int .u8 (z 16), .int .u8 (z 17), .int .u8 (z 18), .int .u8 (z 19)] = w2193 at H2195 H2196 H2194 B2197 ⊢; generalize Value.tuple #[.agg #[.int .u8 (z 0), .int .u8 (z 1), .int .u8 (z 2), .int .u8 (z 3), .int .u8 (z 4), .int .u8 (z 5), .int .u8 (z 6), .int .u8 (z 7), .int .u8 (z 8), .int .u8 (z 9), .int .u8 (z 10), .int .u8 (z 11), .int .u8 (z 12), .int .u8 (z 13), .int .u8 (z 14), .int .u8 (z 15), .int .u8 (z 16), .int .u8 (z 17), .int .u8 (z 18), .int .u8 (z 19)], .int .i64 0] = V2198; generalize Value.agg #[.int .u8 (z 0), .int .u8 (z 1), .int .u8 (z 2), .int .u8 (z 3), .int .u8 (z 4), .int .u8 (z 5), .int .u8 (z 6), .int .u8 (z 7), .int .u8 (z 8), .int .u8 (z 9), .int .u8 (z 10), .int .u8 (z 11), .int .u8 (z 12), .int .u8 (z 13), .int .u8 (z 14), .int .u8 (z 15), .int .u8 (z 16), .int .u8 (z 17), .int .u8 (z 18), .int .u8 (z 19)] = V2199) | ((with_reducible refine gate_dst (N := 193) rfl ?_); refine loadG_event (T := 23) (by rfl) rfl rfl (run_loadVar_row _ _ _ _ _ (0, 0) _ H2196.out Tryd.underlying23 rfl (by kernel_rfl)) ?_))
      refine (Hvd.out w2193 (HhT.out.at B2197.out)).mono ?_
      rintro e w2200 ⟨rfl, hb_⟩
      have B2201 := Aside0.mk (below_step B2197.out hb_)
      have H2202 := Aside0.mk (blk_below H2195.out hb_)
      have H2203 := Aside0.mk (blk_below H2196.out hb_)
      have H2204 := Aside0.mk (blk_below H2194.out hb_)
      clear hb_ B2197 H2195 H2196 H2194
      go_wp2_with (first | ((with_reducible refine gate_dst (N := 198) rfl ?_); refine loadG_event (T := 23) (by rfl) rfl rfl (run_loadVar_row _ _ _ _ _ (0, 0) _ H2204.out Tryd.underlying23 rfl (by kernel_rfl)) ?_))
      refine (Hve.out w2200 (HhT.out.at B2201.out)).mono ?_
      rintro e w2205 ⟨rfl, hb_⟩
      have B2206 := Aside0.mk (below_step B2201.out hb_)
      have H2207 := Aside0.mk (blk_below H2202.out hb_)
      have H2208 := Aside0.mk (blk_below H2203.out hb_)
      have H2209 := Aside0.mk (blk_below H2204.out hb_)
      clear hb_ B2201 H2202 H2203 H2204
      go_wp2_with (first | ((with_reducible refine gate_dst (N := 288) rfl ?_); refine loadG_event (T := 23) (by rfl) rfl rfl (run_loadVar_row _ _ _ _ _ (0, 0) _ H2207.out Tryd.underlying23 rfl (by kernel_rfl)) ?_) | ((with_reducible refine gate_dst (N := 327) rfl ?_); refine loadG_event (T := 23) (by rfl) rfl rfl (run_loadVar_row _ _ _ _ _ (0, 0) _ H2208.out Tryd.underlying23 rfl (by kernel_rfl)) ?_) | ((with_reducible refine gate_dst (N := 328) rfl ?_); refine loadG_event (T := 23) (by rfl) rfl rfl (run_loadVar_row _ _ _ _ _ (0, 0) _ H2209.out Tryd.underlying23 rfl (by kernel_rfl)) ?_))
      refine (Hhal.out w2205 (HhT.out.at B2206.out)).mono ?_
      rintro e w2210 ⟨rfl, hb_⟩
      have B2211 := Aside0.mk (below_step B2206.out hb_)
      have H2212 := Aside0.mk (blk_below H2207.out hb_)
      have H2213 := Aside0.mk (blk_below H2208.out hb_)
      have H2214 := Aside0.mk (blk_below H2209.out hb_)
      clear hb_ B2206 H2207 H2208 H2209
      go_wp2_with fail
      go_ret
      exact ⟨rfl, B2211.out⟩
end Go.Proofs.YtbldecdipicddaaDoor.Hand
