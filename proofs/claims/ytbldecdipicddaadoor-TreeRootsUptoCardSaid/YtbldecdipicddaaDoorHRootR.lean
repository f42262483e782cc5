/- The reference's root, by what it calls. Laid by wip/s1/split41.py. -/
import Derived.Test.YtbldecdipicddaaDoorHRoot
set_option linter.unusedSimpArgs false
set_option linter.unusedVariables false
namespace Go.Proofs.YtbldecdipicddaaDoor.Hand
open Go Go.RowKit Go.Proofs.YtbldecdipicddaaDoorW.PrintWords Go.Proofs.YtbldecdipicddaaDoorW.PrintLast
set_option maxHeartbeats 1600000 in
set_option maxRecDepth 100000 in
theorem rroot_zero (A : Option Addr) (c : Nat) (w : World) : Calls Tryd.prog 87 #[.slice A 0 c] w fun e w' => e = .returned (.agg #[.int .u8 0, .int .u8 0, .int .u8 0, .int .u8 0, .int .u8 0, .int .u8 0, .int .u8 0, .int .u8 0, .int .u8 0, .int .u8 0, .int .u8 0, .int .u8 0, .int .u8 0, .int .u8 0, .int .u8 0, .int .u8 0, .int .u8 0, .int .u8 0, .int .u8 0, .int .u8 0]) ∧ Below w.heap.size w w' := by
  go_enter Tryd.func87, Tryd.ntmps87
  go_wp2_with (first | ((with_reducible refine gate_dst (N := 2) rfl ?_); refine box_event ?hg (N := 2) ?hd (cs := #[.int .u8 0, .int .u8 0, .int .u8 0, .int .u8 0, .int .u8 0, .int .u8 0, .int .u8 0, .int .u8 0, .int .u8 0, .int .u8 0, .int .u8 0, .int .u8 0, .int .u8 0, .int .u8 0, .int .u8 0, .int .u8 0, .int .u8 0, .int .u8 0, .int .u8 0, .int .u8 0]) (t := 23) ?hr ?_; (case hd => rfl); (case hg => rfl); (case hr => first | (go_simp; done) | (go_simp; rfl)); intro g1 hgg1 w2 hhg1 hbg1; have H5 := Aside0.mk hhg1; have G3 : w.heap.size ≤ g1 := Nat.le_of_eq hgg1.symm; have B4 := Aside0.mk (hbg1); clear hgg1 hhg1 hbg1) | ((with_reducible refine gate_store (t := 23) (p := _) rfl ?_); refine storeN_event (T := 23) rfl rfl rfl rfl rfl (storeVar_blk H5.out 23 0 [.int .u8 0, .int .u8 0, .int .u8 0, .int .u8 0, .int .u8 0, .int .u8 0, .int .u8 0, .int .u8 0, .int .u8 0, .int .u8 0, .int .u8 0, .int .u8 0, .int .u8 0, .int .u8 0, .int .u8 0, .int .u8 0, .int .u8 0, .int .u8 0, .int .u8 0, .int .u8 0] (by kernel_rfl) rfl (by simp)) ?_; have H7 := Aside0.mk (show (World.setCells w2 g1 0 [.int .u8 0, .int .u8 0, .int .u8 0, .int .u8 0, .int .u8 0, .int .u8 0, .int .u8 0, .int .u8 0, .int .u8 0, .int .u8 0, .int .u8 0, .int .u8 0, .int .u8 0, .int .u8 0, .int .u8 0, .int .u8 0, .int .u8 0, .int .u8 0, .int .u8 0, .int .u8 0]).heap[g1]? = some (.cells #[.int .u8 0, .int .u8 0, .int .u8 0, .int .u8 0, .int .u8 0, .int .u8 0, .int .u8 0, .int .u8 0, .int .u8 0, .int .u8 0, .int .u8 0, .int .u8 0, .int .u8 0, .int .u8 0, .int .u8 0, .int .u8 0, .int .u8 0, .int .u8 0, .int .u8 0, .int .u8 0] 23 (0, 0)) from blk_setCells [] [.int .u8 0, .int .u8 0, .int .u8 0, .int .u8 0, .int .u8 0, .int .u8 0, .int .u8 0, .int .u8 0, .int .u8 0, .int .u8 0, .int .u8 0, .int .u8 0, .int .u8 0, .int .u8 0, .int .u8 0, .int .u8 0, .int .u8 0, .int .u8 0, .int .u8 0, .int .u8 0] [.int .u8 0, .int .u8 0, .int .u8 0, .int .u8 0, .int .u8 0, .int .u8 0, .int .u8 0, .int .u8 0, .int .u8 0, .int .u8 0, .int .u8 0, .int .u8 0, .int .u8 0, .int .u8 0, .int .u8 0, .int .u8 0, .int .u8 0, .int .u8 0, .int .u8 0, .int .u8 0] [] w2 rfl H5.out); have B8 := Aside0.mk (below_setCells G3 [.int .u8 0, .int .u8 0, .int .u8 0, .int .u8 0, .int .u8 0, .int .u8 0, .int .u8 0, .int .u8 0, .int .u8 0, .int .u8 0, .int .u8 0, .int .u8 0, .int .u8 0, .int .u8 0, .int .u8 0, .int .u8 0, .int .u8 0, .int .u8 0, .int .u8 0, .int .u8 0] 0 w2 B4.out); clear H5 B4; generalize World.setCells w2 g1 0 [.int .u8 0, .int .u8 0, .int .u8 0, .int .u8 0, .int .u8 0, .int .u8 0, .int .u8 0, .int .u8 0, .int .u8 0, .int .u8 0, .int .u8 0, .int .u8 0, .int .u8 0, .int .u8 0, .int .u8 0, .int .u8 0, .int .u8 0, .int .u8 0, .int .u8 0, .int .u8 0] = w6 at H7 B8 ⊢))
  exact bodyPost_ret (results_cell_row rfl _ _ g1 23 #[.int .u8 0, .int .u8 0, .int .u8 0, .int .u8 0, .int .u8 0, .int .u8 0, .int .u8 0, .int .u8 0, .int .u8 0, .int .u8 0, .int .u8 0, .int .u8 0, .int .u8 0, .int .u8 0, .int .u8 0, .int .u8 0, .int .u8 0, .int .u8 0, .int .u8 0, .int .u8 0] (0, 0) _ rfl H7.out Tryd.underlying23 rfl (by kernel_rfl)) rfl ⟨rfl, B8.out⟩
set_option maxHeartbeats 1600000 in
set_option maxRecDepth 100000 in
theorem rroot_one (ad : Addr) (c : Nat) (d : Dg) (w : World) (hld : ∀ W : World, Below w.heap.size w W → (loadVar 23 ad).run Tryd.prog W = .ok (.agg #[.int .u8 (d 0), .int .u8 (d 1), .int .u8 (d 2), .int .u8 (d 3), .int .u8 (d 4), .int .u8 (d 5), .int .u8 (d 6), .int .u8 (d 7), .int .u8 (d 8), .int .u8 (d 9), .int .u8 (d 10), .int .u8 (d 11), .int .u8 (d 12), .int .u8 (d 13), .int .u8 (d 14), .int .u8 (d 15), .int .u8 (d 16), .int .u8 (d 17), .int .u8 (d 18), .int .u8 (d 19)]) W) : Calls Tryd.prog 87 #[.slice (some ad) 1 c] w fun e w' => e = .returned (.agg #[.int .u8 (d 0), .int .u8 (d 1), .int .u8 (d 2), .int .u8 (d 3), .int .u8 (d 4), .int .u8 (d 5), .int .u8 (d 6), .int .u8 (d 7), .int .u8 (d 8), .int .u8 (d 9), .int .u8 (d 10), .int .u8 (d 11), .int .u8 (d 12), .int .u8 (d 13), .int .u8 (d 14), .int .u8 (d 15), .int .u8 (d 16), .int .u8 (d 17), .int .u8 (d 18), .int .u8 (d 19)]) ∧ Below w.heap.size w w' := by
  have Hhld := Aside0.mk hld
  clear hld
  go_enter Tryd.func87, Tryd.ntmps87
  go_wp2_with (first | ((with_reducible refine gate_dst (N := 2) rfl ?_); refine box_event ?hg (N := 2) ?hd (cs := #[.int .u8 0, .int .u8 0, .int .u8 0, .int .u8 0, .int .u8 0, .int .u8 0, .int .u8 0, .int .u8 0, .int .u8 0, .int .u8 0, .int .u8 0, .int .u8 0, .int .u8 0, .int .u8 0, .int .u8 0, .int .u8 0, .int .u8 0, .int .u8 0, .int .u8 0, .int .u8 0]) (t := 23) ?hr ?_; (case hd => rfl); (case hg => rfl); (case hr => first | (go_simp; done) | (go_simp; rfl)); intro g1 hgg1 w2 hhg1 hbg1; have H5 := Aside0.mk hhg1; have G3 : w.heap.size ≤ g1 := Nat.le_of_eq hgg1.symm; have B4 := Aside0.mk (hbg1); clear hgg1 hhg1 hbg1) | ((with_reducible refine gate_dst (N := 13) rfl ?_); refine loadA_event (T := 23) (by rfl) rfl rfl (Hhld.out _ B4.out) ?_) | ((with_reducible refine gate_store (t := 23) (p := _) rfl ?_); refine storeN_event (T := 23) rfl rfl rfl rfl rfl (storeVar_blk H5.out 23 0 [.int .u8 (d 0), .int .u8 (d 1), .int .u8 (d 2), .int .u8 (d 3), .int .u8 (d 4), .int .u8 (d 5), .int .u8 (d 6), .int .u8 (d 7), .int .u8 (d 8), .int .u8 (d 9), .int .u8 (d 10), .int .u8 (d 11), .int .u8 (d 12), .int .u8 (d 13), .int .u8 (d 14), .int .u8 (d 15), .int .u8 (d 16), .int .u8 (d 17), .int .u8 (d 18), .int .u8 (d 19)] (by kernel_rfl) rfl (by simp)) ?_; have H7 := Aside0.mk (show (World.setCells w2 g1 0 [.int .u8 (d 0), .int .u8 (d 1), .int .u8 (d 2), .int .u8 (d 3), .int .u8 (d 4), .int .u8 (d 5), .int .u8 (d 6), .int .u8 (d 7), .int .u8 (d 8), .int .u8 (d 9), .int .u8 (d 10), .int .u8 (d 11), .int .u8 (d 12), .int .u8 (d 13), .int .u8 (d 14), .int .u8 (d 15), .int .u8 (d 16), .int .u8 (d 17), .int .u8 (d 18), .int .u8 (d 19)]).heap[g1]? = some (.cells #[.int .u8 (d 0), .int .u8 (d 1), .int .u8 (d 2), .int .u8 (d 3), .int .u8 (d 4), .int .u8 (d 5), .int .u8 (d 6), .int .u8 (d 7), .int .u8 (d 8), .int .u8 (d 9), .int .u8 (d 10), .int .u8 (d 11), .int .u8 (d 12), .int .u8 (d 13), .int .u8 (d 14), .int .u8 (d 15), .int .u8 (d 16), .int .u8 (d 17), .int .u8 (d 18), .int .u8 (d 19)] 23 (0, 0)) from blk_setCells [] [.int .u8 (d 0), .int .u8 (d 1), .int .u8 (d 2), .int .u8 (d 3), .int .u8 (d 4), .int .u8 (d 5), .int .u8 (d 6), .int .u8 (d 7), .int .u8 (d 8), .int .u8 (d 9), .int .u8 (d 10), .int .u8 (d 11), .int .u8 (d 12), .int .u8 (d 13), .int .u8 (d 14), .int .u8 (d 15), .int .u8 (d 16), .int .u8 (d 17), .int .u8 (d 18), .int .u8 (d 19)] [.int .u8 0, .int .u8 0, .int .u8 0, .int .u8 0, .int .u8 0, .int .u8 0, .int .u8 0, .int .u8 0, .int .u8 0, .int .u8 0, .int .u8 0, .int .u8 0, .int .u8 0, .int .u8 0, .int .u8 0, .int .u8 0, .int .u8 0, .int .u8 0, .int .u8 0, .int .u8 0] [] w2 rfl H5.out); have B8 := Aside0.mk (below_setCells G3 [.int .u8 (d 0), .int .u8 (d 1), .int .u8 (d 2), .int .u8 (d 3), .int .u8 (d 4), .int .u8 (d 5), .int .u8 (d 6), .int .u8 (d 7), .int .u8 (d 8), .int .u8 (d 9), .int .u8 (d 10), .int .u8 (d 11), .int .u8 (d 12), .int .u8 (d 13), .int .u8 (d 14), .int .u8 (d 15), .int .u8 (d 16), .int .u8 (d 17), .int .u8 (d 18), .int .u8 (d 19)] 0 w2 B4.out); clear H5 B4; generalize World.setCells w2 g1 0 [.int .u8 (d 0), .int .u8 (d 1), .int .u8 (d 2), .int .u8 (d 3), .int .u8 (d 4), .int .u8 (d 5), .int .u8 (d 6), .int .u8 (d 7), .int .u8 (d 8), .int .u8 (d 9), .int .u8 (d 10), .int .u8 (d 11), .int .u8 (d 12), .int .u8 (d 13), .int .u8 (d 14), .int .u8 (d 15), .int .u8 (d 16), .int .u8 (d 17), .int .u8 (d 18), .int .u8 (d 19)] = w6 at H7 B8 ⊢))
  exact bodyPost_ret (results_cell_row rfl _ _ g1 23 #[.int .u8 (d 0), .int .u8 (d 1), .int .u8 (d 2), .int .u8 (d 3), .int .u8 (d 4), .int .u8 (d 5), .int .u8 (d 6), .int .u8 (d 7), .int .u8 (d 8), .int .u8 (d 9), .int .u8 (d 10), .int .u8 (d 11), .int .u8 (d 12), .int .u8 (d 13), .int .u8 (d 14), .int .u8 (d 15), .int .u8 (d 16), .int .u8 (d 17), .int .u8 (d 18), .int .u8 (d 19)] (0, 0) _ rfl H7.out Tryd.underlying23 rfl (by kernel_rfl)) rfl ⟨rfl, B8.out⟩
set_option maxHeartbeats 1600000 in
set_option maxRecDepth 100000 in
theorem rroot_more (N k c : Nat) (A A2 : Option Addr) (a b r : Dg) (w : World) (hN : 2 ≤ N) (hk : k ≤ N) (hc : N ≤ c) (hcut2 : ∀ W : World, (Instr.slice 55 (.slice A N c) (some (.int .i64 (k : Int))) none none).run Tryd.prog W = .ok (.slice A2 (N - k) (c - k)) W) (hhalf : ∀ W : World, Calls Tryd.prog 64 #[.int .i64 (N : Int)] W fun e w' => e = .returned (.int .i64 (k : Int)) ∧ Below W.heap.size W w')
    (h1 : ∀ W : World, Below w.heap.size w W → Calls Tryd.prog 87 #[.slice A k c] W fun e w' => e = .returned (.agg #[.int .u8 (a 0), .int .u8 (a 1), .int .u8 (a 2), .int .u8 (a 3), .int .u8 (a 4), .int .u8 (a 5), .int .u8 (a 6), .int .u8 (a 7), .int .u8 (a 8), .int .u8 (a 9), .int .u8 (a 10), .int .u8 (a 11), .int .u8 (a 12), .int .u8 (a 13), .int .u8 (a 14), .int .u8 (a 15), .int .u8 (a 16), .int .u8 (a 17), .int .u8 (a 18), .int .u8 (a 19)]) ∧ Below W.heap.size W w') (h2 : ∀ W : World, Below w.heap.size w W → Calls Tryd.prog 87 #[.slice A2 (N - k) (c - k)] W fun e w' => e = .returned (.agg #[.int .u8 (b 0), .int .u8 (b 1), .int .u8 (b 2), .int .u8 (b 3), .int .u8 (b 4), .int .u8 (b 5), .int .u8 (b 6), .int .u8 (b 7), .int .u8 (b 8), .int .u8 (b 9), .int .u8 (b 10), .int .u8 (b 11), .int .u8 (b 12), .int .u8 (b 13), .int .u8 (b 14), .int .u8 (b 15), .int .u8 (b 16), .int .u8 (b 17), .int .u8 (b 18), .int .u8 (b 19)]) ∧ Below W.heap.size W w') (hnd : ∀ W : World, Calls Tryd.prog 100 #[.agg #[.int .u8 (a 0), .int .u8 (a 1), .int .u8 (a 2), .int .u8 (a 3), .int .u8 (a 4), .int .u8 (a 5), .int .u8 (a 6), .int .u8 (a 7), .int .u8 (a 8), .int .u8 (a 9), .int .u8 (a 10), .int .u8 (a 11), .int .u8 (a 12), .int .u8 (a 13), .int .u8 (a 14), .int .u8 (a 15), .int .u8 (a 16), .int .u8 (a 17), .int .u8 (a 18), .int .u8 (a 19)], .agg #[.int .u8 (b 0), .int .u8 (b 1), .int .u8 (b 2), .int .u8 (b 3), .int .u8 (b 4), .int .u8 (b 5), .int .u8 (b 6), .int .u8 (b 7), .int .u8 (b 8), .int .u8 (b 9), .int .u8 (b 10), .int .u8 (b 11), .int .u8 (b 12), .int .u8 (b 13), .int .u8 (b 14), .int .u8 (b 15), .int .u8 (b 16), .int .u8 (b 17), .int .u8 (b 18), .int .u8 (b 19)]] W fun e w' => e = .returned (.agg #[.int .u8 (r 0), .int .u8 (r 1), .int .u8 (r 2), .int .u8 (r 3), .int .u8 (r 4), .int .u8 (r 5), .int .u8 (r 6), .int .u8 (r 7), .int .u8 (r 8), .int .u8 (r 9), .int .u8 (r 10), .int .u8 (r 11), .int .u8 (r 12), .int .u8 (r 13), .int .u8 (r 14), .int .u8 (r 15), .int .u8 (r 16), .int .u8 (r 17), .int .u8 (r 18), .int .u8 (r 19)]) ∧ Below W.heap.size W w') : Calls Tryd.prog 87 #[.slice A N c] w fun e w' => e = .returned (.agg #[.int .u8 (r 0), .int .u8 (r 1), .int .u8 (r 2), .int .u8 (r 3), .int .u8 (r 4), .int .u8 (r 5), .int .u8 (r 6), .int .u8 (r 7), .int .u8 (r 8), .int .u8 (r 9), .int .u8 (r 10), .int .u8 (r 11), .int .u8 (r 12), .int .u8 (r 13), .int .u8 (r 14), .int .u8 (r 15), .int .u8 (r 16), .int .u8 (r 17), .int .u8 (r 18), .int .u8 (r 19)]) ∧ Below w.heap.size w w' := by
  have Hhhalf := Aside0.mk hhalf
  have Hh1 := Aside0.mk h1
  have Hh2 := Aside0.mk h2
  have Hhnd := Aside0.mk hnd
  have f1 : ((N : Int) == 0) = false := by simp; omega
  have f2 : ((N : Int) = 0) = False := eq_false (by omega)
  have f3 : (N = 0) = False := eq_false (by omega)
  have f4 : ((N : Int) == 1) = false := by simp; omega
  have f5 : ((N : Int) = 1) = False := eq_false (by omega)
  have f6 : (N = 1) = False := eq_false (by omega)
  have hcut := fun W : World => cut55 A N c k hk hc W
  clear hhalf h1 h2 hnd hN hk hc
  go_enter Tryd.func87, Tryd.ntmps87
  go_wp2_with (first | ((with_reducible refine gate_dst (N := 2) rfl ?_); refine box_event ?hg (N := 2) ?hd (cs := #[.int .u8 0, .int .u8 0, .int .u8 0, .int .u8 0, .int .u8 0, .int .u8 0, .int .u8 0, .int .u8 0, .int .u8 0, .int .u8 0, .int .u8 0, .int .u8 0, .int .u8 0, .int .u8 0, .int .u8 0, .int .u8 0, .int .u8 0, .int .u8 0, .int .u8 0, .int .u8 0]) (t := 23) ?hr ?_; (case hd => rfl); (case hg => rfl); (case hr => first | (go_simp; done) | (go_simp; rfl)); intro g1 hgg1 w2 hhg1 hbg1; have H5 := Aside0.mk hhg1; have G3 : w.heap.size ≤ g1 := Nat.le_of_eq hgg1.symm; have B4 := Aside0.mk (hbg1); clear hgg1 hhg1 hbg1))
  refine (Hhhalf.out w2).mono ?_
  rintro e w6 ⟨rfl, hb_⟩
  have B7 := Aside0.mk (below_step B4.out hb_)
  have H8 := Aside0.mk (blk_below H5.out hb_)
  clear hb_ B4 H5
  go_wp2_with fail
  have H10 := Aside0.mk (blk_drew H8.out)
  have B11 := Aside0.mk (below_drew B7.out)
  clear H8 B7
  refine start_ (n := 10) (S := fun w' => True) (ds := [9]) #[false, false, false, false, false, false, false, false, false, false] (by kernel_rfl) rfl rfl trivial (fun hHeld => ?_)
  generalize World.drew w6 = w9 at H10 B11 hHeld ⊢
  refine pure_ (i := 0) (N := some 17) (v := ?_) (a' := ?_) #[true, false, false, false, false, false, false, false, false, false] rfl rfl (by kernel_rfl) (fun _ _ _ h => h) (Or.inl ⟨by rfl, ?_⟩) ?_ ?_
  rotate_left
  · intro w'
    go_simp
    with_reducible rfl
  rotate_left
  · simp only [Act.put, List.setIfInBounds_toArray, List.set_cons_zero, List.set_cons_succ, i64_w, i32_w]
    rfl
  refine pure_ (i := 1) (N := some 18) (v := ?_) (a' := ?_) #[true, true, false, false, false, false, false, false, false, false] rfl rfl (by kernel_rfl) (fun _ _ _ h => h) (Or.inl ⟨by rfl, ?_⟩) ?_ ?_
  rotate_left
  · intro w'
    go_simp
    with_reducible rfl
  rotate_left
  · simp only [Act.put, List.setIfInBounds_toArray, List.set_cons_zero, List.set_cons_succ, i64_w, i32_w]
    rfl
  refine pure_ (i := 2) (N := some 19) (v := ?_) (a' := ?_) #[true, true, true, false, false, false, false, false, false, false] rfl rfl (by kernel_rfl) (fun _ _ _ h => h) (Or.inl ⟨by rfl, ?_⟩) ?_ ?_
  rotate_left
  · intro w'
    go_simp
    with_reducible rfl
  rotate_left
  · simp only [Act.put, List.setIfInBounds_toArray, List.set_cons_zero, List.set_cons_succ, i64_w, i32_w]
    rfl
  refine pure_ (i := 4) (N := some 21) (v := ?_) (a' := ?_) #[true, true, true, false, true, false, false, false, false, false] rfl rfl (by kernel_rfl) (fun _ _ _ h => h) (Or.inl ⟨by rfl, ?_⟩) ?_ ?_
  rotate_left
  · intro w'
    go_simp
    with_reducible rfl
  rotate_left
  · simp only [Act.put, List.setIfInBounds_toArray, List.set_cons_zero, List.set_cons_succ, i64_w, i32_w]
    rfl
  refine pure_ (i := 5) (N := some 22) (v := ?_) (a' := ?_) #[true, true, true, false, true, true, false, false, false, false] rfl rfl (by kernel_rfl) (fun _ _ _ h => h) (Or.inl ⟨by rfl, ?_⟩) ?_ ?_
  rotate_left
  · intro w'
    go_simp
    with_reducible rfl
  rotate_left
  · simp only [Act.put, List.setIfInBounds_toArray, List.set_cons_zero, List.set_cons_succ, i64_w, i32_w]
    rfl
  refine pure_ (i := 6) (N := some 23) (v := ?_) (a' := ?_) #[true, true, true, false, true, true, true, false, false, false] rfl rfl (by kernel_rfl) (fun _ _ _ h => h) (Or.inl ⟨by rfl, ?_⟩) ?_ ?_
  rotate_left
  · intro w'
    go_simp
    with_reducible rfl
  rotate_left
  · simp only [Act.put, List.setIfInBounds_toArray, List.set_cons_zero, List.set_cons_succ, i64_w, i32_w]
    rfl
  refine one_ (i := 3) (N := some 20) #[true, true, true, true, true, true, true, false, false, false] rfl rfl (by kernel_rfl) (by decide) (fun K hK => ?_)
  refine goes_ Tryd.func87 (by kernel_rfl) rfl #[.slice A k c] (by rfl) rfl rfl (by simp only [List.map_toArray, List.map_cons, List.map_nil]; rfl) ?_
  with_reducible refine (Hh1.out w9 B11.out).mono ?_
  rintro e_ w12 ⟨rfl, hb_⟩
  refine ⟨_, rfl, ?_⟩
  have B13 := Aside0.mk (below_step B11.out hb_)
  have H14 := Aside0.mk (blk_below H10.out hb_)
  clear hb_ B11 H10
  refine hK.out _ _ trivial (fun hHeld => ?_)
  clear hK K
  refine norm_ (a' := ?_) ?_ ?_
  rotate_left
  · show Act.put _ (some 20) _ = _
    simp only [Act.put, List.setIfInBounds_toArray, List.set_cons_zero, List.set_cons_succ, i64_w, i32_w]
    rfl
  refine one_ (i := 7) (N := some 24) #[true, true, true, true, true, true, true, true, false, false] rfl rfl (by kernel_rfl) (by decide) (fun K hK => ?_)
  refine goes_ Tryd.func87 (by kernel_rfl) rfl #[.slice A2 (N - k) (c - k)] (by rfl) rfl rfl (by simp only [List.map_toArray, List.map_cons, List.map_nil]; rfl) ?_
  with_reducible refine (Hh2.out w12 B13.out).mono ?_
  rintro e_ w15 ⟨rfl, hb_⟩
  refine ⟨_, rfl, ?_⟩
  have B16 := Aside0.mk (below_step B13.out hb_)
  have H17 := Aside0.mk (blk_below H14.out hb_)
  clear hb_ B13 H14
  refine hK.out _ _ trivial (fun hHeld => ?_)
  clear hK K
  refine norm_ (a' := ?_) ?_ ?_
  rotate_left
  · show Act.put _ (some 24) _ = _
    simp only [Act.put, List.setIfInBounds_toArray, List.set_cons_zero, List.set_cons_succ, i64_w, i32_w]
    rfl
  refine one_ (i := 8) (N := some 25) #[true, true, true, true, true, true, true, true, true, false] rfl rfl (by kernel_rfl) (by decide) (fun K hK => ?_)
  refine goes_ Tryd.func100 (by kernel_rfl) rfl #[.agg #[.int .u8 (a 0), .int .u8 (a 1), .int .u8 (a 2), .int .u8 (a 3), .int .u8 (a 4), .int .u8 (a 5), .int .u8 (a 6), .int .u8 (a 7), .int .u8 (a 8), .int .u8 (a 9), .int .u8 (a 10), .int .u8 (a 11), .int .u8 (a 12), .int .u8 (a 13), .int .u8 (a 14), .int .u8 (a 15), .int .u8 (a 16), .int .u8 (a 17), .int .u8 (a 18), .int .u8 (a 19)], .agg #[.int .u8 (b 0), .int .u8 (b 1), .int .u8 (b 2), .int .u8 (b 3), .int .u8 (b 4), .int .u8 (b 5), .int .u8 (b 6), .int .u8 (b 7), .int .u8 (b 8), .int .u8 (b 9), .int .u8 (b 10), .int .u8 (b 11), .int .u8 (b 12), .int .u8 (b 13), .int .u8 (b 14), .int .u8 (b 15), .int .u8 (b 16), .int .u8 (b 17), .int .u8 (b 18), .int .u8 (b 19)]] (by rfl) rfl rfl (by simp only [List.map_toArray, List.map_cons, List.map_nil]; rfl) ?_
  with_reducible refine (Hhnd.out w15).mono ?_
  rintro e_ w18 ⟨rfl, hb_⟩
  refine ⟨_, rfl, ?_⟩
  have B19 := Aside0.mk (below_step B16.out hb_)
  have H20 := Aside0.mk (blk_below H17.out hb_)
  clear hb_ B16 H17
  refine hK.out _ _ trivial (fun hHeld => ?_)
  clear hK K
  refine norm_ (a' := ?_) ?_ ?_
  rotate_left
  · show Act.put _ (some 25) _ = _
    simp only [Act.put, List.setIfInBounds_toArray, List.set_cons_zero, List.set_cons_succ, i64_w, i32_w]
    rfl
  refine last_ (i := 9) (N := none) #[true, true, true, true, true, true, true, true, true, true] rfl rfl (by kernel_rfl) (by decide) (fun K hK => ?_)
  refine skip_ (w1 := World.setCells w18 g1 0 [.int .u8 (r 0), .int .u8 (r 1), .int .u8 (r 2), .int .u8 (r 3), .int .u8 (r 4), .int .u8 (r 5), .int .u8 (r 6), .int .u8 (r 7), .int .u8 (r 8), .int .u8 (r 9), .int .u8 (r 10), .int .u8 (r 11), .int .u8 (r 12), .int .u8 (r 13), .int .u8 (r 14), .int .u8 (r 15), .int .u8 (r 16), .int .u8 (r 17), .int .u8 (r 18), .int .u8 (r 19)]) (by rfl) rfl (by exact storeN_run (T := 23) (vs := [.int .u8 (r 0), .int .u8 (r 1), .int .u8 (r 2), .int .u8 (r 3), .int .u8 (r 4), .int .u8 (r 5), .int .u8 (r 6), .int .u8 (r 7), .int .u8 (r 8), .int .u8 (r 9), .int .u8 (r 10), .int .u8 (r 11), .int .u8 (r 12), .int .u8 (r 13), .int .u8 (r 14), .int .u8 (r 15), .int .u8 (r 16), .int .u8 (r 17), .int .u8 (r 18), .int .u8 (r 19)]) rfl rfl rfl (storeVar_blk H20.out 23 0 [.int .u8 (r 0), .int .u8 (r 1), .int .u8 (r 2), .int .u8 (r 3), .int .u8 (r 4), .int .u8 (r 5), .int .u8 (r 6), .int .u8 (r 7), .int .u8 (r 8), .int .u8 (r 9), .int .u8 (r 10), .int .u8 (r 11), .int .u8 (r 12), .int .u8 (r 13), .int .u8 (r 14), .int .u8 (r 15), .int .u8 (r 16), .int .u8 (r 17), .int .u8 (r 18), .int .u8 (r 19)] (by kernel_rfl) rfl (by simp))) ?_
  have H22 := Aside0.mk (show (World.setCells w18 g1 0 [.int .u8 (r 0), .int .u8 (r 1), .int .u8 (r 2), .int .u8 (r 3), .int .u8 (r 4), .int .u8 (r 5), .int .u8 (r 6), .int .u8 (r 7), .int .u8 (r 8), .int .u8 (r 9), .int .u8 (r 10), .int .u8 (r 11), .int .u8 (r 12), .int .u8 (r 13), .int .u8 (r 14), .int .u8 (r 15), .int .u8 (r 16), .int .u8 (r 17), .int .u8 (r 18), .int .u8 (r 19)]).heap[g1]? = some (.cells #[.int .u8 (r 0), .int .u8 (r 1), .int .u8 (r 2), .int .u8 (r 3), .int .u8 (r 4), .int .u8 (r 5), .int .u8 (r 6), .int .u8 (r 7), .int .u8 (r 8), .int .u8 (r 9), .int .u8 (r 10), .int .u8 (r 11), .int .u8 (r 12), .int .u8 (r 13), .int .u8 (r 14), .int .u8 (r 15), .int .u8 (r 16), .int .u8 (r 17), .int .u8 (r 18), .int .u8 (r 19)] 23 (0, 0)) from blk_setCells [] [.int .u8 (r 0), .int .u8 (r 1), .int .u8 (r 2), .int .u8 (r 3), .int .u8 (r 4), .int .u8 (r 5), .int .u8 (r 6), .int .u8 (r 7), .int .u8 (r 8), .int .u8 (r 9), .int .u8 (r 10), .int .u8 (r 11), .int .u8 (r 12), .int .u8 (r 13), .int .u8 (r 14), .int .u8 (r 15), .int .u8 (r 16), .int .u8 (r 17), .int .u8 (r 18), .int .u8 (r 19)] [.int .u8 0, .int .u8 0, .int .u8 0, .int .u8 0, .int .u8 0, .int .u8 0, .int .u8 0, .int .u8 0, .int .u8 0, .int .u8 0, .int .u8 0, .int .u8 0, .int .u8 0, .int .u8 0, .int .u8 0, .int .u8 0, .int .u8 0, .int .u8 0, .int .u8 0, .int .u8 0] [] w18 rfl H20.out)
  have B23 := Aside0.mk (below_setCells G3 [.int .u8 (r 0), .int .u8 (r 1), .int .u8 (r 2), .int .u8 (r 3), .int .u8 (r 4), .int .u8 (r 5), .int .u8 (r 6), .int .u8 (r 7), .int .u8 (r 8), .int .u8 (r 9), .int .u8 (r 10), .int .u8 (r 11), .int .u8 (r 12), .int .u8 (r 13), .int .u8 (r 14), .int .u8 (r 15), .int .u8 (r 16), .int .u8 (r 17), .int .u8 (r 18), .int .u8 (r 19)] 0 w18 B19.out)
  clear H20 B19
  generalize World.setCells w18 g1 0 [.int .u8 (r 0), .int .u8 (r 1), .int .u8 (r 2), .int .u8 (r 3), .int .u8 (r 4), .int .u8 (r 5), .int .u8 (r 6), .int .u8 (r 7), .int .u8 (r 8), .int .u8 (r 9), .int .u8 (r 10), .int .u8 (r 11), .int .u8 (r 12), .int .u8 (r 13), .int .u8 (r 14), .int .u8 (r 15), .int .u8 (r 16), .int .u8 (r 17), .int .u8 (r 18), .int .u8 (r 19)] = w21 at H22 B23 ⊢
  refine hK.out _ _ ?_
  clear hK K
  refine done_ (by kernel_rfl) ?_
  go_wp2_with fail
  exact bodyPost_ret (results_cell_row rfl _ _ g1 23 #[.int .u8 (r 0), .int .u8 (r 1), .int .u8 (r 2), .int .u8 (r 3), .int .u8 (r 4), .int .u8 (r 5), .int .u8 (r 6), .int .u8 (r 7), .int .u8 (r 8), .int .u8 (r 9), .int .u8 (r 10), .int .u8 (r 11), .int .u8 (r 12), .int .u8 (r 13), .int .u8 (r 14), .int .u8 (r 15), .int .u8 (r 16), .int .u8 (r 17), .int .u8 (r 18), .int .u8 (r 19)] (0, 0) _ rfl H22.out Tryd.underlying23 rfl (by kernel_rfl)) rfl ⟨rfl, B23.out⟩
end Go.Proofs.YtbldecdipicddaaDoor.Hand
