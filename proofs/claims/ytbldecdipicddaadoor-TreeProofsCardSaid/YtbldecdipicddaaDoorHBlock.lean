/- sha.Block, the reference's Block, and the walks of the law ShaBlocks. Written by wip/s1/mkblock.py. -/
import Derived.Test.YtbldecdipicddaaDoorHDone
set_option linter.unusedSimpArgs false
set_option linter.unusedVariables false
namespace Go.Proofs.YtbldecdipicddaaDoor.Hand
open Go Go.RowKit Go.Proofs.YtbldecdipicddaaDoorW.PrintWords Go.Proofs.YtbldecdipicddaaDoorW.PrintLast
set_option maxRecDepth 100000 in
theorem block_bad (h0 h1 h2 h3 h4 : Int) (A : Option Addr) (c : Nat) (l : List Int) (w : World) (hT : TabQ w) (hr : Kd.C (Kd.int .u8) w A l.length l) (hc : l.length ≤ c) (hlen : l.length ≠ 64) :
    Calls Tryd.prog 30 #[.agg #[.int .u32 h0, .int .u32 h1, .int .u32 h2, .int .u32 h3, .int .u32 h4], .slice A l.length c] w fun e w' => e = .returned (.tuple #[.agg #[.int .u32 0, .int .u32 0, .int .u32 0, .int .u32 0, .int .u32 0], .int .i64 2]) ∧ Below w.heap.size w w' := by
  have HhT := Aside0.mk hT
  have Hhr := Aside0.mk hr
  have HLN := Aside0.mk hlen
  have HLC := Aside0.mk hc
  clear hr hc hT
  have e1 : (((l.length : Nat) : Int) != 64) = true := by simp; omega
  have e2 : (((l.length : Nat) : Int) == 64) = false := by simp; omega
  have e3 : decide (((l.length : Nat) : Int) = 64) = false := by simp; omega
  clear hlen
  go_enter Tryd.func30, Tryd.ntmps30
  go_wp2_with (first | ((with_reducible refine gate_dst (N := 2) rfl ?_); refine box_event ?hg (N := 2) ?hd (cs := #[.int .u32 h0, .int .u32 h1, .int .u32 h2, .int .u32 h3, .int .u32 h4]) (t := 42) ?hr ?_; (case hd => rfl); (case hg => rfl); (case hr => first | (go_simp; done) | (go_simp; rfl)); intro g1 hgg1 w2 hhg1 hbg1; have H5 := Aside0.mk hhg1; have G3 : w.heap.size ≤ g1 := Nat.le_of_eq hgg1.symm; have B4 := Aside0.mk (hbg1); clear hgg1 hhg1 hbg1) | ((with_reducible refine gate_dst (N := 4) rfl ?_); refine box_event ?hg (N := 4) ?hd (cs := #[.int .u32 0, .int .u32 0, .int .u32 0, .int .u32 0, .int .u32 0]) (t := 42) ?hr ?_; (case hd => rfl); (case hg => rfl); (case hr => first | (go_simp; done) | (go_simp; rfl)); intro g6 hgg6 w7 hhg6 hbg6; have H12 := Aside0.mk hhg6; have N8 : g1 ≠ g6 := Nat.ne_of_lt (Nat.lt_of_lt_of_eq (blk_lt H5.out) hgg6.symm); have G9 : w.heap.size ≤ g6 := Nat.le_trans B4.out.size (Nat.le_of_eq hgg6.symm); have B10 := Aside0.mk (below_step B4.out hbg6); have H11 := Aside0.mk (blk_below H5.out hbg6); clear hgg6 hhg6 hbg6 B4 H5) | ((with_reducible refine gate_store (t := 42) (p := _) rfl ?_); refine storeN_event (T := 42) rfl rfl rfl rfl rfl (storeVar_blk H12.out 42 0 [.int .u32 0, .int .u32 0, .int .u32 0, .int .u32 0, .int .u32 0] (by kernel_rfl) rfl (by simp)) ?_; have H14 := Aside0.mk (show (World.setCells w7 g6 0 [.int .u32 0, .int .u32 0, .int .u32 0, .int .u32 0, .int .u32 0]).heap[g6]? = some (.cells #[.int .u32 0, .int .u32 0, .int .u32 0, .int .u32 0, .int .u32 0] 42 (0, 0)) from blk_setCells [] [.int .u32 0, .int .u32 0, .int .u32 0, .int .u32 0, .int .u32 0] [.int .u32 0, .int .u32 0, .int .u32 0, .int .u32 0, .int .u32 0] [] w7 rfl H12.out); have H15 := Aside0.mk (far_setCells N8 [.int .u32 0, .int .u32 0, .int .u32 0, .int .u32 0, .int .u32 0] 0 w7 H11.out); have B16 := Aside0.mk (below_setCells G9 [.int .u32 0, .int .u32 0, .int .u32 0, .int .u32 0, .int .u32 0] 0 w7 B10.out); clear H12 H11 B10; generalize World.setCells w7 g6 0 [.int .u32 0, .int .u32 0, .int .u32 0, .int .u32 0, .int .u32 0] = w13 at H15 H14 B16 ⊢))
  exact bodyPost_ret (results_ct rfl _ _ g6 42 #[.int .u32 0, .int .u32 0, .int .u32 0, .int .u32 0, .int .u32 0] (0, 0) _ rfl H14.out Tryd.underlying42 rfl (by kernel_rfl)) rfl ⟨rfl, B16.out⟩
set_option maxRecDepth 100000 in
theorem block_ok (h0 h1 h2 h3 h4 : Int) (A : Option Addr) (c : Nat) (l : List Int) (w : World) (hT : TabQ w) (hr : Kd.C (Kd.int .u8) w A l.length l) (hc : l.length ≤ c) (hlen : l.length = 64) :
    Calls Tryd.prog 30 #[.agg #[.int .u32 h0, .int .u32 h1, .int .u32 h2, .int .u32 h3, .int .u32 h4], .slice A l.length c] w fun e w' => e = .returned (.tuple #[.agg #[.int .u32 (doF h0 h1 h2 h3 h4 l).1, .int .u32 (doF h0 h1 h2 h3 h4 l).2.1, .int .u32 (doF h0 h1 h2 h3 h4 l).2.2.1, .int .u32 (doF h0 h1 h2 h3 h4 l).2.2.2.1, .int .u32 (doF h0 h1 h2 h3 h4 l).2.2.2.2], .int .i64 0]) ∧ Below w.heap.size w w' := by
  have HhT := Aside0.mk hT
  have Hhr := Aside0.mk hr
  have HLN := Aside0.mk hlen
  have HLC := Aside0.mk hc
  clear hr hc hT
  obtain ⟨ad, rfl, hx_⟩ := Cint_at Hhr.out 0 (by omega)
  clear hx_
  rw [hlen] at Hhr HLC ⊢
  clear hlen
  go_enter Tryd.func30, Tryd.ntmps30
  go_wp2_with (first | ((with_reducible refine gate_dst (N := 2) rfl ?_); refine box_event ?hg (N := 2) ?hd (cs := #[.int .u32 h0, .int .u32 h1, .int .u32 h2, .int .u32 h3, .int .u32 h4]) (t := 42) ?hr ?_; (case hd => rfl); (case hg => rfl); (case hr => first | (go_simp; done) | (go_simp; rfl)); intro g1 hgg1 w2 hhg1 hbg1; have H5 := Aside0.mk hhg1; have G3 : w.heap.size ≤ g1 := Nat.le_of_eq hgg1.symm; have B4 := Aside0.mk (hbg1); clear hgg1 hhg1 hbg1) | ((with_reducible refine gate_dst (N := 4) rfl ?_); refine box_event ?hg (N := 4) ?hd (cs := #[.int .u32 0, .int .u32 0, .int .u32 0, .int .u32 0, .int .u32 0]) (t := 42) ?hr ?_; (case hd => rfl); (case hg => rfl); (case hr => first | (go_simp; done) | (go_simp; rfl)); intro g6 hgg6 w7 hhg6 hbg6; have H12 := Aside0.mk hhg6; have N8 : g1 ≠ g6 := Nat.ne_of_lt (Nat.lt_of_lt_of_eq (blk_lt H5.out) hgg6.symm); have G9 : w.heap.size ≤ g6 := Nat.le_trans B4.out.size (Nat.le_of_eq hgg6.symm); have B10 := Aside0.mk (below_step B4.out hbg6); have H11 := Aside0.mk (blk_below H5.out hbg6); clear hgg6 hhg6 hbg6 B4 H5) | ((with_reducible refine gate_dst (N := 10) rfl ?_); refine loadG_event (T := 42) (by rfl) rfl rfl (run_loadVar_row _ _ _ _ _ (0, 0) _ H11.out Tryd.underlying42 rfl (by kernel_rfl)) ?_))
  refine (do_calls h0 h1 h2 h3 h4 ad 64 c l w7 (HhT.out.at B10.out) (Kd.C_below Hhr.out B10.out) HLN.out (by decide) HLC.out).mono ?_
  rintro e w13 ⟨rfl, hb_⟩
  have B14 := Aside0.mk (below_step B10.out hb_)
  have H15 := Aside0.mk (blk_below H11.out hb_)
  have H16 := Aside0.mk (blk_below H12.out hb_)
  clear hb_ B10 H11 H12
  go_wp2_with (first | ((with_reducible refine gate_store (t := 42) (p := _) rfl ?_); refine storeN_event (T := 42) rfl rfl rfl rfl rfl (storeVar_blk H16.out 42 0 [.int .u32 (doF h0 h1 h2 h3 h4 l).1, .int .u32 (doF h0 h1 h2 h3 h4 l).2.1, .int .u32 (doF h0 h1 h2 h3 h4 l).2.2.1, .int .u32 (doF h0 h1 h2 h3 h4 l).2.2.2.1, .int .u32 (doF h0 h1 h2 h3 h4 l).2.2.2.2] (by kernel_rfl) rfl (by simp)) ?_; have H18 := Aside0.mk (show (World.setCells w13 g6 0 [.int .u32 (doF h0 h1 h2 h3 h4 l).1, .int .u32 (doF h0 h1 h2 h3 h4 l).2.1, .int .u32 (doF h0 h1 h2 h3 h4 l).2.2.1, .int .u32 (doF h0 h1 h2 h3 h4 l).2.2.2.1, .int .u32 (doF h0 h1 h2 h3 h4 l).2.2.2.2]).heap[g6]? = some (.cells #[.int .u32 (doF h0 h1 h2 h3 h4 l).1, .int .u32 (doF h0 h1 h2 h3 h4 l).2.1, .int .u32 (doF h0 h1 h2 h3 h4 l).2.2.1, .int .u32 (doF h0 h1 h2 h3 h4 l).2.2.2.1, .int .u32 (doF h0 h1 h2 h3 h4 l).2.2.2.2] 42 (0, 0)) from blk_setCells [] [.int .u32 (doF h0 h1 h2 h3 h4 l).1, .int .u32 (doF h0 h1 h2 h3 h4 l).2.1, .int .u32 (doF h0 h1 h2 h3 h4 l).2.2.1, .int .u32 (doF h0 h1 h2 h3 h4 l).2.2.2.1, .int .u32 (doF h0 h1 h2 h3 h4 l).2.2.2.2] [.int .u32 0, .int .u32 0, .int .u32 0, .int .u32 0, .int .u32 0] [] w13 rfl H16.out); have H19 := Aside0.mk (far_setCells N8 [.int .u32 (doF h0 h1 h2 h3 h4 l).1, .int .u32 (doF h0 h1 h2 h3 h4 l).2.1, .int .u32 (doF h0 h1 h2 h3 h4 l).2.2.1, .int .u32 (doF h0 h1 h2 h3 h4 l).2.2.2.1, .int .u32 (doF h0 h1 h2 h3 h4 l).2.2.2.2] 0 w13 H15.out); have B20 := Aside0.mk (below_setCells G9 [.int .u32 (doF h0 h1 h2 h3 h4 l).1, .int .u32 (doF h0 h1 h2 h3 h4 l).2.1, .int .u32 (doF h0 h1 h2 h3 h4 l).2.2.1, .int .u32 (doF h0 h1 h2 h3 h4 l).2.2.2.1, .int .u32 (doF h0 h1 h2 h3 h4 l).2.2.2.2] 0 w13 B14.out); clear H16 H15 B14; generalize World.setCells w13 g6 0 [.int .u32 (doF h0 h1 h2 h3 h4 l).1, .int .u32 (doF h0 h1 h2 h3 h4 l).2.1, .int .u32 (doF h0 h1 h2 h3 h4 l).2.2.1, .int .u32 (doF h0 h1 h2 h3 h4 l).2.2.2.1, .int .u32 (doF h0 h1 h2 h3 h4 l).2.2.2.2] = w17 at H19 H18 B20 ⊢))
  exact bodyPost_ret (results_ct rfl _ _ g6 42 #[.int .u32 (doF h0 h1 h2 h3 h4 l).1, .int .u32 (doF h0 h1 h2 h3 h4 l).2.1, .int .u32 (doF h0 h1 h2 h3 h4 l).2.2.1, .int .u32 (doF h0 h1 h2 h3 h4 l).2.2.2.1, .int .u32 (doF h0 h1 h2 h3 h4 l).2.2.2.2] (0, 0) _ rfl H18.out Tryd.underlying42 rfl (by kernel_rfl)) rfl ⟨rfl, B20.out⟩
set_option maxRecDepth 100000 in
theorem rblock_bad (h0 h1 h2 h3 h4 : Int) (A : Option Addr) (c : Nat) (l : List Int) (w : World) (hr : Kd.C (Kd.int .u8) w A l.length l) (hc : l.length ≤ c) (hlen : l.length ≠ 64) :
    Calls Tryd.prog 31 #[.agg #[.int .u32 h0, .int .u32 h1, .int .u32 h2, .int .u32 h3, .int .u32 h4], .slice A l.length c] w fun e w' => e = .returned (.tuple #[.agg #[.int .u32 0, .int .u32 0, .int .u32 0, .int .u32 0, .int .u32 0], .int .i64 2]) ∧ Below w.heap.size w w' := by
  have Hhr := Aside0.mk hr
  have HLN := Aside0.mk hlen
  have HLC := Aside0.mk hc
  clear hr hc 
  have e1 : (((l.length : Nat) : Int) != 64) = true := by simp; omega
  have e2 : (((l.length : Nat) : Int) == 64) = false := by simp; omega
  have e3 : decide (((l.length : Nat) : Int) = 64) = false := by simp; omega
  clear hlen
  go_enter Tryd.func31, Tryd.ntmps31
  go_wp2_with (first | ((with_reducible refine gate_dst (N := 2) rfl ?_); refine box_event ?hg (N := 2) ?hd (cs := #[.int .u32 h0, .int .u32 h1, .int .u32 h2, .int .u32 h3, .int .u32 h4]) (t := 42) ?hr ?_; (case hd => rfl); (case hg => rfl); (case hr => first | (go_simp; done) | (go_simp; rfl)); intro g1 hgg1 w2 hhg1 hbg1; have H5 := Aside0.mk hhg1; have G3 : w.heap.size ≤ g1 := Nat.le_of_eq hgg1.symm; have B4 := Aside0.mk (hbg1); clear hgg1 hhg1 hbg1) | ((with_reducible refine gate_dst (N := 4) rfl ?_); refine box_event ?hg (N := 4) ?hd (cs := #[.int .u32 0, .int .u32 0, .int .u32 0, .int .u32 0, .int .u32 0]) (t := 42) ?hr ?_; (case hd => rfl); (case hg => rfl); (case hr => first | (go_simp; done) | (go_simp; rfl)); intro g6 hgg6 w7 hhg6 hbg6; have H12 := Aside0.mk hhg6; have N8 : g1 ≠ g6 := Nat.ne_of_lt (Nat.lt_of_lt_of_eq (blk_lt H5.out) hgg6.symm); have G9 : w.heap.size ≤ g6 := Nat.le_trans B4.out.size (Nat.le_of_eq hgg6.symm); have B10 := Aside0.mk (below_step B4.out hbg6); have H11 := Aside0.mk (blk_below H5.out hbg6); clear hgg6 hhg6 hbg6 B4 H5) | ((with_reducible refine gate_store (t := 42) (p := _) rfl ?_); refine storeN_event (T := 42) rfl rfl rfl rfl rfl (storeVar_blk H12.out 42 0 [.int .u32 0, .int .u32 0, .int .u32 0, .int .u32 0, .int .u32 0] (by kernel_rfl) rfl (by simp)) ?_; have H14 := Aside0.mk (show (World.setCells w7 g6 0 [.int .u32 0, .int .u32 0, .int .u32 0, .int .u32 0, .int .u32 0]).heap[g6]? = some (.cells #[.int .u32 0, .int .u32 0, .int .u32 0, .int .u32 0, .int .u32 0] 42 (0, 0)) from blk_setCells [] [.int .u32 0, .int .u32 0, .int .u32 0, .int .u32 0, .int .u32 0] [.int .u32 0, .int .u32 0, .int .u32 0, .int .u32 0, .int .u32 0] [] w7 rfl H12.out); have H15 := Aside0.mk (far_setCells N8 [.int .u32 0, .int .u32 0, .int .u32 0, .int .u32 0, .int .u32 0] 0 w7 H11.out); have B16 := Aside0.mk (below_setCells G9 [.int .u32 0, .int .u32 0, .int .u32 0, .int .u32 0, .int .u32 0] 0 w7 B10.out); clear H12 H11 B10; generalize World.setCells w7 g6 0 [.int .u32 0, .int .u32 0, .int .u32 0, .int .u32 0, .int .u32 0] = w13 at H15 H14 B16 ⊢))
  exact bodyPost_ret (results_ct rfl _ _ g6 42 #[.int .u32 0, .int .u32 0, .int .u32 0, .int .u32 0, .int .u32 0] (0, 0) _ rfl H14.out Tryd.underlying42 rfl (by kernel_rfl)) rfl ⟨rfl, B16.out⟩
set_option maxRecDepth 100000 in
theorem rblock_ok (h0 h1 h2 h3 h4 : Int) (A : Option Addr) (c : Nat) (l : List Int) (w : World) (hr : Kd.C (Kd.int .u8) w A l.length l) (hc : l.length ≤ c) (hlen : l.length = 64) :
    Calls Tryd.prog 31 #[.agg #[.int .u32 h0, .int .u32 h1, .int .u32 h2, .int .u32 h3, .int .u32 h4], .slice A l.length c] w fun e w' => e = .returned (.tuple #[.agg #[.int .u32 (doneF h0 h1 h2 h3 h4 l).1, .int .u32 (doneF h0 h1 h2 h3 h4 l).2.1, .int .u32 (doneF h0 h1 h2 h3 h4 l).2.2.1, .int .u32 (doneF h0 h1 h2 h3 h4 l).2.2.2.1, .int .u32 (doneF h0 h1 h2 h3 h4 l).2.2.2.2], .int .i64 0]) ∧ Below w.heap.size w w' := by
  have Hhr := Aside0.mk hr
  have HLN := Aside0.mk hlen
  have HLC := Aside0.mk hc
  clear hr hc 
  obtain ⟨ad, rfl, hx_⟩ := Cint_at Hhr.out 0 (by omega)
  clear hx_
  rw [hlen] at Hhr HLC ⊢
  clear hlen
  go_enter Tryd.func31, Tryd.ntmps31
  go_wp2_with (first | ((with_reducible refine gate_dst (N := 2) rfl ?_); refine box_event ?hg (N := 2) ?hd (cs := #[.int .u32 h0, .int .u32 h1, .int .u32 h2, .int .u32 h3, .int .u32 h4]) (t := 42) ?hr ?_; (case hd => rfl); (case hg => rfl); (case hr => first | (go_simp; done) | (go_simp; rfl)); intro g1 hgg1 w2 hhg1 hbg1; have H5 := Aside0.mk hhg1; have G3 : w.heap.size ≤ g1 := Nat.le_of_eq hgg1.symm; have B4 := Aside0.mk (hbg1); clear hgg1 hhg1 hbg1) | ((with_reducible refine gate_dst (N := 4) rfl ?_); refine box_event ?hg (N := 4) ?hd (cs := #[.int .u32 0, .int .u32 0, .int .u32 0, .int .u32 0, .int .u32 0]) (t := 42) ?hr ?_; (case hd => rfl); (case hg => rfl); (case hr => first | (go_simp; done) | (go_simp; rfl)); intro g6 hgg6 w7 hhg6 hbg6; have H12 := Aside0.mk hhg6; have N8 : g1 ≠ g6 := Nat.ne_of_lt (Nat.lt_of_lt_of_eq (blk_lt H5.out) hgg6.symm); have G9 : w.heap.size ≤ g6 := Nat.le_trans B4.out.size (Nat.le_of_eq hgg6.symm); have B10 := Aside0.mk (below_step B4.out hbg6); have H11 := Aside0.mk (blk_below H5.out hbg6); clear hgg6 hhg6 hbg6 B4 H5) | ((with_reducible refine gate_dst (N := 10) rfl ?_); refine loadG_event (T := 42) (by rfl) rfl rfl (run_loadVar_row _ _ _ _ _ (0, 0) _ H11.out Tryd.underlying42 rfl (by kernel_rfl)) ?_))
  refine (done_calls h0 h1 h2 h3 h4 ad 64 c l w7 (Kd.C_below Hhr.out B10.out) HLN.out (by decide) (by decide)).mono ?_
  rintro e w13 ⟨rfl, hb_⟩
  have B14 := Aside0.mk (below_step B10.out hb_)
  have H15 := Aside0.mk (blk_below H11.out hb_)
  have H16 := Aside0.mk (blk_below H12.out hb_)
  clear hb_ B10 H11 H12
  go_wp2_with (first | ((with_reducible refine gate_store (t := 42) (p := _) rfl ?_); refine storeN_event (T := 42) rfl rfl rfl rfl rfl (storeVar_blk H16.out 42 0 [.int .u32 (doneF h0 h1 h2 h3 h4 l).1, .int .u32 (doneF h0 h1 h2 h3 h4 l).2.1, .int .u32 (doneF h0 h1 h2 h3 h4 l).2.2.1, .int .u32 (doneF h0 h1 h2 h3 h4 l).2.2.2.1, .int .u32 (doneF h0 h1 h2 h3 h4 l).2.2.2.2] (by kernel_rfl) rfl (by simp)) ?_; have H18 := Aside0.mk (show (World.setCells w13 g6 0 [.int .u32 (doneF h0 h1 h2 h3 h4 l).1, .int .u32 (doneF h0 h1 h2 h3 h4 l).2.1, .int .u32 (doneF h0 h1 h2 h3 h4 l).2.2.1, .int .u32 (doneF h0 h1 h2 h3 h4 l).2.2.2.1, .int .u32 (doneF h0 h1 h2 h3 h4 l).2.2.2.2]).heap[g6]? = some (.cells #[.int .u32 (doneF h0 h1 h2 h3 h4 l).1, .int .u32 (doneF h0 h1 h2 h3 h4 l).2.1, .int .u32 (doneF h0 h1 h2 h3 h4 l).2.2.1, .int .u32 (doneF h0 h1 h2 h3 h4 l).2.2.2.1, .int .u32 (doneF h0 h1 h2 h3 h4 l).2.2.2.2] 42 (0, 0)) from blk_setCells [] [.int .u32 (doneF h0 h1 h2 h3 h4 l).1, .int .u32 (doneF h0 h1 h2 h3 h4 l).2.1, .int .u32 (doneF h0 h1 h2 h3 h4 l).2.2.1, .int .u32 (doneF h0 h1 h2 h3 h4 l).2.2.2.1, .int .u32 (doneF h0 h1 h2 h3 h4 l).2.2.2.2] [.int .u32 0, .int .u32 0, .int .u32 0, .int .u32 0, .int .u32 0] [] w13 rfl H16.out); have H19 := Aside0.mk (far_setCells N8 [.int .u32 (doneF h0 h1 h2 h3 h4 l).1, .int .u32 (doneF h0 h1 h2 h3 h4 l).2.1, .int .u32 (doneF h0 h1 h2 h3 h4 l).2.2.1, .int .u32 (doneF h0 h1 h2 h3 h4 l).2.2.2.1, .int .u32 (doneF h0 h1 h2 h3 h4 l).2.2.2.2] 0 w13 H15.out); have B20 := Aside0.mk (below_setCells G9 [.int .u32 (doneF h0 h1 h2 h3 h4 l).1, .int .u32 (doneF h0 h1 h2 h3 h4 l).2.1, .int .u32 (doneF h0 h1 h2 h3 h4 l).2.2.1, .int .u32 (doneF h0 h1 h2 h3 h4 l).2.2.2.1, .int .u32 (doneF h0 h1 h2 h3 h4 l).2.2.2.2] 0 w13 B14.out); clear H16 H15 B14; generalize World.setCells w13 g6 0 [.int .u32 (doneF h0 h1 h2 h3 h4 l).1, .int .u32 (doneF h0 h1 h2 h3 h4 l).2.1, .int .u32 (doneF h0 h1 h2 h3 h4 l).2.2.1, .int .u32 (doneF h0 h1 h2 h3 h4 l).2.2.2.1, .int .u32 (doneF h0 h1 h2 h3 h4 l).2.2.2.2] = w17 at H19 H18 B20 ⊢))
  exact bodyPost_ret (results_ct rfl _ _ g6 42 #[.int .u32 (doneF h0 h1 h2 h3 h4 l).1, .int .u32 (doneF h0 h1 h2 h3 h4 l).2.1, .int .u32 (doneF h0 h1 h2 h3 h4 l).2.2.1, .int .u32 (doneF h0 h1 h2 h3 h4 l).2.2.2.1, .int .u32 (doneF h0 h1 h2 h3 h4 l).2.2.2.2] (0, 0) _ rfl H18.out Tryd.underlying42 rfl (by kernel_rfl)) rfl ⟨rfl, B20.out⟩
set_option maxHeartbeats 1600000 in
set_option maxRecDepth 100000 in
theorem blocks_long (n h0 h1 h2 h3 h4 : Int) (A : Option Addr) (c : Nat) (l : List Int) (w : World) (hT : TabQ w) (hlen : 200 < l.length) :
    Calls Tryd.prog 6 #[.int .i64 n, .agg #[.int .u32 h0, .int .u32 h1, .int .u32 h2, .int .u32 h3, .int .u32 h4], .slice A l.length c] w fun e w' => e = .returned (.bool true) ∧ Below w.heap.size w w' := by
  have HhT := Aside0.mk hT
  have hl1 : (200 < (l.length : Int)) = True := eq_true (by omega)
  have hl2 : decide (200 < (l.length : Int)) = true := decide_eq_true (by omega)
  clear hlen hT
  go_enter Tryd.func6, Tryd.ntmps6
  go_wp2_with (first | ((with_reducible refine gate_dst (N := 4) rfl ?_); refine box_event ?hg (N := 4) ?hd (cs := #[.int .u32 h0, .int .u32 h1, .int .u32 h2, .int .u32 h3, .int .u32 h4]) (t := 42) ?hr ?_; (case hd => rfl); (case hg => rfl); (case hr => first | (go_simp; done) | (go_simp; rfl)); intro g1 hgg1 w2 hhg1 hbg1; have H5 := Aside0.mk hhg1; have G3 : w.heap.size ≤ g1 := Nat.le_of_eq hgg1.symm; have B4 := Aside0.mk (hbg1); clear hgg1 hhg1 hbg1))
  go_ret
  exact ⟨rfl, B4.out⟩
set_option maxHeartbeats 1600000 in
set_option maxRecDepth 100000 in
theorem blocks_short (n h0 h1 h2 h3 h4 : Int) (A : Option Addr) (c : Nat) (l : List Int) (w : World) (hT : TabQ w) (xa : List Int) (en eb p0 p1 p2 p3 p4 : Int) (hp1 : ∀ W : World, Calls Tryd.prog 28 #[.int .i64 n] W fun e w' => ∃ v0_ : Value, e = .returned (.tuple #[v0_, .int .i64 en]) ∧ Kd.R (Kd.int .u8) 5 w' W.heap.size (fun _ => True) v0_ xa ∧ Below W.heap.size W w') (hp2 : ∀ W : World, Calls Tryd.prog 29 #[.int .i64 n] W fun e w' => ∃ v0_ : Value, e = .returned (.tuple #[v0_, .int .i64 en]) ∧ Kd.R (Kd.int .u8) 5 w' W.heap.size (fun _ => True) v0_ xa ∧ Below W.heap.size W w') (hb1 : ∀ W : World, TabQ W → Below w.heap.size w W → Calls Tryd.prog 30 #[.agg #[.int .u32 h0, .int .u32 h1, .int .u32 h2, .int .u32 h3, .int .u32 h4], .slice A l.length c] W fun e w' => e = .returned (.tuple #[.agg #[.int .u32 p0, .int .u32 p1, .int .u32 p2, .int .u32 p3, .int .u32 p4], .int .i64 eb]) ∧ Below W.heap.size W w') (hb2 : ∀ W : World, TabQ W → Below w.heap.size w W → Calls Tryd.prog 31 #[.agg #[.int .u32 h0, .int .u32 h1, .int .u32 h2, .int .u32 h3, .int .u32 h4], .slice A l.length c] W fun e w' => e = .returned (.tuple #[.agg #[.int .u32 p0, .int .u32 p1, .int .u32 p2, .int .u32 p3, .int .u32 p4], .int .i64 eb]) ∧ Below W.heap.size W w') (hsm : ∀ (W : World) (A1 A2 : Option Addr) (c1 c2 : Nat), Kd.C (Kd.int .u8) W A1 xa.length xa → xa.length ≤ c1 → Kd.C (Kd.int .u8) W A2 xa.length xa → xa.length ≤ c2 → Calls Tryd.prog 32 #[.slice A1 xa.length c1, .slice A2 xa.length c2] W fun e w' => e = .returned (.bool true) ∧ Below W.heap.size W w') (hqp : ∀ (d : Nat) (W : World), (Op.equalIn (d + 2) 42 (.agg #[.int .u32 p0, .int .u32 p1, .int .u32 p2, .int .u32 p3, .int .u32 p4]) (.agg #[.int .u32 p0, .int .u32 p1, .int .u32 p2, .int .u32 p3, .int .u32 p4])).run Tryd.prog W = .ok true W) (hlen : ¬ 200 < l.length) :
    Calls Tryd.prog 6 #[.int .i64 n, .agg #[.int .u32 h0, .int .u32 h1, .int .u32 h2, .int .u32 h3, .int .u32 h4], .slice A l.length c] w fun e w' => e = .returned (.bool true) ∧ Below w.heap.size w w' := by
  have HhT := Aside0.mk hT
  have Hhp1 := Aside0.mk hp1
  have Hhp2 := Aside0.mk hp2
  have Hhb1 := Aside0.mk hb1
  have Hhb2 := Aside0.mk hb2
  have Hhsm := Aside0.mk hsm
  have Hhqp := Aside0.mk hqp
  clear hp1 hp2 hb1 hb2 hsm hqp
  have hl1 : (200 < (l.length : Int)) = False := eq_false (by omega)
  have hl2 : decide (200 < (l.length : Int)) = false := decide_eq_false (by omega)
  clear hlen hT
  go_enter Tryd.func6, Tryd.ntmps6
  go_wp2_with (first | ((with_reducible refine gate_dst (N := 4) rfl ?_); refine box_event ?hg (N := 4) ?hd (cs := #[.int .u32 h0, .int .u32 h1, .int .u32 h2, .int .u32 h3, .int .u32 h4]) (t := 42) ?hr ?_; (case hd => rfl); (case hg => rfl); (case hr => first | (go_simp; done) | (go_simp; rfl)); intro g1 hgg1 w2 hhg1 hbg1; have H5 := Aside0.mk hhg1; have G3 : w.heap.size ≤ g1 := Nat.le_of_eq hgg1.symm; have B4 := Aside0.mk (hbg1); clear hgg1 hhg1 hbg1))
  refine (Hhp1.out w2).mono ?_
  rintro e w6 ⟨v_, rfl, hR_, hb_⟩
  have B7 := Aside0.mk (below_step B4.out hb_)
  have H8 := Aside0.mk (blk_below H5.out hb_)
  clear hb_ B4 H5
  obtain ⟨r9, c10, rfl, hle_, hC_⟩ := Kd.R_reads hR_
  have R11 := Aside0.mk hC_
  have L12 := Aside0.mk hle_
  clear hC_ hle_ hR_
  go_wp2_with fail
  refine (Hhp2.out w6).mono ?_
  rintro e w13 ⟨v_, rfl, hR_, hb_⟩
  have B14 := Aside0.mk (below_step B7.out hb_)
  have B15 := Aside0.mk (hb_)
  have H16 := Aside0.mk (blk_below H8.out hb_)
  clear hb_ B7 H8
  obtain ⟨r17, c18, rfl, hle_, hC_⟩ := Kd.R_reads hR_
  have R19 := Aside0.mk hC_
  have L20 := Aside0.mk hle_
  clear hC_ hle_ hR_
  go_wp2_with (first | ((with_reducible refine gate_dst (N := 29) rfl ?_); refine loadG_event (T := 42) (by rfl) rfl rfl (run_loadVar_row _ _ _ _ _ (0, 0) _ H16.out Tryd.underlying42 rfl (by kernel_rfl)) ?_))
  refine (Hhb1.out w13 (HhT.out.at B14.out) B14.out).mono ?_
  rintro e w21 ⟨rfl, hb_⟩
  have B22 := Aside0.mk (below_step B14.out hb_)
  have B23 := Aside0.mk (below_step B15.out hb_)
  have B24 := Aside0.mk (hb_)
  have H25 := Aside0.mk (blk_below H16.out hb_)
  clear hb_ B14 B15 H16
  go_wp2_with (first | ((with_reducible refine gate_dst (N := 11) rfl ?_); refine box_event ?hg (N := 11) ?hd (cs := #[.int .u32 0, .int .u32 0, .int .u32 0, .int .u32 0, .int .u32 0]) (t := 42) ?hr ?_; (case hd => rfl); (case hg => rfl); (case hr => first | (go_simp; done) | (go_simp; rfl)); intro g26 hgg26 w27 hhg26 hbg26; have H36 := Aside0.mk hhg26; have N28 : g1 ≠ g26 := Nat.ne_of_lt (Nat.lt_of_lt_of_eq (blk_lt H25.out) hgg26.symm); have G29 : w.heap.size ≤ g26 := Nat.le_trans B22.out.size (Nat.le_of_eq hgg26.symm); have G30 : w6.heap.size ≤ g26 := Nat.le_trans B23.out.size (Nat.le_of_eq hgg26.symm); have G31 : w13.heap.size ≤ g26 := Nat.le_trans B24.out.size (Nat.le_of_eq hgg26.symm); have B32 := Aside0.mk (below_step B22.out hbg26); have B33 := Aside0.mk (below_step B23.out hbg26); have B34 := Aside0.mk (below_step B24.out hbg26); have H35 := Aside0.mk (blk_below H25.out hbg26); clear hgg26 hhg26 hbg26 B22 B23 B24 H25) | ((with_reducible refine gate_store (t := 42) (p := _) rfl ?_); refine storeN_event (T := 42) rfl rfl rfl rfl rfl (storeVar_blk H36.out 42 0 [.int .u32 p0, .int .u32 p1, .int .u32 p2, .int .u32 p3, .int .u32 p4] (by kernel_rfl) rfl (by simp)) ?_; have H38 := Aside0.mk (show (World.setCells w27 g26 0 [.int .u32 p0, .int .u32 p1, .int .u32 p2, .int .u32 p3, .int .u32 p4]).heap[g26]? = some (.cells #[.int .u32 p0, .int .u32 p1, .int .u32 p2, .int .u32 p3, .int .u32 p4] 42 (0, 0)) from blk_setCells [] [.int .u32 p0, .int .u32 p1, .int .u32 p2, .int .u32 p3, .int .u32 p4] [.int .u32 0, .int .u32 0, .int .u32 0, .int .u32 0, .int .u32 0] [] w27 rfl H36.out); have H39 := Aside0.mk (far_setCells N28 [.int .u32 p0, .int .u32 p1, .int .u32 p2, .int .u32 p3, .int .u32 p4] 0 w27 H35.out); have B40 := Aside0.mk (below_setCells G29 [.int .u32 p0, .int .u32 p1, .int .u32 p2, .int .u32 p3, .int .u32 p4] 0 w27 B32.out); have B41 := Aside0.mk (below_setCells G30 [.int .u32 p0, .int .u32 p1, .int .u32 p2, .int .u32 p3, .int .u32 p4] 0 w27 B33.out); have B42 := Aside0.mk (below_setCells G31 [.int .u32 p0, .int .u32 p1, .int .u32 p2, .int .u32 p3, .int .u32 p4] 0 w27 B34.out); clear H36 H35 B32 B33 B34; generalize World.setCells w27 g26 0 [.int .u32 p0, .int .u32 p1, .int .u32 p2, .int .u32 p3, .int .u32 p4] = w37 at H39 H38 B40 B41 B42 ⊢) | ((with_reducible refine gate_dst (N := 35) rfl ?_); refine loadG_event (T := 42) (by rfl) rfl rfl (run_loadVar_row _ _ _ _ _ (0, 0) _ H39.out Tryd.underlying42 rfl (by kernel_rfl)) ?_))
  refine (Hhb2.out w37 (HhT.out.at B40.out) B40.out).mono ?_
  rintro e w43 ⟨rfl, hb_⟩
  have B44 := Aside0.mk (below_step B40.out hb_)
  have B45 := Aside0.mk (below_step B41.out hb_)
  have B46 := Aside0.mk (below_step B42.out hb_)
  have H47 := Aside0.mk (blk_below H39.out hb_)
  have H48 := Aside0.mk (blk_below H38.out hb_)
  clear hb_ B40 B41 B42 H39 H38
  go_wp2_with (first | ((with_reducible refine gate_dst (N := 13) rfl ?_); refine box_event ?hg (N := 13) ?hd (cs := #[.int .u32 0, .int .u32 0, .int .u32 0, .int .u32 0, .int .u32 0]) (t := 42) ?hr ?_; (case hd => rfl); (case hg => rfl); (case hr => first | (go_simp; done) | (go_simp; rfl)); intro g49 hgg49 w50 hhg49 hbg49; have H61 := Aside0.mk hhg49; have N51 : g1 ≠ g49 := Nat.ne_of_lt (Nat.lt_of_lt_of_eq (blk_lt H47.out) hgg49.symm); have N52 : g26 ≠ g49 := Nat.ne_of_lt (Nat.lt_of_lt_of_eq (blk_lt H48.out) hgg49.symm); have G53 : w.heap.size ≤ g49 := Nat.le_trans B44.out.size (Nat.le_of_eq hgg49.symm); have G54 : w6.heap.size ≤ g49 := Nat.le_trans B45.out.size (Nat.le_of_eq hgg49.symm); have G55 : w13.heap.size ≤ g49 := Nat.le_trans B46.out.size (Nat.le_of_eq hgg49.symm); have B56 := Aside0.mk (below_step B44.out hbg49); have B57 := Aside0.mk (below_step B45.out hbg49); have B58 := Aside0.mk (below_step B46.out hbg49); have H59 := Aside0.mk (blk_below H47.out hbg49); have H60 := Aside0.mk (blk_below H48.out hbg49); clear hgg49 hhg49 hbg49 B44 B45 B46 H47 H48) | ((with_reducible refine gate_store (t := 42) (p := _) rfl ?_); refine storeN_event (T := 42) rfl rfl rfl rfl rfl (storeVar_blk H61.out 42 0 [.int .u32 p0, .int .u32 p1, .int .u32 p2, .int .u32 p3, .int .u32 p4] (by kernel_rfl) rfl (by simp)) ?_; have H63 := Aside0.mk (show (World.setCells w50 g49 0 [.int .u32 p0, .int .u32 p1, .int .u32 p2, .int .u32 p3, .int .u32 p4]).heap[g49]? = some (.cells #[.int .u32 p0, .int .u32 p1, .int .u32 p2, .int .u32 p3, .int .u32 p4] 42 (0, 0)) from blk_setCells [] [.int .u32 p0, .int .u32 p1, .int .u32 p2, .int .u32 p3, .int .u32 p4] [.int .u32 0, .int .u32 0, .int .u32 0, .int .u32 0, .int .u32 0] [] w50 rfl H61.out); have H64 := Aside0.mk (far_setCells N51 [.int .u32 p0, .int .u32 p1, .int .u32 p2, .int .u32 p3, .int .u32 p4] 0 w50 H59.out); have H65 := Aside0.mk (far_setCells N52 [.int .u32 p0, .int .u32 p1, .int .u32 p2, .int .u32 p3, .int .u32 p4] 0 w50 H60.out); have B66 := Aside0.mk (below_setCells G53 [.int .u32 p0, .int .u32 p1, .int .u32 p2, .int .u32 p3, .int .u32 p4] 0 w50 B56.out); have B67 := Aside0.mk (below_setCells G54 [.int .u32 p0, .int .u32 p1, .int .u32 p2, .int .u32 p3, .int .u32 p4] 0 w50 B57.out); have B68 := Aside0.mk (below_setCells G55 [.int .u32 p0, .int .u32 p1, .int .u32 p2, .int .u32 p3, .int .u32 p4] 0 w50 B58.out); clear H61 H59 H60 B56 B57 B58; generalize World.setCells w50 g49 0 [.int .u32 p0, .int .u32 p1, .int .u32 p2, .int .u32 p3, .int .u32 p4] = w62 at H64 H65 H63 B66 B67 B68 ⊢))
  refine (Hhsm.out w62 r9 r17 c10 c18 (Kd.C_below R11.out B67.out) L12.out (Kd.C_below R19.out B68.out) L20.out).mono ?_
  rintro e w69 ⟨rfl, hb_⟩
  have B70 := Aside0.mk (below_step B66.out hb_)
  have B71 := Aside0.mk (below_step B67.out hb_)
  have B72 := Aside0.mk (below_step B68.out hb_)
  have H73 := Aside0.mk (blk_below H64.out hb_)
  have H74 := Aside0.mk (blk_below H65.out hb_)
  have H75 := Aside0.mk (blk_below H63.out hb_)
  clear hb_ B66 B67 B68 H64 H65 H63
  have hqp := Hhqp.out
  go_wp2_with (first | ((with_reducible refine gate_dst (N := 49) rfl ?_); refine loadG_event (T := 42) (by rfl) rfl rfl (run_loadVar_row _ _ _ _ _ (0, 0) _ H74.out Tryd.underlying42 rfl (by kernel_rfl)) ?_) | ((with_reducible refine gate_dst (N := 50) rfl ?_); refine loadG_event (T := 42) (by rfl) rfl rfl (run_loadVar_row _ _ _ _ _ (0, 0) _ H75.out Tryd.underlying42 rfl (by kernel_rfl)) ?_))
  go_ret
  exact ⟨rfl, B70.out⟩
end Go.Proofs.YtbldecdipicddaaDoor.Hand
