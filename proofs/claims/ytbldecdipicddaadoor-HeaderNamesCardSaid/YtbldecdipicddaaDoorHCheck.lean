/- Check of a header, the program's and the reference's. Written by wip/s1/mkcheck.py. -/
import Derived.Test.YtbldecdipicddaaDoorHAux
set_option linter.unusedSimpArgs false
set_option linter.unusedVariables false
namespace Go.Proofs.YtbldecdipicddaaDoor.Hand
open Go Go.RowKit Go.Proofs.YtbldecdipicddaaDoorW.PrintWords Go.Proofs.YtbldecdipicddaaDoorW.PrintLast Go.Proofs.YtbldecdipicddaaDoorW.PrintMore
/-- A header is valid. -/
def vld (m a b c d : Int) : Bool := decide ((0 ≤ a ∧ a < 16 ∧ 1 ≤ c ∧ c ≤ 4096 ∧ 0 ≤ b ∧ b ≤ 8192 - c) ∧ ((m = 1 ∧ d = c) ∨ (m = 2 ∧ 0 < d ∧ d < c)))
theorem vld_iff {m a b c d : Int} : vld m a b c d = true ↔ (0 ≤ a ∧ a < 16 ∧ 1 ≤ c ∧ c ≤ 4096 ∧ 0 ≤ b ∧ b ≤ 8192 - c) ∧ ((m = 1 ∧ d = c) ∨ (m = 2 ∧ 0 < d ∧ d < c)) := by unfold vld; exact decide_eq_true_iff
theorem vld_ret {m a b c d : Int} (n : Int) (h : (vld m a b c d = true ∧ n = 0) ∨ (¬ vld m a b c d = true ∧ n = 8)) : (if vld m a b c d = true then (0 : Int) else 8) = n := by
  rcases h with ⟨h, rfl⟩ | ⟨h, rfl⟩
  · exact if_pos h
  · exact if_neg h
set_option maxHeartbeats 1600000 in
set_option maxRecDepth 100000 in
theorem check_calls (a0 a1 a2 a3 a4 a5 a6 a7 a8 a9 a10 a11 a12 a13 a14 a15 a16 a17 a18 a19 a20 a21 a22 a23 a24 : Int) (w : World) :
    Calls Tryd.prog 25 #[.agg #[.int .u8 a0, .int .i64 a1, .int .i64 a2, .int .i64 a3, .int .i64 a4, .int .u8 a5, .int .u8 a6, .int .u8 a7, .int .u8 a8, .int .u8 a9, .int .u8 a10, .int .u8 a11, .int .u8 a12, .int .u8 a13, .int .u8 a14, .int .u8 a15, .int .u8 a16, .int .u8 a17, .int .u8 a18, .int .u8 a19, .int .u8 a20, .int .u8 a21, .int .u8 a22, .int .u8 a23, .int .u8 a24]] w fun e w' => e = .returned (.int .i64 (if vld a0 a1 a2 a3 a4 = true then 0 else 8)) ∧ Below w.heap.size w w' := by
  by_cases h0 : a1 < 0
  · have HV := Aside0.mk (vld_ret (m := a0) (a := a1) (b := a2) (c := a3) (d := a4) 8 (by rw [vld_iff]; omega))
    have f0 : (a1 < 0) = True := eq_true (by omega)
    have g0 : (0 ≤ a1) = False := eq_false (by omega)
    clear h0
    rw [HV.out]
    go_enter Tryd.func25, Tryd.ntmps25
    go_wp2_with (first | ((with_reducible refine gate_dst (N := 1) rfl ?_); refine box_event ?hg (N := 1) ?hd (cs := #[.int .u8 a0, .int .i64 a1, .int .i64 a2, .int .i64 a3, .int .i64 a4, .int .u8 a5, .int .u8 a6, .int .u8 a7, .int .u8 a8, .int .u8 a9, .int .u8 a10, .int .u8 a11, .int .u8 a12, .int .u8 a13, .int .u8 a14, .int .u8 a15, .int .u8 a16, .int .u8 a17, .int .u8 a18, .int .u8 a19, .int .u8 a20, .int .u8 a21, .int .u8 a22, .int .u8 a23, .int .u8 a24]) (t := 25) ?hr ?_; (case hd => rfl); (case hg => rfl); (case hr => first | (go_simp; done) | (go_simp; rfl)); intro g1 hgg1 w2 hhg1 hbg1; have H5 := Aside0.mk hhg1; have G3 : w.heap.size ≤ g1 := Nat.le_of_eq hgg1.symm; have B4 := Aside0.mk (hbg1); clear hgg1 hhg1 hbg1; have c0 := (blk_cell H5.out 0).trans (show _ = some (.int .u8 a0) from rfl); have c1 := (blk_cell H5.out 1).trans (show _ = some (.int .i64 a1) from rfl); have c2 := (blk_cell H5.out 2).trans (show _ = some (.int .i64 a2) from rfl); have c3 := (blk_cell H5.out 3).trans (show _ = some (.int .i64 a3) from rfl); have c4 := (blk_cell H5.out 4).trans (show _ = some (.int .i64 a4) from rfl)))
    go_ret
    exact ⟨rfl, B4.out⟩
  · by_cases h1 : ¬ a1 < 16
    · have HV := Aside0.mk (vld_ret (m := a0) (a := a1) (b := a2) (c := a3) (d := a4) 8 (by rw [vld_iff]; omega))
      have f0 : (a1 < 0) = False := eq_false (by omega)
      have g0 : (0 ≤ a1) = True := eq_true (by omega)
      have f1 : (a1 < 16) = False := eq_false (by omega)
      have g1 : (16 ≤ a1) = True := eq_true (by omega)
      clear h0 h1
      rw [HV.out]
      go_enter Tryd.func25, Tryd.ntmps25
      go_wp2_with (first | ((with_reducible refine gate_dst (N := 1) rfl ?_); refine box_event ?hg (N := 1) ?hd (cs := #[.int .u8 a0, .int .i64 a1, .int .i64 a2, .int .i64 a3, .int .i64 a4, .int .u8 a5, .int .u8 a6, .int .u8 a7, .int .u8 a8, .int .u8 a9, .int .u8 a10, .int .u8 a11, .int .u8 a12, .int .u8 a13, .int .u8 a14, .int .u8 a15, .int .u8 a16, .int .u8 a17, .int .u8 a18, .int .u8 a19, .int .u8 a20, .int .u8 a21, .int .u8 a22, .int .u8 a23, .int .u8 a24]) (t := 25) ?hr ?_; (case hd => rfl); (case hg => rfl); (case hr => first | (go_simp; done) | (go_simp; rfl)); intro g1 hgg1 w2 hhg1 hbg1; have H5 := Aside0.mk hhg1; have G3 : w.heap.size ≤ g1 := Nat.le_of_eq hgg1.symm; have B4 := Aside0.mk (hbg1); clear hgg1 hhg1 hbg1; have c0 := (blk_cell H5.out 0).trans (show _ = some (.int .u8 a0) from rfl); have c1 := (blk_cell H5.out 1).trans (show _ = some (.int .i64 a1) from rfl); have c2 := (blk_cell H5.out 2).trans (show _ = some (.int .i64 a2) from rfl); have c3 := (blk_cell H5.out 3).trans (show _ = some (.int .i64 a3) from rfl); have c4 := (blk_cell H5.out 4).trans (show _ = some (.int .i64 a4) from rfl)))
      go_ret
      exact ⟨rfl, B4.out⟩
    · by_cases h2 : a3 < 1
      · have HV := Aside0.mk (vld_ret (m := a0) (a := a1) (b := a2) (c := a3) (d := a4) 8 (by rw [vld_iff]; omega))
        have f0 : (a1 < 0) = False := eq_false (by omega)
        have g0 : (0 ≤ a1) = True := eq_true (by omega)
        have f1 : (a1 < 16) = True := eq_true (by omega)
        have g1 : (16 ≤ a1) = False := eq_false (by omega)
        have f2 : (a3 < 1) = True := eq_true (by omega)
        have g2 : (1 ≤ a3) = False := eq_false (by omega)
        clear h0 h1 h2
        rw [HV.out]
        go_enter Tryd.func25, Tryd.ntmps25
        go_wp2_with (first | ((with_reducible refine gate_dst (N := 1) rfl ?_); refine box_event ?hg (N := 1) ?hd (cs := #[.int .u8 a0, .int .i64 a1, .int .i64 a2, .int .i64 a3, .int .i64 a4, .int .u8 a5, .int .u8 a6, .int .u8 a7, .int .u8 a8, .int .u8 a9, .int .u8 a10, .int .u8 a11, .int .u8 a12, .int .u8 a13, .int .u8 a14, .int .u8 a15, .int .u8 a16, .int .u8 a17, .int .u8 a18, .int .u8 a19, .int .u8 a20, .int .u8 a21, .int .u8 a22, .int .u8 a23, .int .u8 a24]) (t := 25) ?hr ?_; (case hd => rfl); (case hg => rfl); (case hr => first | (go_simp; done) | (go_simp; rfl)); intro g1 hgg1 w2 hhg1 hbg1; have H5 := Aside0.mk hhg1; have G3 : w.heap.size ≤ g1 := Nat.le_of_eq hgg1.symm; have B4 := Aside0.mk (hbg1); clear hgg1 hhg1 hbg1; have c0 := (blk_cell H5.out 0).trans (show _ = some (.int .u8 a0) from rfl); have c1 := (blk_cell H5.out 1).trans (show _ = some (.int .i64 a1) from rfl); have c2 := (blk_cell H5.out 2).trans (show _ = some (.int .i64 a2) from rfl); have c3 := (blk_cell H5.out 3).trans (show _ = some (.int .i64 a3) from rfl); have c4 := (blk_cell H5.out 4).trans (show _ = some (.int .i64 a4) from rfl)))
        go_ret
        exact ⟨rfl, B4.out⟩
      · by_cases h3 : 4096 < a3
        · have HV := Aside0.mk (vld_ret (m := a0) (a := a1) (b := a2) (c := a3) (d := a4) 8 (by rw [vld_iff]; omega))
          have f0 : (a1 < 0) = False := eq_false (by omega)
          have g0 : (0 ≤ a1) = True := eq_true (by omega)
          have f1 : (a1 < 16) = True := eq_true (by omega)
          have g1 : (16 ≤ a1) = False := eq_false (by omega)
          have f2 : (a3 < 1) = False := eq_false (by omega)
          have g2 : (1 ≤ a3) = True := eq_true (by omega)
          have f3 : (4096 < a3) = True := eq_true (by omega)
          have g3 : (a3 ≤ 4096) = False := eq_false (by omega)
          clear h0 h1 h2 h3
          rw [HV.out]
          go_enter Tryd.func25, Tryd.ntmps25
          go_wp2_with (first | ((with_reducible refine gate_dst (N := 1) rfl ?_); refine box_event ?hg (N := 1) ?hd (cs := #[.int .u8 a0, .int .i64 a1, .int .i64 a2, .int .i64 a3, .int .i64 a4, .int .u8 a5, .int .u8 a6, .int .u8 a7, .int .u8 a8, .int .u8 a9, .int .u8 a10, .int .u8 a11, .int .u8 a12, .int .u8 a13, .int .u8 a14, .int .u8 a15, .int .u8 a16, .int .u8 a17, .int .u8 a18, .int .u8 a19, .int .u8 a20, .int .u8 a21, .int .u8 a22, .int .u8 a23, .int .u8 a24]) (t := 25) ?hr ?_; (case hd => rfl); (case hg => rfl); (case hr => first | (go_simp; done) | (go_simp; rfl)); intro g1 hgg1 w2 hhg1 hbg1; have H5 := Aside0.mk hhg1; have G3 : w.heap.size ≤ g1 := Nat.le_of_eq hgg1.symm; have B4 := Aside0.mk (hbg1); clear hgg1 hhg1 hbg1; have c0 := (blk_cell H5.out 0).trans (show _ = some (.int .u8 a0) from rfl); have c1 := (blk_cell H5.out 1).trans (show _ = some (.int .i64 a1) from rfl); have c2 := (blk_cell H5.out 2).trans (show _ = some (.int .i64 a2) from rfl); have c3 := (blk_cell H5.out 3).trans (show _ = some (.int .i64 a3) from rfl); have c4 := (blk_cell H5.out 4).trans (show _ = some (.int .i64 a4) from rfl)))
          go_ret
          exact ⟨rfl, B4.out⟩
        · by_cases h4 : a2 < 0
          · have HV := Aside0.mk (vld_ret (m := a0) (a := a1) (b := a2) (c := a3) (d := a4) 8 (by rw [vld_iff]; omega))
            have f0 : (a1 < 0) = False := eq_false (by omega)
            have g0 : (0 ≤ a1) = True := eq_true (by omega)
            have f1 : (a1 < 16) = True := eq_true (by omega)
            have g1 : (16 ≤ a1) = False := eq_false (by omega)
            have f2 : (a3 < 1) = False := eq_false (by omega)
            have g2 : (1 ≤ a3) = True := eq_true (by omega)
            have f3 : (4096 < a3) = False := eq_false (by omega)
            have g3 : (a3 ≤ 4096) = True := eq_true (by omega)
            have f4 : (a2 < 0) = True := eq_true (by omega)
            have g4 : (0 ≤ a2) = False := eq_false (by omega)
            clear h0 h1 h2 h3 h4
            rw [HV.out]
            go_enter Tryd.func25, Tryd.ntmps25
            go_wp2_with (first | ((with_reducible refine gate_dst (N := 1) rfl ?_); refine box_event ?hg (N := 1) ?hd (cs := #[.int .u8 a0, .int .i64 a1, .int .i64 a2, .int .i64 a3, .int .i64 a4, .int .u8 a5, .int .u8 a6, .int .u8 a7, .int .u8 a8, .int .u8 a9, .int .u8 a10, .int .u8 a11, .int .u8 a12, .int .u8 a13, .int .u8 a14, .int .u8 a15, .int .u8 a16, .int .u8 a17, .int .u8 a18, .int .u8 a19, .int .u8 a20, .int .u8 a21, .int .u8 a22, .int .u8 a23, .int .u8 a24]) (t := 25) ?hr ?_; (case hd => rfl); (case hg => rfl); (case hr => first | (go_simp; done) | (go_simp; rfl)); intro g1 hgg1 w2 hhg1 hbg1; have H5 := Aside0.mk hhg1; have G3 : w.heap.size ≤ g1 := Nat.le_of_eq hgg1.symm; have B4 := Aside0.mk (hbg1); clear hgg1 hhg1 hbg1; have c0 := (blk_cell H5.out 0).trans (show _ = some (.int .u8 a0) from rfl); have c1 := (blk_cell H5.out 1).trans (show _ = some (.int .i64 a1) from rfl); have c2 := (blk_cell H5.out 2).trans (show _ = some (.int .i64 a2) from rfl); have c3 := (blk_cell H5.out 3).trans (show _ = some (.int .i64 a3) from rfl); have c4 := (blk_cell H5.out 4).trans (show _ = some (.int .i64 a4) from rfl)))
            go_ret
            exact ⟨rfl, B4.out⟩
          · by_cases h5 : 8192 - a3 < a2
            · have HV := Aside0.mk (vld_ret (m := a0) (a := a1) (b := a2) (c := a3) (d := a4) 8 (by rw [vld_iff]; omega))
              have ew : wrap64 (8192 - a3) = 8192 - a3 := by unfold wrap64; omega
              have f0 : (a1 < 0) = False := eq_false (by omega)
              have g0 : (0 ≤ a1) = True := eq_true (by omega)
              have f1 : (a1 < 16) = True := eq_true (by omega)
              have g1 : (16 ≤ a1) = False := eq_false (by omega)
              have f2 : (a3 < 1) = False := eq_false (by omega)
              have g2 : (1 ≤ a3) = True := eq_true (by omega)
              have f3 : (4096 < a3) = False := eq_false (by omega)
              have g3 : (a3 ≤ 4096) = True := eq_true (by omega)
              have f4 : (a2 < 0) = False := eq_false (by omega)
              have g4 : (0 ≤ a2) = True := eq_true (by omega)
              have f5 : (8192 - a3 < a2) = True := eq_true (by omega)
              have g5 : (a2 ≤ 8192 - a3) = False := eq_false (by omega)
              clear h0 h1 h2 h3 h4 h5
              rw [HV.out]
              go_enter Tryd.func25, Tryd.ntmps25
              go_wp2_with (first | ((with_reducible refine gate_dst (N := 1) rfl ?_); refine box_event ?hg (N := 1) ?hd (cs := #[.int .u8 a0, .int .i64 a1, .int .i64 a2, .int .i64 a3, .int .i64 a4, .int .u8 a5, .int .u8 a6, .int .u8 a7, .int .u8 a8, .int .u8 a9, .int .u8 a10, .int .u8 a11, .int .u8 a12, .int .u8 a13, .int .u8 a14, .int .u8 a15, .int .u8 a16, .int .u8 a17, .int .u8 a18, .int .u8 a19, .int .u8 a20, .int .u8 a21, .int .u8 a22, .int .u8 a23, .int .u8 a24]) (t := 25) ?hr ?_; (case hd => rfl); (case hg => rfl); (case hr => first | (go_simp; done) | (go_simp; rfl)); intro g1 hgg1 w2 hhg1 hbg1; have H5 := Aside0.mk hhg1; have G3 : w.heap.size ≤ g1 := Nat.le_of_eq hgg1.symm; have B4 := Aside0.mk (hbg1); clear hgg1 hhg1 hbg1; have c0 := (blk_cell H5.out 0).trans (show _ = some (.int .u8 a0) from rfl); have c1 := (blk_cell H5.out 1).trans (show _ = some (.int .i64 a1) from rfl); have c2 := (blk_cell H5.out 2).trans (show _ = some (.int .i64 a2) from rfl); have c3 := (blk_cell H5.out 3).trans (show _ = some (.int .i64 a3) from rfl); have c4 := (blk_cell H5.out 4).trans (show _ = some (.int .i64 a4) from rfl)))
              go_ret
              exact ⟨rfl, B4.out⟩
            · by_cases h6 : a0 = 1
              · by_cases h7 : a4 = a3
                · have HV := Aside0.mk (vld_ret (m := a0) (a := a1) (b := a2) (c := a3) (d := a4) 0 (by rw [vld_iff]; omega))
                  have ew : wrap64 (8192 - a3) = 8192 - a3 := by unfold wrap64; omega
                  have f0 : (a1 < 0) = False := eq_false (by omega)
                  have g0 : (0 ≤ a1) = True := eq_true (by omega)
                  have f1 : (a1 < 16) = True := eq_true (by omega)
                  have g1 : (16 ≤ a1) = False := eq_false (by omega)
                  have f2 : (a3 < 1) = False := eq_false (by omega)
                  have g2 : (1 ≤ a3) = True := eq_true (by omega)
                  have f3 : (4096 < a3) = False := eq_false (by omega)
                  have g3 : (a3 ≤ 4096) = True := eq_true (by omega)
                  have f4 : (a2 < 0) = False := eq_false (by omega)
                  have g4 : (0 ≤ a2) = True := eq_true (by omega)
                  have f5 : (8192 - a3 < a2) = False := eq_false (by omega)
                  have g5 : (a2 ≤ 8192 - a3) = True := eq_true (by omega)
                  have f6 : (a0 == 1) = true := by simp; omega
                  have g6 : (a0 = 1) = True := eq_true (by omega)
                  have f8 : (a0 == 2) = false := by simp; omega
                  have g8 : (a0 = 2) = False := eq_false (by omega)
                  have f7 : (a4 == a3) = true := by simp; omega
                  have g7 : (a4 = a3) = True := eq_true (by omega)
                  clear h0 h1 h2 h3 h4 h5 h6 h7
                  rw [HV.out]
                  go_enter Tryd.func25, Tryd.ntmps25
                  go_wp2_with (first | ((with_reducible refine gate_dst (N := 1) rfl ?_); refine box_event ?hg (N := 1) ?hd (cs := #[.int .u8 a0, .int .i64 a1, .int .i64 a2, .int .i64 a3, .int .i64 a4, .int .u8 a5, .int .u8 a6, .int .u8 a7, .int .u8 a8, .int .u8 a9, .int .u8 a10, .int .u8 a11, .int .u8 a12, .int .u8 a13, .int .u8 a14, .int .u8 a15, .int .u8 a16, .int .u8 a17, .int .u8 a18, .int .u8 a19, .int .u8 a20, .int .u8 a21, .int .u8 a22, .int .u8 a23, .int .u8 a24]) (t := 25) ?hr ?_; (case hd => rfl); (case hg => rfl); (case hr => first | (go_simp; done) | (go_simp; rfl)); intro g1 hgg1 w2 hhg1 hbg1; have H5 := Aside0.mk hhg1; have G3 : w.heap.size ≤ g1 := Nat.le_of_eq hgg1.symm; have B4 := Aside0.mk (hbg1); clear hgg1 hhg1 hbg1; have c0 := (blk_cell H5.out 0).trans (show _ = some (.int .u8 a0) from rfl); have c1 := (blk_cell H5.out 1).trans (show _ = some (.int .i64 a1) from rfl); have c2 := (blk_cell H5.out 2).trans (show _ = some (.int .i64 a2) from rfl); have c3 := (blk_cell H5.out 3).trans (show _ = some (.int .i64 a3) from rfl); have c4 := (blk_cell H5.out 4).trans (show _ = some (.int .i64 a4) from rfl)))
                  go_ret
                  exact ⟨rfl, B4.out⟩
                · have HV := Aside0.mk (vld_ret (m := a0) (a := a1) (b := a2) (c := a3) (d := a4) 8 (by rw [vld_iff]; omega))
                  have ew : wrap64 (8192 - a3) = 8192 - a3 := by unfold wrap64; omega
                  have f0 : (a1 < 0) = False := eq_false (by omega)
                  have g0 : (0 ≤ a1) = True := eq_true (by omega)
                  have f1 : (a1 < 16) = True := eq_true (by omega)
                  have g1 : (16 ≤ a1) = False := eq_false (by omega)
                  have f2 : (a3 < 1) = False := eq_false (by omega)
                  have g2 : (1 ≤ a3) = True := eq_true (by omega)
                  have f3 : (4096 < a3) = False := eq_false (by omega)
                  have g3 : (a3 ≤ 4096) = True := eq_true (by omega)
                  have f4 : (a2 < 0) = False := eq_false (by omega)
                  have g4 : (0 ≤ a2) = True := eq_true (by omega)
                  have f5 : (8192 - a3 < a2) = False := eq_false (by omega)
                  have g5 : (a2 ≤ 8192 - a3) = True := eq_true (by omega)
                  have f6 : (a0 == 1) = true := by simp; omega
                  have g6 : (a0 = 1) = True := eq_true (by omega)
                  have f8 : (a0 == 2) = false := by simp; omega
                  have g8 : (a0 = 2) = False := eq_false (by omega)
                  have f7 : (a4 == a3) = false := by simp; omega
                  have g7 : (a4 = a3) = False := eq_false (by omega)
                  clear h0 h1 h2 h3 h4 h5 h6 h7
                  rw [HV.out]
                  go_enter Tryd.func25, Tryd.ntmps25
                  go_wp2_with (first | ((with_reducible refine gate_dst (N := 1) rfl ?_); refine box_event ?hg (N := 1) ?hd (cs := #[.int .u8 a0, .int .i64 a1, .int .i64 a2, .int .i64 a3, .int .i64 a4, .int .u8 a5, .int .u8 a6, .int .u8 a7, .int .u8 a8, .int .u8 a9, .int .u8 a10, .int .u8 a11, .int .u8 a12, .int .u8 a13, .int .u8 a14, .int .u8 a15, .int .u8 a16, .int .u8 a17, .int .u8 a18, .int .u8 a19, .int .u8 a20, .int .u8 a21, .int .u8 a22, .int .u8 a23, .int .u8 a24]) (t := 25) ?hr ?_; (case hd => rfl); (case hg => rfl); (case hr => first | (go_simp; done) | (go_simp; rfl)); intro g1 hgg1 w2 hhg1 hbg1; have H5 := Aside0.mk hhg1; have G3 : w.heap.size ≤ g1 := Nat.le_of_eq hgg1.symm; have B4 := Aside0.mk (hbg1); clear hgg1 hhg1 hbg1; have c0 := (blk_cell H5.out 0).trans (show _ = some (.int .u8 a0) from rfl); have c1 := (blk_cell H5.out 1).trans (show _ = some (.int .i64 a1) from rfl); have c2 := (blk_cell H5.out 2).trans (show _ = some (.int .i64 a2) from rfl); have c3 := (blk_cell H5.out 3).trans (show _ = some (.int .i64 a3) from rfl); have c4 := (blk_cell H5.out 4).trans (show _ = some (.int .i64 a4) from rfl)))
                  go_ret
                  exact ⟨rfl, B4.out⟩
              · by_cases h8 : a0 = 2
                · by_cases h9 : 0 < a4
                  · by_cases h10 : a4 < a3
                    · have HV := Aside0.mk (vld_ret (m := a0) (a := a1) (b := a2) (c := a3) (d := a4) 0 (by rw [vld_iff]; omega))
                      have ew : wrap64 (8192 - a3) = 8192 - a3 := by unfold wrap64; omega
                      have f0 : (a1 < 0) = False := eq_false (by omega)
                      have g0 : (0 ≤ a1) = True := eq_true (by omega)
                      have f1 : (a1 < 16) = True := eq_true (by omega)
                      have g1 : (16 ≤ a1) = False := eq_false (by omega)
                      have f2 : (a3 < 1) = False := eq_false (by omega)
                      have g2 : (1 ≤ a3) = True := eq_true (by omega)
                      have f3 : (4096 < a3) = False := eq_false (by omega)
                      have g3 : (a3 ≤ 4096) = True := eq_true (by omega)
                      have f4 : (a2 < 0) = False := eq_false (by omega)
                      have g4 : (0 ≤ a2) = True := eq_true (by omega)
                      have f5 : (8192 - a3 < a2) = False := eq_false (by omega)
                      have g5 : (a2 ≤ 8192 - a3) = True := eq_true (by omega)
                      have f6 : (a0 == 1) = false := by simp; omega
                      have g6 : (a0 = 1) = False := eq_false (by omega)
                      have f8 : (a0 == 2) = true := by simp; omega
                      have g8 : (a0 = 2) = True := eq_true (by omega)
                      have f9 : (0 < a4) = True := eq_true (by omega)
                      have g9 : (a4 ≤ 0) = False := eq_false (by omega)
                      have f19 : (a4 < 1) = False := eq_false (by omega)
                      have g19 : (1 ≤ a4) = True := eq_true (by omega)
                      have f10 : (a4 < a3) = True := eq_true (by omega)
                      have g10 : (a3 ≤ a4) = False := eq_false (by omega)
                      clear h0 h1 h2 h3 h4 h5 h6 h8 h9 h10
                      rw [HV.out]
                      go_enter Tryd.func25, Tryd.ntmps25
                      go_wp2_with (first | ((with_reducible refine gate_dst (N := 1) rfl ?_); refine box_event ?hg (N := 1) ?hd (cs := #[.int .u8 a0, .int .i64 a1, .int .i64 a2, .int .i64 a3, .int .i64 a4, .int .u8 a5, .int .u8 a6, .int .u8 a7, .int .u8 a8, .int .u8 a9, .int .u8 a10, .int .u8 a11, .int .u8 a12, .int .u8 a13, .int .u8 a14, .int .u8 a15, .int .u8 a16, .int .u8 a17, .int .u8 a18, .int .u8 a19, .int .u8 a20, .int .u8 a21, .int .u8 a22, .int .u8 a23, .int .u8 a24]) (t := 25) ?hr ?_; (case hd => rfl); (case hg => rfl); (case hr => first | (go_simp; done) | (go_simp; rfl)); intro g1 hgg1 w2 hhg1 hbg1; have H5 := Aside0.mk hhg1; have G3 : w.heap.size ≤ g1 := Nat.le_of_eq hgg1.symm; have B4 := Aside0.mk (hbg1); clear hgg1 hhg1 hbg1; have c0 := (blk_cell H5.out 0).trans (show _ = some (.int .u8 a0) from rfl); have c1 := (blk_cell H5.out 1).trans (show _ = some (.int .i64 a1) from rfl); have c2 := (blk_cell H5.out 2).trans (show _ = some (.int .i64 a2) from rfl); have c3 := (blk_cell H5.out 3).trans (show _ = some (.int .i64 a3) from rfl); have c4 := (blk_cell H5.out 4).trans (show _ = some (.int .i64 a4) from rfl)))
                      go_ret
                      exact ⟨rfl, B4.out⟩
                    · have HV := Aside0.mk (vld_ret (m := a0) (a := a1) (b := a2) (c := a3) (d := a4) 8 (by rw [vld_iff]; omega))
                      have ew : wrap64 (8192 - a3) = 8192 - a3 := by unfold wrap64; omega
                      have f0 : (a1 < 0) = False := eq_false (by omega)
                      have g0 : (0 ≤ a1) = True := eq_true (by omega)
                      have f1 : (a1 < 16) = True := eq_true (by omega)
                      have g1 : (16 ≤ a1) = False := eq_false (by omega)
                      have f2 : (a3 < 1) = False := eq_false (by omega)
                      have g2 : (1 ≤ a3) = True := eq_true (by omega)
                      have f3 : (4096 < a3) = False := eq_false (by omega)
                      have g3 : (a3 ≤ 4096) = True := eq_true (by omega)
                      have f4 : (a2 < 0) = False := eq_false (by omega)
                      have g4 : (0 ≤ a2) = True := eq_true (by omega)
                      have f5 : (8192 - a3 < a2) = False := eq_false (by omega)
                      have g5 : (a2 ≤ 8192 - a3) = True := eq_true (by omega)
                      have f6 : (a0 == 1) = false := by simp; omega
                      have g6 : (a0 = 1) = False := eq_false (by omega)
                      have f8 : (a0 == 2) = true := by simp; omega
                      have g8 : (a0 = 2) = True := eq_true (by omega)
                      have f9 : (0 < a4) = True := eq_true (by omega)
                      have g9 : (a4 ≤ 0) = False := eq_false (by omega)
                      have f19 : (a4 < 1) = False := eq_false (by omega)
                      have g19 : (1 ≤ a4) = True := eq_true (by omega)
                      have f10 : (a4 < a3) = False := eq_false (by omega)
                      have g10 : (a3 ≤ a4) = True := eq_true (by omega)
                      clear h0 h1 h2 h3 h4 h5 h6 h8 h9 h10
                      rw [HV.out]
                      go_enter Tryd.func25, Tryd.ntmps25
                      go_wp2_with (first | ((with_reducible refine gate_dst (N := 1) rfl ?_); refine box_event ?hg (N := 1) ?hd (cs := #[.int .u8 a0, .int .i64 a1, .int .i64 a2, .int .i64 a3, .int .i64 a4, .int .u8 a5, .int .u8 a6, .int .u8 a7, .int .u8 a8, .int .u8 a9, .int .u8 a10, .int .u8 a11, .int .u8 a12, .int .u8 a13, .int .u8 a14, .int .u8 a15, .int .u8 a16, .int .u8 a17, .int .u8 a18, .int .u8 a19, .int .u8 a20, .int .u8 a21, .int .u8 a22, .int .u8 a23, .int .u8 a24]) (t := 25) ?hr ?_; (case hd => rfl); (case hg => rfl); (case hr => first | (go_simp; done) | (go_simp; rfl)); intro g1 hgg1 w2 hhg1 hbg1; have H5 := Aside0.mk hhg1; have G3 : w.heap.size ≤ g1 := Nat.le_of_eq hgg1.symm; have B4 := Aside0.mk (hbg1); clear hgg1 hhg1 hbg1; have c0 := (blk_cell H5.out 0).trans (show _ = some (.int .u8 a0) from rfl); have c1 := (blk_cell H5.out 1).trans (show _ = some (.int .i64 a1) from rfl); have c2 := (blk_cell H5.out 2).trans (show _ = some (.int .i64 a2) from rfl); have c3 := (blk_cell H5.out 3).trans (show _ = some (.int .i64 a3) from rfl); have c4 := (blk_cell H5.out 4).trans (show _ = some (.int .i64 a4) from rfl)))
                      go_ret
                      exact ⟨rfl, B4.out⟩
                  · have HV := Aside0.mk (vld_ret (m := a0) (a := a1) (b := a2) (c := a3) (d := a4) 8 (by rw [vld_iff]; omega))
                    have ew : wrap64 (8192 - a3) = 8192 - a3 := by unfold wrap64; omega
                    have f0 : (a1 < 0) = False := eq_false (by omega)
                    have g0 : (0 ≤ a1) = True := eq_true (by omega)
                    have f1 : (a1 < 16) = True := eq_true (by omega)
                    have g1 : (16 ≤ a1) = False := eq_false (by omega)
                    have f2 : (a3 < 1) = False := eq_false (by omega)
                    have g2 : (1 ≤ a3) = True := eq_true (by omega)
                    have f3 : (4096 < a3) = False := eq_false (by omega)
                    have g3 : (a3 ≤ 4096) = True := eq_true (by omega)
                    have f4 : (a2 < 0) = False := eq_false (by omega)
                    have g4 : (0 ≤ a2) = True := eq_true (by omega)
                    have f5 : (8192 - a3 < a2) = False := eq_false (by omega)
                    have g5 : (a2 ≤ 8192 - a3) = True := eq_true (by omega)
                    have f6 : (a0 == 1) = false := by simp; omega
                    have g6 : (a0 = 1) = False := eq_false (by omega)
                    have f8 : (a0 == 2) = true := by simp; omega
                    have g8 : (a0 = 2) = True := eq_true (by omega)
                    have f9 : (0 < a4) = False := eq_false (by omega)
                    have g9 : (a4 ≤ 0) = True := eq_true (by omega)
                    have f19 : (a4 < 1) = True := eq_true (by omega)
                    have g19 : (1 ≤ a4) = False := eq_false (by omega)
                    clear h0 h1 h2 h3 h4 h5 h6 h8 h9
                    rw [HV.out]
                    go_enter Tryd.func25, Tryd.ntmps25
                    go_wp2_with (first | ((with_reducible refine gate_dst (N := 1) rfl ?_); refine box_event ?hg (N := 1) ?hd (cs := #[.int .u8 a0, .int .i64 a1, .int .i64 a2, .int .i64 a3, .int .i64 a4, .int .u8 a5, .int .u8 a6, .int .u8 a7, .int .u8 a8, .int .u8 a9, .int .u8 a10, .int .u8 a11, .int .u8 a12, .int .u8 a13, .int .u8 a14, .int .u8 a15, .int .u8 a16, .int .u8 a17, .int .u8 a18, .int .u8 a19, .int .u8 a20, .int .u8 a21, .int .u8 a22, .int .u8 a23, .int .u8 a24]) (t := 25) ?hr ?_; (case hd => rfl); (case hg => rfl); (case hr => first | (go_simp; done) | (go_simp; rfl)); intro g1 hgg1 w2 hhg1 hbg1; have H5 := Aside0.mk hhg1; have G3 : w.heap.size ≤ g1 := Nat.le_of_eq hgg1.symm; have B4 := Aside0.mk (hbg1); clear hgg1 hhg1 hbg1; have c0 := (blk_cell H5.out 0).trans (show _ = some (.int .u8 a0) from rfl); have c1 := (blk_cell H5.out 1).trans (show _ = some (.int .i64 a1) from rfl); have c2 := (blk_cell H5.out 2).trans (show _ = some (.int .i64 a2) from rfl); have c3 := (blk_cell H5.out 3).trans (show _ = some (.int .i64 a3) from rfl); have c4 := (blk_cell H5.out 4).trans (show _ = some (.int .i64 a4) from rfl)))
                    go_ret
                    exact ⟨rfl, B4.out⟩
                · have HV := Aside0.mk (vld_ret (m := a0) (a := a1) (b := a2) (c := a3) (d := a4) 8 (by rw [vld_iff]; omega))
                  have ew : wrap64 (8192 - a3) = 8192 - a3 := by unfold wrap64; omega
                  have f0 : (a1 < 0) = False := eq_false (by omega)
                  have g0 : (0 ≤ a1) = True := eq_true (by omega)
                  have f1 : (a1 < 16) = True := eq_true (by omega)
                  have g1 : (16 ≤ a1) = False := eq_false (by omega)
                  have f2 : (a3 < 1) = False := eq_false (by omega)
                  have g2 : (1 ≤ a3) = True := eq_true (by omega)
                  have f3 : (4096 < a3) = False := eq_false (by omega)
                  have g3 : (a3 ≤ 4096) = True := eq_true (by omega)
                  have f4 : (a2 < 0) = False := eq_false (by omega)
                  have g4 : (0 ≤ a2) = True := eq_true (by omega)
                  have f5 : (8192 - a3 < a2) = False := eq_false (by omega)
                  have g5 : (a2 ≤ 8192 - a3) = True := eq_true (by omega)
                  have f6 : (a0 == 1) = false := by simp; omega
                  have g6 : (a0 = 1) = False := eq_false (by omega)
                  have f8 : (a0 == 2) = false := by simp; omega
                  have g8 : (a0 = 2) = False := eq_false (by omega)
                  clear h0 h1 h2 h3 h4 h5 h6 h8
                  rw [HV.out]
                  go_enter Tryd.func25, Tryd.ntmps25
                  go_wp2_with (first | ((with_reducible refine gate_dst (N := 1) rfl ?_); refine box_event ?hg (N := 1) ?hd (cs := #[.int .u8 a0, .int .i64 a1, .int .i64 a2, .int .i64 a3, .int .i64 a4, .int .u8 a5, .int .u8 a6, .int .u8 a7, .int .u8 a8, .int .u8 a9, .int .u8 a10, .int .u8 a11, .int .u8 a12, .int .u8 a13, .int .u8 a14, .int .u8 a15, .int .u8 a16, .int .u8 a17, .int .u8 a18, .int .u8 a19, .int .u8 a20, .int .u8 a21, .int .u8 a22, .int .u8 a23, .int .u8 a24]) (t := 25) ?hr ?_; (case hd => rfl); (case hg => rfl); (case hr => first | (go_simp; done) | (go_simp; rfl)); intro g1 hgg1 w2 hhg1 hbg1; have H5 := Aside0.mk hhg1; have G3 : w.heap.size ≤ g1 := Nat.le_of_eq hgg1.symm; have B4 := Aside0.mk (hbg1); clear hgg1 hhg1 hbg1; have c0 := (blk_cell H5.out 0).trans (show _ = some (.int .u8 a0) from rfl); have c1 := (blk_cell H5.out 1).trans (show _ = some (.int .i64 a1) from rfl); have c2 := (blk_cell H5.out 2).trans (show _ = some (.int .i64 a2) from rfl); have c3 := (blk_cell H5.out 3).trans (show _ = some (.int .i64 a3) from rfl); have c4 := (blk_cell H5.out 4).trans (show _ = some (.int .i64 a4) from rfl)))
                  go_ret
                  exact ⟨rfl, B4.out⟩
set_option maxHeartbeats 1600000 in
set_option maxRecDepth 100000 in
theorem rcheck_calls (a0 a1 a2 a3 a4 a5 a6 a7 a8 a9 a10 a11 a12 a13 a14 a15 a16 a17 a18 a19 a20 a21 a22 a23 a24 : Int) (w : World) :
    Calls Tryd.prog 26 #[.agg #[.int .u8 a0, .int .i64 a1, .int .i64 a2, .int .i64 a3, .int .i64 a4, .int .u8 a5, .int .u8 a6, .int .u8 a7, .int .u8 a8, .int .u8 a9, .int .u8 a10, .int .u8 a11, .int .u8 a12, .int .u8 a13, .int .u8 a14, .int .u8 a15, .int .u8 a16, .int .u8 a17, .int .u8 a18, .int .u8 a19, .int .u8 a20, .int .u8 a21, .int .u8 a22, .int .u8 a23, .int .u8 a24]] w fun e w' => e = .returned (.int .i64 (if vld a0 a1 a2 a3 a4 = true then 0 else 8)) ∧ Below w.heap.size w w' := by
  by_cases h0 : a1 < 0
  · have HV := Aside0.mk (vld_ret (m := a0) (a := a1) (b := a2) (c := a3) (d := a4) 8 (by rw [vld_iff]; omega))
    have f0 : (a1 < 0) = True := eq_true (by omega)
    have g0 : (0 ≤ a1) = False := eq_false (by omega)
    clear h0
    rw [HV.out]
    go_enter Tryd.func26, Tryd.ntmps26
    go_wp2_with (first | ((with_reducible refine gate_dst (N := 1) rfl ?_); refine box_event ?hg (N := 1) ?hd (cs := #[.int .u8 a0, .int .i64 a1, .int .i64 a2, .int .i64 a3, .int .i64 a4, .int .u8 a5, .int .u8 a6, .int .u8 a7, .int .u8 a8, .int .u8 a9, .int .u8 a10, .int .u8 a11, .int .u8 a12, .int .u8 a13, .int .u8 a14, .int .u8 a15, .int .u8 a16, .int .u8 a17, .int .u8 a18, .int .u8 a19, .int .u8 a20, .int .u8 a21, .int .u8 a22, .int .u8 a23, .int .u8 a24]) (t := 25) ?hr ?_; (case hd => rfl); (case hg => rfl); (case hr => first | (go_simp; done) | (go_simp; rfl)); intro g1 hgg1 w2 hhg1 hbg1; have H5 := Aside0.mk hhg1; have G3 : w.heap.size ≤ g1 := Nat.le_of_eq hgg1.symm; have B4 := Aside0.mk (hbg1); clear hgg1 hhg1 hbg1; have c0 := (blk_cell H5.out 0).trans (show _ = some (.int .u8 a0) from rfl); have c1 := (blk_cell H5.out 1).trans (show _ = some (.int .i64 a1) from rfl); have c2 := (blk_cell H5.out 2).trans (show _ = some (.int .i64 a2) from rfl); have c3 := (blk_cell H5.out 3).trans (show _ = some (.int .i64 a3) from rfl); have c4 := (blk_cell H5.out 4).trans (show _ = some (.int .i64 a4) from rfl)))
    go_ret
    exact ⟨rfl, B4.out⟩
  · by_cases h1 : ¬ a1 < 16
    · have HV := Aside0.mk (vld_ret (m := a0) (a := a1) (b := a2) (c := a3) (d := a4) 8 (by rw [vld_iff]; omega))
      have f0 : (a1 < 0) = False := eq_false (by omega)
      have g0 : (0 ≤ a1) = True := eq_true (by omega)
      have f1 : (a1 < 16) = False := eq_false (by omega)
      have g1 : (16 ≤ a1) = True := eq_true (by omega)
      clear h0 h1
      rw [HV.out]
      go_enter Tryd.func26, Tryd.ntmps26
      go_wp2_with (first | ((with_reducible refine gate_dst (N := 1) rfl ?_); refine box_event ?hg (N := 1) ?hd (cs := #[.int .u8 a0, .int .i64 a1, .int .i64 a2, .int .i64 a3, .int .i64 a4, .int .u8 a5, .int .u8 a6, .int .u8 a7, .int .u8 a8, .int .u8 a9, .int .u8 a10, .int .u8 a11, .int .u8 a12, .int .u8 a13, .int .u8 a14, .int .u8 a15, .int .u8 a16, .int .u8 a17, .int .u8 a18, .int .u8 a19, .int .u8 a20, .int .u8 a21, .int .u8 a22, .int .u8 a23, .int .u8 a24]) (t := 25) ?hr ?_; (case hd => rfl); (case hg => rfl); (case hr => first | (go_simp; done) | (go_simp; rfl)); intro g1 hgg1 w2 hhg1 hbg1; have H5 := Aside0.mk hhg1; have G3 : w.heap.size ≤ g1 := Nat.le_of_eq hgg1.symm; have B4 := Aside0.mk (hbg1); clear hgg1 hhg1 hbg1; have c0 := (blk_cell H5.out 0).trans (show _ = some (.int .u8 a0) from rfl); have c1 := (blk_cell H5.out 1).trans (show _ = some (.int .i64 a1) from rfl); have c2 := (blk_cell H5.out 2).trans (show _ = some (.int .i64 a2) from rfl); have c3 := (blk_cell H5.out 3).trans (show _ = some (.int .i64 a3) from rfl); have c4 := (blk_cell H5.out 4).trans (show _ = some (.int .i64 a4) from rfl)))
      go_ret
      exact ⟨rfl, B4.out⟩
    · by_cases h2 : a3 < 1
      · have HV := Aside0.mk (vld_ret (m := a0) (a := a1) (b := a2) (c := a3) (d := a4) 8 (by rw [vld_iff]; omega))
        have f0 : (a1 < 0) = False := eq_false (by omega)
        have g0 : (0 ≤ a1) = True := eq_true (by omega)
        have f1 : (a1 < 16) = True := eq_true (by omega)
        have g1 : (16 ≤ a1) = False := eq_false (by omega)
        have f2 : (a3 < 1) = True := eq_true (by omega)
        have g2 : (1 ≤ a3) = False := eq_false (by omega)
        clear h0 h1 h2
        rw [HV.out]
        go_enter Tryd.func26, Tryd.ntmps26
        go_wp2_with (first | ((with_reducible refine gate_dst (N := 1) rfl ?_); refine box_event ?hg (N := 1) ?hd (cs := #[.int .u8 a0, .int .i64 a1, .int .i64 a2, .int .i64 a3, .int .i64 a4, .int .u8 a5, .int .u8 a6, .int .u8 a7, .int .u8 a8, .int .u8 a9, .int .u8 a10, .int .u8 a11, .int .u8 a12, .int .u8 a13, .int .u8 a14, .int .u8 a15, .int .u8 a16, .int .u8 a17, .int .u8 a18, .int .u8 a19, .int .u8 a20, .int .u8 a21, .int .u8 a22, .int .u8 a23, .int .u8 a24]) (t := 25) ?hr ?_; (case hd => rfl); (case hg => rfl); (case hr => first | (go_simp; done) | (go_simp; rfl)); intro g1 hgg1 w2 hhg1 hbg1; have H5 := Aside0.mk hhg1; have G3 : w.heap.size ≤ g1 := Nat.le_of_eq hgg1.symm; have B4 := Aside0.mk (hbg1); clear hgg1 hhg1 hbg1; have c0 := (blk_cell H5.out 0).trans (show _ = some (.int .u8 a0) from rfl); have c1 := (blk_cell H5.out 1).trans (show _ = some (.int .i64 a1) from rfl); have c2 := (blk_cell H5.out 2).trans (show _ = some (.int .i64 a2) from rfl); have c3 := (blk_cell H5.out 3).trans (show _ = some (.int .i64 a3) from rfl); have c4 := (blk_cell H5.out 4).trans (show _ = some (.int .i64 a4) from rfl)))
        go_ret
        exact ⟨rfl, B4.out⟩
      · by_cases h3 : 4096 < a3
        · have HV := Aside0.mk (vld_ret (m := a0) (a := a1) (b := a2) (c := a3) (d := a4) 8 (by rw [vld_iff]; omega))
          have f0 : (a1 < 0) = False := eq_false (by omega)
          have g0 : (0 ≤ a1) = True := eq_true (by omega)
          have f1 : (a1 < 16) = True := eq_true (by omega)
          have g1 : (16 ≤ a1) = False := eq_false (by omega)
          have f2 : (a3 < 1) = False := eq_false (by omega)
          have g2 : (1 ≤ a3) = True := eq_true (by omega)
          have f3 : (4096 < a3) = True := eq_true (by omega)
          have g3 : (a3 ≤ 4096) = False := eq_false (by omega)
          clear h0 h1 h2 h3
          rw [HV.out]
          go_enter Tryd.func26, Tryd.ntmps26
          go_wp2_with (first | ((with_reducible refine gate_dst (N := 1) rfl ?_); refine box_event ?hg (N := 1) ?hd (cs := #[.int .u8 a0, .int .i64 a1, .int .i64 a2, .int .i64 a3, .int .i64 a4, .int .u8 a5, .int .u8 a6, .int .u8 a7, .int .u8 a8, .int .u8 a9, .int .u8 a10, .int .u8 a11, .int .u8 a12, .int .u8 a13, .int .u8 a14, .int .u8 a15, .int .u8 a16, .int .u8 a17, .int .u8 a18, .int .u8 a19, .int .u8 a20, .int .u8 a21, .int .u8 a22, .int .u8 a23, .int .u8 a24]) (t := 25) ?hr ?_; (case hd => rfl); (case hg => rfl); (case hr => first | (go_simp; done) | (go_simp; rfl)); intro g1 hgg1 w2 hhg1 hbg1; have H5 := Aside0.mk hhg1; have G3 : w.heap.size ≤ g1 := Nat.le_of_eq hgg1.symm; have B4 := Aside0.mk (hbg1); clear hgg1 hhg1 hbg1; have c0 := (blk_cell H5.out 0).trans (show _ = some (.int .u8 a0) from rfl); have c1 := (blk_cell H5.out 1).trans (show _ = some (.int .i64 a1) from rfl); have c2 := (blk_cell H5.out 2).trans (show _ = some (.int .i64 a2) from rfl); have c3 := (blk_cell H5.out 3).trans (show _ = some (.int .i64 a3) from rfl); have c4 := (blk_cell H5.out 4).trans (show _ = some (.int .i64 a4) from rfl)))
          go_ret
          exact ⟨rfl, B4.out⟩
        · by_cases h4 : a2 < 0
          · have HV := Aside0.mk (vld_ret (m := a0) (a := a1) (b := a2) (c := a3) (d := a4) 8 (by rw [vld_iff]; omega))
            have f0 : (a1 < 0) = False := eq_false (by omega)
            have g0 : (0 ≤ a1) = True := eq_true (by omega)
            have f1 : (a1 < 16) = True := eq_true (by omega)
            have g1 : (16 ≤ a1) = False := eq_false (by omega)
            have f2 : (a3 < 1) = False := eq_false (by omega)
            have g2 : (1 ≤ a3) = True := eq_true (by omega)
            have f3 : (4096 < a3) = False := eq_false (by omega)
            have g3 : (a3 ≤ 4096) = True := eq_true (by omega)
            have f4 : (a2 < 0) = True := eq_true (by omega)
            have g4 : (0 ≤ a2) = False := eq_false (by omega)
            clear h0 h1 h2 h3 h4
            rw [HV.out]
            go_enter Tryd.func26, Tryd.ntmps26
            go_wp2_with (first | ((with_reducible refine gate_dst (N := 1) rfl ?_); refine box_event ?hg (N := 1) ?hd (cs := #[.int .u8 a0, .int .i64 a1, .int .i64 a2, .int .i64 a3, .int .i64 a4, .int .u8 a5, .int .u8 a6, .int .u8 a7, .int .u8 a8, .int .u8 a9, .int .u8 a10, .int .u8 a11, .int .u8 a12, .int .u8 a13, .int .u8 a14, .int .u8 a15, .int .u8 a16, .int .u8 a17, .int .u8 a18, .int .u8 a19, .int .u8 a20, .int .u8 a21, .int .u8 a22, .int .u8 a23, .int .u8 a24]) (t := 25) ?hr ?_; (case hd => rfl); (case hg => rfl); (case hr => first | (go_simp; done) | (go_simp; rfl)); intro g1 hgg1 w2 hhg1 hbg1; have H5 := Aside0.mk hhg1; have G3 : w.heap.size ≤ g1 := Nat.le_of_eq hgg1.symm; have B4 := Aside0.mk (hbg1); clear hgg1 hhg1 hbg1; have c0 := (blk_cell H5.out 0).trans (show _ = some (.int .u8 a0) from rfl); have c1 := (blk_cell H5.out 1).trans (show _ = some (.int .i64 a1) from rfl); have c2 := (blk_cell H5.out 2).trans (show _ = some (.int .i64 a2) from rfl); have c3 := (blk_cell H5.out 3).trans (show _ = some (.int .i64 a3) from rfl); have c4 := (blk_cell H5.out 4).trans (show _ = some (.int .i64 a4) from rfl)))
            go_ret
            exact ⟨rfl, B4.out⟩
          · by_cases h5 : 8192 - a3 < a2
            · have HV := Aside0.mk (vld_ret (m := a0) (a := a1) (b := a2) (c := a3) (d := a4) 8 (by rw [vld_iff]; omega))
              have ew : wrap64 (8192 - a3) = 8192 - a3 := by unfold wrap64; omega
              have f0 : (a1 < 0) = False := eq_false (by omega)
              have g0 : (0 ≤ a1) = True := eq_true (by omega)
              have f1 : (a1 < 16) = True := eq_true (by omega)
              have g1 : (16 ≤ a1) = False := eq_false (by omega)
              have f2 : (a3 < 1) = False := eq_false (by omega)
              have g2 : (1 ≤ a3) = True := eq_true (by omega)
              have f3 : (4096 < a3) = False := eq_false (by omega)
              have g3 : (a3 ≤ 4096) = True := eq_true (by omega)
              have f4 : (a2 < 0) = False := eq_false (by omega)
              have g4 : (0 ≤ a2) = True := eq_true (by omega)
              have f5 : (8192 - a3 < a2) = True := eq_true (by omega)
              have g5 : (a2 ≤ 8192 - a3) = False := eq_false (by omega)
              clear h0 h1 h2 h3 h4 h5
              rw [HV.out]
              go_enter Tryd.func26, Tryd.ntmps26
              go_wp2_with (first | ((with_reducible refine gate_dst (N := 1) rfl ?_); refine box_event ?hg (N := 1) ?hd (cs := #[.int .u8 a0, .int .i64 a1, .int .i64 a2, .int .i64 a3, .int .i64 a4, .int .u8 a5, .int .u8 a6, .int .u8 a7, .int .u8 a8, .int .u8 a9, .int .u8 a10, .int .u8 a11, .int .u8 a12, .int .u8 a13, .int .u8 a14, .int .u8 a15, .int .u8 a16, .int .u8 a17, .int .u8 a18, .int .u8 a19, .int .u8 a20, .int .u8 a21, .int .u8 a22, .int .u8 a23, .int .u8 a24]) (t := 25) ?hr ?_; (case hd => rfl); (case hg => rfl); (case hr => first | (go_simp; done) | (go_simp; rfl)); intro g1 hgg1 w2 hhg1 hbg1; have H5 := Aside0.mk hhg1; have G3 : w.heap.size ≤ g1 := Nat.le_of_eq hgg1.symm; have B4 := Aside0.mk (hbg1); clear hgg1 hhg1 hbg1; have c0 := (blk_cell H5.out 0).trans (show _ = some (.int .u8 a0) from rfl); have c1 := (blk_cell H5.out 1).trans (show _ = some (.int .i64 a1) from rfl); have c2 := (blk_cell H5.out 2).trans (show _ = some (.int .i64 a2) from rfl); have c3 := (blk_cell H5.out 3).trans (show _ = some (.int .i64 a3) from rfl); have c4 := (blk_cell H5.out 4).trans (show _ = some (.int .i64 a4) from rfl)))
              go_ret
              exact ⟨rfl, B4.out⟩
            · by_cases h6 : a0 = 1
              · by_cases h7 : a4 = a3
                · have HV := Aside0.mk (vld_ret (m := a0) (a := a1) (b := a2) (c := a3) (d := a4) 0 (by rw [vld_iff]; omega))
                  have ew : wrap64 (8192 - a3) = 8192 - a3 := by unfold wrap64; omega
                  have f0 : (a1 < 0) = False := eq_false (by omega)
                  have g0 : (0 ≤ a1) = True := eq_true (by omega)
                  have f1 : (a1 < 16) = True := eq_true (by omega)
                  have g1 : (16 ≤ a1) = False := eq_false (by omega)
                  have f2 : (a3 < 1) = False := eq_false (by omega)
                  have g2 : (1 ≤ a3) = True := eq_true (by omega)
                  have f3 : (4096 < a3) = False := eq_false (by omega)
                  have g3 : (a3 ≤ 4096) = True := eq_true (by omega)
                  have f4 : (a2 < 0) = False := eq_false (by omega)
                  have g4 : (0 ≤ a2) = True := eq_true (by omega)
                  have f5 : (8192 - a3 < a2) = False := eq_false (by omega)
                  have g5 : (a2 ≤ 8192 - a3) = True := eq_true (by omega)
                  have f6 : (a0 == 1) = true := by simp; omega
                  have g6 : (a0 = 1) = True := eq_true (by omega)
                  have f8 : (a0 == 2) = false := by simp; omega
                  have g8 : (a0 = 2) = False := eq_false (by omega)
                  have f7 : (a4 == a3) = true := by simp; omega
                  have g7 : (a4 = a3) = True := eq_true (by omega)
                  clear h0 h1 h2 h3 h4 h5 h6 h7
                  rw [HV.out]
                  go_enter Tryd.func26, Tryd.ntmps26
                  go_wp2_with (first | ((with_reducible refine gate_dst (N := 1) rfl ?_); refine box_event ?hg (N := 1) ?hd (cs := #[.int .u8 a0, .int .i64 a1, .int .i64 a2, .int .i64 a3, .int .i64 a4, .int .u8 a5, .int .u8 a6, .int .u8 a7, .int .u8 a8, .int .u8 a9, .int .u8 a10, .int .u8 a11, .int .u8 a12, .int .u8 a13, .int .u8 a14, .int .u8 a15, .int .u8 a16, .int .u8 a17, .int .u8 a18, .int .u8 a19, .int .u8 a20, .int .u8 a21, .int .u8 a22, .int .u8 a23, .int .u8 a24]) (t := 25) ?hr ?_; (case hd => rfl); (case hg => rfl); (case hr => first | (go_simp; done) | (go_simp; rfl)); intro g1 hgg1 w2 hhg1 hbg1; have H5 := Aside0.mk hhg1; have G3 : w.heap.size ≤ g1 := Nat.le_of_eq hgg1.symm; have B4 := Aside0.mk (hbg1); clear hgg1 hhg1 hbg1; have c0 := (blk_cell H5.out 0).trans (show _ = some (.int .u8 a0) from rfl); have c1 := (blk_cell H5.out 1).trans (show _ = some (.int .i64 a1) from rfl); have c2 := (blk_cell H5.out 2).trans (show _ = some (.int .i64 a2) from rfl); have c3 := (blk_cell H5.out 3).trans (show _ = some (.int .i64 a3) from rfl); have c4 := (blk_cell H5.out 4).trans (show _ = some (.int .i64 a4) from rfl)))
                  go_ret
                  exact ⟨rfl, B4.out⟩
                · have HV := Aside0.mk (vld_ret (m := a0) (a := a1) (b := a2) (c := a3) (d := a4) 8 (by rw [vld_iff]; omega))
                  have ew : wrap64 (8192 - a3) = 8192 - a3 := by unfold wrap64; omega
                  have f0 : (a1 < 0) = False := eq_false (by omega)
                  have g0 : (0 ≤ a1) = True := eq_true (by omega)
                  have f1 : (a1 < 16) = True := eq_true (by omega)
                  have g1 : (16 ≤ a1) = False := eq_false (by omega)
                  have f2 : (a3 < 1) = False := eq_false (by omega)
                  have g2 : (1 ≤ a3) = True := eq_true (by omega)
                  have f3 : (4096 < a3) = False := eq_false (by omega)
                  have g3 : (a3 ≤ 4096) = True := eq_true (by omega)
                  have f4 : (a2 < 0) = False := eq_false (by omega)
                  have g4 : (0 ≤ a2) = True := eq_true (by omega)
                  have f5 : (8192 - a3 < a2) = False := eq_false (by omega)
                  have g5 : (a2 ≤ 8192 - a3) = True := eq_true (by omega)
                  have f6 : (a0 == 1) = true := by simp; omega
                  have g6 : (a0 = 1) = True := eq_true (by omega)
                  have f8 : (a0 == 2) = false := by simp; omega
                  have g8 : (a0 = 2) = False := eq_false (by omega)
                  have f7 : (a4 == a3) = false := by simp; omega
                  have g7 : (a4 = a3) = False := eq_false (by omega)
                  clear h0 h1 h2 h3 h4 h5 h6 h7
                  rw [HV.out]
                  go_enter Tryd.func26, Tryd.ntmps26
                  go_wp2_with (first | ((with_reducible refine gate_dst (N := 1) rfl ?_); refine box_event ?hg (N := 1) ?hd (cs := #[.int .u8 a0, .int .i64 a1, .int .i64 a2, .int .i64 a3, .int .i64 a4, .int .u8 a5, .int .u8 a6, .int .u8 a7, .int .u8 a8, .int .u8 a9, .int .u8 a10, .int .u8 a11, .int .u8 a12, .int .u8 a13, .int .u8 a14, .int .u8 a15, .int .u8 a16, .int .u8 a17, .int .u8 a18, .int .u8 a19, .int .u8 a20, .int .u8 a21, .int .u8 a22, .int .u8 a23, .int .u8 a24]) (t := 25) ?hr ?_; (case hd => rfl); (case hg => rfl); (case hr => first | (go_simp; done) | (go_simp; rfl)); intro g1 hgg1 w2 hhg1 hbg1; have H5 := Aside0.mk hhg1; have G3 : w.heap.size ≤ g1 := Nat.le_of_eq hgg1.symm; have B4 := Aside0.mk (hbg1); clear hgg1 hhg1 hbg1; have c0 := (blk_cell H5.out 0).trans (show _ = some (.int .u8 a0) from rfl); have c1 := (blk_cell H5.out 1).trans (show _ = some (.int .i64 a1) from rfl); have c2 := (blk_cell H5.out 2).trans (show _ = some (.int .i64 a2) from rfl); have c3 := (blk_cell H5.out 3).trans (show _ = some (.int .i64 a3) from rfl); have c4 := (blk_cell H5.out 4).trans (show _ = some (.int .i64 a4) from rfl)))
                  go_ret
                  exact ⟨rfl, B4.out⟩
              · by_cases h8 : a0 = 2
                · by_cases h9 : 0 < a4
                  · by_cases h10 : a4 < a3
                    · have HV := Aside0.mk (vld_ret (m := a0) (a := a1) (b := a2) (c := a3) (d := a4) 0 (by rw [vld_iff]; omega))
                      have ew : wrap64 (8192 - a3) = 8192 - a3 := by unfold wrap64; omega
                      have f0 : (a1 < 0) = False := eq_false (by omega)
                      have g0 : (0 ≤ a1) = True := eq_true (by omega)
                      have f1 : (a1 < 16) = True := eq_true (by omega)
                      have g1 : (16 ≤ a1) = False := eq_false (by omega)
                      have f2 : (a3 < 1) = False := eq_false (by omega)
                      have g2 : (1 ≤ a3) = True := eq_true (by omega)
                      have f3 : (4096 < a3) = False := eq_false (by omega)
                      have g3 : (a3 ≤ 4096) = True := eq_true (by omega)
                      have f4 : (a2 < 0) = False := eq_false (by omega)
                      have g4 : (0 ≤ a2) = True := eq_true (by omega)
                      have f5 : (8192 - a3 < a2) = False := eq_false (by omega)
                      have g5 : (a2 ≤ 8192 - a3) = True := eq_true (by omega)
                      have f6 : (a0 == 1) = false := by simp; omega
                      have g6 : (a0 = 1) = False := eq_false (by omega)
                      have f8 : (a0 == 2) = true := by simp; omega
                      have g8 : (a0 = 2) = True := eq_true (by omega)
                      have f9 : (0 < a4) = True := eq_true (by omega)
                      have g9 : (a4 ≤ 0) = False := eq_false (by omega)
                      have f19 : (a4 < 1) = False := eq_false (by omega)
                      have g19 : (1 ≤ a4) = True := eq_true (by omega)
                      have f10 : (a4 < a3) = True := eq_true (by omega)
                      have g10 : (a3 ≤ a4) = False := eq_false (by omega)
                      clear h0 h1 h2 h3 h4 h5 h6 h8 h9 h10
                      rw [HV.out]
                      go_enter Tryd.func26, Tryd.ntmps26
                      go_wp2_with (first | ((with_reducible refine gate_dst (N := 1) rfl ?_); refine box_event ?hg (N := 1) ?hd (cs := #[.int .u8 a0, .int .i64 a1, .int .i64 a2, .int .i64 a3, .int .i64 a4, .int .u8 a5, .int .u8 a6, .int .u8 a7, .int .u8 a8, .int .u8 a9, .int .u8 a10, .int .u8 a11, .int .u8 a12, .int .u8 a13, .int .u8 a14, .int .u8 a15, .int .u8 a16, .int .u8 a17, .int .u8 a18, .int .u8 a19, .int .u8 a20, .int .u8 a21, .int .u8 a22, .int .u8 a23, .int .u8 a24]) (t := 25) ?hr ?_; (case hd => rfl); (case hg => rfl); (case hr => first | (go_simp; done) | (go_simp; rfl)); intro g1 hgg1 w2 hhg1 hbg1; have H5 := Aside0.mk hhg1; have G3 : w.heap.size ≤ g1 := Nat.le_of_eq hgg1.symm; have B4 := Aside0.mk (hbg1); clear hgg1 hhg1 hbg1; have c0 := (blk_cell H5.out 0).trans (show _ = some (.int .u8 a0) from rfl); have c1 := (blk_cell H5.out 1).trans (show _ = some (.int .i64 a1) from rfl); have c2 := (blk_cell H5.out 2).trans (show _ = some (.int .i64 a2) from rfl); have c3 := (blk_cell H5.out 3).trans (show _ = some (.int .i64 a3) from rfl); have c4 := (blk_cell H5.out 4).trans (show _ = some (.int .i64 a4) from rfl)))
                      go_ret
                      exact ⟨rfl, B4.out⟩
                    · have HV := Aside0.mk (vld_ret (m := a0) (a := a1) (b := a2) (c := a3) (d := a4) 8 (by rw [vld_iff]; omega))
                      have ew : wrap64 (8192 - a3) = 8192 - a3 := by unfold wrap64; omega
                      have f0 : (a1 < 0) = False := eq_false (by omega)
                      have g0 : (0 ≤ a1) = True := eq_true (by omega)
                      have f1 : (a1 < 16) = True := eq_true (by omega)
                      have g1 : (16 ≤ a1) = False := eq_false (by omega)
                      have f2 : (a3 < 1) = False := eq_false (by omega)
                      have g2 : (1 ≤ a3) = True := eq_true (by omega)
                      have f3 : (4096 < a3) = False := eq_false (by omega)
                      have g3 : (a3 ≤ 4096) = True := eq_true (by omega)
                      have f4 : (a2 < 0) = False := eq_false (by omega)
                      have g4 : (0 ≤ a2) = True := eq_true (by omega)
                      have f5 : (8192 - a3 < a2) = False := eq_false (by omega)
                      have g5 : (a2 ≤ 8192 - a3) = True := eq_true (by omega)
                      have f6 : (a0 == 1) = false := by simp; omega
                      have g6 : (a0 = 1) = False := eq_false (by omega)
                      have f8 : (a0 == 2) = true := by simp; omega
                      have g8 : (a0 = 2) = True := eq_true (by omega)
                      have f9 : (0 < a4) = True := eq_true (by omega)
                      have g9 : (a4 ≤ 0) = False := eq_false (by omega)
                      have f19 : (a4 < 1) = False := eq_false (by omega)
                      have g19 : (1 ≤ a4) = True := eq_true (by omega)
                      have f10 : (a4 < a3) = False := eq_false (by omega)
                      have g10 : (a3 ≤ a4) = True := eq_true (by omega)
                      clear h0 h1 h2 h3 h4 h5 h6 h8 h9 h10
                      rw [HV.out]
                      go_enter Tryd.func26, Tryd.ntmps26
                      go_wp2_with (first | ((with_reducible refine gate_dst (N := 1) rfl ?_); refine box_event ?hg (N := 1) ?hd (cs := #[.int .u8 a0, .int .i64 a1, .int .i64 a2, .int .i64 a3, .int .i64 a4, .int .u8 a5, .int .u8 a6, .int .u8 a7, .int .u8 a8, .int .u8 a9, .int .u8 a10, .int .u8 a11, .int .u8 a12, .int .u8 a13, .int .u8 a14, .int .u8 a15, .int .u8 a16, .int .u8 a17, .int .u8 a18, .int .u8 a19, .int .u8 a20, .int .u8 a21, .int .u8 a22, .int .u8 a23, .int .u8 a24]) (t := 25) ?hr ?_; (case hd => rfl); (case hg => rfl); (case hr => first | (go_simp; done) | (go_simp; rfl)); intro g1 hgg1 w2 hhg1 hbg1; have H5 := Aside0.mk hhg1; have G3 : w.heap.size ≤ g1 := Nat.le_of_eq hgg1.symm; have B4 := Aside0.mk (hbg1); clear hgg1 hhg1 hbg1; have c0 := (blk_cell H5.out 0).trans (show _ = some (.int .u8 a0) from rfl); have c1 := (blk_cell H5.out 1).trans (show _ = some (.int .i64 a1) from rfl); have c2 := (blk_cell H5.out 2).trans (show _ = some (.int .i64 a2) from rfl); have c3 := (blk_cell H5.out 3).trans (show _ = some (.int .i64 a3) from rfl); have c4 := (blk_cell H5.out 4).trans (show _ = some (.int .i64 a4) from rfl)))
                      go_ret
                      exact ⟨rfl, B4.out⟩
                  · have HV := Aside0.mk (vld_ret (m := a0) (a := a1) (b := a2) (c := a3) (d := a4) 8 (by rw [vld_iff]; omega))
                    have ew : wrap64 (8192 - a3) = 8192 - a3 := by unfold wrap64; omega
                    have f0 : (a1 < 0) = False := eq_false (by omega)
                    have g0 : (0 ≤ a1) = True := eq_true (by omega)
                    have f1 : (a1 < 16) = True := eq_true (by omega)
                    have g1 : (16 ≤ a1) = False := eq_false (by omega)
                    have f2 : (a3 < 1) = False := eq_false (by omega)
                    have g2 : (1 ≤ a3) = True := eq_true (by omega)
                    have f3 : (4096 < a3) = False := eq_false (by omega)
                    have g3 : (a3 ≤ 4096) = True := eq_true (by omega)
                    have f4 : (a2 < 0) = False := eq_false (by omega)
                    have g4 : (0 ≤ a2) = True := eq_true (by omega)
                    have f5 : (8192 - a3 < a2) = False := eq_false (by omega)
                    have g5 : (a2 ≤ 8192 - a3) = True := eq_true (by omega)
                    have f6 : (a0 == 1) = false := by simp; omega
                    have g6 : (a0 = 1) = False := eq_false (by omega)
                    have f8 : (a0 == 2) = true := by simp; omega
                    have g8 : (a0 = 2) = True := eq_true (by omega)
                    have f9 : (0 < a4) = False := eq_false (by omega)
                    have g9 : (a4 ≤ 0) = True := eq_true (by omega)
                    have f19 : (a4 < 1) = True := eq_true (by omega)
                    have g19 : (1 ≤ a4) = False := eq_false (by omega)
                    clear h0 h1 h2 h3 h4 h5 h6 h8 h9
                    rw [HV.out]
                    go_enter Tryd.func26, Tryd.ntmps26
                    go_wp2_with (first | ((with_reducible refine gate_dst (N := 1) rfl ?_); refine box_event ?hg (N := 1) ?hd (cs := #[.int .u8 a0, .int .i64 a1, .int .i64 a2, .int .i64 a3, .int .i64 a4, .int .u8 a5, .int .u8 a6, .int .u8 a7, .int .u8 a8, .int .u8 a9, .int .u8 a10, .int .u8 a11, .int .u8 a12, .int .u8 a13, .int .u8 a14, .int .u8 a15, .int .u8 a16, .int .u8 a17, .int .u8 a18, .int .u8 a19, .int .u8 a20, .int .u8 a21, .int .u8 a22, .int .u8 a23, .int .u8 a24]) (t := 25) ?hr ?_; (case hd => rfl); (case hg => rfl); (case hr => first | (go_simp; done) | (go_simp; rfl)); intro g1 hgg1 w2 hhg1 hbg1; have H5 := Aside0.mk hhg1; have G3 : w.heap.size ≤ g1 := Nat.le_of_eq hgg1.symm; have B4 := Aside0.mk (hbg1); clear hgg1 hhg1 hbg1; have c0 := (blk_cell H5.out 0).trans (show _ = some (.int .u8 a0) from rfl); have c1 := (blk_cell H5.out 1).trans (show _ = some (.int .i64 a1) from rfl); have c2 := (blk_cell H5.out 2).trans (show _ = some (.int .i64 a2) from rfl); have c3 := (blk_cell H5.out 3).trans (show _ = some (.int .i64 a3) from rfl); have c4 := (blk_cell H5.out 4).trans (show _ = some (.int .i64 a4) from rfl)))
                    go_ret
                    exact ⟨rfl, B4.out⟩
                · have HV := Aside0.mk (vld_ret (m := a0) (a := a1) (b := a2) (c := a3) (d := a4) 8 (by rw [vld_iff]; omega))
                  have ew : wrap64 (8192 - a3) = 8192 - a3 := by unfold wrap64; omega
                  have f0 : (a1 < 0) = False := eq_false (by omega)
                  have g0 : (0 ≤ a1) = True := eq_true (by omega)
                  have f1 : (a1 < 16) = True := eq_true (by omega)
                  have g1 : (16 ≤ a1) = False := eq_false (by omega)
                  have f2 : (a3 < 1) = False := eq_false (by omega)
                  have g2 : (1 ≤ a3) = True := eq_true (by omega)
                  have f3 : (4096 < a3) = False := eq_false (by omega)
                  have g3 : (a3 ≤ 4096) = True := eq_true (by omega)
                  have f4 : (a2 < 0) = False := eq_false (by omega)
                  have g4 : (0 ≤ a2) = True := eq_true (by omega)
                  have f5 : (8192 - a3 < a2) = False := eq_false (by omega)
                  have g5 : (a2 ≤ 8192 - a3) = True := eq_true (by omega)
                  have f6 : (a0 == 1) = false := by simp; omega
                  have g6 : (a0 = 1) = False := eq_false (by omega)
                  have f8 : (a0 == 2) = false := by simp; omega
                  have g8 : (a0 = 2) = False := eq_false (by omega)
                  clear h0 h1 h2 h3 h4 h5 h6 h8
                  rw [HV.out]
                  go_enter Tryd.func26, Tryd.ntmps26
                  go_wp2_with (first | ((with_reducible refine gate_dst (N := 1) rfl ?_); refine box_event ?hg (N := 1) ?hd (cs := #[.int .u8 a0, .int .i64 a1, .int .i64 a2, .int .i64 a3, .int .i64 a4, .int .u8 a5, .int .u8 a6, .int .u8 a7, .int .u8 a8, .int .u8 a9, .int .u8 a10, .int .u8 a11, .int .u8 a12, .int .u8 a13, .int .u8 a14, .int .u8 a15, .int .u8 a16, .int .u8 a17, .int .u8 a18, .int .u8 a19, .int .u8 a20, .int .u8 a21, .int .u8 a22, .int .u8 a23, .int .u8 a24]) (t := 25) ?hr ?_; (case hd => rfl); (case hg => rfl); (case hr => first | (go_simp; done) | (go_simp; rfl)); intro g1 hgg1 w2 hhg1 hbg1; have H5 := Aside0.mk hhg1; have G3 : w.heap.size ≤ g1 := Nat.le_of_eq hgg1.symm; have B4 := Aside0.mk (hbg1); clear hgg1 hhg1 hbg1; have c0 := (blk_cell H5.out 0).trans (show _ = some (.int .u8 a0) from rfl); have c1 := (blk_cell H5.out 1).trans (show _ = some (.int .i64 a1) from rfl); have c2 := (blk_cell H5.out 2).trans (show _ = some (.int .i64 a2) from rfl); have c3 := (blk_cell H5.out 3).trans (show _ = some (.int .i64 a3) from rfl); have c4 := (blk_cell H5.out 4).trans (show _ = some (.int .i64 a4) from rfl)))
                  go_ret
                  exact ⟨rfl, B4.out⟩
end Go.Proofs.YtbldecdipicddaaDoor.Hand
