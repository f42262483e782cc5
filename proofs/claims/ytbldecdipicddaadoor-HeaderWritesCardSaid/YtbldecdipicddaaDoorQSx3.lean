-- Written by qprint.py (a program of this session) out of the translation's print. Not trusted: Lean checks it.
import Derived.Test.YtbldecdipicddaaDoorQSx0
namespace Go.Proofs.YtbldecdipicddaaDoor.QS
open Go.RowKit Go.Proofs.YtbldecdipicddaaDoorW.PrintWords Go.Proofs.YtbldecdipicddaaDoorW.PrintLast Go.Proofs.YtbldecdipicddaaDoorW.PrintMore
attribute [local go_sem] max2_int min2_int max_two min_two max_three min_three max_four min_four   -- for this text's walks alone
set_option linter.unusedVariables false
set_option linter.unusedSimpArgs false

/-! ### bitloftref26_Check: function 26 -/
def bitloftref26_Check.j0 : Nat → Bool → Int → Int → Int → Int → Int → Int → Int → Int → Int → Int → Int → Int → Int → Int → Int → Int → Int → Int → Int → Int → Int → Int → Int → Int → Int → Option (Int)
  | 0, _, _, _, _, _, _, _, _, _, _, _, _, _, _, _, _, _, _, _, _, _, _, _, _, _, _ => none
  | k + 1, x35, x112000, x112001, x112002, x112003, x112004, x112005, x112006, x112007, x112008, x112009, x112010, x112011, x112012, x112013, x112014, x112015, x112016, x112017, x112018, x112019, x112020, x112021, x112022, x112023, x112024 => if x35 = true then (some 8) else (if x112000 = 1 then (if x112000 = 2 then (if x112004 ≥ 1 then (if x112004 = x112003 then (some 0) else (if x112004 < x112003 then (some 0) else (some 8))) else (if x112004 = x112003 then (some 0) else (some 8))) else (if x112004 = x112003 then (some 0) else (some 8))) else (if x112000 = 2 then (if x112004 ≥ 1 then (if x112004 < x112003 then (some 0) else (some 8)) else (some 8)) else (some 8)))
def bitloftref26_Check.f (k : Nat) (a0_0 : Int) (a0_1 : Int) (a0_2 : Int) (a0_3 : Int) (a0_4 : Int) (a0_5 : Int) (a0_6 : Int) (a0_7 : Int) (a0_8 : Int) (a0_9 : Int) (a0_10 : Int) (a0_11 : Int) (a0_12 : Int) (a0_13 : Int) (a0_14 : Int) (a0_15 : Int) (a0_16 : Int) (a0_17 : Int) (a0_18 : Int) (a0_19 : Int) (a0_20 : Int) (a0_21 : Int) (a0_22 : Int) (a0_23 : Int) (a0_24 : Int) : Option (Int) := if a0_1 < 0 then (bitloftref26_Check.j0 k true a0_0 a0_1 a0_2 a0_3 a0_4 a0_5 a0_6 a0_7 a0_8 a0_9 a0_10 a0_11 a0_12 a0_13 a0_14 a0_15 a0_16 a0_17 a0_18 a0_19 a0_20 a0_21 a0_22 a0_23 a0_24) else (if a0_1 ≥ 16 then (bitloftref26_Check.j0 k true a0_0 a0_1 a0_2 a0_3 a0_4 a0_5 a0_6 a0_7 a0_8 a0_9 a0_10 a0_11 a0_12 a0_13 a0_14 a0_15 a0_16 a0_17 a0_18 a0_19 a0_20 a0_21 a0_22 a0_23 a0_24) else (if a0_3 < 1 then (bitloftref26_Check.j0 k true a0_0 a0_1 a0_2 a0_3 a0_4 a0_5 a0_6 a0_7 a0_8 a0_9 a0_10 a0_11 a0_12 a0_13 a0_14 a0_15 a0_16 a0_17 a0_18 a0_19 a0_20 a0_21 a0_22 a0_23 a0_24) else (if a0_3 > 4096 then (bitloftref26_Check.j0 k true a0_0 a0_1 a0_2 a0_3 a0_4 a0_5 a0_6 a0_7 a0_8 a0_9 a0_10 a0_11 a0_12 a0_13 a0_14 a0_15 a0_16 a0_17 a0_18 a0_19 a0_20 a0_21 a0_22 a0_23 a0_24) else (if a0_2 < 0 then (bitloftref26_Check.j0 k true a0_0 a0_1 a0_2 a0_3 a0_4 a0_5 a0_6 a0_7 a0_8 a0_9 a0_10 a0_11 a0_12 a0_13 a0_14 a0_15 a0_16 a0_17 a0_18 a0_19 a0_20 a0_21 a0_22 a0_23 a0_24) else (bitloftref26_Check.j0 k (decide (a0_2 > (wrap64 (8192 - a0_3)))) a0_0 a0_1 a0_2 a0_3 a0_4 a0_5 a0_6 a0_7 a0_8 a0_9 a0_10 a0_11 a0_12 a0_13 a0_14 a0_15 a0_16 a0_17 a0_18 a0_19 a0_20 a0_21 a0_22 a0_23 a0_24)))))
theorem bitloftref26_Check.mono_l : ∀ k, (∀ y0 y1 y2 y3 y4 y5 y6 y7 y8 y9 y10 y11 y12 y13 y14 y15 y16 y17 y18 y19 y20 y21 y22 y23 y24 y25, LeO (bitloftref26_Check.j0 k y0 y1 y2 y3 y4 y5 y6 y7 y8 y9 y10 y11 y12 y13 y14 y15 y16 y17 y18 y19 y20 y21 y22 y23 y24 y25) (bitloftref26_Check.j0 (k + 1) y0 y1 y2 y3 y4 y5 y6 y7 y8 y9 y10 y11 y12 y13 y14 y15 y16 y17 y18 y19 y20 y21 y22 y23 y24 y25))
  | 0 => fun _ _ _ _ _ _ _ _ _ _ _ _ _ _ _ _ _ _ _ _ _ _ _ _ _ _ r h => by simp [bitloftref26_Check.j0] at h
  | k + 1 => by
    have ih0 := bitloftref26_Check.mono_l k
    · intro y0 y1 y2 y3 y4 y5 y6 y7 y8 y9 y10 y11 y12 y13 y14 y15 y16 y17 y18 y19 y20 y21 y22 y23 y24 y25
      unfold bitloftref26_Check.j0
      repeat' first
      | (with_reducible exact ih0 _ _ _ _ _ _ _ _ _ _ _ _ _ _ _ _ _ _ _ _ _ _ _ _ _ _)
      | (with_reducible exact LeO.refl _)
      | (with_reducible exact LeO.none _)
      | (with_reducible refine LeO.ite ?_ ?_)
      | (with_reducible refine LeO.bind ?_ (fun _ => ?_))
      | exact ih0 _ _ _ _ _ _ _ _ _ _ _ _ _ _ _ _ _ _ _ _ _ _ _ _ _ _
      | exact LeO.none _
      | refine LeO.ite ?_ ?_
      | refine LeO.bind ?_ (fun _ => ?_)
theorem bitloftref26_Check.mono : ∀ a0 a1 a2 a3 a4 a5 a6 a7 a8 a9 a10 a11 a12 a13 a14 a15 a16 a17 a18 a19 a20 a21 a22 a23 a24 k, LeO (bitloftref26_Check.f k a0 a1 a2 a3 a4 a5 a6 a7 a8 a9 a10 a11 a12 a13 a14 a15 a16 a17 a18 a19 a20 a21 a22 a23 a24) (bitloftref26_Check.f (k + 1) a0 a1 a2 a3 a4 a5 a6 a7 a8 a9 a10 a11 a12 a13 a14 a15 a16 a17 a18 a19 a20 a21 a22 a23 a24) := by
  intro a0 a1 a2 a3 a4 a5 a6 a7 a8 a9 a10 a11 a12 a13 a14 a15 a16 a17 a18 a19 a20 a21 a22 a23 a24 k
  have ih0 := bitloftref26_Check.mono_l k
  unfold bitloftref26_Check.f
  repeat' first
      | (with_reducible exact ih0 _ _ _ _ _ _ _ _ _ _ _ _ _ _ _ _ _ _ _ _ _ _ _ _ _ _)
      | (with_reducible exact LeO.refl _)
      | (with_reducible exact LeO.none _)
      | (with_reducible refine LeO.ite ?_ ?_)
      | (with_reducible refine LeO.bind ?_ (fun _ => ?_))
      | exact ih0 _ _ _ _ _ _ _ _ _ _ _ _ _ _ _ _ _ _ _ _ _ _ _ _ _ _
      | exact LeO.none _
      | refine LeO.ite ?_ ?_
      | refine LeO.bind ?_ (fun _ => ?_)
set_option maxHeartbeats 8000000 in
set_option maxRecDepth 100000 in
theorem bitloftref26_Check.calls (k : Nat) (a0_0 : Int) (a0_1 : Int) (a0_2 : Int) (a0_3 : Int) (a0_4 : Int) (a0_5 : Int) (a0_6 : Int) (a0_7 : Int) (a0_8 : Int) (a0_9 : Int) (a0_10 : Int) (a0_11 : Int) (a0_12 : Int) (a0_13 : Int) (a0_14 : Int) (a0_15 : Int) (a0_16 : Int) (a0_17 : Int) (a0_18 : Int) (a0_19 : Int) (a0_20 : Int) (a0_21 : Int) (a0_22 : Int) (a0_23 : Int) (a0_24 : Int) (r : Int) (w : World) (h : bitloftref26_Check.f k a0_0 a0_1 a0_2 a0_3 a0_4 a0_5 a0_6 a0_7 a0_8 a0_9 a0_10 a0_11 a0_12 a0_13 a0_14 a0_15 a0_16 a0_17 a0_18 a0_19 a0_20 a0_21 a0_22 a0_23 a0_24 = some r) :
    Calls Tryd.prog 26 #[.agg #[.int .u8 a0_0, .int .i64 a0_1, .int .i64 a0_2, .int .i64 a0_3, .int .i64 a0_4, .int .u8 a0_5, .int .u8 a0_6, .int .u8 a0_7, .int .u8 a0_8, .int .u8 a0_9, .int .u8 a0_10, .int .u8 a0_11, .int .u8 a0_12, .int .u8 a0_13, .int .u8 a0_14, .int .u8 a0_15, .int .u8 a0_16, .int .u8 a0_17, .int .u8 a0_18, .int .u8 a0_19, .int .u8 a0_20, .int .u8 a0_21, .int .u8 a0_22, .int .u8 a0_23, .int .u8 a0_24]] w fun e w' => e = .returned (.int .i64 r) ∧ Below w.heap.size w w' := by
  have hu25 := Tryd.underlying25
  have HB := Aside0.mk (Below.refl w.heap.size w)
  have H : (if a0_1 < 0 then (bitloftref26_Check.j0 k true a0_0 a0_1 a0_2 a0_3 a0_4 a0_5 a0_6 a0_7 a0_8 a0_9 a0_10 a0_11 a0_12 a0_13 a0_14 a0_15 a0_16 a0_17 a0_18 a0_19 a0_20 a0_21 a0_22 a0_23 a0_24) else (if a0_1 ≥ 16 then (bitloftref26_Check.j0 k true a0_0 a0_1 a0_2 a0_3 a0_4 a0_5 a0_6 a0_7 a0_8 a0_9 a0_10 a0_11 a0_12 a0_13 a0_14 a0_15 a0_16 a0_17 a0_18 a0_19 a0_20 a0_21 a0_22 a0_23 a0_24) else (if a0_3 < 1 then (bitloftref26_Check.j0 k true a0_0 a0_1 a0_2 a0_3 a0_4 a0_5 a0_6 a0_7 a0_8 a0_9 a0_10 a0_11 a0_12 a0_13 a0_14 a0_15 a0_16 a0_17 a0_18 a0_19 a0_20 a0_21 a0_22 a0_23 a0_24) else (if a0_3 > 4096 then (bitloftref26_Check.j0 k true a0_0 a0_1 a0_2 a0_3 a0_4 a0_5 a0_6 a0_7 a0_8 a0_9 a0_10 a0_11 a0_12 a0_13 a0_14 a0_15 a0_16 a0_17 a0_18 a0_19 a0_20 a0_21 a0_22 a0_23 a0_24) else (if a0_2 < 0 then (bitloftref26_Check.j0 k true a0_0 a0_1 a0_2 a0_3 a0_4 a0_5 a0_6 a0_7 a0_8 a0_9 a0_10 a0_11 a0_12 a0_13 a0_14 a0_15 a0_16 a0_17 a0_18 a0_19 a0_20 a0_21 a0_22 a0_23 a0_24) else (bitloftref26_Check.j0 k (decide (a0_2 > (wrap64 (8192 - a0_3)))) a0_0 a0_1 a0_2 a0_3 a0_4 a0_5 a0_6 a0_7 a0_8 a0_9 a0_10 a0_11 a0_12 a0_13 a0_14 a0_15 a0_16 a0_17 a0_18 a0_19 a0_20 a0_21 a0_22 a0_23 a0_24)))))) = some r := h
  clear h
  have HC2 := Aside0.mk H
  clear H
  go_enter Tryd.func26, Tryd.ntmps26
  go_upto_region 1 with (first | ((with_reducible refine gate_dst (N := 1) rfl ?_); refine box_event ?hg (N := 1) ?hd (cs := #[.int .u8 a0_0, .int .i64 a0_1, .int .i64 a0_2, .int .i64 a0_3, .int .i64 a0_4, .int .u8 a0_5, .int .u8 a0_6, .int .u8 a0_7, .int .u8 a0_8, .int .u8 a0_9, .int .u8 a0_10, .int .u8 a0_11, .int .u8 a0_12, .int .u8 a0_13, .int .u8 a0_14, .int .u8 a0_15, .int .u8 a0_16, .int .u8 a0_17, .int .u8 a0_18, .int .u8 a0_19, .int .u8 a0_20, .int .u8 a0_21, .int .u8 a0_22, .int .u8 a0_23, .int .u8 a0_24]) (t := 25) ?hr ?_; (case hd => rfl); (case hg => rfl); (case hr => first | (go_simp; done) | (go_simp; rfl)); intro gb111 hg w3 hbox hb; have n0_ := Aside0.mk (below_step (by repeat (first | (with_reducible first | exact HB.out | apply below_alloc | apply pw_below_drewN | apply below_drew1) | exact HB.out)) hb); have n1_ := Aside0.mk (hbox); have n2_ := Aside0.mk ((by rw [hg]; exact (below_size (by repeat (first | (with_reducible first | exact HB.out | apply below_alloc | apply pw_below_drewN | apply below_drew1) | exact HB.out))) : w.heap.size ≤ gb111)); have n3_ := Aside0.mk ((by rw [hg]; exact (below_size (by repeat (first | (with_reducible first | exact HB.out | apply below_alloc | apply pw_below_drewN | apply below_drew1) | exact HB.out))) : w.heap.size ≤ gb111)); clear HB; have HB := n0_; have BK111 := n1_; have GW111 := n2_; have GE111 := n3_; clear n0_ n1_ n2_ n3_; clear hb hbox hg))
  (try simp only [Act.put, List.setIfInBounds_toArray, List.set_cons_zero, List.set_cons_succ])
  go_cut [35] (fun v35 wc => ∃ (kq : Nat) (x35_1 : Bool), v35 = .bool x35_1 ∧ Aside0 (bitloftref26_Check.j0 kq x35_1 a0_0 a0_1 a0_2 a0_3 a0_4 a0_5 a0_6 a0_7 a0_8 a0_9 a0_10 a0_11 a0_12 a0_13 a0_14 a0_15 a0_16 a0_17 a0_18 a0_19 a0_20 a0_21 a0_22 a0_23 a0_24 = some r) ∧ Aside0 (kq ≤ k) ∧ Aside0 (wc.heap[gb111]? = some (.cells #[.int .u8 a0_0, .int .i64 a0_1, .int .i64 a0_2, .int .i64 a0_3, .int .i64 a0_4, .int .u8 a0_5, .int .u8 a0_6, .int .u8 a0_7, .int .u8 a0_8, .int .u8 a0_9, .int .u8 a0_10, .int .u8 a0_11, .int .u8 a0_12, .int .u8 a0_13, .int .u8 a0_14, .int .u8 a0_15, .int .u8 a0_16, .int .u8 a0_17, .int .u8 a0_18, .int .u8 a0_19, .int .u8 a0_20, .int .u8 a0_21, .int .u8 a0_22, .int .u8 a0_23, .int .u8 a0_24] 25 (0, 0))) ∧ Aside0 (Below w.heap.size w wc))
  case first =>
    have H := HC2.out
    clear HC2
    by_cases c4 : a0_1 < 0
    · rw [if_pos c4] at H
      have c4b0 : decide (a0_1 < 0) = true := decide_eq_true c4
      clear c4
      (first | rw [c4b0] | (simp only [i64_w, i32_w]; rw [c4b0]) | skip)
      have H' := Aside0.mk H
      clear H
      have hcz5_0 : w3.cell? ⟨gb111, 0, none⟩ = some (.int .u8 a0_0) := (blk_cell BK111.out 0).trans rfl
      have hcz5_1 : w3.cell? ⟨gb111, 1, none⟩ = some (.int .i64 a0_1) := (blk_cell BK111.out 1).trans rfl
      have hcz5_2 : w3.cell? ⟨gb111, 2, none⟩ = some (.int .i64 a0_2) := (blk_cell BK111.out 2).trans rfl
      have hcz5_3 : w3.cell? ⟨gb111, 3, none⟩ = some (.int .i64 a0_3) := (blk_cell BK111.out 3).trans rfl
      have hcz5_4 : w3.cell? ⟨gb111, 4, none⟩ = some (.int .i64 a0_4) := (blk_cell BK111.out 4).trans rfl
      have hcz5_5 : w3.cell? ⟨gb111, 5, none⟩ = some (.int .u8 a0_5) := (blk_cell BK111.out 5).trans rfl
      have hcz5_6 : w3.cell? ⟨gb111, 6, none⟩ = some (.int .u8 a0_6) := (blk_cell BK111.out 6).trans rfl
      have hcz5_7 : w3.cell? ⟨gb111, 7, none⟩ = some (.int .u8 a0_7) := (blk_cell BK111.out 7).trans rfl
      have hcz5_8 : w3.cell? ⟨gb111, 8, none⟩ = some (.int .u8 a0_8) := (blk_cell BK111.out 8).trans rfl
      have hcz5_9 : w3.cell? ⟨gb111, 9, none⟩ = some (.int .u8 a0_9) := (blk_cell BK111.out 9).trans rfl
      have hcz5_10 : w3.cell? ⟨gb111, 10, none⟩ = some (.int .u8 a0_10) := (blk_cell BK111.out 10).trans rfl
      have hcz5_11 : w3.cell? ⟨gb111, 11, none⟩ = some (.int .u8 a0_11) := (blk_cell BK111.out 11).trans rfl
      have hcz5_12 : w3.cell? ⟨gb111, 12, none⟩ = some (.int .u8 a0_12) := (blk_cell BK111.out 12).trans rfl
      have hcz5_13 : w3.cell? ⟨gb111, 13, none⟩ = some (.int .u8 a0_13) := (blk_cell BK111.out 13).trans rfl
      have hcz5_14 : w3.cell? ⟨gb111, 14, none⟩ = some (.int .u8 a0_14) := (blk_cell BK111.out 14).trans rfl
      have hcz5_15 : w3.cell? ⟨gb111, 15, none⟩ = some (.int .u8 a0_15) := (blk_cell BK111.out 15).trans rfl
      have hcz5_16 : w3.cell? ⟨gb111, 16, none⟩ = some (.int .u8 a0_16) := (blk_cell BK111.out 16).trans rfl
      have hcz5_17 : w3.cell? ⟨gb111, 17, none⟩ = some (.int .u8 a0_17) := (blk_cell BK111.out 17).trans rfl
      have hcz5_18 : w3.cell? ⟨gb111, 18, none⟩ = some (.int .u8 a0_18) := (blk_cell BK111.out 18).trans rfl
      have hcz5_19 : w3.cell? ⟨gb111, 19, none⟩ = some (.int .u8 a0_19) := (blk_cell BK111.out 19).trans rfl
      have hcz5_20 : w3.cell? ⟨gb111, 20, none⟩ = some (.int .u8 a0_20) := (blk_cell BK111.out 20).trans rfl
      have hcz5_21 : w3.cell? ⟨gb111, 21, none⟩ = some (.int .u8 a0_21) := (blk_cell BK111.out 21).trans rfl
      have hcz5_22 : w3.cell? ⟨gb111, 22, none⟩ = some (.int .u8 a0_22) := (blk_cell BK111.out 22).trans rfl
      have hcz5_23 : w3.cell? ⟨gb111, 23, none⟩ = some (.int .u8 a0_23) := (blk_cell BK111.out 23).trans rfl
      have hcz5_24 : w3.cell? ⟨gb111, 24, none⟩ = some (.int .u8 a0_24) := (blk_cell BK111.out 24).trans rfl
      have hfz5_0 := blk_frozen BK111.out 0
      have hfz5_1 := blk_frozen BK111.out 1
      have hfz5_2 := blk_frozen BK111.out 2
      have hfz5_3 := blk_frozen BK111.out 3
      have hfz5_4 := blk_frozen BK111.out 4
      have hfz5_5 := blk_frozen BK111.out 5
      have hfz5_6 := blk_frozen BK111.out 6
      have hfz5_7 := blk_frozen BK111.out 7
      have hfz5_8 := blk_frozen BK111.out 8
      have hfz5_9 := blk_frozen BK111.out 9
      have hfz5_10 := blk_frozen BK111.out 10
      have hfz5_11 := blk_frozen BK111.out 11
      have hfz5_12 := blk_frozen BK111.out 12
      have hfz5_13 := blk_frozen BK111.out 13
      have hfz5_14 := blk_frozen BK111.out 14
      have hfz5_15 := blk_frozen BK111.out 15
      have hfz5_16 := blk_frozen BK111.out 16
      have hfz5_17 := blk_frozen BK111.out 17
      have hfz5_18 := blk_frozen BK111.out 18
      have hfz5_19 := blk_frozen BK111.out 19
      have hfz5_20 := blk_frozen BK111.out 20
      have hfz5_21 := blk_frozen BK111.out 21
      have hfz5_22 := blk_frozen BK111.out 22
      have hfz5_23 := blk_frozen BK111.out 23
      have hfz5_24 := blk_frozen BK111.out 24
      go_wp2
      go_meet
      case rel => exact ⟨_, (true), (by first | rfl | (simp; done) | (simp [*]; done)), H', ⟨by first | omega | exact Nat.le_refl _⟩, ⟨by (with_reducible repeat (first | refine blk_drewN ?_ _ | refine blk_drew ?_ | refine blk_alloc ?_ _)); exact BK111.out⟩, ⟨by repeat (first | (with_reducible first | exact HB.out | apply below_alloc | apply pw_below_drewN | apply below_drew1 | refine below_set ?_ GE111.out) | exact HB.out)⟩⟩
    · rw [if_neg c4] at H
      have c4b0 : decide (a0_1 < 0) = false := decide_eq_false c4
      clear c4
      (first | rw [c4b0] | (simp only [i64_w, i32_w]; rw [c4b0]) | skip)
      by_cases c6 : a0_1 ≥ 16
      · rw [if_pos c6] at H
        have c6b0 : decide (16 ≤ a0_1) = true := decide_eq_true c6
        clear c6
        have H' := Aside0.mk H
        clear H
        have hcz7_0 : w3.cell? ⟨gb111, 0, none⟩ = some (.int .u8 a0_0) := (blk_cell BK111.out 0).trans rfl
        have hcz7_1 : w3.cell? ⟨gb111, 1, none⟩ = some (.int .i64 a0_1) := (blk_cell BK111.out 1).trans rfl
        have hcz7_2 : w3.cell? ⟨gb111, 2, none⟩ = some (.int .i64 a0_2) := (blk_cell BK111.out 2).trans rfl
        have hcz7_3 : w3.cell? ⟨gb111, 3, none⟩ = some (.int .i64 a0_3) := (blk_cell BK111.out 3).trans rfl
        have hcz7_4 : w3.cell? ⟨gb111, 4, none⟩ = some (.int .i64 a0_4) := (blk_cell BK111.out 4).trans rfl
        have hcz7_5 : w3.cell? ⟨gb111, 5, none⟩ = some (.int .u8 a0_5) := (blk_cell BK111.out 5).trans rfl
        have hcz7_6 : w3.cell? ⟨gb111, 6, none⟩ = some (.int .u8 a0_6) := (blk_cell BK111.out 6).trans rfl
        have hcz7_7 : w3.cell? ⟨gb111, 7, none⟩ = some (.int .u8 a0_7) := (blk_cell BK111.out 7).trans rfl
        have hcz7_8 : w3.cell? ⟨gb111, 8, none⟩ = some (.int .u8 a0_8) := (blk_cell BK111.out 8).trans rfl
        have hcz7_9 : w3.cell? ⟨gb111, 9, none⟩ = some (.int .u8 a0_9) := (blk_cell BK111.out 9).trans rfl
        have hcz7_10 : w3.cell? ⟨gb111, 10, none⟩ = some (.int .u8 a0_10) := (blk_cell BK111.out 10).trans rfl
        have hcz7_11 : w3.cell? ⟨gb111, 11, none⟩ = some (.int .u8 a0_11) := (blk_cell BK111.out 11).trans rfl
        have hcz7_12 : w3.cell? ⟨gb111, 12, none⟩ = some (.int .u8 a0_12) := (blk_cell BK111.out 12).trans rfl
        have hcz7_13 : w3.cell? ⟨gb111, 13, none⟩ = some (.int .u8 a0_13) := (blk_cell BK111.out 13).trans rfl
        have hcz7_14 : w3.cell? ⟨gb111, 14, none⟩ = some (.int .u8 a0_14) := (blk_cell BK111.out 14).trans rfl
        have hcz7_15 : w3.cell? ⟨gb111, 15, none⟩ = some (.int .u8 a0_15) := (blk_cell BK111.out 15).trans rfl
        have hcz7_16 : w3.cell? ⟨gb111, 16, none⟩ = some (.int .u8 a0_16) := (blk_cell BK111.out 16).trans rfl
        have hcz7_17 : w3.cell? ⟨gb111, 17, none⟩ = some (.int .u8 a0_17) := (blk_cell BK111.out 17).trans rfl
        have hcz7_18 : w3.cell? ⟨gb111, 18, none⟩ = some (.int .u8 a0_18) := (blk_cell BK111.out 18).trans rfl
        have hcz7_19 : w3.cell? ⟨gb111, 19, none⟩ = some (.int .u8 a0_19) := (blk_cell BK111.out 19).trans rfl
        have hcz7_20 : w3.cell? ⟨gb111, 20, none⟩ = some (.int .u8 a0_20) := (blk_cell BK111.out 20).trans rfl
        have hcz7_21 : w3.cell? ⟨gb111, 21, none⟩ = some (.int .u8 a0_21) := (blk_cell BK111.out 21).trans rfl
        have hcz7_22 : w3.cell? ⟨gb111, 22, none⟩ = some (.int .u8 a0_22) := (blk_cell BK111.out 22).trans rfl
        have hcz7_23 : w3.cell? ⟨gb111, 23, none⟩ = some (.int .u8 a0_23) := (blk_cell BK111.out 23).trans rfl
        have hcz7_24 : w3.cell? ⟨gb111, 24, none⟩ = some (.int .u8 a0_24) := (blk_cell BK111.out 24).trans rfl
        have hfz7_0 := blk_frozen BK111.out 0
        have hfz7_1 := blk_frozen BK111.out 1
        have hfz7_2 := blk_frozen BK111.out 2
        have hfz7_3 := blk_frozen BK111.out 3
        have hfz7_4 := blk_frozen BK111.out 4
        have hfz7_5 := blk_frozen BK111.out 5
        have hfz7_6 := blk_frozen BK111.out 6
        have hfz7_7 := blk_frozen BK111.out 7
        have hfz7_8 := blk_frozen BK111.out 8
        have hfz7_9 := blk_frozen BK111.out 9
        have hfz7_10 := blk_frozen BK111.out 10
        have hfz7_11 := blk_frozen BK111.out 11
        have hfz7_12 := blk_frozen BK111.out 12
        have hfz7_13 := blk_frozen BK111.out 13
        have hfz7_14 := blk_frozen BK111.out 14
        have hfz7_15 := blk_frozen BK111.out 15
        have hfz7_16 := blk_frozen BK111.out 16
        have hfz7_17 := blk_frozen BK111.out 17
        have hfz7_18 := blk_frozen BK111.out 18
        have hfz7_19 := blk_frozen BK111.out 19
        have hfz7_20 := blk_frozen BK111.out 20
        have hfz7_21 := blk_frozen BK111.out 21
        have hfz7_22 := blk_frozen BK111.out 22
        have hfz7_23 := blk_frozen BK111.out 23
        have hfz7_24 := blk_frozen BK111.out 24
        go_wp2
        go_meet
        case rel => exact ⟨_, (true), (by first | rfl | (simp; done) | (simp [*]; done)), H', ⟨by first | omega | exact Nat.le_refl _⟩, ⟨by (with_reducible repeat (first | refine blk_drewN ?_ _ | refine blk_drew ?_ | refine blk_alloc ?_ _)); exact BK111.out⟩, ⟨by repeat (first | (with_reducible first | exact HB.out | apply below_alloc | apply pw_below_drewN | apply below_drew1 | refine below_set ?_ GE111.out) | exact HB.out)⟩⟩
      · rw [if_neg c6] at H
        have c6b0 : decide (16 ≤ a0_1) = false := decide_eq_false c6
        clear c6
        by_cases c8 : a0_3 < 1
        · rw [if_pos c8] at H
          have c8b0 : decide (a0_3 < 1) = true := decide_eq_true c8
          clear c8
          have H' := Aside0.mk H
          clear H
          have hcz9_0 : w3.cell? ⟨gb111, 0, none⟩ = some (.int .u8 a0_0) := (blk_cell BK111.out 0).trans rfl
          have hcz9_1 : w3.cell? ⟨gb111, 1, none⟩ = some (.int .i64 a0_1) := (blk_cell BK111.out 1).trans rfl
          have hcz9_2 : w3.cell? ⟨gb111, 2, none⟩ = some (.int .i64 a0_2) := (blk_cell BK111.out 2).trans rfl
          have hcz9_3 : w3.cell? ⟨gb111, 3, none⟩ = some (.int .i64 a0_3) := (blk_cell BK111.out 3).trans rfl
          have hcz9_4 : w3.cell? ⟨gb111, 4, none⟩ = some (.int .i64 a0_4) := (blk_cell BK111.out 4).trans rfl
          have hcz9_5 : w3.cell? ⟨gb111, 5, none⟩ = some (.int .u8 a0_5) := (blk_cell BK111.out 5).trans rfl
          have hcz9_6 : w3.cell? ⟨gb111, 6, none⟩ = some (.int .u8 a0_6) := (blk_cell BK111.out 6).trans rfl
          have hcz9_7 : w3.cell? ⟨gb111, 7, none⟩ = some (.int .u8 a0_7) := (blk_cell BK111.out 7).trans rfl
          have hcz9_8 : w3.cell? ⟨gb111, 8, none⟩ = some (.int .u8 a0_8) := (blk_cell BK111.out 8).trans rfl
          have hcz9_9 : w3.cell? ⟨gb111, 9, none⟩ = some (.int .u8 a0_9) := (blk_cell BK111.out 9).trans rfl
          have hcz9_10 : w3.cell? ⟨gb111, 10, none⟩ = some (.int .u8 a0_10) := (blk_cell BK111.out 10).trans rfl
          have hcz9_11 : w3.cell? ⟨gb111, 11, none⟩ = some (.int .u8 a0_11) := (blk_cell BK111.out 11).trans rfl
          have hcz9_12 : w3.cell? ⟨gb111, 12, none⟩ = some (.int .u8 a0_12) := (blk_cell BK111.out 12).trans rfl
          have hcz9_13 : w3.cell? ⟨gb111, 13, none⟩ = some (.int .u8 a0_13) := (blk_cell BK111.out 13).trans rfl
          have hcz9_14 : w3.cell? ⟨gb111, 14, none⟩ = some (.int .u8 a0_14) := (blk_cell BK111.out 14).trans rfl
          have hcz9_15 : w3.cell? ⟨gb111, 15, none⟩ = some (.int .u8 a0_15) := (blk_cell BK111.out 15).trans rfl
          have hcz9_16 : w3.cell? ⟨gb111, 16, none⟩ = some (.int .u8 a0_16) := (blk_cell BK111.out 16).trans rfl
          have hcz9_17 : w3.cell? ⟨gb111, 17, none⟩ = some (.int .u8 a0_17) := (blk_cell BK111.out 17).trans rfl
          have hcz9_18 : w3.cell? ⟨gb111, 18, none⟩ = some (.int .u8 a0_18) := (blk_cell BK111.out 18).trans rfl
          have hcz9_19 : w3.cell? ⟨gb111, 19, none⟩ = some (.int .u8 a0_19) := (blk_cell BK111.out 19).trans rfl
          have hcz9_20 : w3.cell? ⟨gb111, 20, none⟩ = some (.int .u8 a0_20) := (blk_cell BK111.out 20).trans rfl
          have hcz9_21 : w3.cell? ⟨gb111, 21, none⟩ = some (.int .u8 a0_21) := (blk_cell BK111.out 21).trans rfl
          have hcz9_22 : w3.cell? ⟨gb111, 22, none⟩ = some (.int .u8 a0_22) := (blk_cell BK111.out 22).trans rfl
          have hcz9_23 : w3.cell? ⟨gb111, 23, none⟩ = some (.int .u8 a0_23) := (blk_cell BK111.out 23).trans rfl
          have hcz9_24 : w3.cell? ⟨gb111, 24, none⟩ = some (.int .u8 a0_24) := (blk_cell BK111.out 24).trans rfl
          have hfz9_0 := blk_frozen BK111.out 0
          have hfz9_1 := blk_frozen BK111.out 1
          have hfz9_2 := blk_frozen BK111.out 2
          have hfz9_3 := blk_frozen BK111.out 3
          have hfz9_4 := blk_frozen BK111.out 4
          have hfz9_5 := blk_frozen BK111.out 5
          have hfz9_6 := blk_frozen BK111.out 6
          have hfz9_7 := blk_frozen BK111.out 7
          have hfz9_8 := blk_frozen BK111.out 8
          have hfz9_9 := blk_frozen BK111.out 9
          have hfz9_10 := blk_frozen BK111.out 10
          have hfz9_11 := blk_frozen BK111.out 11
          have hfz9_12 := blk_frozen BK111.out 12
          have hfz9_13 := blk_frozen BK111.out 13
          have hfz9_14 := blk_frozen BK111.out 14
          have hfz9_15 := blk_frozen BK111.out 15
          have hfz9_16 := blk_frozen BK111.out 16
          have hfz9_17 := blk_frozen BK111.out 17
          have hfz9_18 := blk_frozen BK111.out 18
          have hfz9_19 := blk_frozen BK111.out 19
          have hfz9_20 := blk_frozen BK111.out 20
          have hfz9_21 := blk_frozen BK111.out 21
          have hfz9_22 := blk_frozen BK111.out 22
          have hfz9_23 := blk_frozen BK111.out 23
          have hfz9_24 := blk_frozen BK111.out 24
          go_wp2
          go_meet
          case rel => exact ⟨_, (true), (by first | rfl | (simp; done) | (simp [*]; done)), H', ⟨by first | omega | exact Nat.le_refl _⟩, ⟨by (with_reducible repeat (first | refine blk_drewN ?_ _ | refine blk_drew ?_ | refine blk_alloc ?_ _)); exact BK111.out⟩, ⟨by repeat (first | (with_reducible first | exact HB.out | apply below_alloc | apply pw_below_drewN | apply below_drew1 | refine below_set ?_ GE111.out) | exact HB.out)⟩⟩
        · rw [if_neg c8] at H
          have c8b0 : decide (a0_3 < 1) = false := decide_eq_false c8
          clear c8
          by_cases c10 : a0_3 > 4096
          · rw [if_pos c10] at H
            have c10b0 : decide (4096 < a0_3) = true := decide_eq_true c10
            clear c10
            have H' := Aside0.mk H
            clear H
            have hcz11_0 : w3.cell? ⟨gb111, 0, none⟩ = some (.int .u8 a0_0) := (blk_cell BK111.out 0).trans rfl
            have hcz11_1 : w3.cell? ⟨gb111, 1, none⟩ = some (.int .i64 a0_1) := (blk_cell BK111.out 1).trans rfl
            have hcz11_2 : w3.cell? ⟨gb111, 2, none⟩ = some (.int .i64 a0_2) := (blk_cell BK111.out 2).trans rfl
            have hcz11_3 : w3.cell? ⟨gb111, 3, none⟩ = some (.int .i64 a0_3) := (blk_cell BK111.out 3).trans rfl
            have hcz11_4 : w3.cell? ⟨gb111, 4, none⟩ = some (.int .i64 a0_4) := (blk_cell BK111.out 4).trans rfl
            have hcz11_5 : w3.cell? ⟨gb111, 5, none⟩ = some (.int .u8 a0_5) := (blk_cell BK111.out 5).trans rfl
            have hcz11_6 : w3.cell? ⟨gb111, 6, none⟩ = some (.int .u8 a0_6) := (blk_cell BK111.out 6).trans rfl
            have hcz11_7 : w3.cell? ⟨gb111, 7, none⟩ = some (.int .u8 a0_7) := (blk_cell BK111.out 7).trans rfl
            have hcz11_8 : w3.cell? ⟨gb111, 8, none⟩ = some (.int .u8 a0_8) := (blk_cell BK111.out 8).trans rfl
            have hcz11_9 : w3.cell? ⟨gb111, 9, none⟩ = some (.int .u8 a0_9) := (blk_cell BK111.out 9).trans rfl
            have hcz11_10 : w3.cell? ⟨gb111, 10, none⟩ = some (.int .u8 a0_10) := (blk_cell BK111.out 10).trans rfl
            have hcz11_11 : w3.cell? ⟨gb111, 11, none⟩ = some (.int .u8 a0_11) := (blk_cell BK111.out 11).trans rfl
            have hcz11_12 : w3.cell? ⟨gb111, 12, none⟩ = some (.int .u8 a0_12) := (blk_cell BK111.out 12).trans rfl
            have hcz11_13 : w3.cell? ⟨gb111, 13, none⟩ = some (.int .u8 a0_13) := (blk_cell BK111.out 13).trans rfl
            have hcz11_14 : w3.cell? ⟨gb111, 14, none⟩ = some (.int .u8 a0_14) := (blk_cell BK111.out 14).trans rfl
            have hcz11_15 : w3.cell? ⟨gb111, 15, none⟩ = some (.int .u8 a0_15) := (blk_cell BK111.out 15).trans rfl
            have hcz11_16 : w3.cell? ⟨gb111, 16, none⟩ = some (.int .u8 a0_16) := (blk_cell BK111.out 16).trans rfl
            have hcz11_17 : w3.cell? ⟨gb111, 17, none⟩ = some (.int .u8 a0_17) := (blk_cell BK111.out 17).trans rfl
            have hcz11_18 : w3.cell? ⟨gb111, 18, none⟩ = some (.int .u8 a0_18) := (blk_cell BK111.out 18).trans rfl
            have hcz11_19 : w3.cell? ⟨gb111, 19, none⟩ = some (.int .u8 a0_19) := (blk_cell BK111.out 19).trans rfl
            have hcz11_20 : w3.cell? ⟨gb111, 20, none⟩ = some (.int .u8 a0_20) := (blk_cell BK111.out 20).trans rfl
            have hcz11_21 : w3.cell? ⟨gb111, 21, none⟩ = some (.int .u8 a0_21) := (blk_cell BK111.out 21).trans rfl
            have hcz11_22 : w3.cell? ⟨gb111, 22, none⟩ = some (.int .u8 a0_22) := (blk_cell BK111.out 22).trans rfl
            have hcz11_23 : w3.cell? ⟨gb111, 23, none⟩ = some (.int .u8 a0_23) := (blk_cell BK111.out 23).trans rfl
            have hcz11_24 : w3.cell? ⟨gb111, 24, none⟩ = some (.int .u8 a0_24) := (blk_cell BK111.out 24).trans rfl
            have hfz11_0 := blk_frozen BK111.out 0
            have hfz11_1 := blk_frozen BK111.out 1
            have hfz11_2 := blk_frozen BK111.out 2
            have hfz11_3 := blk_frozen BK111.out 3
            have hfz11_4 := blk_frozen BK111.out 4
            have hfz11_5 := blk_frozen BK111.out 5
            have hfz11_6 := blk_frozen BK111.out 6
            have hfz11_7 := blk_frozen BK111.out 7
            have hfz11_8 := blk_frozen BK111.out 8
            have hfz11_9 := blk_frozen BK111.out 9
            have hfz11_10 := blk_frozen BK111.out 10
            have hfz11_11 := blk_frozen BK111.out 11
            have hfz11_12 := blk_frozen BK111.out 12
            have hfz11_13 := blk_frozen BK111.out 13
            have hfz11_14 := blk_frozen BK111.out 14
            have hfz11_15 := blk_frozen BK111.out 15
            have hfz11_16 := blk_frozen BK111.out 16
            have hfz11_17 := blk_frozen BK111.out 17
            have hfz11_18 := blk_frozen BK111.out 18
            have hfz11_19 := blk_frozen BK111.out 19
            have hfz11_20 := blk_frozen BK111.out 20
            have hfz11_21 := blk_frozen BK111.out 21
            have hfz11_22 := blk_frozen BK111.out 22
            have hfz11_23 := blk_frozen BK111.out 23
            have hfz11_24 := blk_frozen BK111.out 24
            go_wp2
            go_meet
            case rel => exact ⟨_, (true), (by first | rfl | (simp; done) | (simp [*]; done)), H', ⟨by first | omega | exact Nat.le_refl _⟩, ⟨by (with_reducible repeat (first | refine blk_drewN ?_ _ | refine blk_drew ?_ | refine blk_alloc ?_ _)); exact BK111.out⟩, ⟨by repeat (first | (with_reducible first | exact HB.out | apply below_alloc | apply pw_below_drewN | apply below_drew1 | refine below_set ?_ GE111.out) | exact HB.out)⟩⟩
          · rw [if_neg c10] at H
            have c10b0 : decide (4096 < a0_3) = false := decide_eq_false c10
            clear c10
            by_cases c12 : a0_2 < 0
            · rw [if_pos c12] at H
              have c12b0 : decide (a0_2 < 0) = true := decide_eq_true c12
              clear c12
              have H' := Aside0.mk H
              clear H
              have hcz13_0 : w3.cell? ⟨gb111, 0, none⟩ = some (.int .u8 a0_0) := (blk_cell BK111.out 0).trans rfl
              have hcz13_1 : w3.cell? ⟨gb111, 1, none⟩ = some (.int .i64 a0_1) := (blk_cell BK111.out 1).trans rfl
              have hcz13_2 : w3.cell? ⟨gb111, 2, none⟩ = some (.int .i64 a0_2) := (blk_cell BK111.out 2).trans rfl
              have hcz13_3 : w3.cell? ⟨gb111, 3, none⟩ = some (.int .i64 a0_3) := (blk_cell BK111.out 3).trans rfl
              have hcz13_4 : w3.cell? ⟨gb111, 4, none⟩ = some (.int .i64 a0_4) := (blk_cell BK111.out 4).trans rfl
              have hcz13_5 : w3.cell? ⟨gb111, 5, none⟩ = some (.int .u8 a0_5) := (blk_cell BK111.out 5).trans rfl
              have hcz13_6 : w3.cell? ⟨gb111, 6, none⟩ = some (.int .u8 a0_6) := (blk_cell BK111.out 6).trans rfl
              have hcz13_7 : w3.cell? ⟨gb111, 7, none⟩ = some (.int .u8 a0_7) := (blk_cell BK111.out 7).trans rfl
              have hcz13_8 : w3.cell? ⟨gb111, 8, none⟩ = some (.int .u8 a0_8) := (blk_cell BK111.out 8).trans rfl
              have hcz13_9 : w3.cell? ⟨gb111, 9, none⟩ = some (.int .u8 a0_9) := (blk_cell BK111.out 9).trans rfl
              have hcz13_10 : w3.cell? ⟨gb111, 10, none⟩ = some (.int .u8 a0_10) := (blk_cell BK111.out 10).trans rfl
              have hcz13_11 : w3.cell? ⟨gb111, 11, none⟩ = some (.int .u8 a0_11) := (blk_cell BK111.out 11).trans rfl
              have hcz13_12 : w3.cell? ⟨gb111, 12, none⟩ = some (.int .u8 a0_12) := (blk_cell BK111.out 12).trans rfl
              have hcz13_13 : w3.cell? ⟨gb111, 13, none⟩ = some (.int .u8 a0_13) := (blk_cell BK111.out 13).trans rfl
              have hcz13_14 : w3.cell? ⟨gb111, 14, none⟩ = some (.int .u8 a0_14) := (blk_cell BK111.out 14).trans rfl
              have hcz13_15 : w3.cell? ⟨gb111, 15, none⟩ = some (.int .u8 a0_15) := (blk_cell BK111.out 15).trans rfl
              have hcz13_16 : w3.cell? ⟨gb111, 16, none⟩ = some (.int .u8 a0_16) := (blk_cell BK111.out 16).trans rfl
              have hcz13_17 : w3.cell? ⟨gb111, 17, none⟩ = some (.int .u8 a0_17) := (blk_cell BK111.out 17).trans rfl
              have hcz13_18 : w3.cell? ⟨gb111, 18, none⟩ = some (.int .u8 a0_18) := (blk_cell BK111.out 18).trans rfl
              have hcz13_19 : w3.cell? ⟨gb111, 19, none⟩ = some (.int .u8 a0_19) := (blk_cell BK111.out 19).trans rfl
              have hcz13_20 : w3.cell? ⟨gb111, 20, none⟩ = some (.int .u8 a0_20) := (blk_cell BK111.out 20).trans rfl
              have hcz13_21 : w3.cell? ⟨gb111, 21, none⟩ = some (.int .u8 a0_21) := (blk_cell BK111.out 21).trans rfl
              have hcz13_22 : w3.cell? ⟨gb111, 22, none⟩ = some (.int .u8 a0_22) := (blk_cell BK111.out 22).trans rfl
              have hcz13_23 : w3.cell? ⟨gb111, 23, none⟩ = some (.int .u8 a0_23) := (blk_cell BK111.out 23).trans rfl
              have hcz13_24 : w3.cell? ⟨gb111, 24, none⟩ = some (.int .u8 a0_24) := (blk_cell BK111.out 24).trans rfl
              have hfz13_0 := blk_frozen BK111.out 0
              have hfz13_1 := blk_frozen BK111.out 1
              have hfz13_2 := blk_frozen BK111.out 2
              have hfz13_3 := blk_frozen BK111.out 3
              have hfz13_4 := blk_frozen BK111.out 4
              have hfz13_5 := blk_frozen BK111.out 5
              have hfz13_6 := blk_frozen BK111.out 6
              have hfz13_7 := blk_frozen BK111.out 7
              have hfz13_8 := blk_frozen BK111.out 8
              have hfz13_9 := blk_frozen BK111.out 9
              have hfz13_10 := blk_frozen BK111.out 10
              have hfz13_11 := blk_frozen BK111.out 11
              have hfz13_12 := blk_frozen BK111.out 12
              have hfz13_13 := blk_frozen BK111.out 13
              have hfz13_14 := blk_frozen BK111.out 14
              have hfz13_15 := blk_frozen BK111.out 15
              have hfz13_16 := blk_frozen BK111.out 16
              have hfz13_17 := blk_frozen BK111.out 17
              have hfz13_18 := blk_frozen BK111.out 18
              have hfz13_19 := blk_frozen BK111.out 19
              have hfz13_20 := blk_frozen BK111.out 20
              have hfz13_21 := blk_frozen BK111.out 21
              have hfz13_22 := blk_frozen BK111.out 22
              have hfz13_23 := blk_frozen BK111.out 23
              have hfz13_24 := blk_frozen BK111.out 24
              go_wp2
              go_meet
              case rel => exact ⟨_, (true), (by first | rfl | (simp; done) | (simp [*]; done)), H', ⟨by first | omega | exact Nat.le_refl _⟩, ⟨by (with_reducible repeat (first | refine blk_drewN ?_ _ | refine blk_drew ?_ | refine blk_alloc ?_ _)); exact BK111.out⟩, ⟨by repeat (first | (with_reducible first | exact HB.out | apply below_alloc | apply pw_below_drewN | apply below_drew1 | refine below_set ?_ GE111.out) | exact HB.out)⟩⟩
            · rw [if_neg c12] at H
              have c12b0 : decide (a0_2 < 0) = false := decide_eq_false c12
              clear c12
              have H' := Aside0.mk H
              clear H
              have hcz14_0 : w3.cell? ⟨gb111, 0, none⟩ = some (.int .u8 a0_0) := (blk_cell BK111.out 0).trans rfl
              have hcz14_1 : w3.cell? ⟨gb111, 1, none⟩ = some (.int .i64 a0_1) := (blk_cell BK111.out 1).trans rfl
              have hcz14_2 : w3.cell? ⟨gb111, 2, none⟩ = some (.int .i64 a0_2) := (blk_cell BK111.out 2).trans rfl
              have hcz14_3 : w3.cell? ⟨gb111, 3, none⟩ = some (.int .i64 a0_3) := (blk_cell BK111.out 3).trans rfl
              have hcz14_4 : w3.cell? ⟨gb111, 4, none⟩ = some (.int .i64 a0_4) := (blk_cell BK111.out 4).trans rfl
              have hcz14_5 : w3.cell? ⟨gb111, 5, none⟩ = some (.int .u8 a0_5) := (blk_cell BK111.out 5).trans rfl
              have hcz14_6 : w3.cell? ⟨gb111, 6, none⟩ = some (.int .u8 a0_6) := (blk_cell BK111.out 6).trans rfl
              have hcz14_7 : w3.cell? ⟨gb111, 7, none⟩ = some (.int .u8 a0_7) := (blk_cell BK111.out 7).trans rfl
              have hcz14_8 : w3.cell? ⟨gb111, 8, none⟩ = some (.int .u8 a0_8) := (blk_cell BK111.out 8).trans rfl
              have hcz14_9 : w3.cell? ⟨gb111, 9, none⟩ = some (.int .u8 a0_9) := (blk_cell BK111.out 9).trans rfl
              have hcz14_10 : w3.cell? ⟨gb111, 10, none⟩ = some (.int .u8 a0_10) := (blk_cell BK111.out 10).trans rfl
              have hcz14_11 : w3.cell? ⟨gb111, 11, none⟩ = some (.int .u8 a0_11) := (blk_cell BK111.out 11).trans rfl
              have hcz14_12 : w3.cell? ⟨gb111, 12, none⟩ = some (.int .u8 a0_12) := (blk_cell BK111.out 12).trans rfl
              have hcz14_13 : w3.cell? ⟨gb111, 13, none⟩ = some (.int .u8 a0_13) := (blk_cell BK111.out 13).trans rfl
              have hcz14_14 : w3.cell? ⟨gb111, 14, none⟩ = some (.int .u8 a0_14) := (blk_cell BK111.out 14).trans rfl
              have hcz14_15 : w3.cell? ⟨gb111, 15, none⟩ = some (.int .u8 a0_15) := (blk_cell BK111.out 15).trans rfl
              have hcz14_16 : w3.cell? ⟨gb111, 16, none⟩ = some (.int .u8 a0_16) := (blk_cell BK111.out 16).trans rfl
              have hcz14_17 : w3.cell? ⟨gb111, 17, none⟩ = some (.int .u8 a0_17) := (blk_cell BK111.out 17).trans rfl
              have hcz14_18 : w3.cell? ⟨gb111, 18, none⟩ = some (.int .u8 a0_18) := (blk_cell BK111.out 18).trans rfl
              have hcz14_19 : w3.cell? ⟨gb111, 19, none⟩ = some (.int .u8 a0_19) := (blk_cell BK111.out 19).trans rfl
              have hcz14_20 : w3.cell? ⟨gb111, 20, none⟩ = some (.int .u8 a0_20) := (blk_cell BK111.out 20).trans rfl
              have hcz14_21 : w3.cell? ⟨gb111, 21, none⟩ = some (.int .u8 a0_21) := (blk_cell BK111.out 21).trans rfl
              have hcz14_22 : w3.cell? ⟨gb111, 22, none⟩ = some (.int .u8 a0_22) := (blk_cell BK111.out 22).trans rfl
              have hcz14_23 : w3.cell? ⟨gb111, 23, none⟩ = some (.int .u8 a0_23) := (blk_cell BK111.out 23).trans rfl
              have hcz14_24 : w3.cell? ⟨gb111, 24, none⟩ = some (.int .u8 a0_24) := (blk_cell BK111.out 24).trans rfl
              have hfz14_0 := blk_frozen BK111.out 0
              have hfz14_1 := blk_frozen BK111.out 1
              have hfz14_2 := blk_frozen BK111.out 2
              have hfz14_3 := blk_frozen BK111.out 3
              have hfz14_4 := blk_frozen BK111.out 4
              have hfz14_5 := blk_frozen BK111.out 5
              have hfz14_6 := blk_frozen BK111.out 6
              have hfz14_7 := blk_frozen BK111.out 7
              have hfz14_8 := blk_frozen BK111.out 8
              have hfz14_9 := blk_frozen BK111.out 9
              have hfz14_10 := blk_frozen BK111.out 10
              have hfz14_11 := blk_frozen BK111.out 11
              have hfz14_12 := blk_frozen BK111.out 12
              have hfz14_13 := blk_frozen BK111.out 13
              have hfz14_14 := blk_frozen BK111.out 14
              have hfz14_15 := blk_frozen BK111.out 15
              have hfz14_16 := blk_frozen BK111.out 16
              have hfz14_17 := blk_frozen BK111.out 17
              have hfz14_18 := blk_frozen BK111.out 18
              have hfz14_19 := blk_frozen BK111.out 19
              have hfz14_20 := blk_frozen BK111.out 20
              have hfz14_21 := blk_frozen BK111.out 21
              have hfz14_22 := blk_frozen BK111.out 22
              have hfz14_23 := blk_frozen BK111.out 23
              have hfz14_24 := blk_frozen BK111.out 24
              go_wp2
              go_meet
              case rel => exact ⟨_, (decide (a0_2 > (wrap64 (8192 - a0_3)))), (by first | rfl | (simp; done) | (simp [*]; done)), H', ⟨by first | omega | exact Nat.le_refl _⟩, ⟨by (with_reducible repeat (first | refine blk_drewN ?_ _ | refine blk_drew ?_ | refine blk_alloc ?_ _)); exact BK111.out⟩, ⟨by repeat (first | (with_reducible first | exact HB.out | apply below_alloc | apply pw_below_drewN | apply below_drew1 | refine below_set ?_ GE111.out) | exact HB.out)⟩⟩
  case rest =>
    clear HC2
    try clear c1
    try clear c2
    try clear p2
    try clear c4
    try clear c4b0
    try clear c6
    try clear c6b0
    try clear p6
    try clear c8
    try clear c8b0
    try clear c10
    try clear c10b0
    try clear c12
    try clear c12b0
    try clear hcz11_0
    try clear hcz11_1
    try clear hcz11_10
    try clear hcz11_11
    try clear hcz11_12
    try clear hcz11_13
    try clear hcz11_14
    try clear hcz11_15
    try clear hcz11_16
    try clear hcz11_17
    try clear hcz11_18
    try clear hcz11_19
    try clear hcz11_2
    try clear hcz11_20
    try clear hcz11_21
    try clear hcz11_22
    try clear hcz11_23
    try clear hcz11_24
    try clear hcz11_3
    try clear hcz11_4
    try clear hcz11_5
    try clear hcz11_6
    try clear hcz11_7
    try clear hcz11_8
    try clear hcz11_9
    try clear hcz13_0
    try clear hcz13_1
    try clear hcz13_10
    try clear hcz13_11
    try clear hcz13_12
    try clear hcz13_13
    try clear hcz13_14
    try clear hcz13_15
    try clear hcz13_16
    try clear hcz13_17
    try clear hcz13_18
    try clear hcz13_19
    try clear hcz13_2
    try clear hcz13_20
    try clear hcz13_21
    try clear hcz13_22
    try clear hcz13_23
    try clear hcz13_24
    try clear hcz13_3
    try clear hcz13_4
    try clear hcz13_5
    try clear hcz13_6
    try clear hcz13_7
    try clear hcz13_8
    try clear hcz13_9
    try clear hcz14_0
    try clear hcz14_1
    try clear hcz14_10
    try clear hcz14_11
    try clear hcz14_12
    try clear hcz14_13
    try clear hcz14_14
    try clear hcz14_15
    try clear hcz14_16
    try clear hcz14_17
    try clear hcz14_18
    try clear hcz14_19
    try clear hcz14_2
    try clear hcz14_20
    try clear hcz14_21
    try clear hcz14_22
    try clear hcz14_23
    try clear hcz14_24
    try clear hcz14_3
    try clear hcz14_4
    try clear hcz14_5
    try clear hcz14_6
    try clear hcz14_7
    try clear hcz14_8
    try clear hcz14_9
    try clear hcz5_0
    try clear hcz5_1
    try clear hcz5_10
    try clear hcz5_11
    try clear hcz5_12
    try clear hcz5_13
    try clear hcz5_14
    try clear hcz5_15
    try clear hcz5_16
    try clear hcz5_17
    try clear hcz5_18
    try clear hcz5_19
    try clear hcz5_2
    try clear hcz5_20
    try clear hcz5_21
    try clear hcz5_22
    try clear hcz5_23
    try clear hcz5_24
    try clear hcz5_3
    try clear hcz5_4
    try clear hcz5_5
    try clear hcz5_6
    try clear hcz5_7
    try clear hcz5_8
    try clear hcz5_9
    try clear hcz7_0
    try clear hcz7_1
    try clear hcz7_10
    try clear hcz7_11
    try clear hcz7_12
    try clear hcz7_13
    try clear hcz7_14
    try clear hcz7_15
    try clear hcz7_16
    try clear hcz7_17
    try clear hcz7_18
    try clear hcz7_19
    try clear hcz7_2
    try clear hcz7_20
    try clear hcz7_21
    try clear hcz7_22
    try clear hcz7_23
    try clear hcz7_24
    try clear hcz7_3
    try clear hcz7_4
    try clear hcz7_5
    try clear hcz7_6
    try clear hcz7_7
    try clear hcz7_8
    try clear hcz7_9
    try clear hcz9_0
    try clear hcz9_1
    try clear hcz9_10
    try clear hcz9_11
    try clear hcz9_12
    try clear hcz9_13
    try clear hcz9_14
    try clear hcz9_15
    try clear hcz9_16
    try clear hcz9_17
    try clear hcz9_18
    try clear hcz9_19
    try clear hcz9_2
    try clear hcz9_20
    try clear hcz9_21
    try clear hcz9_22
    try clear hcz9_23
    try clear hcz9_24
    try clear hcz9_3
    try clear hcz9_4
    try clear hcz9_5
    try clear hcz9_6
    try clear hcz9_7
    try clear hcz9_8
    try clear hcz9_9
    try clear hfz11_0
    try clear hfz11_1
    try clear hfz11_10
    try clear hfz11_11
    try clear hfz11_12
    try clear hfz11_13
    try clear hfz11_14
    try clear hfz11_15
    try clear hfz11_16
    try clear hfz11_17
    try clear hfz11_18
    try clear hfz11_19
    try clear hfz11_2
    try clear hfz11_20
    try clear hfz11_21
    try clear hfz11_22
    try clear hfz11_23
    try clear hfz11_24
    try clear hfz11_3
    try clear hfz11_4
    try clear hfz11_5
    try clear hfz11_6
    try clear hfz11_7
    try clear hfz11_8
    try clear hfz11_9
    try clear hfz13_0
    try clear hfz13_1
    try clear hfz13_10
    try clear hfz13_11
    try clear hfz13_12
    try clear hfz13_13
    try clear hfz13_14
    try clear hfz13_15
    try clear hfz13_16
    try clear hfz13_17
    try clear hfz13_18
    try clear hfz13_19
    try clear hfz13_2
    try clear hfz13_20
    try clear hfz13_21
    try clear hfz13_22
    try clear hfz13_23
    try clear hfz13_24
    try clear hfz13_3
    try clear hfz13_4
    try clear hfz13_5
    try clear hfz13_6
    try clear hfz13_7
    try clear hfz13_8
    try clear hfz13_9
    try clear hfz14_0
    try clear hfz14_1
    try clear hfz14_10
    try clear hfz14_11
    try clear hfz14_12
    try clear hfz14_13
    try clear hfz14_14
    try clear hfz14_15
    try clear hfz14_16
    try clear hfz14_17
    try clear hfz14_18
    try clear hfz14_19
    try clear hfz14_2
    try clear hfz14_20
    try clear hfz14_21
    try clear hfz14_22
    try clear hfz14_23
    try clear hfz14_24
    try clear hfz14_3
    try clear hfz14_4
    try clear hfz14_5
    try clear hfz14_6
    try clear hfz14_7
    try clear hfz14_8
    try clear hfz14_9
    try clear hfz5_0
    try clear hfz5_1
    try clear hfz5_10
    try clear hfz5_11
    try clear hfz5_12
    try clear hfz5_13
    try clear hfz5_14
    try clear hfz5_15
    try clear hfz5_16
    try clear hfz5_17
    try clear hfz5_18
    try clear hfz5_19
    try clear hfz5_2
    try clear hfz5_20
    try clear hfz5_21
    try clear hfz5_22
    try clear hfz5_23
    try clear hfz5_24
    try clear hfz5_3
    try clear hfz5_4
    try clear hfz5_5
    try clear hfz5_6
    try clear hfz5_7
    try clear hfz5_8
    try clear hfz5_9
    try clear hfz7_0
    try clear hfz7_1
    try clear hfz7_10
    try clear hfz7_11
    try clear hfz7_12
    try clear hfz7_13
    try clear hfz7_14
    try clear hfz7_15
    try clear hfz7_16
    try clear hfz7_17
    try clear hfz7_18
    try clear hfz7_19
    try clear hfz7_2
    try clear hfz7_20
    try clear hfz7_21
    try clear hfz7_22
    try clear hfz7_23
    try clear hfz7_24
    try clear hfz7_3
    try clear hfz7_4
    try clear hfz7_5
    try clear hfz7_6
    try clear hfz7_7
    try clear hfz7_8
    try clear hfz7_9
    try clear hfz9_0
    try clear hfz9_1
    try clear hfz9_10
    try clear hfz9_11
    try clear hfz9_12
    try clear hfz9_13
    try clear hfz9_14
    try clear hfz9_15
    try clear hfz9_16
    try clear hfz9_17
    try clear hfz9_18
    try clear hfz9_19
    try clear hfz9_2
    try clear hfz9_20
    try clear hfz9_21
    try clear hfz9_22
    try clear hfz9_23
    try clear hfz9_24
    try clear hfz9_3
    try clear hfz9_4
    try clear hfz9_5
    try clear hfz9_6
    try clear hfz9_7
    try clear hfz9_8
    try clear hfz9_9
    obtain ⟨kq, x35_1, rfl, HA, HJ1, BK111, HB⟩ := hcut
    cases kq with
    | zero => exact absurd HA.out (by simp [bitloftref26_Check.j0])
    | succ kj1 =>
      have H := HA.out
      clear HA
      simp only [bitloftref26_Check.j0] at H
      by_cases c15 : x35_1 = true
      · subst c15
        have H1 : (some 8) = some r := by rw [if_pos rfl] at H; exact H
        clear H
        have H := H1
        clear H1
        obtain rfl := Option.some.inj H
        go_wp2
        go_ret
        exact ⟨by first | rfl | (simp [errW_none, errW_some] <;> rfl) | (simp [*, errW_none, errW_some] <;> rfl), by repeat (first | (with_reducible first | exact HB.out | apply below_alloc | apply pw_below_drewN | apply below_drew1 | refine below_set ?_ GE111.out) | exact HB.out)⟩
      · replace c15 := Bool.eq_false_iff.mpr c15
        subst c15
        have H1 : (if a0_0 = 1 then (if a0_0 = 2 then (if a0_4 ≥ 1 then (if a0_4 = a0_3 then (some 0) else (if a0_4 < a0_3 then (some 0) else (some 8))) else (if a0_4 = a0_3 then (some 0) else (some 8))) else (if a0_4 = a0_3 then (some 0) else (some 8))) else (if a0_0 = 2 then (if a0_4 ≥ 1 then (if a0_4 < a0_3 then (some 0) else (some 8)) else (some 8)) else (some 8))) = some r := by rw [if_neg (show ¬ (false = true) by decide)] at H; exact H
        clear H
        have H := H1
        clear H1
        by_cases c16 : a0_0 = 1
        · rw [if_pos c16] at H
          have c16b0 : (a0_0 == 1) = true := beq_iff_eq.mpr c16
          have c16b1 : (a0_0 != 1) = false := bne_eq_false_iff_eq.mpr c16
          clear c16
          by_cases c17 : a0_0 = 2
          · rw [if_pos c17] at H
            have c17b0 : (a0_0 == 2) = true := beq_iff_eq.mpr c17
            have c17b1 : (a0_0 != 2) = false := bne_eq_false_iff_eq.mpr c17
            clear c17
            by_cases c18 : a0_4 ≥ 1
            · rw [if_pos c18] at H
              have c18b0 : decide (1 ≤ a0_4) = true := decide_eq_true c18
              clear c18
              by_cases c19 : a0_4 = a0_3
              · rw [if_pos c19] at H
                have c19b0 : (a0_4 == a0_3) = true := beq_iff_eq.mpr c19
                have c19b1 : (a0_4 != a0_3) = false := bne_eq_false_iff_eq.mpr c19
                clear c19
                obtain rfl := Option.some.inj H
                have hcz20_0 : wc.cell? ⟨gb111, 0, none⟩ = some (.int .u8 a0_0) := (blk_cell BK111.out 0).trans rfl
                have hcz20_1 : wc.cell? ⟨gb111, 1, none⟩ = some (.int .i64 a0_1) := (blk_cell BK111.out 1).trans rfl
                have hcz20_2 : wc.cell? ⟨gb111, 2, none⟩ = some (.int .i64 a0_2) := (blk_cell BK111.out 2).trans rfl
                have hcz20_3 : wc.cell? ⟨gb111, 3, none⟩ = some (.int .i64 a0_3) := (blk_cell BK111.out 3).trans rfl
                have hcz20_4 : wc.cell? ⟨gb111, 4, none⟩ = some (.int .i64 a0_4) := (blk_cell BK111.out 4).trans rfl
                have hcz20_5 : wc.cell? ⟨gb111, 5, none⟩ = some (.int .u8 a0_5) := (blk_cell BK111.out 5).trans rfl
                have hcz20_6 : wc.cell? ⟨gb111, 6, none⟩ = some (.int .u8 a0_6) := (blk_cell BK111.out 6).trans rfl
                have hcz20_7 : wc.cell? ⟨gb111, 7, none⟩ = some (.int .u8 a0_7) := (blk_cell BK111.out 7).trans rfl
                have hcz20_8 : wc.cell? ⟨gb111, 8, none⟩ = some (.int .u8 a0_8) := (blk_cell BK111.out 8).trans rfl
                have hcz20_9 : wc.cell? ⟨gb111, 9, none⟩ = some (.int .u8 a0_9) := (blk_cell BK111.out 9).trans rfl
                have hcz20_10 : wc.cell? ⟨gb111, 10, none⟩ = some (.int .u8 a0_10) := (blk_cell BK111.out 10).trans rfl
                have hcz20_11 : wc.cell? ⟨gb111, 11, none⟩ = some (.int .u8 a0_11) := (blk_cell BK111.out 11).trans rfl
                have hcz20_12 : wc.cell? ⟨gb111, 12, none⟩ = some (.int .u8 a0_12) := (blk_cell BK111.out 12).trans rfl
                have hcz20_13 : wc.cell? ⟨gb111, 13, none⟩ = some (.int .u8 a0_13) := (blk_cell BK111.out 13).trans rfl
                have hcz20_14 : wc.cell? ⟨gb111, 14, none⟩ = some (.int .u8 a0_14) := (blk_cell BK111.out 14).trans rfl
                have hcz20_15 : wc.cell? ⟨gb111, 15, none⟩ = some (.int .u8 a0_15) := (blk_cell BK111.out 15).trans rfl
                have hcz20_16 : wc.cell? ⟨gb111, 16, none⟩ = some (.int .u8 a0_16) := (blk_cell BK111.out 16).trans rfl
                have hcz20_17 : wc.cell? ⟨gb111, 17, none⟩ = some (.int .u8 a0_17) := (blk_cell BK111.out 17).trans rfl
                have hcz20_18 : wc.cell? ⟨gb111, 18, none⟩ = some (.int .u8 a0_18) := (blk_cell BK111.out 18).trans rfl
                have hcz20_19 : wc.cell? ⟨gb111, 19, none⟩ = some (.int .u8 a0_19) := (blk_cell BK111.out 19).trans rfl
                have hcz20_20 : wc.cell? ⟨gb111, 20, none⟩ = some (.int .u8 a0_20) := (blk_cell BK111.out 20).trans rfl
                have hcz20_21 : wc.cell? ⟨gb111, 21, none⟩ = some (.int .u8 a0_21) := (blk_cell BK111.out 21).trans rfl
                have hcz20_22 : wc.cell? ⟨gb111, 22, none⟩ = some (.int .u8 a0_22) := (blk_cell BK111.out 22).trans rfl
                have hcz20_23 : wc.cell? ⟨gb111, 23, none⟩ = some (.int .u8 a0_23) := (blk_cell BK111.out 23).trans rfl
                have hcz20_24 : wc.cell? ⟨gb111, 24, none⟩ = some (.int .u8 a0_24) := (blk_cell BK111.out 24).trans rfl
                have hfz20_0 := blk_frozen BK111.out 0
                have hfz20_1 := blk_frozen BK111.out 1
                have hfz20_2 := blk_frozen BK111.out 2
                have hfz20_3 := blk_frozen BK111.out 3
                have hfz20_4 := blk_frozen BK111.out 4
                have hfz20_5 := blk_frozen BK111.out 5
                have hfz20_6 := blk_frozen BK111.out 6
                have hfz20_7 := blk_frozen BK111.out 7
                have hfz20_8 := blk_frozen BK111.out 8
                have hfz20_9 := blk_frozen BK111.out 9
                have hfz20_10 := blk_frozen BK111.out 10
                have hfz20_11 := blk_frozen BK111.out 11
                have hfz20_12 := blk_frozen BK111.out 12
                have hfz20_13 := blk_frozen BK111.out 13
                have hfz20_14 := blk_frozen BK111.out 14
                have hfz20_15 := blk_frozen BK111.out 15
                have hfz20_16 := blk_frozen BK111.out 16
                have hfz20_17 := blk_frozen BK111.out 17
                have hfz20_18 := blk_frozen BK111.out 18
                have hfz20_19 := blk_frozen BK111.out 19
                have hfz20_20 := blk_frozen BK111.out 20
                have hfz20_21 := blk_frozen BK111.out 21
                have hfz20_22 := blk_frozen BK111.out 22
                have hfz20_23 := blk_frozen BK111.out 23
                have hfz20_24 := blk_frozen BK111.out 24
                go_wp2
                go_ret
                exact ⟨by first | rfl | (simp [errW_none, errW_some] <;> rfl) | (simp [*, errW_none, errW_some] <;> rfl), by repeat (first | (with_reducible first | exact HB.out | apply below_alloc | apply pw_below_drewN | apply below_drew1 | refine below_set ?_ GE111.out) | exact HB.out)⟩
              · rw [if_neg c19] at H
                have c19b0 : (a0_4 == a0_3) = false := beq_eq_false_iff_ne.mpr c19
                have c19b1 : (a0_4 != a0_3) = true := bne_iff_ne.mpr c19
                by_cases c21 : a0_4 < a0_3
                · rw [if_pos c21] at H
                  have c21b0 : decide (a0_4 < a0_3) = true := decide_eq_true c21
                  clear c21
                  obtain rfl := Option.some.inj H
                  have hcz22_0 : wc.cell? ⟨gb111, 0, none⟩ = some (.int .u8 a0_0) := (blk_cell BK111.out 0).trans rfl
                  have hcz22_1 : wc.cell? ⟨gb111, 1, none⟩ = some (.int .i64 a0_1) := (blk_cell BK111.out 1).trans rfl
                  have hcz22_2 : wc.cell? ⟨gb111, 2, none⟩ = some (.int .i64 a0_2) := (blk_cell BK111.out 2).trans rfl
                  have hcz22_3 : wc.cell? ⟨gb111, 3, none⟩ = some (.int .i64 a0_3) := (blk_cell BK111.out 3).trans rfl
                  have hcz22_4 : wc.cell? ⟨gb111, 4, none⟩ = some (.int .i64 a0_4) := (blk_cell BK111.out 4).trans rfl
                  have hcz22_5 : wc.cell? ⟨gb111, 5, none⟩ = some (.int .u8 a0_5) := (blk_cell BK111.out 5).trans rfl
                  have hcz22_6 : wc.cell? ⟨gb111, 6, none⟩ = some (.int .u8 a0_6) := (blk_cell BK111.out 6).trans rfl
                  have hcz22_7 : wc.cell? ⟨gb111, 7, none⟩ = some (.int .u8 a0_7) := (blk_cell BK111.out 7).trans rfl
                  have hcz22_8 : wc.cell? ⟨gb111, 8, none⟩ = some (.int .u8 a0_8) := (blk_cell BK111.out 8).trans rfl
                  have hcz22_9 : wc.cell? ⟨gb111, 9, none⟩ = some (.int .u8 a0_9) := (blk_cell BK111.out 9).trans rfl
                  have hcz22_10 : wc.cell? ⟨gb111, 10, none⟩ = some (.int .u8 a0_10) := (blk_cell BK111.out 10).trans rfl
                  have hcz22_11 : wc.cell? ⟨gb111, 11, none⟩ = some (.int .u8 a0_11) := (blk_cell BK111.out 11).trans rfl
                  have hcz22_12 : wc.cell? ⟨gb111, 12, none⟩ = some (.int .u8 a0_12) := (blk_cell BK111.out 12).trans rfl
                  have hcz22_13 : wc.cell? ⟨gb111, 13, none⟩ = some (.int .u8 a0_13) := (blk_cell BK111.out 13).trans rfl
                  have hcz22_14 : wc.cell? ⟨gb111, 14, none⟩ = some (.int .u8 a0_14) := (blk_cell BK111.out 14).trans rfl
                  have hcz22_15 : wc.cell? ⟨gb111, 15, none⟩ = some (.int .u8 a0_15) := (blk_cell BK111.out 15).trans rfl
                  have hcz22_16 : wc.cell? ⟨gb111, 16, none⟩ = some (.int .u8 a0_16) := (blk_cell BK111.out 16).trans rfl
                  have hcz22_17 : wc.cell? ⟨gb111, 17, none⟩ = some (.int .u8 a0_17) := (blk_cell BK111.out 17).trans rfl
                  have hcz22_18 : wc.cell? ⟨gb111, 18, none⟩ = some (.int .u8 a0_18) := (blk_cell BK111.out 18).trans rfl
                  have hcz22_19 : wc.cell? ⟨gb111, 19, none⟩ = some (.int .u8 a0_19) := (blk_cell BK111.out 19).trans rfl
                  have hcz22_20 : wc.cell? ⟨gb111, 20, none⟩ = some (.int .u8 a0_20) := (blk_cell BK111.out 20).trans rfl
                  have hcz22_21 : wc.cell? ⟨gb111, 21, none⟩ = some (.int .u8 a0_21) := (blk_cell BK111.out 21).trans rfl
                  have hcz22_22 : wc.cell? ⟨gb111, 22, none⟩ = some (.int .u8 a0_22) := (blk_cell BK111.out 22).trans rfl
                  have hcz22_23 : wc.cell? ⟨gb111, 23, none⟩ = some (.int .u8 a0_23) := (blk_cell BK111.out 23).trans rfl
                  have hcz22_24 : wc.cell? ⟨gb111, 24, none⟩ = some (.int .u8 a0_24) := (blk_cell BK111.out 24).trans rfl
                  have hfz22_0 := blk_frozen BK111.out 0
                  have hfz22_1 := blk_frozen BK111.out 1
                  have hfz22_2 := blk_frozen BK111.out 2
                  have hfz22_3 := blk_frozen BK111.out 3
                  have hfz22_4 := blk_frozen BK111.out 4
                  have hfz22_5 := blk_frozen BK111.out 5
                  have hfz22_6 := blk_frozen BK111.out 6
                  have hfz22_7 := blk_frozen BK111.out 7
                  have hfz22_8 := blk_frozen BK111.out 8
                  have hfz22_9 := blk_frozen BK111.out 9
                  have hfz22_10 := blk_frozen BK111.out 10
                  have hfz22_11 := blk_frozen BK111.out 11
                  have hfz22_12 := blk_frozen BK111.out 12
                  have hfz22_13 := blk_frozen BK111.out 13
                  have hfz22_14 := blk_frozen BK111.out 14
                  have hfz22_15 := blk_frozen BK111.out 15
                  have hfz22_16 := blk_frozen BK111.out 16
                  have hfz22_17 := blk_frozen BK111.out 17
                  have hfz22_18 := blk_frozen BK111.out 18
                  have hfz22_19 := blk_frozen BK111.out 19
                  have hfz22_20 := blk_frozen BK111.out 20
                  have hfz22_21 := blk_frozen BK111.out 21
                  have hfz22_22 := blk_frozen BK111.out 22
                  have hfz22_23 := blk_frozen BK111.out 23
                  have hfz22_24 := blk_frozen BK111.out 24
                  go_wp2
                  go_ret
                  exact ⟨by first | rfl | (simp [errW_none, errW_some] <;> rfl) | (simp [*, errW_none, errW_some] <;> rfl), by repeat (first | (with_reducible first | exact HB.out | apply below_alloc | apply pw_below_drewN | apply below_drew1 | refine below_set ?_ GE111.out) | exact HB.out)⟩
                · rw [if_neg c21] at H
                  have c21b0 : decide (a0_4 < a0_3) = false := decide_eq_false c21
                  clear c21
                  obtain rfl := Option.some.inj H
                  have hcz23_0 : wc.cell? ⟨gb111, 0, none⟩ = some (.int .u8 a0_0) := (blk_cell BK111.out 0).trans rfl
                  have hcz23_1 : wc.cell? ⟨gb111, 1, none⟩ = some (.int .i64 a0_1) := (blk_cell BK111.out 1).trans rfl
                  have hcz23_2 : wc.cell? ⟨gb111, 2, none⟩ = some (.int .i64 a0_2) := (blk_cell BK111.out 2).trans rfl
                  have hcz23_3 : wc.cell? ⟨gb111, 3, none⟩ = some (.int .i64 a0_3) := (blk_cell BK111.out 3).trans rfl
                  have hcz23_4 : wc.cell? ⟨gb111, 4, none⟩ = some (.int .i64 a0_4) := (blk_cell BK111.out 4).trans rfl
                  have hcz23_5 : wc.cell? ⟨gb111, 5, none⟩ = some (.int .u8 a0_5) := (blk_cell BK111.out 5).trans rfl
                  have hcz23_6 : wc.cell? ⟨gb111, 6, none⟩ = some (.int .u8 a0_6) := (blk_cell BK111.out 6).trans rfl
                  have hcz23_7 : wc.cell? ⟨gb111, 7, none⟩ = some (.int .u8 a0_7) := (blk_cell BK111.out 7).trans rfl
                  have hcz23_8 : wc.cell? ⟨gb111, 8, none⟩ = some (.int .u8 a0_8) := (blk_cell BK111.out 8).trans rfl
                  have hcz23_9 : wc.cell? ⟨gb111, 9, none⟩ = some (.int .u8 a0_9) := (blk_cell BK111.out 9).trans rfl
                  have hcz23_10 : wc.cell? ⟨gb111, 10, none⟩ = some (.int .u8 a0_10) := (blk_cell BK111.out 10).trans rfl
                  have hcz23_11 : wc.cell? ⟨gb111, 11, none⟩ = some (.int .u8 a0_11) := (blk_cell BK111.out 11).trans rfl
                  have hcz23_12 : wc.cell? ⟨gb111, 12, none⟩ = some (.int .u8 a0_12) := (blk_cell BK111.out 12).trans rfl
                  have hcz23_13 : wc.cell? ⟨gb111, 13, none⟩ = some (.int .u8 a0_13) := (blk_cell BK111.out 13).trans rfl
                  have hcz23_14 : wc.cell? ⟨gb111, 14, none⟩ = some (.int .u8 a0_14) := (blk_cell BK111.out 14).trans rfl
                  have hcz23_15 : wc.cell? ⟨gb111, 15, none⟩ = some (.int .u8 a0_15) := (blk_cell BK111.out 15).trans rfl
                  have hcz23_16 : wc.cell? ⟨gb111, 16, none⟩ = some (.int .u8 a0_16) := (blk_cell BK111.out 16).trans rfl
                  have hcz23_17 : wc.cell? ⟨gb111, 17, none⟩ = some (.int .u8 a0_17) := (blk_cell BK111.out 17).trans rfl
                  have hcz23_18 : wc.cell? ⟨gb111, 18, none⟩ = some (.int .u8 a0_18) := (blk_cell BK111.out 18).trans rfl
                  have hcz23_19 : wc.cell? ⟨gb111, 19, none⟩ = some (.int .u8 a0_19) := (blk_cell BK111.out 19).trans rfl
                  have hcz23_20 : wc.cell? ⟨gb111, 20, none⟩ = some (.int .u8 a0_20) := (blk_cell BK111.out 20).trans rfl
                  have hcz23_21 : wc.cell? ⟨gb111, 21, none⟩ = some (.int .u8 a0_21) := (blk_cell BK111.out 21).trans rfl
                  have hcz23_22 : wc.cell? ⟨gb111, 22, none⟩ = some (.int .u8 a0_22) := (blk_cell BK111.out 22).trans rfl
                  have hcz23_23 : wc.cell? ⟨gb111, 23, none⟩ = some (.int .u8 a0_23) := (blk_cell BK111.out 23).trans rfl
                  have hcz23_24 : wc.cell? ⟨gb111, 24, none⟩ = some (.int .u8 a0_24) := (blk_cell BK111.out 24).trans rfl
                  have hfz23_0 := blk_frozen BK111.out 0
                  have hfz23_1 := blk_frozen BK111.out 1
                  have hfz23_2 := blk_frozen BK111.out 2
                  have hfz23_3 := blk_frozen BK111.out 3
                  have hfz23_4 := blk_frozen BK111.out 4
                  have hfz23_5 := blk_frozen BK111.out 5
                  have hfz23_6 := blk_frozen BK111.out 6
                  have hfz23_7 := blk_frozen BK111.out 7
                  have hfz23_8 := blk_frozen BK111.out 8
                  have hfz23_9 := blk_frozen BK111.out 9
                  have hfz23_10 := blk_frozen BK111.out 10
                  have hfz23_11 := blk_frozen BK111.out 11
                  have hfz23_12 := blk_frozen BK111.out 12
                  have hfz23_13 := blk_frozen BK111.out 13
                  have hfz23_14 := blk_frozen BK111.out 14
                  have hfz23_15 := blk_frozen BK111.out 15
                  have hfz23_16 := blk_frozen BK111.out 16
                  have hfz23_17 := blk_frozen BK111.out 17
                  have hfz23_18 := blk_frozen BK111.out 18
                  have hfz23_19 := blk_frozen BK111.out 19
                  have hfz23_20 := blk_frozen BK111.out 20
                  have hfz23_21 := blk_frozen BK111.out 21
                  have hfz23_22 := blk_frozen BK111.out 22
                  have hfz23_23 := blk_frozen BK111.out 23
                  have hfz23_24 := blk_frozen BK111.out 24
                  go_wp2
                  go_ret
                  exact ⟨by first | rfl | (simp [errW_none, errW_some] <;> rfl) | (simp [*, errW_none, errW_some] <;> rfl), by repeat (first | (with_reducible first | exact HB.out | apply below_alloc | apply pw_below_drewN | apply below_drew1 | refine below_set ?_ GE111.out) | exact HB.out)⟩
            · rw [if_neg c18] at H
              have c18b0 : decide (1 ≤ a0_4) = false := decide_eq_false c18
              clear c18
              by_cases c24 : a0_4 = a0_3
              · rw [if_pos c24] at H
                have c24b0 : (a0_4 == a0_3) = true := beq_iff_eq.mpr c24
                have c24b1 : (a0_4 != a0_3) = false := bne_eq_false_iff_eq.mpr c24
                clear c24
                obtain rfl := Option.some.inj H
                have hcz25_0 : wc.cell? ⟨gb111, 0, none⟩ = some (.int .u8 a0_0) := (blk_cell BK111.out 0).trans rfl
                have hcz25_1 : wc.cell? ⟨gb111, 1, none⟩ = some (.int .i64 a0_1) := (blk_cell BK111.out 1).trans rfl
                have hcz25_2 : wc.cell? ⟨gb111, 2, none⟩ = some (.int .i64 a0_2) := (blk_cell BK111.out 2).trans rfl
                have hcz25_3 : wc.cell? ⟨gb111, 3, none⟩ = some (.int .i64 a0_3) := (blk_cell BK111.out 3).trans rfl
                have hcz25_4 : wc.cell? ⟨gb111, 4, none⟩ = some (.int .i64 a0_4) := (blk_cell BK111.out 4).trans rfl
                have hcz25_5 : wc.cell? ⟨gb111, 5, none⟩ = some (.int .u8 a0_5) := (blk_cell BK111.out 5).trans rfl
                have hcz25_6 : wc.cell? ⟨gb111, 6, none⟩ = some (.int .u8 a0_6) := (blk_cell BK111.out 6).trans rfl
                have hcz25_7 : wc.cell? ⟨gb111, 7, none⟩ = some (.int .u8 a0_7) := (blk_cell BK111.out 7).trans rfl
                have hcz25_8 : wc.cell? ⟨gb111, 8, none⟩ = some (.int .u8 a0_8) := (blk_cell BK111.out 8).trans rfl
                have hcz25_9 : wc.cell? ⟨gb111, 9, none⟩ = some (.int .u8 a0_9) := (blk_cell BK111.out 9).trans rfl
                have hcz25_10 : wc.cell? ⟨gb111, 10, none⟩ = some (.int .u8 a0_10) := (blk_cell BK111.out 10).trans rfl
                have hcz25_11 : wc.cell? ⟨gb111, 11, none⟩ = some (.int .u8 a0_11) := (blk_cell BK111.out 11).trans rfl
                have hcz25_12 : wc.cell? ⟨gb111, 12, none⟩ = some (.int .u8 a0_12) := (blk_cell BK111.out 12).trans rfl
                have hcz25_13 : wc.cell? ⟨gb111, 13, none⟩ = some (.int .u8 a0_13) := (blk_cell BK111.out 13).trans rfl
                have hcz25_14 : wc.cell? ⟨gb111, 14, none⟩ = some (.int .u8 a0_14) := (blk_cell BK111.out 14).trans rfl
                have hcz25_15 : wc.cell? ⟨gb111, 15, none⟩ = some (.int .u8 a0_15) := (blk_cell BK111.out 15).trans rfl
                have hcz25_16 : wc.cell? ⟨gb111, 16, none⟩ = some (.int .u8 a0_16) := (blk_cell BK111.out 16).trans rfl
                have hcz25_17 : wc.cell? ⟨gb111, 17, none⟩ = some (.int .u8 a0_17) := (blk_cell BK111.out 17).trans rfl
                have hcz25_18 : wc.cell? ⟨gb111, 18, none⟩ = some (.int .u8 a0_18) := (blk_cell BK111.out 18).trans rfl
                have hcz25_19 : wc.cell? ⟨gb111, 19, none⟩ = some (.int .u8 a0_19) := (blk_cell BK111.out 19).trans rfl
                have hcz25_20 : wc.cell? ⟨gb111, 20, none⟩ = some (.int .u8 a0_20) := (blk_cell BK111.out 20).trans rfl
                have hcz25_21 : wc.cell? ⟨gb111, 21, none⟩ = some (.int .u8 a0_21) := (blk_cell BK111.out 21).trans rfl
                have hcz25_22 : wc.cell? ⟨gb111, 22, none⟩ = some (.int .u8 a0_22) := (blk_cell BK111.out 22).trans rfl
                have hcz25_23 : wc.cell? ⟨gb111, 23, none⟩ = some (.int .u8 a0_23) := (blk_cell BK111.out 23).trans rfl
                have hcz25_24 : wc.cell? ⟨gb111, 24, none⟩ = some (.int .u8 a0_24) := (blk_cell BK111.out 24).trans rfl
                have hfz25_0 := blk_frozen BK111.out 0
                have hfz25_1 := blk_frozen BK111.out 1
                have hfz25_2 := blk_frozen BK111.out 2
                have hfz25_3 := blk_frozen BK111.out 3
                have hfz25_4 := blk_frozen BK111.out 4
                have hfz25_5 := blk_frozen BK111.out 5
                have hfz25_6 := blk_frozen BK111.out 6
                have hfz25_7 := blk_frozen BK111.out 7
                have hfz25_8 := blk_frozen BK111.out 8
                have hfz25_9 := blk_frozen BK111.out 9
                have hfz25_10 := blk_frozen BK111.out 10
                have hfz25_11 := blk_frozen BK111.out 11
                have hfz25_12 := blk_frozen BK111.out 12
                have hfz25_13 := blk_frozen BK111.out 13
                have hfz25_14 := blk_frozen BK111.out 14
                have hfz25_15 := blk_frozen BK111.out 15
                have hfz25_16 := blk_frozen BK111.out 16
                have hfz25_17 := blk_frozen BK111.out 17
                have hfz25_18 := blk_frozen BK111.out 18
                have hfz25_19 := blk_frozen BK111.out 19
                have hfz25_20 := blk_frozen BK111.out 20
                have hfz25_21 := blk_frozen BK111.out 21
                have hfz25_22 := blk_frozen BK111.out 22
                have hfz25_23 := blk_frozen BK111.out 23
                have hfz25_24 := blk_frozen BK111.out 24
                go_wp2
                go_ret
                exact ⟨by first | rfl | (simp [errW_none, errW_some] <;> rfl) | (simp [*, errW_none, errW_some] <;> rfl), by repeat (first | (with_reducible first | exact HB.out | apply below_alloc | apply pw_below_drewN | apply below_drew1 | refine below_set ?_ GE111.out) | exact HB.out)⟩
              · rw [if_neg c24] at H
                have c24b0 : (a0_4 == a0_3) = false := beq_eq_false_iff_ne.mpr c24
                have c24b1 : (a0_4 != a0_3) = true := bne_iff_ne.mpr c24
                obtain rfl := Option.some.inj H
                have hcz26_0 : wc.cell? ⟨gb111, 0, none⟩ = some (.int .u8 a0_0) := (blk_cell BK111.out 0).trans rfl
                have hcz26_1 : wc.cell? ⟨gb111, 1, none⟩ = some (.int .i64 a0_1) := (blk_cell BK111.out 1).trans rfl
                have hcz26_2 : wc.cell? ⟨gb111, 2, none⟩ = some (.int .i64 a0_2) := (blk_cell BK111.out 2).trans rfl
                have hcz26_3 : wc.cell? ⟨gb111, 3, none⟩ = some (.int .i64 a0_3) := (blk_cell BK111.out 3).trans rfl
                have hcz26_4 : wc.cell? ⟨gb111, 4, none⟩ = some (.int .i64 a0_4) := (blk_cell BK111.out 4).trans rfl
                have hcz26_5 : wc.cell? ⟨gb111, 5, none⟩ = some (.int .u8 a0_5) := (blk_cell BK111.out 5).trans rfl
                have hcz26_6 : wc.cell? ⟨gb111, 6, none⟩ = some (.int .u8 a0_6) := (blk_cell BK111.out 6).trans rfl
                have hcz26_7 : wc.cell? ⟨gb111, 7, none⟩ = some (.int .u8 a0_7) := (blk_cell BK111.out 7).trans rfl
                have hcz26_8 : wc.cell? ⟨gb111, 8, none⟩ = some (.int .u8 a0_8) := (blk_cell BK111.out 8).trans rfl
                have hcz26_9 : wc.cell? ⟨gb111, 9, none⟩ = some (.int .u8 a0_9) := (blk_cell BK111.out 9).trans rfl
                have hcz26_10 : wc.cell? ⟨gb111, 10, none⟩ = some (.int .u8 a0_10) := (blk_cell BK111.out 10).trans rfl
                have hcz26_11 : wc.cell? ⟨gb111, 11, none⟩ = some (.int .u8 a0_11) := (blk_cell BK111.out 11).trans rfl
                have hcz26_12 : wc.cell? ⟨gb111, 12, none⟩ = some (.int .u8 a0_12) := (blk_cell BK111.out 12).trans rfl
                have hcz26_13 : wc.cell? ⟨gb111, 13, none⟩ = some (.int .u8 a0_13) := (blk_cell BK111.out 13).trans rfl
                have hcz26_14 : wc.cell? ⟨gb111, 14, none⟩ = some (.int .u8 a0_14) := (blk_cell BK111.out 14).trans rfl
                have hcz26_15 : wc.cell? ⟨gb111, 15, none⟩ = some (.int .u8 a0_15) := (blk_cell BK111.out 15).trans rfl
                have hcz26_16 : wc.cell? ⟨gb111, 16, none⟩ = some (.int .u8 a0_16) := (blk_cell BK111.out 16).trans rfl
                have hcz26_17 : wc.cell? ⟨gb111, 17, none⟩ = some (.int .u8 a0_17) := (blk_cell BK111.out 17).trans rfl
                have hcz26_18 : wc.cell? ⟨gb111, 18, none⟩ = some (.int .u8 a0_18) := (blk_cell BK111.out 18).trans rfl
                have hcz26_19 : wc.cell? ⟨gb111, 19, none⟩ = some (.int .u8 a0_19) := (blk_cell BK111.out 19).trans rfl
                have hcz26_20 : wc.cell? ⟨gb111, 20, none⟩ = some (.int .u8 a0_20) := (blk_cell BK111.out 20).trans rfl
                have hcz26_21 : wc.cell? ⟨gb111, 21, none⟩ = some (.int .u8 a0_21) := (blk_cell BK111.out 21).trans rfl
                have hcz26_22 : wc.cell? ⟨gb111, 22, none⟩ = some (.int .u8 a0_22) := (blk_cell BK111.out 22).trans rfl
                have hcz26_23 : wc.cell? ⟨gb111, 23, none⟩ = some (.int .u8 a0_23) := (blk_cell BK111.out 23).trans rfl
                have hcz26_24 : wc.cell? ⟨gb111, 24, none⟩ = some (.int .u8 a0_24) := (blk_cell BK111.out 24).trans rfl
                have hfz26_0 := blk_frozen BK111.out 0
                have hfz26_1 := blk_frozen BK111.out 1
                have hfz26_2 := blk_frozen BK111.out 2
                have hfz26_3 := blk_frozen BK111.out 3
                have hfz26_4 := blk_frozen BK111.out 4
                have hfz26_5 := blk_frozen BK111.out 5
                have hfz26_6 := blk_frozen BK111.out 6
                have hfz26_7 := blk_frozen BK111.out 7
                have hfz26_8 := blk_frozen BK111.out 8
                have hfz26_9 := blk_frozen BK111.out 9
                have hfz26_10 := blk_frozen BK111.out 10
                have hfz26_11 := blk_frozen BK111.out 11
                have hfz26_12 := blk_frozen BK111.out 12
                have hfz26_13 := blk_frozen BK111.out 13
                have hfz26_14 := blk_frozen BK111.out 14
                have hfz26_15 := blk_frozen BK111.out 15
                have hfz26_16 := blk_frozen BK111.out 16
                have hfz26_17 := blk_frozen BK111.out 17
                have hfz26_18 := blk_frozen BK111.out 18
                have hfz26_19 := blk_frozen BK111.out 19
                have hfz26_20 := blk_frozen BK111.out 20
                have hfz26_21 := blk_frozen BK111.out 21
                have hfz26_22 := blk_frozen BK111.out 22
                have hfz26_23 := blk_frozen BK111.out 23
                have hfz26_24 := blk_frozen BK111.out 24
                go_wp2
                go_ret
                exact ⟨by first | rfl | (simp [errW_none, errW_some] <;> rfl) | (simp [*, errW_none, errW_some] <;> rfl), by repeat (first | (with_reducible first | exact HB.out | apply below_alloc | apply pw_below_drewN | apply below_drew1 | refine below_set ?_ GE111.out) | exact HB.out)⟩
          · rw [if_neg c17] at H
            have c17b0 : (a0_0 == 2) = false := beq_eq_false_iff_ne.mpr c17
            have c17b1 : (a0_0 != 2) = true := bne_iff_ne.mpr c17
            by_cases c27 : a0_4 = a0_3
            · rw [if_pos c27] at H
              have c27b0 : (a0_4 == a0_3) = true := beq_iff_eq.mpr c27
              have c27b1 : (a0_4 != a0_3) = false := bne_eq_false_iff_eq.mpr c27
              clear c27
              obtain rfl := Option.some.inj H
              have hcz28_0 : wc.cell? ⟨gb111, 0, none⟩ = some (.int .u8 a0_0) := (blk_cell BK111.out 0).trans rfl
              have hcz28_1 : wc.cell? ⟨gb111, 1, none⟩ = some (.int .i64 a0_1) := (blk_cell BK111.out 1).trans rfl
              have hcz28_2 : wc.cell? ⟨gb111, 2, none⟩ = some (.int .i64 a0_2) := (blk_cell BK111.out 2).trans rfl
              have hcz28_3 : wc.cell? ⟨gb111, 3, none⟩ = some (.int .i64 a0_3) := (blk_cell BK111.out 3).trans rfl
              have hcz28_4 : wc.cell? ⟨gb111, 4, none⟩ = some (.int .i64 a0_4) := (blk_cell BK111.out 4).trans rfl
              have hcz28_5 : wc.cell? ⟨gb111, 5, none⟩ = some (.int .u8 a0_5) := (blk_cell BK111.out 5).trans rfl
              have hcz28_6 : wc.cell? ⟨gb111, 6, none⟩ = some (.int .u8 a0_6) := (blk_cell BK111.out 6).trans rfl
              have hcz28_7 : wc.cell? ⟨gb111, 7, none⟩ = some (.int .u8 a0_7) := (blk_cell BK111.out 7).trans rfl
              have hcz28_8 : wc.cell? ⟨gb111, 8, none⟩ = some (.int .u8 a0_8) := (blk_cell BK111.out 8).trans rfl
              have hcz28_9 : wc.cell? ⟨gb111, 9, none⟩ = some (.int .u8 a0_9) := (blk_cell BK111.out 9).trans rfl
              have hcz28_10 : wc.cell? ⟨gb111, 10, none⟩ = some (.int .u8 a0_10) := (blk_cell BK111.out 10).trans rfl
              have hcz28_11 : wc.cell? ⟨gb111, 11, none⟩ = some (.int .u8 a0_11) := (blk_cell BK111.out 11).trans rfl
              have hcz28_12 : wc.cell? ⟨gb111, 12, none⟩ = some (.int .u8 a0_12) := (blk_cell BK111.out 12).trans rfl
              have hcz28_13 : wc.cell? ⟨gb111, 13, none⟩ = some (.int .u8 a0_13) := (blk_cell BK111.out 13).trans rfl
              have hcz28_14 : wc.cell? ⟨gb111, 14, none⟩ = some (.int .u8 a0_14) := (blk_cell BK111.out 14).trans rfl
              have hcz28_15 : wc.cell? ⟨gb111, 15, none⟩ = some (.int .u8 a0_15) := (blk_cell BK111.out 15).trans rfl
              have hcz28_16 : wc.cell? ⟨gb111, 16, none⟩ = some (.int .u8 a0_16) := (blk_cell BK111.out 16).trans rfl
              have hcz28_17 : wc.cell? ⟨gb111, 17, none⟩ = some (.int .u8 a0_17) := (blk_cell BK111.out 17).trans rfl
              have hcz28_18 : wc.cell? ⟨gb111, 18, none⟩ = some (.int .u8 a0_18) := (blk_cell BK111.out 18).trans rfl
              have hcz28_19 : wc.cell? ⟨gb111, 19, none⟩ = some (.int .u8 a0_19) := (blk_cell BK111.out 19).trans rfl
              have hcz28_20 : wc.cell? ⟨gb111, 20, none⟩ = some (.int .u8 a0_20) := (blk_cell BK111.out 20).trans rfl
              have hcz28_21 : wc.cell? ⟨gb111, 21, none⟩ = some (.int .u8 a0_21) := (blk_cell BK111.out 21).trans rfl
              have hcz28_22 : wc.cell? ⟨gb111, 22, none⟩ = some (.int .u8 a0_22) := (blk_cell BK111.out 22).trans rfl
              have hcz28_23 : wc.cell? ⟨gb111, 23, none⟩ = some (.int .u8 a0_23) := (blk_cell BK111.out 23).trans rfl
              have hcz28_24 : wc.cell? ⟨gb111, 24, none⟩ = some (.int .u8 a0_24) := (blk_cell BK111.out 24).trans rfl
              have hfz28_0 := blk_frozen BK111.out 0
              have hfz28_1 := blk_frozen BK111.out 1
              have hfz28_2 := blk_frozen BK111.out 2
              have hfz28_3 := blk_frozen BK111.out 3
              have hfz28_4 := blk_frozen BK111.out 4
              have hfz28_5 := blk_frozen BK111.out 5
              have hfz28_6 := blk_frozen BK111.out 6
              have hfz28_7 := blk_frozen BK111.out 7
              have hfz28_8 := blk_frozen BK111.out 8
              have hfz28_9 := blk_frozen BK111.out 9
              have hfz28_10 := blk_frozen BK111.out 10
              have hfz28_11 := blk_frozen BK111.out 11
              have hfz28_12 := blk_frozen BK111.out 12
              have hfz28_13 := blk_frozen BK111.out 13
              have hfz28_14 := blk_frozen BK111.out 14
              have hfz28_15 := blk_frozen BK111.out 15
              have hfz28_16 := blk_frozen BK111.out 16
              have hfz28_17 := blk_frozen BK111.out 17
              have hfz28_18 := blk_frozen BK111.out 18
              have hfz28_19 := blk_frozen BK111.out 19
              have hfz28_20 := blk_frozen BK111.out 20
              have hfz28_21 := blk_frozen BK111.out 21
              have hfz28_22 := blk_frozen BK111.out 22
              have hfz28_23 := blk_frozen BK111.out 23
              have hfz28_24 := blk_frozen BK111.out 24
              go_wp2
              go_ret
              exact ⟨by first | rfl | (simp [errW_none, errW_some] <;> rfl) | (simp [*, errW_none, errW_some] <;> rfl), by repeat (first | (with_reducible first | exact HB.out | apply below_alloc | apply pw_below_drewN | apply below_drew1 | refine below_set ?_ GE111.out) | exact HB.out)⟩
            · rw [if_neg c27] at H
              have c27b0 : (a0_4 == a0_3) = false := beq_eq_false_iff_ne.mpr c27
              have c27b1 : (a0_4 != a0_3) = true := bne_iff_ne.mpr c27
              obtain rfl := Option.some.inj H
              have hcz29_0 : wc.cell? ⟨gb111, 0, none⟩ = some (.int .u8 a0_0) := (blk_cell BK111.out 0).trans rfl
              have hcz29_1 : wc.cell? ⟨gb111, 1, none⟩ = some (.int .i64 a0_1) := (blk_cell BK111.out 1).trans rfl
              have hcz29_2 : wc.cell? ⟨gb111, 2, none⟩ = some (.int .i64 a0_2) := (blk_cell BK111.out 2).trans rfl
              have hcz29_3 : wc.cell? ⟨gb111, 3, none⟩ = some (.int .i64 a0_3) := (blk_cell BK111.out 3).trans rfl
              have hcz29_4 : wc.cell? ⟨gb111, 4, none⟩ = some (.int .i64 a0_4) := (blk_cell BK111.out 4).trans rfl
              have hcz29_5 : wc.cell? ⟨gb111, 5, none⟩ = some (.int .u8 a0_5) := (blk_cell BK111.out 5).trans rfl
              have hcz29_6 : wc.cell? ⟨gb111, 6, none⟩ = some (.int .u8 a0_6) := (blk_cell BK111.out 6).trans rfl
              have hcz29_7 : wc.cell? ⟨gb111, 7, none⟩ = some (.int .u8 a0_7) := (blk_cell BK111.out 7).trans rfl
              have hcz29_8 : wc.cell? ⟨gb111, 8, none⟩ = some (.int .u8 a0_8) := (blk_cell BK111.out 8).trans rfl
              have hcz29_9 : wc.cell? ⟨gb111, 9, none⟩ = some (.int .u8 a0_9) := (blk_cell BK111.out 9).trans rfl
              have hcz29_10 : wc.cell? ⟨gb111, 10, none⟩ = some (.int .u8 a0_10) := (blk_cell BK111.out 10).trans rfl
              have hcz29_11 : wc.cell? ⟨gb111, 11, none⟩ = some (.int .u8 a0_11) := (blk_cell BK111.out 11).trans rfl
              have hcz29_12 : wc.cell? ⟨gb111, 12, none⟩ = some (.int .u8 a0_12) := (blk_cell BK111.out 12).trans rfl
              have hcz29_13 : wc.cell? ⟨gb111, 13, none⟩ = some (.int .u8 a0_13) := (blk_cell BK111.out 13).trans rfl
              have hcz29_14 : wc.cell? ⟨gb111, 14, none⟩ = some (.int .u8 a0_14) := (blk_cell BK111.out 14).trans rfl
              have hcz29_15 : wc.cell? ⟨gb111, 15, none⟩ = some (.int .u8 a0_15) := (blk_cell BK111.out 15).trans rfl
              have hcz29_16 : wc.cell? ⟨gb111, 16, none⟩ = some (.int .u8 a0_16) := (blk_cell BK111.out 16).trans rfl
              have hcz29_17 : wc.cell? ⟨gb111, 17, none⟩ = some (.int .u8 a0_17) := (blk_cell BK111.out 17).trans rfl
              have hcz29_18 : wc.cell? ⟨gb111, 18, none⟩ = some (.int .u8 a0_18) := (blk_cell BK111.out 18).trans rfl
              have hcz29_19 : wc.cell? ⟨gb111, 19, none⟩ = some (.int .u8 a0_19) := (blk_cell BK111.out 19).trans rfl
              have hcz29_20 : wc.cell? ⟨gb111, 20, none⟩ = some (.int .u8 a0_20) := (blk_cell BK111.out 20).trans rfl
              have hcz29_21 : wc.cell? ⟨gb111, 21, none⟩ = some (.int .u8 a0_21) := (blk_cell BK111.out 21).trans rfl
              have hcz29_22 : wc.cell? ⟨gb111, 22, none⟩ = some (.int .u8 a0_22) := (blk_cell BK111.out 22).trans rfl
              have hcz29_23 : wc.cell? ⟨gb111, 23, none⟩ = some (.int .u8 a0_23) := (blk_cell BK111.out 23).trans rfl
              have hcz29_24 : wc.cell? ⟨gb111, 24, none⟩ = some (.int .u8 a0_24) := (blk_cell BK111.out 24).trans rfl
              have hfz29_0 := blk_frozen BK111.out 0
              have hfz29_1 := blk_frozen BK111.out 1
              have hfz29_2 := blk_frozen BK111.out 2
              have hfz29_3 := blk_frozen BK111.out 3
              have hfz29_4 := blk_frozen BK111.out 4
              have hfz29_5 := blk_frozen BK111.out 5
              have hfz29_6 := blk_frozen BK111.out 6
              have hfz29_7 := blk_frozen BK111.out 7
              have hfz29_8 := blk_frozen BK111.out 8
              have hfz29_9 := blk_frozen BK111.out 9
              have hfz29_10 := blk_frozen BK111.out 10
              have hfz29_11 := blk_frozen BK111.out 11
              have hfz29_12 := blk_frozen BK111.out 12
              have hfz29_13 := blk_frozen BK111.out 13
              have hfz29_14 := blk_frozen BK111.out 14
              have hfz29_15 := blk_frozen BK111.out 15
              have hfz29_16 := blk_frozen BK111.out 16
              have hfz29_17 := blk_frozen BK111.out 17
              have hfz29_18 := blk_frozen BK111.out 18
              have hfz29_19 := blk_frozen BK111.out 19
              have hfz29_20 := blk_frozen BK111.out 20
              have hfz29_21 := blk_frozen BK111.out 21
              have hfz29_22 := blk_frozen BK111.out 22
              have hfz29_23 := blk_frozen BK111.out 23
              have hfz29_24 := blk_frozen BK111.out 24
              go_wp2
              go_ret
              exact ⟨by first | rfl | (simp [errW_none, errW_some] <;> rfl) | (simp [*, errW_none, errW_some] <;> rfl), by repeat (first | (with_reducible first | exact HB.out | apply below_alloc | apply pw_below_drewN | apply below_drew1 | refine below_set ?_ GE111.out) | exact HB.out)⟩
        · rw [if_neg c16] at H
          have c16b0 : (a0_0 == 1) = false := beq_eq_false_iff_ne.mpr c16
          have c16b1 : (a0_0 != 1) = true := bne_iff_ne.mpr c16
          by_cases c30 : a0_0 = 2
          · rw [if_pos c30] at H
            have c30b0 : (a0_0 == 2) = true := beq_iff_eq.mpr c30
            have c30b1 : (a0_0 != 2) = false := bne_eq_false_iff_eq.mpr c30
            clear c30
            by_cases c31 : a0_4 ≥ 1
            · rw [if_pos c31] at H
              have c31b0 : decide (1 ≤ a0_4) = true := decide_eq_true c31
              clear c31
              by_cases c32 : a0_4 < a0_3
              · rw [if_pos c32] at H
                have c32b0 : decide (a0_4 < a0_3) = true := decide_eq_true c32
                clear c32
                obtain rfl := Option.some.inj H
                have hcz33_0 : wc.cell? ⟨gb111, 0, none⟩ = some (.int .u8 a0_0) := (blk_cell BK111.out 0).trans rfl
                have hcz33_1 : wc.cell? ⟨gb111, 1, none⟩ = some (.int .i64 a0_1) := (blk_cell BK111.out 1).trans rfl
                have hcz33_2 : wc.cell? ⟨gb111, 2, none⟩ = some (.int .i64 a0_2) := (blk_cell BK111.out 2).trans rfl
                have hcz33_3 : wc.cell? ⟨gb111, 3, none⟩ = some (.int .i64 a0_3) := (blk_cell BK111.out 3).trans rfl
                have hcz33_4 : wc.cell? ⟨gb111, 4, none⟩ = some (.int .i64 a0_4) := (blk_cell BK111.out 4).trans rfl
                have hcz33_5 : wc.cell? ⟨gb111, 5, none⟩ = some (.int .u8 a0_5) := (blk_cell BK111.out 5).trans rfl
                have hcz33_6 : wc.cell? ⟨gb111, 6, none⟩ = some (.int .u8 a0_6) := (blk_cell BK111.out 6).trans rfl
                have hcz33_7 : wc.cell? ⟨gb111, 7, none⟩ = some (.int .u8 a0_7) := (blk_cell BK111.out 7).trans rfl
                have hcz33_8 : wc.cell? ⟨gb111, 8, none⟩ = some (.int .u8 a0_8) := (blk_cell BK111.out 8).trans rfl
                have hcz33_9 : wc.cell? ⟨gb111, 9, none⟩ = some (.int .u8 a0_9) := (blk_cell BK111.out 9).trans rfl
                have hcz33_10 : wc.cell? ⟨gb111, 10, none⟩ = some (.int .u8 a0_10) := (blk_cell BK111.out 10).trans rfl
                have hcz33_11 : wc.cell? ⟨gb111, 11, none⟩ = some (.int .u8 a0_11) := (blk_cell BK111.out 11).trans rfl
                have hcz33_12 : wc.cell? ⟨gb111, 12, none⟩ = some (.int .u8 a0_12) := (blk_cell BK111.out 12).trans rfl
                have hcz33_13 : wc.cell? ⟨gb111, 13, none⟩ = some (.int .u8 a0_13) := (blk_cell BK111.out 13).trans rfl
                have hcz33_14 : wc.cell? ⟨gb111, 14, none⟩ = some (.int .u8 a0_14) := (blk_cell BK111.out 14).trans rfl
                have hcz33_15 : wc.cell? ⟨gb111, 15, none⟩ = some (.int .u8 a0_15) := (blk_cell BK111.out 15).trans rfl
                have hcz33_16 : wc.cell? ⟨gb111, 16, none⟩ = some (.int .u8 a0_16) := (blk_cell BK111.out 16).trans rfl
                have hcz33_17 : wc.cell? ⟨gb111, 17, none⟩ = some (.int .u8 a0_17) := (blk_cell BK111.out 17).trans rfl
                have hcz33_18 : wc.cell? ⟨gb111, 18, none⟩ = some (.int .u8 a0_18) := (blk_cell BK111.out 18).trans rfl
                have hcz33_19 : wc.cell? ⟨gb111, 19, none⟩ = some (.int .u8 a0_19) := (blk_cell BK111.out 19).trans rfl
                have hcz33_20 : wc.cell? ⟨gb111, 20, none⟩ = some (.int .u8 a0_20) := (blk_cell BK111.out 20).trans rfl
                have hcz33_21 : wc.cell? ⟨gb111, 21, none⟩ = some (.int .u8 a0_21) := (blk_cell BK111.out 21).trans rfl
                have hcz33_22 : wc.cell? ⟨gb111, 22, none⟩ = some (.int .u8 a0_22) := (blk_cell BK111.out 22).trans rfl
                have hcz33_23 : wc.cell? ⟨gb111, 23, none⟩ = some (.int .u8 a0_23) := (blk_cell BK111.out 23).trans rfl
                have hcz33_24 : wc.cell? ⟨gb111, 24, none⟩ = some (.int .u8 a0_24) := (blk_cell BK111.out 24).trans rfl
                have hfz33_0 := blk_frozen BK111.out 0
                have hfz33_1 := blk_frozen BK111.out 1
                have hfz33_2 := blk_frozen BK111.out 2
                have hfz33_3 := blk_frozen BK111.out 3
                have hfz33_4 := blk_frozen BK111.out 4
                have hfz33_5 := blk_frozen BK111.out 5
                have hfz33_6 := blk_frozen BK111.out 6
                have hfz33_7 := blk_frozen BK111.out 7
                have hfz33_8 := blk_frozen BK111.out 8
                have hfz33_9 := blk_frozen BK111.out 9
                have hfz33_10 := blk_frozen BK111.out 10
                have hfz33_11 := blk_frozen BK111.out 11
                have hfz33_12 := blk_frozen BK111.out 12
                have hfz33_13 := blk_frozen BK111.out 13
                have hfz33_14 := blk_frozen BK111.out 14
                have hfz33_15 := blk_frozen BK111.out 15
                have hfz33_16 := blk_frozen BK111.out 16
                have hfz33_17 := blk_frozen BK111.out 17
                have hfz33_18 := blk_frozen BK111.out 18
                have hfz33_19 := blk_frozen BK111.out 19
                have hfz33_20 := blk_frozen BK111.out 20
                have hfz33_21 := blk_frozen BK111.out 21
                have hfz33_22 := blk_frozen BK111.out 22
                have hfz33_23 := blk_frozen BK111.out 23
                have hfz33_24 := blk_frozen BK111.out 24
                go_wp2
                go_ret
                exact ⟨by first | rfl | (simp [errW_none, errW_some] <;> rfl) | (simp [*, errW_none, errW_some] <;> rfl), by repeat (first | (with_reducible first | exact HB.out | apply below_alloc | apply pw_below_drewN | apply below_drew1 | refine below_set ?_ GE111.out) | exact HB.out)⟩
              · rw [if_neg c32] at H
                have c32b0 : decide (a0_4 < a0_3) = false := decide_eq_false c32
                clear c32
                obtain rfl := Option.some.inj H
                have hcz34_0 : wc.cell? ⟨gb111, 0, none⟩ = some (.int .u8 a0_0) := (blk_cell BK111.out 0).trans rfl
                have hcz34_1 : wc.cell? ⟨gb111, 1, none⟩ = some (.int .i64 a0_1) := (blk_cell BK111.out 1).trans rfl
                have hcz34_2 : wc.cell? ⟨gb111, 2, none⟩ = some (.int .i64 a0_2) := (blk_cell BK111.out 2).trans rfl
                have hcz34_3 : wc.cell? ⟨gb111, 3, none⟩ = some (.int .i64 a0_3) := (blk_cell BK111.out 3).trans rfl
                have hcz34_4 : wc.cell? ⟨gb111, 4, none⟩ = some (.int .i64 a0_4) := (blk_cell BK111.out 4).trans rfl
                have hcz34_5 : wc.cell? ⟨gb111, 5, none⟩ = some (.int .u8 a0_5) := (blk_cell BK111.out 5).trans rfl
                have hcz34_6 : wc.cell? ⟨gb111, 6, none⟩ = some (.int .u8 a0_6) := (blk_cell BK111.out 6).trans rfl
                have hcz34_7 : wc.cell? ⟨gb111, 7, none⟩ = some (.int .u8 a0_7) := (blk_cell BK111.out 7).trans rfl
                have hcz34_8 : wc.cell? ⟨gb111, 8, none⟩ = some (.int .u8 a0_8) := (blk_cell BK111.out 8).trans rfl
                have hcz34_9 : wc.cell? ⟨gb111, 9, none⟩ = some (.int .u8 a0_9) := (blk_cell BK111.out 9).trans rfl
                have hcz34_10 : wc.cell? ⟨gb111, 10, none⟩ = some (.int .u8 a0_10) := (blk_cell BK111.out 10).trans rfl
                have hcz34_11 : wc.cell? ⟨gb111, 11, none⟩ = some (.int .u8 a0_11) := (blk_cell BK111.out 11).trans rfl
                have hcz34_12 : wc.cell? ⟨gb111, 12, none⟩ = some (.int .u8 a0_12) := (blk_cell BK111.out 12).trans rfl
                have hcz34_13 : wc.cell? ⟨gb111, 13, none⟩ = some (.int .u8 a0_13) := (blk_cell BK111.out 13).trans rfl
                have hcz34_14 : wc.cell? ⟨gb111, 14, none⟩ = some (.int .u8 a0_14) := (blk_cell BK111.out 14).trans rfl
                have hcz34_15 : wc.cell? ⟨gb111, 15, none⟩ = some (.int .u8 a0_15) := (blk_cell BK111.out 15).trans rfl
                have hcz34_16 : wc.cell? ⟨gb111, 16, none⟩ = some (.int .u8 a0_16) := (blk_cell BK111.out 16).trans rfl
                have hcz34_17 : wc.cell? ⟨gb111, 17, none⟩ = some (.int .u8 a0_17) := (blk_cell BK111.out 17).trans rfl
                have hcz34_18 : wc.cell? ⟨gb111, 18, none⟩ = some (.int .u8 a0_18) := (blk_cell BK111.out 18).trans rfl
                have hcz34_19 : wc.cell? ⟨gb111, 19, none⟩ = some (.int .u8 a0_19) := (blk_cell BK111.out 19).trans rfl
                have hcz34_20 : wc.cell? ⟨gb111, 20, none⟩ = some (.int .u8 a0_20) := (blk_cell BK111.out 20).trans rfl
                have hcz34_21 : wc.cell? ⟨gb111, 21, none⟩ = some (.int .u8 a0_21) := (blk_cell BK111.out 21).trans rfl
                have hcz34_22 : wc.cell? ⟨gb111, 22, none⟩ = some (.int .u8 a0_22) := (blk_cell BK111.out 22).trans rfl
                have hcz34_23 : wc.cell? ⟨gb111, 23, none⟩ = some (.int .u8 a0_23) := (blk_cell BK111.out 23).trans rfl
                have hcz34_24 : wc.cell? ⟨gb111, 24, none⟩ = some (.int .u8 a0_24) := (blk_cell BK111.out 24).trans rfl
                have hfz34_0 := blk_frozen BK111.out 0
                have hfz34_1 := blk_frozen BK111.out 1
                have hfz34_2 := blk_frozen BK111.out 2
                have hfz34_3 := blk_frozen BK111.out 3
                have hfz34_4 := blk_frozen BK111.out 4
                have hfz34_5 := blk_frozen BK111.out 5
                have hfz34_6 := blk_frozen BK111.out 6
                have hfz34_7 := blk_frozen BK111.out 7
                have hfz34_8 := blk_frozen BK111.out 8
                have hfz34_9 := blk_frozen BK111.out 9
                have hfz34_10 := blk_frozen BK111.out 10
                have hfz34_11 := blk_frozen BK111.out 11
                have hfz34_12 := blk_frozen BK111.out 12
                have hfz34_13 := blk_frozen BK111.out 13
                have hfz34_14 := blk_frozen BK111.out 14
                have hfz34_15 := blk_frozen BK111.out 15
                have hfz34_16 := blk_frozen BK111.out 16
                have hfz34_17 := blk_frozen BK111.out 17
                have hfz34_18 := blk_frozen BK111.out 18
                have hfz34_19 := blk_frozen BK111.out 19
                have hfz34_20 := blk_frozen BK111.out 20
                have hfz34_21 := blk_frozen BK111.out 21
                have hfz34_22 := blk_frozen BK111.out 22
                have hfz34_23 := blk_frozen BK111.out 23
                have hfz34_24 := blk_frozen BK111.out 24
                go_wp2
                go_ret
                exact ⟨by first | rfl | (simp [errW_none, errW_some] <;> rfl) | (simp [*, errW_none, errW_some] <;> rfl), by repeat (first | (with_reducible first | exact HB.out | apply below_alloc | apply pw_below_drewN | apply below_drew1 | refine below_set ?_ GE111.out) | exact HB.out)⟩
            · rw [if_neg c31] at H
              have c31b0 : decide (1 ≤ a0_4) = false := decide_eq_false c31
              clear c31
              obtain rfl := Option.some.inj H
              have hcz35_0 : wc.cell? ⟨gb111, 0, none⟩ = some (.int .u8 a0_0) := (blk_cell BK111.out 0).trans rfl
              have hcz35_1 : wc.cell? ⟨gb111, 1, none⟩ = some (.int .i64 a0_1) := (blk_cell BK111.out 1).trans rfl
              have hcz35_2 : wc.cell? ⟨gb111, 2, none⟩ = some (.int .i64 a0_2) := (blk_cell BK111.out 2).trans rfl
              have hcz35_3 : wc.cell? ⟨gb111, 3, none⟩ = some (.int .i64 a0_3) := (blk_cell BK111.out 3).trans rfl
              have hcz35_4 : wc.cell? ⟨gb111, 4, none⟩ = some (.int .i64 a0_4) := (blk_cell BK111.out 4).trans rfl
              have hcz35_5 : wc.cell? ⟨gb111, 5, none⟩ = some (.int .u8 a0_5) := (blk_cell BK111.out 5).trans rfl
              have hcz35_6 : wc.cell? ⟨gb111, 6, none⟩ = some (.int .u8 a0_6) := (blk_cell BK111.out 6).trans rfl
              have hcz35_7 : wc.cell? ⟨gb111, 7, none⟩ = some (.int .u8 a0_7) := (blk_cell BK111.out 7).trans rfl
              have hcz35_8 : wc.cell? ⟨gb111, 8, none⟩ = some (.int .u8 a0_8) := (blk_cell BK111.out 8).trans rfl
              have hcz35_9 : wc.cell? ⟨gb111, 9, none⟩ = some (.int .u8 a0_9) := (blk_cell BK111.out 9).trans rfl
              have hcz35_10 : wc.cell? ⟨gb111, 10, none⟩ = some (.int .u8 a0_10) := (blk_cell BK111.out 10).trans rfl
              have hcz35_11 : wc.cell? ⟨gb111, 11, none⟩ = some (.int .u8 a0_11) := (blk_cell BK111.out 11).trans rfl
              have hcz35_12 : wc.cell? ⟨gb111, 12, none⟩ = some (.int .u8 a0_12) := (blk_cell BK111.out 12).trans rfl
              have hcz35_13 : wc.cell? ⟨gb111, 13, none⟩ = some (.int .u8 a0_13) := (blk_cell BK111.out 13).trans rfl
              have hcz35_14 : wc.cell? ⟨gb111, 14, none⟩ = some (.int .u8 a0_14) := (blk_cell BK111.out 14).trans rfl
              have hcz35_15 : wc.cell? ⟨gb111, 15, none⟩ = some (.int .u8 a0_15) := (blk_cell BK111.out 15).trans rfl
              have hcz35_16 : wc.cell? ⟨gb111, 16, none⟩ = some (.int .u8 a0_16) := (blk_cell BK111.out 16).trans rfl
              have hcz35_17 : wc.cell? ⟨gb111, 17, none⟩ = some (.int .u8 a0_17) := (blk_cell BK111.out 17).trans rfl
              have hcz35_18 : wc.cell? ⟨gb111, 18, none⟩ = some (.int .u8 a0_18) := (blk_cell BK111.out 18).trans rfl
              have hcz35_19 : wc.cell? ⟨gb111, 19, none⟩ = some (.int .u8 a0_19) := (blk_cell BK111.out 19).trans rfl
              have hcz35_20 : wc.cell? ⟨gb111, 20, none⟩ = some (.int .u8 a0_20) := (blk_cell BK111.out 20).trans rfl
              have hcz35_21 : wc.cell? ⟨gb111, 21, none⟩ = some (.int .u8 a0_21) := (blk_cell BK111.out 21).trans rfl
              have hcz35_22 : wc.cell? ⟨gb111, 22, none⟩ = some (.int .u8 a0_22) := (blk_cell BK111.out 22).trans rfl
              have hcz35_23 : wc.cell? ⟨gb111, 23, none⟩ = some (.int .u8 a0_23) := (blk_cell BK111.out 23).trans rfl
              have hcz35_24 : wc.cell? ⟨gb111, 24, none⟩ = some (.int .u8 a0_24) := (blk_cell BK111.out 24).trans rfl
              have hfz35_0 := blk_frozen BK111.out 0
              have hfz35_1 := blk_frozen BK111.out 1
              have hfz35_2 := blk_frozen BK111.out 2
              have hfz35_3 := blk_frozen BK111.out 3
              have hfz35_4 := blk_frozen BK111.out 4
              have hfz35_5 := blk_frozen BK111.out 5
              have hfz35_6 := blk_frozen BK111.out 6
              have hfz35_7 := blk_frozen BK111.out 7
              have hfz35_8 := blk_frozen BK111.out 8
              have hfz35_9 := blk_frozen BK111.out 9
              have hfz35_10 := blk_frozen BK111.out 10
              have hfz35_11 := blk_frozen BK111.out 11
              have hfz35_12 := blk_frozen BK111.out 12
              have hfz35_13 := blk_frozen BK111.out 13
              have hfz35_14 := blk_frozen BK111.out 14
              have hfz35_15 := blk_frozen BK111.out 15
              have hfz35_16 := blk_frozen BK111.out 16
              have hfz35_17 := blk_frozen BK111.out 17
              have hfz35_18 := blk_frozen BK111.out 18
              have hfz35_19 := blk_frozen BK111.out 19
              have hfz35_20 := blk_frozen BK111.out 20
              have hfz35_21 := blk_frozen BK111.out 21
              have hfz35_22 := blk_frozen BK111.out 22
              have hfz35_23 := blk_frozen BK111.out 23
              have hfz35_24 := blk_frozen BK111.out 24
              go_wp2
              go_ret
              exact ⟨by first | rfl | (simp [errW_none, errW_some] <;> rfl) | (simp [*, errW_none, errW_some] <;> rfl), by repeat (first | (with_reducible first | exact HB.out | apply below_alloc | apply pw_below_drewN | apply below_drew1 | refine below_set ?_ GE111.out) | exact HB.out)⟩
          · rw [if_neg c30] at H
            have c30b0 : (a0_0 == 2) = false := beq_eq_false_iff_ne.mpr c30
            have c30b1 : (a0_0 != 2) = true := bne_iff_ne.mpr c30
            obtain rfl := Option.some.inj H
            have hcz36_0 : wc.cell? ⟨gb111, 0, none⟩ = some (.int .u8 a0_0) := (blk_cell BK111.out 0).trans rfl
            have hcz36_1 : wc.cell? ⟨gb111, 1, none⟩ = some (.int .i64 a0_1) := (blk_cell BK111.out 1).trans rfl
            have hcz36_2 : wc.cell? ⟨gb111, 2, none⟩ = some (.int .i64 a0_2) := (blk_cell BK111.out 2).trans rfl
            have hcz36_3 : wc.cell? ⟨gb111, 3, none⟩ = some (.int .i64 a0_3) := (blk_cell BK111.out 3).trans rfl
            have hcz36_4 : wc.cell? ⟨gb111, 4, none⟩ = some (.int .i64 a0_4) := (blk_cell BK111.out 4).trans rfl
            have hcz36_5 : wc.cell? ⟨gb111, 5, none⟩ = some (.int .u8 a0_5) := (blk_cell BK111.out 5).trans rfl
            have hcz36_6 : wc.cell? ⟨gb111, 6, none⟩ = some (.int .u8 a0_6) := (blk_cell BK111.out 6).trans rfl
            have hcz36_7 : wc.cell? ⟨gb111, 7, none⟩ = some (.int .u8 a0_7) := (blk_cell BK111.out 7).trans rfl
            have hcz36_8 : wc.cell? ⟨gb111, 8, none⟩ = some (.int .u8 a0_8) := (blk_cell BK111.out 8).trans rfl
            have hcz36_9 : wc.cell? ⟨gb111, 9, none⟩ = some (.int .u8 a0_9) := (blk_cell BK111.out 9).trans rfl
            have hcz36_10 : wc.cell? ⟨gb111, 10, none⟩ = some (.int .u8 a0_10) := (blk_cell BK111.out 10).trans rfl
            have hcz36_11 : wc.cell? ⟨gb111, 11, none⟩ = some (.int .u8 a0_11) := (blk_cell BK111.out 11).trans rfl
            have hcz36_12 : wc.cell? ⟨gb111, 12, none⟩ = some (.int .u8 a0_12) := (blk_cell BK111.out 12).trans rfl
            have hcz36_13 : wc.cell? ⟨gb111, 13, none⟩ = some (.int .u8 a0_13) := (blk_cell BK111.out 13).trans rfl
            have hcz36_14 : wc.cell? ⟨gb111, 14, none⟩ = some (.int .u8 a0_14) := (blk_cell BK111.out 14).trans rfl
            have hcz36_15 : wc.cell? ⟨gb111, 15, none⟩ = some (.int .u8 a0_15) := (blk_cell BK111.out 15).trans rfl
            have hcz36_16 : wc.cell? ⟨gb111, 16, none⟩ = some (.int .u8 a0_16) := (blk_cell BK111.out 16).trans rfl
            have hcz36_17 : wc.cell? ⟨gb111, 17, none⟩ = some (.int .u8 a0_17) := (blk_cell BK111.out 17).trans rfl
            have hcz36_18 : wc.cell? ⟨gb111, 18, none⟩ = some (.int .u8 a0_18) := (blk_cell BK111.out 18).trans rfl
            have hcz36_19 : wc.cell? ⟨gb111, 19, none⟩ = some (.int .u8 a0_19) := (blk_cell BK111.out 19).trans rfl
            have hcz36_20 : wc.cell? ⟨gb111, 20, none⟩ = some (.int .u8 a0_20) := (blk_cell BK111.out 20).trans rfl
            have hcz36_21 : wc.cell? ⟨gb111, 21, none⟩ = some (.int .u8 a0_21) := (blk_cell BK111.out 21).trans rfl
            have hcz36_22 : wc.cell? ⟨gb111, 22, none⟩ = some (.int .u8 a0_22) := (blk_cell BK111.out 22).trans rfl
            have hcz36_23 : wc.cell? ⟨gb111, 23, none⟩ = some (.int .u8 a0_23) := (blk_cell BK111.out 23).trans rfl
            have hcz36_24 : wc.cell? ⟨gb111, 24, none⟩ = some (.int .u8 a0_24) := (blk_cell BK111.out 24).trans rfl
            have hfz36_0 := blk_frozen BK111.out 0
            have hfz36_1 := blk_frozen BK111.out 1
            have hfz36_2 := blk_frozen BK111.out 2
            have hfz36_3 := blk_frozen BK111.out 3
            have hfz36_4 := blk_frozen BK111.out 4
            have hfz36_5 := blk_frozen BK111.out 5
            have hfz36_6 := blk_frozen BK111.out 6
            have hfz36_7 := blk_frozen BK111.out 7
            have hfz36_8 := blk_frozen BK111.out 8
            have hfz36_9 := blk_frozen BK111.out 9
            have hfz36_10 := blk_frozen BK111.out 10
            have hfz36_11 := blk_frozen BK111.out 11
            have hfz36_12 := blk_frozen BK111.out 12
            have hfz36_13 := blk_frozen BK111.out 13
            have hfz36_14 := blk_frozen BK111.out 14
            have hfz36_15 := blk_frozen BK111.out 15
            have hfz36_16 := blk_frozen BK111.out 16
            have hfz36_17 := blk_frozen BK111.out 17
            have hfz36_18 := blk_frozen BK111.out 18
            have hfz36_19 := blk_frozen BK111.out 19
            have hfz36_20 := blk_frozen BK111.out 20
            have hfz36_21 := blk_frozen BK111.out 21
            have hfz36_22 := blk_frozen BK111.out 22
            have hfz36_23 := blk_frozen BK111.out 23
            have hfz36_24 := blk_frozen BK111.out 24
            go_wp2
            go_ret
            exact ⟨by first | rfl | (simp [errW_none, errW_some] <;> rfl) | (simp [*, errW_none, errW_some] <;> rfl), by repeat (first | (with_reducible first | exact HB.out | apply below_alloc | apply pw_below_drewN | apply below_drew1 | refine below_set ?_ GE111.out) | exact HB.out)⟩

end Go.Proofs.YtbldecdipicddaaDoor.QS
