-- Written by qprint.py (a program of this session) out of the translation's print. Not trusted: Lean checks it.
import Derived.Test.YtbldecdipicddaaDoorQSx0
namespace Go.Proofs.YtbldecdipicddaaDoor.QS
open Go.RowKit Go.Proofs.YtbldecdipicddaaDoorW.PrintWords Go.Proofs.YtbldecdipicddaaDoorW.PrintLast Go.Proofs.YtbldecdipicddaaDoorW.PrintMore
attribute [local go_sem] max2_int min2_int max_two min_two max_three min_three max_four min_four   -- for this text's walks alone
set_option linter.unusedVariables false
set_option linter.unusedSimpArgs false

/-! ### header_Check: function 25 -/
mutual
def header_Check.j0 : Nat → Bool → Int → Int → Int → Int → Int → Int → Int → Int → Int → Int → Int → Int → Int → Int → Int → Int → Int → Int → Int → Int → Int → Int → Int → Int → Int → Option (Int)
  | 0, _, _, _, _, _, _, _, _, _, _, _, _, _, _, _, _, _, _, _, _, _, _, _, _, _, _ => none
  | k + 1, x3, x102000, x102001, x102002, x102003, x102004, x102005, x102006, x102007, x102008, x102009, x102010, x102011, x102012, x102013, x102014, x102015, x102016, x102017, x102018, x102019, x102020, x102021, x102022, x102023, x102024 => if x3 = true then (header_Check.j1 k x3 x102000 x102001 x102002 x102003 x102004 x102005 x102006 x102007 x102008 x102009 x102010 x102011 x102012 x102013 x102014 x102015 x102016 x102017 x102018 x102019 x102020 x102021 x102022 x102023 x102024) else (if x102003 < 1 then (header_Check.j1 k true x102000 x102001 x102002 x102003 x102004 x102005 x102006 x102007 x102008 x102009 x102010 x102011 x102012 x102013 x102014 x102015 x102016 x102017 x102018 x102019 x102020 x102021 x102022 x102023 x102024) else (if x102003 > 4096 then (header_Check.j1 k (decide (x102003 > 4096)) x102000 x102001 x102002 x102003 x102004 x102005 x102006 x102007 x102008 x102009 x102010 x102011 x102012 x102013 x102014 x102015 x102016 x102017 x102018 x102019 x102020 x102021 x102022 x102023 x102024) else (if x102002 < 0 then (header_Check.j1 k true x102000 x102001 x102002 x102003 x102004 x102005 x102006 x102007 x102008 x102009 x102010 x102011 x102012 x102013 x102014 x102015 x102016 x102017 x102018 x102019 x102020 x102021 x102022 x102023 x102024) else (header_Check.j1 k (decide (x102002 > (wrap64 (8192 - x102003)))) x102000 x102001 x102002 x102003 x102004 x102005 x102006 x102007 x102008 x102009 x102010 x102011 x102012 x102013 x102014 x102015 x102016 x102017 x102018 x102019 x102020 x102021 x102022 x102023 x102024))))
def header_Check.j1 : Nat → Bool → Int → Int → Int → Int → Int → Int → Int → Int → Int → Int → Int → Int → Int → Int → Int → Int → Int → Int → Int → Int → Int → Int → Int → Int → Int → Option (Int)
  | 0, _, _, _, _, _, _, _, _, _, _, _, _, _, _, _, _, _, _, _, _, _, _, _, _, _, _ => none
  | k + 1, x3, x102000, x102001, x102002, x102003, x102004, x102005, x102006, x102007, x102008, x102009, x102010, x102011, x102012, x102013, x102014, x102015, x102016, x102017, x102018, x102019, x102020, x102021, x102022, x102023, x102024 => if x3 = true then (some 8) else (if x102000 = 1 then (header_Check.j2 k (x102004 == x102003) x102000 x102001 x102002 x102003 x102004 x102005 x102006 x102007 x102008 x102009 x102010 x102011 x102012 x102013 x102014 x102015 x102016 x102017 x102018 x102019 x102020 x102021 x102022 x102023 x102024) else (header_Check.j2 k false x102000 x102001 x102002 x102003 x102004 x102005 x102006 x102007 x102008 x102009 x102010 x102011 x102012 x102013 x102014 x102015 x102016 x102017 x102018 x102019 x102020 x102021 x102022 x102023 x102024))
def header_Check.j2 : Nat → Bool → Int → Int → Int → Int → Int → Int → Int → Int → Int → Int → Int → Int → Int → Int → Int → Int → Int → Int → Int → Int → Int → Int → Int → Int → Int → Option (Int)
  | 0, _, _, _, _, _, _, _, _, _, _, _, _, _, _, _, _, _, _, _, _, _, _, _, _, _, _ => none
  | k + 1, x31, x102000, x102001, x102002, x102003, x102004, x102005, x102006, x102007, x102008, x102009, x102010, x102011, x102012, x102013, x102014, x102015, x102016, x102017, x102018, x102019, x102020, x102021, x102022, x102023, x102024 => if x31 = true then (some 0) else (if x102000 = 2 then (if x102004 > 0 then (if x102004 < x102003 then (some 0) else (some 8)) else (some 8)) else (some 8))
end
def header_Check.f (k : Nat) (a0_0 : Int) (a0_1 : Int) (a0_2 : Int) (a0_3 : Int) (a0_4 : Int) (a0_5 : Int) (a0_6 : Int) (a0_7 : Int) (a0_8 : Int) (a0_9 : Int) (a0_10 : Int) (a0_11 : Int) (a0_12 : Int) (a0_13 : Int) (a0_14 : Int) (a0_15 : Int) (a0_16 : Int) (a0_17 : Int) (a0_18 : Int) (a0_19 : Int) (a0_20 : Int) (a0_21 : Int) (a0_22 : Int) (a0_23 : Int) (a0_24 : Int) : Option (Int) := if a0_1 < 0 then (header_Check.j0 k true a0_0 a0_1 a0_2 a0_3 a0_4 a0_5 a0_6 a0_7 a0_8 a0_9 a0_10 a0_11 a0_12 a0_13 a0_14 a0_15 a0_16 a0_17 a0_18 a0_19 a0_20 a0_21 a0_22 a0_23 a0_24) else (header_Check.j0 k (decide (a0_1 ≥ 16)) a0_0 a0_1 a0_2 a0_3 a0_4 a0_5 a0_6 a0_7 a0_8 a0_9 a0_10 a0_11 a0_12 a0_13 a0_14 a0_15 a0_16 a0_17 a0_18 a0_19 a0_20 a0_21 a0_22 a0_23 a0_24)
theorem header_Check.mono_l : ∀ k, (∀ y0 y1 y2 y3 y4 y5 y6 y7 y8 y9 y10 y11 y12 y13 y14 y15 y16 y17 y18 y19 y20 y21 y22 y23 y24 y25, LeO (header_Check.j0 k y0 y1 y2 y3 y4 y5 y6 y7 y8 y9 y10 y11 y12 y13 y14 y15 y16 y17 y18 y19 y20 y21 y22 y23 y24 y25) (header_Check.j0 (k + 1) y0 y1 y2 y3 y4 y5 y6 y7 y8 y9 y10 y11 y12 y13 y14 y15 y16 y17 y18 y19 y20 y21 y22 y23 y24 y25)) ∧ (∀ y0 y1 y2 y3 y4 y5 y6 y7 y8 y9 y10 y11 y12 y13 y14 y15 y16 y17 y18 y19 y20 y21 y22 y23 y24 y25, LeO (header_Check.j1 k y0 y1 y2 y3 y4 y5 y6 y7 y8 y9 y10 y11 y12 y13 y14 y15 y16 y17 y18 y19 y20 y21 y22 y23 y24 y25) (header_Check.j1 (k + 1) y0 y1 y2 y3 y4 y5 y6 y7 y8 y9 y10 y11 y12 y13 y14 y15 y16 y17 y18 y19 y20 y21 y22 y23 y24 y25)) ∧ (∀ y0 y1 y2 y3 y4 y5 y6 y7 y8 y9 y10 y11 y12 y13 y14 y15 y16 y17 y18 y19 y20 y21 y22 y23 y24 y25, LeO (header_Check.j2 k y0 y1 y2 y3 y4 y5 y6 y7 y8 y9 y10 y11 y12 y13 y14 y15 y16 y17 y18 y19 y20 y21 y22 y23 y24 y25) (header_Check.j2 (k + 1) y0 y1 y2 y3 y4 y5 y6 y7 y8 y9 y10 y11 y12 y13 y14 y15 y16 y17 y18 y19 y20 y21 y22 y23 y24 y25))
  | 0 => ⟨fun _ _ _ _ _ _ _ _ _ _ _ _ _ _ _ _ _ _ _ _ _ _ _ _ _ _ r h => by simp [header_Check.j0] at h, fun _ _ _ _ _ _ _ _ _ _ _ _ _ _ _ _ _ _ _ _ _ _ _ _ _ _ r h => by simp [header_Check.j1] at h, fun _ _ _ _ _ _ _ _ _ _ _ _ _ _ _ _ _ _ _ _ _ _ _ _ _ _ r h => by simp [header_Check.j2] at h⟩
  | k + 1 => by
    obtain ⟨ih0, ih1, ih2⟩ := header_Check.mono_l k
    refine ⟨?_, ?_, ?_⟩
    · intro y0 y1 y2 y3 y4 y5 y6 y7 y8 y9 y10 y11 y12 y13 y14 y15 y16 y17 y18 y19 y20 y21 y22 y23 y24 y25
      unfold header_Check.j0
      repeat' first
      | (with_reducible exact ih0 _ _ _ _ _ _ _ _ _ _ _ _ _ _ _ _ _ _ _ _ _ _ _ _ _ _)
      | (with_reducible exact ih1 _ _ _ _ _ _ _ _ _ _ _ _ _ _ _ _ _ _ _ _ _ _ _ _ _ _)
      | (with_reducible exact ih2 _ _ _ _ _ _ _ _ _ _ _ _ _ _ _ _ _ _ _ _ _ _ _ _ _ _)
      | (with_reducible exact LeO.refl _)
      | (with_reducible exact LeO.none _)
      | (with_reducible refine LeO.ite ?_ ?_)
      | (with_reducible refine LeO.bind ?_ (fun _ => ?_))
      | exact ih0 _ _ _ _ _ _ _ _ _ _ _ _ _ _ _ _ _ _ _ _ _ _ _ _ _ _
      | exact ih1 _ _ _ _ _ _ _ _ _ _ _ _ _ _ _ _ _ _ _ _ _ _ _ _ _ _
      | exact ih2 _ _ _ _ _ _ _ _ _ _ _ _ _ _ _ _ _ _ _ _ _ _ _ _ _ _
      | exact LeO.none _
      | refine LeO.ite ?_ ?_
      | refine LeO.bind ?_ (fun _ => ?_)
    · intro y0 y1 y2 y3 y4 y5 y6 y7 y8 y9 y10 y11 y12 y13 y14 y15 y16 y17 y18 y19 y20 y21 y22 y23 y24 y25
      unfold header_Check.j1
      repeat' first
      | (with_reducible exact ih0 _ _ _ _ _ _ _ _ _ _ _ _ _ _ _ _ _ _ _ _ _ _ _ _ _ _)
      | (with_reducible exact ih1 _ _ _ _ _ _ _ _ _ _ _ _ _ _ _ _ _ _ _ _ _ _ _ _ _ _)
      | (with_reducible exact ih2 _ _ _ _ _ _ _ _ _ _ _ _ _ _ _ _ _ _ _ _ _ _ _ _ _ _)
      | (with_reducible exact LeO.refl _)
      | (with_reducible exact LeO.none _)
      | (with_reducible refine LeO.ite ?_ ?_)
      | (with_reducible refine LeO.bind ?_ (fun _ => ?_))
      | exact ih0 _ _ _ _ _ _ _ _ _ _ _ _ _ _ _ _ _ _ _ _ _ _ _ _ _ _
      | exact ih1 _ _ _ _ _ _ _ _ _ _ _ _ _ _ _ _ _ _ _ _ _ _ _ _ _ _
      | exact ih2 _ _ _ _ _ _ _ _ _ _ _ _ _ _ _ _ _ _ _ _ _ _ _ _ _ _
      | exact LeO.none _
      | refine LeO.ite ?_ ?_
      | refine LeO.bind ?_ (fun _ => ?_)
    · intro y0 y1 y2 y3 y4 y5 y6 y7 y8 y9 y10 y11 y12 y13 y14 y15 y16 y17 y18 y19 y20 y21 y22 y23 y24 y25
      unfold header_Check.j2
      repeat' first
      | (with_reducible exact ih0 _ _ _ _ _ _ _ _ _ _ _ _ _ _ _ _ _ _ _ _ _ _ _ _ _ _)
      | (with_reducible exact ih1 _ _ _ _ _ _ _ _ _ _ _ _ _ _ _ _ _ _ _ _ _ _ _ _ _ _)
      | (with_reducible exact ih2 _ _ _ _ _ _ _ _ _ _ _ _ _ _ _ _ _ _ _ _ _ _ _ _ _ _)
      | (with_reducible exact LeO.refl _)
      | (with_reducible exact LeO.none _)
      | (with_reducible refine LeO.ite ?_ ?_)
      | (with_reducible refine LeO.bind ?_ (fun _ => ?_))
      | exact ih0 _ _ _ _ _ _ _ _ _ _ _ _ _ _ _ _ _ _ _ _ _ _ _ _ _ _
      | exact ih1 _ _ _ _ _ _ _ _ _ _ _ _ _ _ _ _ _ _ _ _ _ _ _ _ _ _
      | exact ih2 _ _ _ _ _ _ _ _ _ _ _ _ _ _ _ _ _ _ _ _ _ _ _ _ _ _
      | exact LeO.none _
      | refine LeO.ite ?_ ?_
      | refine LeO.bind ?_ (fun _ => ?_)
theorem header_Check.mono : ∀ a0 a1 a2 a3 a4 a5 a6 a7 a8 a9 a10 a11 a12 a13 a14 a15 a16 a17 a18 a19 a20 a21 a22 a23 a24 k, LeO (header_Check.f k a0 a1 a2 a3 a4 a5 a6 a7 a8 a9 a10 a11 a12 a13 a14 a15 a16 a17 a18 a19 a20 a21 a22 a23 a24) (header_Check.f (k + 1) a0 a1 a2 a3 a4 a5 a6 a7 a8 a9 a10 a11 a12 a13 a14 a15 a16 a17 a18 a19 a20 a21 a22 a23 a24) := by
  intro a0 a1 a2 a3 a4 a5 a6 a7 a8 a9 a10 a11 a12 a13 a14 a15 a16 a17 a18 a19 a20 a21 a22 a23 a24 k
  obtain ⟨ih0, ih1, ih2⟩ := header_Check.mono_l k
  unfold header_Check.f
  repeat' first
      | (with_reducible exact ih0 _ _ _ _ _ _ _ _ _ _ _ _ _ _ _ _ _ _ _ _ _ _ _ _ _ _)
      | (with_reducible exact ih1 _ _ _ _ _ _ _ _ _ _ _ _ _ _ _ _ _ _ _ _ _ _ _ _ _ _)
      | (with_reducible exact ih2 _ _ _ _ _ _ _ _ _ _ _ _ _ _ _ _ _ _ _ _ _ _ _ _ _ _)
      | (with_reducible exact LeO.refl _)
      | (with_reducible exact LeO.none _)
      | (with_reducible refine LeO.ite ?_ ?_)
      | (with_reducible refine LeO.bind ?_ (fun _ => ?_))
      | exact ih0 _ _ _ _ _ _ _ _ _ _ _ _ _ _ _ _ _ _ _ _ _ _ _ _ _ _
      | exact ih1 _ _ _ _ _ _ _ _ _ _ _ _ _ _ _ _ _ _ _ _ _ _ _ _ _ _
      | exact ih2 _ _ _ _ _ _ _ _ _ _ _ _ _ _ _ _ _ _ _ _ _ _ _ _ _ _
      | exact LeO.none _
      | refine LeO.ite ?_ ?_
      | refine LeO.bind ?_ (fun _ => ?_)
set_option maxHeartbeats 8000000 in
set_option maxRecDepth 100000 in
theorem header_Check.calls (k : Nat) (a0_0 : Int) (a0_1 : Int) (a0_2 : Int) (a0_3 : Int) (a0_4 : Int) (a0_5 : Int) (a0_6 : Int) (a0_7 : Int) (a0_8 : Int) (a0_9 : Int) (a0_10 : Int) (a0_11 : Int) (a0_12 : Int) (a0_13 : Int) (a0_14 : Int) (a0_15 : Int) (a0_16 : Int) (a0_17 : Int) (a0_18 : Int) (a0_19 : Int) (a0_20 : Int) (a0_21 : Int) (a0_22 : Int) (a0_23 : Int) (a0_24 : Int) (r : Int) (w : World) (h : header_Check.f k a0_0 a0_1 a0_2 a0_3 a0_4 a0_5 a0_6 a0_7 a0_8 a0_9 a0_10 a0_11 a0_12 a0_13 a0_14 a0_15 a0_16 a0_17 a0_18 a0_19 a0_20 a0_21 a0_22 a0_23 a0_24 = some r) :
    Calls Tryd.prog 25 #[.agg #[.int .u8 a0_0, .int .i64 a0_1, .int .i64 a0_2, .int .i64 a0_3, .int .i64 a0_4, .int .u8 a0_5, .int .u8 a0_6, .int .u8 a0_7, .int .u8 a0_8, .int .u8 a0_9, .int .u8 a0_10, .int .u8 a0_11, .int .u8 a0_12, .int .u8 a0_13, .int .u8 a0_14, .int .u8 a0_15, .int .u8 a0_16, .int .u8 a0_17, .int .u8 a0_18, .int .u8 a0_19, .int .u8 a0_20, .int .u8 a0_21, .int .u8 a0_22, .int .u8 a0_23, .int .u8 a0_24]] w fun e w' => e = .returned (.int .i64 r) ∧ Below w.heap.size w w' := by
  have hu25 := Tryd.underlying25
  have HB := Aside0.mk (Below.refl w.heap.size w)
  have H : (if a0_1 < 0 then (header_Check.j0 k true a0_0 a0_1 a0_2 a0_3 a0_4 a0_5 a0_6 a0_7 a0_8 a0_9 a0_10 a0_11 a0_12 a0_13 a0_14 a0_15 a0_16 a0_17 a0_18 a0_19 a0_20 a0_21 a0_22 a0_23 a0_24) else (header_Check.j0 k (decide (a0_1 ≥ 16)) a0_0 a0_1 a0_2 a0_3 a0_4 a0_5 a0_6 a0_7 a0_8 a0_9 a0_10 a0_11 a0_12 a0_13 a0_14 a0_15 a0_16 a0_17 a0_18 a0_19 a0_20 a0_21 a0_22 a0_23 a0_24)) = some r := h
  clear h
  have HC2 := Aside0.mk H
  clear H
  go_enter Tryd.func25, Tryd.ntmps25
  go_upto_region 1 with (first | ((with_reducible refine gate_dst (N := 1) rfl ?_); refine box_event ?hg (N := 1) ?hd (cs := #[.int .u8 a0_0, .int .i64 a0_1, .int .i64 a0_2, .int .i64 a0_3, .int .i64 a0_4, .int .u8 a0_5, .int .u8 a0_6, .int .u8 a0_7, .int .u8 a0_8, .int .u8 a0_9, .int .u8 a0_10, .int .u8 a0_11, .int .u8 a0_12, .int .u8 a0_13, .int .u8 a0_14, .int .u8 a0_15, .int .u8 a0_16, .int .u8 a0_17, .int .u8 a0_18, .int .u8 a0_19, .int .u8 a0_20, .int .u8 a0_21, .int .u8 a0_22, .int .u8 a0_23, .int .u8 a0_24]) (t := 25) ?hr ?_; (case hd => rfl); (case hg => rfl); (case hr => first | (go_simp; done) | (go_simp; rfl)); intro gb101 hg w3 hbox hb; have n0_ := Aside0.mk (below_step (by repeat (first | (with_reducible first | exact HB.out | apply below_alloc | apply pw_below_drewN | apply below_drew1) | exact HB.out)) hb); have n1_ := Aside0.mk (hbox); have n2_ := Aside0.mk ((by rw [hg]; exact (below_size (by repeat (first | (with_reducible first | exact HB.out | apply below_alloc | apply pw_below_drewN | apply below_drew1) | exact HB.out))) : w.heap.size ≤ gb101)); have n3_ := Aside0.mk ((by rw [hg]; exact (below_size (by repeat (first | (with_reducible first | exact HB.out | apply below_alloc | apply pw_below_drewN | apply below_drew1) | exact HB.out))) : w.heap.size ≤ gb101)); clear HB; have HB := n0_; have BK101 := n1_; have GW101 := n2_; have GE101 := n3_; clear n0_ n1_ n2_ n3_; clear hb hbox hg))
  (try simp only [Act.put, List.setIfInBounds_toArray, List.set_cons_zero, List.set_cons_succ])
  go_cut [3] (fun v3 wc => ∃ (kq : Nat) (x3_1 : Bool), v3 = .bool x3_1 ∧ Aside0 (header_Check.j0 kq x3_1 a0_0 a0_1 a0_2 a0_3 a0_4 a0_5 a0_6 a0_7 a0_8 a0_9 a0_10 a0_11 a0_12 a0_13 a0_14 a0_15 a0_16 a0_17 a0_18 a0_19 a0_20 a0_21 a0_22 a0_23 a0_24 = some r) ∧ Aside0 (kq ≤ k) ∧ Aside0 (wc.heap[gb101]? = some (.cells #[.int .u8 a0_0, .int .i64 a0_1, .int .i64 a0_2, .int .i64 a0_3, .int .i64 a0_4, .int .u8 a0_5, .int .u8 a0_6, .int .u8 a0_7, .int .u8 a0_8, .int .u8 a0_9, .int .u8 a0_10, .int .u8 a0_11, .int .u8 a0_12, .int .u8 a0_13, .int .u8 a0_14, .int .u8 a0_15, .int .u8 a0_16, .int .u8 a0_17, .int .u8 a0_18, .int .u8 a0_19, .int .u8 a0_20, .int .u8 a0_21, .int .u8 a0_22, .int .u8 a0_23, .int .u8 a0_24] 25 (0, 0))) ∧ Aside0 (Below w.heap.size w wc))
  case first =>
    have H := HC2.out
    clear HC2
    by_cases c4 : a0_1 < 0
    · rw [if_pos c4] at H
      have c4b0 : decide (a0_1 < 0) = true := decide_eq_true c4
      clear c4
      (first | rw [c4b0] | (simp only [i64_w, i32_w]; rw [c4b0]) | skip)
      have H' := Aside0.mk H
      clear H
      have hcz5_0 : w3.cell? ⟨gb101, 0, none⟩ = some (.int .u8 a0_0) := (blk_cell BK101.out 0).trans rfl
      have hcz5_1 : w3.cell? ⟨gb101, 1, none⟩ = some (.int .i64 a0_1) := (blk_cell BK101.out 1).trans rfl
      have hcz5_2 : w3.cell? ⟨gb101, 2, none⟩ = some (.int .i64 a0_2) := (blk_cell BK101.out 2).trans rfl
      have hcz5_3 : w3.cell? ⟨gb101, 3, none⟩ = some (.int .i64 a0_3) := (blk_cell BK101.out 3).trans rfl
      have hcz5_4 : w3.cell? ⟨gb101, 4, none⟩ = some (.int .i64 a0_4) := (blk_cell BK101.out 4).trans rfl
      have hcz5_5 : w3.cell? ⟨gb101, 5, none⟩ = some (.int .u8 a0_5) := (blk_cell BK101.out 5).trans rfl
      have hcz5_6 : w3.cell? ⟨gb101, 6, none⟩ = some (.int .u8 a0_6) := (blk_cell BK101.out 6).trans rfl
      have hcz5_7 : w3.cell? ⟨gb101, 7, none⟩ = some (.int .u8 a0_7) := (blk_cell BK101.out 7).trans rfl
      have hcz5_8 : w3.cell? ⟨gb101, 8, none⟩ = some (.int .u8 a0_8) := (blk_cell BK101.out 8).trans rfl
      have hcz5_9 : w3.cell? ⟨gb101, 9, none⟩ = some (.int .u8 a0_9) := (blk_cell BK101.out 9).trans rfl
      have hcz5_10 : w3.cell? ⟨gb101, 10, none⟩ = some (.int .u8 a0_10) := (blk_cell BK101.out 10).trans rfl
      have hcz5_11 : w3.cell? ⟨gb101, 11, none⟩ = some (.int .u8 a0_11) := (blk_cell BK101.out 11).trans rfl
      have hcz5_12 : w3.cell? ⟨gb101, 12, none⟩ = some (.int .u8 a0_12) := (blk_cell BK101.out 12).trans rfl
      have hcz5_13 : w3.cell? ⟨gb101, 13, none⟩ = some (.int .u8 a0_13) := (blk_cell BK101.out 13).trans rfl
      have hcz5_14 : w3.cell? ⟨gb101, 14, none⟩ = some (.int .u8 a0_14) := (blk_cell BK101.out 14).trans rfl
      have hcz5_15 : w3.cell? ⟨gb101, 15, none⟩ = some (.int .u8 a0_15) := (blk_cell BK101.out 15).trans rfl
      have hcz5_16 : w3.cell? ⟨gb101, 16, none⟩ = some (.int .u8 a0_16) := (blk_cell BK101.out 16).trans rfl
      have hcz5_17 : w3.cell? ⟨gb101, 17, none⟩ = some (.int .u8 a0_17) := (blk_cell BK101.out 17).trans rfl
      have hcz5_18 : w3.cell? ⟨gb101, 18, none⟩ = some (.int .u8 a0_18) := (blk_cell BK101.out 18).trans rfl
      have hcz5_19 : w3.cell? ⟨gb101, 19, none⟩ = some (.int .u8 a0_19) := (blk_cell BK101.out 19).trans rfl
      have hcz5_20 : w3.cell? ⟨gb101, 20, none⟩ = some (.int .u8 a0_20) := (blk_cell BK101.out 20).trans rfl
      have hcz5_21 : w3.cell? ⟨gb101, 21, none⟩ = some (.int .u8 a0_21) := (blk_cell BK101.out 21).trans rfl
      have hcz5_22 : w3.cell? ⟨gb101, 22, none⟩ = some (.int .u8 a0_22) := (blk_cell BK101.out 22).trans rfl
      have hcz5_23 : w3.cell? ⟨gb101, 23, none⟩ = some (.int .u8 a0_23) := (blk_cell BK101.out 23).trans rfl
      have hcz5_24 : w3.cell? ⟨gb101, 24, none⟩ = some (.int .u8 a0_24) := (blk_cell BK101.out 24).trans rfl
      have hfz5_0 := blk_frozen BK101.out 0
      have hfz5_1 := blk_frozen BK101.out 1
      have hfz5_2 := blk_frozen BK101.out 2
      have hfz5_3 := blk_frozen BK101.out 3
      have hfz5_4 := blk_frozen BK101.out 4
      have hfz5_5 := blk_frozen BK101.out 5
      have hfz5_6 := blk_frozen BK101.out 6
      have hfz5_7 := blk_frozen BK101.out 7
      have hfz5_8 := blk_frozen BK101.out 8
      have hfz5_9 := blk_frozen BK101.out 9
      have hfz5_10 := blk_frozen BK101.out 10
      have hfz5_11 := blk_frozen BK101.out 11
      have hfz5_12 := blk_frozen BK101.out 12
      have hfz5_13 := blk_frozen BK101.out 13
      have hfz5_14 := blk_frozen BK101.out 14
      have hfz5_15 := blk_frozen BK101.out 15
      have hfz5_16 := blk_frozen BK101.out 16
      have hfz5_17 := blk_frozen BK101.out 17
      have hfz5_18 := blk_frozen BK101.out 18
      have hfz5_19 := blk_frozen BK101.out 19
      have hfz5_20 := blk_frozen BK101.out 20
      have hfz5_21 := blk_frozen BK101.out 21
      have hfz5_22 := blk_frozen BK101.out 22
      have hfz5_23 := blk_frozen BK101.out 23
      have hfz5_24 := blk_frozen BK101.out 24
      go_wp2
      go_meet
      case rel => exact ⟨_, (true), (by first | rfl | (simp; done) | (simp [*]; done)), H', ⟨by first | omega | exact Nat.le_refl _⟩, ⟨by (with_reducible repeat (first | refine blk_drewN ?_ _ | refine blk_drew ?_ | refine blk_alloc ?_ _)); exact BK101.out⟩, ⟨by repeat (first | (with_reducible first | exact HB.out | apply below_alloc | apply pw_below_drewN | apply below_drew1 | refine below_set ?_ GE101.out) | exact HB.out)⟩⟩
    · rw [if_neg c4] at H
      have c4b0 : decide (a0_1 < 0) = false := decide_eq_false c4
      clear c4
      (first | rw [c4b0] | (simp only [i64_w, i32_w]; rw [c4b0]) | skip)
      have H' := Aside0.mk H
      clear H
      have hcz6_0 : w3.cell? ⟨gb101, 0, none⟩ = some (.int .u8 a0_0) := (blk_cell BK101.out 0).trans rfl
      have hcz6_1 : w3.cell? ⟨gb101, 1, none⟩ = some (.int .i64 a0_1) := (blk_cell BK101.out 1).trans rfl
      have hcz6_2 : w3.cell? ⟨gb101, 2, none⟩ = some (.int .i64 a0_2) := (blk_cell BK101.out 2).trans rfl
      have hcz6_3 : w3.cell? ⟨gb101, 3, none⟩ = some (.int .i64 a0_3) := (blk_cell BK101.out 3).trans rfl
      have hcz6_4 : w3.cell? ⟨gb101, 4, none⟩ = some (.int .i64 a0_4) := (blk_cell BK101.out 4).trans rfl
      have hcz6_5 : w3.cell? ⟨gb101, 5, none⟩ = some (.int .u8 a0_5) := (blk_cell BK101.out 5).trans rfl
      have hcz6_6 : w3.cell? ⟨gb101, 6, none⟩ = some (.int .u8 a0_6) := (blk_cell BK101.out 6).trans rfl
      have hcz6_7 : w3.cell? ⟨gb101, 7, none⟩ = some (.int .u8 a0_7) := (blk_cell BK101.out 7).trans rfl
      have hcz6_8 : w3.cell? ⟨gb101, 8, none⟩ = some (.int .u8 a0_8) := (blk_cell BK101.out 8).trans rfl
      have hcz6_9 : w3.cell? ⟨gb101, 9, none⟩ = some (.int .u8 a0_9) := (blk_cell BK101.out 9).trans rfl
      have hcz6_10 : w3.cell? ⟨gb101, 10, none⟩ = some (.int .u8 a0_10) := (blk_cell BK101.out 10).trans rfl
      have hcz6_11 : w3.cell? ⟨gb101, 11, none⟩ = some (.int .u8 a0_11) := (blk_cell BK101.out 11).trans rfl
      have hcz6_12 : w3.cell? ⟨gb101, 12, none⟩ = some (.int .u8 a0_12) := (blk_cell BK101.out 12).trans rfl
      have hcz6_13 : w3.cell? ⟨gb101, 13, none⟩ = some (.int .u8 a0_13) := (blk_cell BK101.out 13).trans rfl
      have hcz6_14 : w3.cell? ⟨gb101, 14, none⟩ = some (.int .u8 a0_14) := (blk_cell BK101.out 14).trans rfl
      have hcz6_15 : w3.cell? ⟨gb101, 15, none⟩ = some (.int .u8 a0_15) := (blk_cell BK101.out 15).trans rfl
      have hcz6_16 : w3.cell? ⟨gb101, 16, none⟩ = some (.int .u8 a0_16) := (blk_cell BK101.out 16).trans rfl
      have hcz6_17 : w3.cell? ⟨gb101, 17, none⟩ = some (.int .u8 a0_17) := (blk_cell BK101.out 17).trans rfl
      have hcz6_18 : w3.cell? ⟨gb101, 18, none⟩ = some (.int .u8 a0_18) := (blk_cell BK101.out 18).trans rfl
      have hcz6_19 : w3.cell? ⟨gb101, 19, none⟩ = some (.int .u8 a0_19) := (blk_cell BK101.out 19).trans rfl
      have hcz6_20 : w3.cell? ⟨gb101, 20, none⟩ = some (.int .u8 a0_20) := (blk_cell BK101.out 20).trans rfl
      have hcz6_21 : w3.cell? ⟨gb101, 21, none⟩ = some (.int .u8 a0_21) := (blk_cell BK101.out 21).trans rfl
      have hcz6_22 : w3.cell? ⟨gb101, 22, none⟩ = some (.int .u8 a0_22) := (blk_cell BK101.out 22).trans rfl
      have hcz6_23 : w3.cell? ⟨gb101, 23, none⟩ = some (.int .u8 a0_23) := (blk_cell BK101.out 23).trans rfl
      have hcz6_24 : w3.cell? ⟨gb101, 24, none⟩ = some (.int .u8 a0_24) := (blk_cell BK101.out 24).trans rfl
      have hfz6_0 := blk_frozen BK101.out 0
      have hfz6_1 := blk_frozen BK101.out 1
      have hfz6_2 := blk_frozen BK101.out 2
      have hfz6_3 := blk_frozen BK101.out 3
      have hfz6_4 := blk_frozen BK101.out 4
      have hfz6_5 := blk_frozen BK101.out 5
      have hfz6_6 := blk_frozen BK101.out 6
      have hfz6_7 := blk_frozen BK101.out 7
      have hfz6_8 := blk_frozen BK101.out 8
      have hfz6_9 := blk_frozen BK101.out 9
      have hfz6_10 := blk_frozen BK101.out 10
      have hfz6_11 := blk_frozen BK101.out 11
      have hfz6_12 := blk_frozen BK101.out 12
      have hfz6_13 := blk_frozen BK101.out 13
      have hfz6_14 := blk_frozen BK101.out 14
      have hfz6_15 := blk_frozen BK101.out 15
      have hfz6_16 := blk_frozen BK101.out 16
      have hfz6_17 := blk_frozen BK101.out 17
      have hfz6_18 := blk_frozen BK101.out 18
      have hfz6_19 := blk_frozen BK101.out 19
      have hfz6_20 := blk_frozen BK101.out 20
      have hfz6_21 := blk_frozen BK101.out 21
      have hfz6_22 := blk_frozen BK101.out 22
      have hfz6_23 := blk_frozen BK101.out 23
      have hfz6_24 := blk_frozen BK101.out 24
      go_wp2
      go_meet
      case rel => exact ⟨_, (decide (a0_1 ≥ 16)), (by first | rfl | (simp; done) | (simp [*]; done)), H', ⟨by first | omega | exact Nat.le_refl _⟩, ⟨by (with_reducible repeat (first | refine blk_drewN ?_ _ | refine blk_drew ?_ | refine blk_alloc ?_ _)); exact BK101.out⟩, ⟨by repeat (first | (with_reducible first | exact HB.out | apply below_alloc | apply pw_below_drewN | apply below_drew1 | refine below_set ?_ GE101.out) | exact HB.out)⟩⟩
  case rest =>
    clear HC2
    try clear c2
    try clear p2
    try clear c4
    try clear c4b0
    try clear hcz5_0
    try clear hcz5_1
    try clear hcz5_10
    try clear hcz5_11
    try clear hcz5_12
    try clear hcz5_13
    try clear hcz5_14
    try clear hcz5_15
    try clear hcz5_16
    try clear hcz5_17
    try clear hcz5_18
    try clear hcz5_19
    try clear hcz5_2
    try clear hcz5_20
    try clear hcz5_21
    try clear hcz5_22
    try clear hcz5_23
    try clear hcz5_24
    try clear hcz5_3
    try clear hcz5_4
    try clear hcz5_5
    try clear hcz5_6
    try clear hcz5_7
    try clear hcz5_8
    try clear hcz5_9
    try clear hcz6_0
    try clear hcz6_1
    try clear hcz6_10
    try clear hcz6_11
    try clear hcz6_12
    try clear hcz6_13
    try clear hcz6_14
    try clear hcz6_15
    try clear hcz6_16
    try clear hcz6_17
    try clear hcz6_18
    try clear hcz6_19
    try clear hcz6_2
    try clear hcz6_20
    try clear hcz6_21
    try clear hcz6_22
    try clear hcz6_23
    try clear hcz6_24
    try clear hcz6_3
    try clear hcz6_4
    try clear hcz6_5
    try clear hcz6_6
    try clear hcz6_7
    try clear hcz6_8
    try clear hcz6_9
    try clear hfz5_0
    try clear hfz5_1
    try clear hfz5_10
    try clear hfz5_11
    try clear hfz5_12
    try clear hfz5_13
    try clear hfz5_14
    try clear hfz5_15
    try clear hfz5_16
    try clear hfz5_17
    try clear hfz5_18
    try clear hfz5_19
    try clear hfz5_2
    try clear hfz5_20
    try clear hfz5_21
    try clear hfz5_22
    try clear hfz5_23
    try clear hfz5_24
    try clear hfz5_3
    try clear hfz5_4
    try clear hfz5_5
    try clear hfz5_6
    try clear hfz5_7
    try clear hfz5_8
    try clear hfz5_9
    try clear hfz6_0
    try clear hfz6_1
    try clear hfz6_10
    try clear hfz6_11
    try clear hfz6_12
    try clear hfz6_13
    try clear hfz6_14
    try clear hfz6_15
    try clear hfz6_16
    try clear hfz6_17
    try clear hfz6_18
    try clear hfz6_19
    try clear hfz6_2
    try clear hfz6_20
    try clear hfz6_21
    try clear hfz6_22
    try clear hfz6_23
    try clear hfz6_24
    try clear hfz6_3
    try clear hfz6_4
    try clear hfz6_5
    try clear hfz6_6
    try clear hfz6_7
    try clear hfz6_8
    try clear hfz6_9
    obtain ⟨kq, x3_1, rfl, HA, HJ1, BK101, HB⟩ := hcut
    cases kq with
    | zero => exact absurd HA.out (by simp [header_Check.j0])
    | succ kj1 =>
      have H := HA.out
      clear HA
      simp only [header_Check.j0] at H
      have HC7 := Aside0.mk H
      clear H
      go_upto_if 3 with (fail)
      go_cut [3] (fun v3 wc => ∃ (kq : Nat) (x3_6 : Bool), v3 = .bool x3_6 ∧ Aside0 (header_Check.j1 kq x3_6 a0_0 a0_1 a0_2 a0_3 a0_4 a0_5 a0_6 a0_7 a0_8 a0_9 a0_10 a0_11 a0_12 a0_13 a0_14 a0_15 a0_16 a0_17 a0_18 a0_19 a0_20 a0_21 a0_22 a0_23 a0_24 = some r) ∧ Aside0 (kq ≤ kj1) ∧ Aside0 (wc.heap[gb101]? = some (.cells #[.int .u8 a0_0, .int .i64 a0_1, .int .i64 a0_2, .int .i64 a0_3, .int .i64 a0_4, .int .u8 a0_5, .int .u8 a0_6, .int .u8 a0_7, .int .u8 a0_8, .int .u8 a0_9, .int .u8 a0_10, .int .u8 a0_11, .int .u8 a0_12, .int .u8 a0_13, .int .u8 a0_14, .int .u8 a0_15, .int .u8 a0_16, .int .u8 a0_17, .int .u8 a0_18, .int .u8 a0_19, .int .u8 a0_20, .int .u8 a0_21, .int .u8 a0_22, .int .u8 a0_23, .int .u8 a0_24] 25 (0, 0))) ∧ Aside0 (Below w.heap.size w wc))
      case first =>
        have H := HC7.out
        clear HC7
        by_cases c8 : x3_1 = true
        · subst c8
          have H1 : (header_Check.j1 kj1 true a0_0 a0_1 a0_2 a0_3 a0_4 a0_5 a0_6 a0_7 a0_8 a0_9 a0_10 a0_11 a0_12 a0_13 a0_14 a0_15 a0_16 a0_17 a0_18 a0_19 a0_20 a0_21 a0_22 a0_23 a0_24) = some r := by rw [if_pos rfl] at H; exact H
          clear H
          have H := H1
          clear H1
          have H' := Aside0.mk H
          clear H
          go_wp2
          go_meet
          case rel => exact ⟨_, (true), (by first | rfl | (simp; done) | (simp [*]; done)), H', ⟨by have := HJ1.out; first | omega | exact Nat.le_refl _⟩, ⟨by (with_reducible repeat (first | refine blk_drewN ?_ _ | refine blk_drew ?_ | refine blk_alloc ?_ _)); exact BK101.out⟩, ⟨by repeat (first | (with_reducible first | exact HB.out | apply below_alloc | apply pw_below_drewN | apply below_drew1 | refine below_set ?_ GE101.out) | exact HB.out)⟩⟩
        · replace c8 := Bool.eq_false_iff.mpr c8
          subst c8
          have H1 : (if a0_3 < 1 then (header_Check.j1 kj1 true a0_0 a0_1 a0_2 a0_3 a0_4 a0_5 a0_6 a0_7 a0_8 a0_9 a0_10 a0_11 a0_12 a0_13 a0_14 a0_15 a0_16 a0_17 a0_18 a0_19 a0_20 a0_21 a0_22 a0_23 a0_24) else (if a0_3 > 4096 then (header_Check.j1 kj1 (decide (a0_3 > 4096)) a0_0 a0_1 a0_2 a0_3 a0_4 a0_5 a0_6 a0_7 a0_8 a0_9 a0_10 a0_11 a0_12 a0_13 a0_14 a0_15 a0_16 a0_17 a0_18 a0_19 a0_20 a0_21 a0_22 a0_23 a0_24) else (if a0_2 < 0 then (header_Check.j1 kj1 true a0_0 a0_1 a0_2 a0_3 a0_4 a0_5 a0_6 a0_7 a0_8 a0_9 a0_10 a0_11 a0_12 a0_13 a0_14 a0_15 a0_16 a0_17 a0_18 a0_19 a0_20 a0_21 a0_22 a0_23 a0_24) else (header_Check.j1 kj1 (decide (a0_2 > (wrap64 (8192 - a0_3)))) a0_0 a0_1 a0_2 a0_3 a0_4 a0_5 a0_6 a0_7 a0_8 a0_9 a0_10 a0_11 a0_12 a0_13 a0_14 a0_15 a0_16 a0_17 a0_18 a0_19 a0_20 a0_21 a0_22 a0_23 a0_24)))) = some r := by rw [if_neg (show ¬ (false = true) by decide)] at H; exact H
          clear H
          have H := H1
          clear H1
          by_cases c9 : a0_3 < 1
          · rw [if_pos c9] at H
            have c9b0 : decide (a0_3 < 1) = true := decide_eq_true c9
            clear c9
            (first | rw [c9b0] | (simp only [i64_w, i32_w]; rw [c9b0]) | skip)
            have H' := Aside0.mk H
            clear H
            have hcz10_0 : wc.cell? ⟨gb101, 0, none⟩ = some (.int .u8 a0_0) := (blk_cell BK101.out 0).trans rfl
            have hcz10_1 : wc.cell? ⟨gb101, 1, none⟩ = some (.int .i64 a0_1) := (blk_cell BK101.out 1).trans rfl
            have hcz10_2 : wc.cell? ⟨gb101, 2, none⟩ = some (.int .i64 a0_2) := (blk_cell BK101.out 2).trans rfl
            have hcz10_3 : wc.cell? ⟨gb101, 3, none⟩ = some (.int .i64 a0_3) := (blk_cell BK101.out 3).trans rfl
            have hcz10_4 : wc.cell? ⟨gb101, 4, none⟩ = some (.int .i64 a0_4) := (blk_cell BK101.out 4).trans rfl
            have hcz10_5 : wc.cell? ⟨gb101, 5, none⟩ = some (.int .u8 a0_5) := (blk_cell BK101.out 5).trans rfl
            have hcz10_6 : wc.cell? ⟨gb101, 6, none⟩ = some (.int .u8 a0_6) := (blk_cell BK101.out 6).trans rfl
            have hcz10_7 : wc.cell? ⟨gb101, 7, none⟩ = some (.int .u8 a0_7) := (blk_cell BK101.out 7).trans rfl
            have hcz10_8 : wc.cell? ⟨gb101, 8, none⟩ = some (.int .u8 a0_8) := (blk_cell BK101.out 8).trans rfl
            have hcz10_9 : wc.cell? ⟨gb101, 9, none⟩ = some (.int .u8 a0_9) := (blk_cell BK101.out 9).trans rfl
            have hcz10_10 : wc.cell? ⟨gb101, 10, none⟩ = some (.int .u8 a0_10) := (blk_cell BK101.out 10).trans rfl
            have hcz10_11 : wc.cell? ⟨gb101, 11, none⟩ = some (.int .u8 a0_11) := (blk_cell BK101.out 11).trans rfl
            have hcz10_12 : wc.cell? ⟨gb101, 12, none⟩ = some (.int .u8 a0_12) := (blk_cell BK101.out 12).trans rfl
            have hcz10_13 : wc.cell? ⟨gb101, 13, none⟩ = some (.int .u8 a0_13) := (blk_cell BK101.out 13).trans rfl
            have hcz10_14 : wc.cell? ⟨gb101, 14, none⟩ = some (.int .u8 a0_14) := (blk_cell BK101.out 14).trans rfl
            have hcz10_15 : wc.cell? ⟨gb101, 15, none⟩ = some (.int .u8 a0_15) := (blk_cell BK101.out 15).trans rfl
            have hcz10_16 : wc.cell? ⟨gb101, 16, none⟩ = some (.int .u8 a0_16) := (blk_cell BK101.out 16).trans rfl
            have hcz10_17 : wc.cell? ⟨gb101, 17, none⟩ = some (.int .u8 a0_17) := (blk_cell BK101.out 17).trans rfl
            have hcz10_18 : wc.cell? ⟨gb101, 18, none⟩ = some (.int .u8 a0_18) := (blk_cell BK101.out 18).trans rfl
            have hcz10_19 : wc.cell? ⟨gb101, 19, none⟩ = some (.int .u8 a0_19) := (blk_cell BK101.out 19).trans rfl
            have hcz10_20 : wc.cell? ⟨gb101, 20, none⟩ = some (.int .u8 a0_20) := (blk_cell BK101.out 20).trans rfl
            have hcz10_21 : wc.cell? ⟨gb101, 21, none⟩ = some (.int .u8 a0_21) := (blk_cell BK101.out 21).trans rfl
            have hcz10_22 : wc.cell? ⟨gb101, 22, none⟩ = some (.int .u8 a0_22) := (blk_cell BK101.out 22).trans rfl
            have hcz10_23 : wc.cell? ⟨gb101, 23, none⟩ = some (.int .u8 a0_23) := (blk_cell BK101.out 23).trans rfl
            have hcz10_24 : wc.cell? ⟨gb101, 24, none⟩ = some (.int .u8 a0_24) := (blk_cell BK101.out 24).trans rfl
            have hfz10_0 := blk_frozen BK101.out 0
            have hfz10_1 := blk_frozen BK101.out 1
            have hfz10_2 := blk_frozen BK101.out 2
            have hfz10_3 := blk_frozen BK101.out 3
            have hfz10_4 := blk_frozen BK101.out 4
            have hfz10_5 := blk_frozen BK101.out 5
            have hfz10_6 := blk_frozen BK101.out 6
            have hfz10_7 := blk_frozen BK101.out 7
            have hfz10_8 := blk_frozen BK101.out 8
            have hfz10_9 := blk_frozen BK101.out 9
            have hfz10_10 := blk_frozen BK101.out 10
            have hfz10_11 := blk_frozen BK101.out 11
            have hfz10_12 := blk_frozen BK101.out 12
            have hfz10_13 := blk_frozen BK101.out 13
            have hfz10_14 := blk_frozen BK101.out 14
            have hfz10_15 := blk_frozen BK101.out 15
            have hfz10_16 := blk_frozen BK101.out 16
            have hfz10_17 := blk_frozen BK101.out 17
            have hfz10_18 := blk_frozen BK101.out 18
            have hfz10_19 := blk_frozen BK101.out 19
            have hfz10_20 := blk_frozen BK101.out 20
            have hfz10_21 := blk_frozen BK101.out 21
            have hfz10_22 := blk_frozen BK101.out 22
            have hfz10_23 := blk_frozen BK101.out 23
            have hfz10_24 := blk_frozen BK101.out 24
            go_wp2
            go_meet
            case rel => exact ⟨_, (true), (by first | rfl | (simp; done) | (simp [*]; done)), H', ⟨by have := HJ1.out; first | omega | exact Nat.le_refl _⟩, ⟨by (with_reducible repeat (first | refine blk_drewN ?_ _ | refine blk_drew ?_ | refine blk_alloc ?_ _)); exact BK101.out⟩, ⟨by repeat (first | (with_reducible first | exact HB.out | apply below_alloc | apply pw_below_drewN | apply below_drew1 | refine below_set ?_ GE101.out) | exact HB.out)⟩⟩
          · rw [if_neg c9] at H
            have c9b0 : decide (a0_3 < 1) = false := decide_eq_false c9
            clear c9
            (first | rw [c9b0] | (simp only [i64_w, i32_w]; rw [c9b0]) | skip)
            by_cases c11 : a0_3 > 4096
            · rw [if_pos c11] at H
              have c11b0 : decide (4096 < a0_3) = true := decide_eq_true c11
              clear c11
              have H' := Aside0.mk H
              clear H
              have hcz12_0 : wc.cell? ⟨gb101, 0, none⟩ = some (.int .u8 a0_0) := (blk_cell BK101.out 0).trans rfl
              have hcz12_1 : wc.cell? ⟨gb101, 1, none⟩ = some (.int .i64 a0_1) := (blk_cell BK101.out 1).trans rfl
              have hcz12_2 : wc.cell? ⟨gb101, 2, none⟩ = some (.int .i64 a0_2) := (blk_cell BK101.out 2).trans rfl
              have hcz12_3 : wc.cell? ⟨gb101, 3, none⟩ = some (.int .i64 a0_3) := (blk_cell BK101.out 3).trans rfl
              have hcz12_4 : wc.cell? ⟨gb101, 4, none⟩ = some (.int .i64 a0_4) := (blk_cell BK101.out 4).trans rfl
              have hcz12_5 : wc.cell? ⟨gb101, 5, none⟩ = some (.int .u8 a0_5) := (blk_cell BK101.out 5).trans rfl
              have hcz12_6 : wc.cell? ⟨gb101, 6, none⟩ = some (.int .u8 a0_6) := (blk_cell BK101.out 6).trans rfl
              have hcz12_7 : wc.cell? ⟨gb101, 7, none⟩ = some (.int .u8 a0_7) := (blk_cell BK101.out 7).trans rfl
              have hcz12_8 : wc.cell? ⟨gb101, 8, none⟩ = some (.int .u8 a0_8) := (blk_cell BK101.out 8).trans rfl
              have hcz12_9 : wc.cell? ⟨gb101, 9, none⟩ = some (.int .u8 a0_9) := (blk_cell BK101.out 9).trans rfl
              have hcz12_10 : wc.cell? ⟨gb101, 10, none⟩ = some (.int .u8 a0_10) := (blk_cell BK101.out 10).trans rfl
              have hcz12_11 : wc.cell? ⟨gb101, 11, none⟩ = some (.int .u8 a0_11) := (blk_cell BK101.out 11).trans rfl
              have hcz12_12 : wc.cell? ⟨gb101, 12, none⟩ = some (.int .u8 a0_12) := (blk_cell BK101.out 12).trans rfl
              have hcz12_13 : wc.cell? ⟨gb101, 13, none⟩ = some (.int .u8 a0_13) := (blk_cell BK101.out 13).trans rfl
              have hcz12_14 : wc.cell? ⟨gb101, 14, none⟩ = some (.int .u8 a0_14) := (blk_cell BK101.out 14).trans rfl
              have hcz12_15 : wc.cell? ⟨gb101, 15, none⟩ = some (.int .u8 a0_15) := (blk_cell BK101.out 15).trans rfl
              have hcz12_16 : wc.cell? ⟨gb101, 16, none⟩ = some (.int .u8 a0_16) := (blk_cell BK101.out 16).trans rfl
              have hcz12_17 : wc.cell? ⟨gb101, 17, none⟩ = some (.int .u8 a0_17) := (blk_cell BK101.out 17).trans rfl
              have hcz12_18 : wc.cell? ⟨gb101, 18, none⟩ = some (.int .u8 a0_18) := (blk_cell BK101.out 18).trans rfl
              have hcz12_19 : wc.cell? ⟨gb101, 19, none⟩ = some (.int .u8 a0_19) := (blk_cell BK101.out 19).trans rfl
              have hcz12_20 : wc.cell? ⟨gb101, 20, none⟩ = some (.int .u8 a0_20) := (blk_cell BK101.out 20).trans rfl
              have hcz12_21 : wc.cell? ⟨gb101, 21, none⟩ = some (.int .u8 a0_21) := (blk_cell BK101.out 21).trans rfl
              have hcz12_22 : wc.cell? ⟨gb101, 22, none⟩ = some (.int .u8 a0_22) := (blk_cell BK101.out 22).trans rfl
              have hcz12_23 : wc.cell? ⟨gb101, 23, none⟩ = some (.int .u8 a0_23) := (blk_cell BK101.out 23).trans rfl
              have hcz12_24 : wc.cell? ⟨gb101, 24, none⟩ = some (.int .u8 a0_24) := (blk_cell BK101.out 24).trans rfl
              have hfz12_0 := blk_frozen BK101.out 0
              have hfz12_1 := blk_frozen BK101.out 1
              have hfz12_2 := blk_frozen BK101.out 2
              have hfz12_3 := blk_frozen BK101.out 3
              have hfz12_4 := blk_frozen BK101.out 4
              have hfz12_5 := blk_frozen BK101.out 5
              have hfz12_6 := blk_frozen BK101.out 6
              have hfz12_7 := blk_frozen BK101.out 7
              have hfz12_8 := blk_frozen BK101.out 8
              have hfz12_9 := blk_frozen BK101.out 9
              have hfz12_10 := blk_frozen BK101.out 10
              have hfz12_11 := blk_frozen BK101.out 11
              have hfz12_12 := blk_frozen BK101.out 12
              have hfz12_13 := blk_frozen BK101.out 13
              have hfz12_14 := blk_frozen BK101.out 14
              have hfz12_15 := blk_frozen BK101.out 15
              have hfz12_16 := blk_frozen BK101.out 16
              have hfz12_17 := blk_frozen BK101.out 17
              have hfz12_18 := blk_frozen BK101.out 18
              have hfz12_19 := blk_frozen BK101.out 19
              have hfz12_20 := blk_frozen BK101.out 20
              have hfz12_21 := blk_frozen BK101.out 21
              have hfz12_22 := blk_frozen BK101.out 22
              have hfz12_23 := blk_frozen BK101.out 23
              have hfz12_24 := blk_frozen BK101.out 24
              go_wp2
              go_meet
              case rel => exact ⟨_, (decide (a0_3 > 4096)), (by first | rfl | (simp; done) | (simp [*]; done)), H', ⟨by have := HJ1.out; first | omega | exact Nat.le_refl _⟩, ⟨by (with_reducible repeat (first | refine blk_drewN ?_ _ | refine blk_drew ?_ | refine blk_alloc ?_ _)); exact BK101.out⟩, ⟨by repeat (first | (with_reducible first | exact HB.out | apply below_alloc | apply pw_below_drewN | apply below_drew1 | refine below_set ?_ GE101.out) | exact HB.out)⟩⟩
            · rw [if_neg c11] at H
              have c11b0 : decide (4096 < a0_3) = false := decide_eq_false c11
              clear c11
              by_cases c13 : a0_2 < 0
              · rw [if_pos c13] at H
                have c13b0 : decide (a0_2 < 0) = true := decide_eq_true c13
                clear c13
                have H' := Aside0.mk H
                clear H
                have hcz14_0 : wc.cell? ⟨gb101, 0, none⟩ = some (.int .u8 a0_0) := (blk_cell BK101.out 0).trans rfl
                have hcz14_1 : wc.cell? ⟨gb101, 1, none⟩ = some (.int .i64 a0_1) := (blk_cell BK101.out 1).trans rfl
                have hcz14_2 : wc.cell? ⟨gb101, 2, none⟩ = some (.int .i64 a0_2) := (blk_cell BK101.out 2).trans rfl
                have hcz14_3 : wc.cell? ⟨gb101, 3, none⟩ = some (.int .i64 a0_3) := (blk_cell BK101.out 3).trans rfl
                have hcz14_4 : wc.cell? ⟨gb101, 4, none⟩ = some (.int .i64 a0_4) := (blk_cell BK101.out 4).trans rfl
                have hcz14_5 : wc.cell? ⟨gb101, 5, none⟩ = some (.int .u8 a0_5) := (blk_cell BK101.out 5).trans rfl
                have hcz14_6 : wc.cell? ⟨gb101, 6, none⟩ = some (.int .u8 a0_6) := (blk_cell BK101.out 6).trans rfl
                have hcz14_7 : wc.cell? ⟨gb101, 7, none⟩ = some (.int .u8 a0_7) := (blk_cell BK101.out 7).trans rfl
                have hcz14_8 : wc.cell? ⟨gb101, 8, none⟩ = some (.int .u8 a0_8) := (blk_cell BK101.out 8).trans rfl
                have hcz14_9 : wc.cell? ⟨gb101, 9, none⟩ = some (.int .u8 a0_9) := (blk_cell BK101.out 9).trans rfl
                have hcz14_10 : wc.cell? ⟨gb101, 10, none⟩ = some (.int .u8 a0_10) := (blk_cell BK101.out 10).trans rfl
                have hcz14_11 : wc.cell? ⟨gb101, 11, none⟩ = some (.int .u8 a0_11) := (blk_cell BK101.out 11).trans rfl
                have hcz14_12 : wc.cell? ⟨gb101, 12, none⟩ = some (.int .u8 a0_12) := (blk_cell BK101.out 12).trans rfl
                have hcz14_13 : wc.cell? ⟨gb101, 13, none⟩ = some (.int .u8 a0_13) := (blk_cell BK101.out 13).trans rfl
                have hcz14_14 : wc.cell? ⟨gb101, 14, none⟩ = some (.int .u8 a0_14) := (blk_cell BK101.out 14).trans rfl
                have hcz14_15 : wc.cell? ⟨gb101, 15, none⟩ = some (.int .u8 a0_15) := (blk_cell BK101.out 15).trans rfl
                have hcz14_16 : wc.cell? ⟨gb101, 16, none⟩ = some (.int .u8 a0_16) := (blk_cell BK101.out 16).trans rfl
                have hcz14_17 : wc.cell? ⟨gb101, 17, none⟩ = some (.int .u8 a0_17) := (blk_cell BK101.out 17).trans rfl
                have hcz14_18 : wc.cell? ⟨gb101, 18, none⟩ = some (.int .u8 a0_18) := (blk_cell BK101.out 18).trans rfl
                have hcz14_19 : wc.cell? ⟨gb101, 19, none⟩ = some (.int .u8 a0_19) := (blk_cell BK101.out 19).trans rfl
                have hcz14_20 : wc.cell? ⟨gb101, 20, none⟩ = some (.int .u8 a0_20) := (blk_cell BK101.out 20).trans rfl
                have hcz14_21 : wc.cell? ⟨gb101, 21, none⟩ = some (.int .u8 a0_21) := (blk_cell BK101.out 21).trans rfl
                have hcz14_22 : wc.cell? ⟨gb101, 22, none⟩ = some (.int .u8 a0_22) := (blk_cell BK101.out 22).trans rfl
                have hcz14_23 : wc.cell? ⟨gb101, 23, none⟩ = some (.int .u8 a0_23) := (blk_cell BK101.out 23).trans rfl
                have hcz14_24 : wc.cell? ⟨gb101, 24, none⟩ = some (.int .u8 a0_24) := (blk_cell BK101.out 24).trans rfl
                have hfz14_0 := blk_frozen BK101.out 0
                have hfz14_1 := blk_frozen BK101.out 1
                have hfz14_2 := blk_frozen BK101.out 2
                have hfz14_3 := blk_frozen BK101.out 3
                have hfz14_4 := blk_frozen BK101.out 4
                have hfz14_5 := blk_frozen BK101.out 5
                have hfz14_6 := blk_frozen BK101.out 6
                have hfz14_7 := blk_frozen BK101.out 7
                have hfz14_8 := blk_frozen BK101.out 8
                have hfz14_9 := blk_frozen BK101.out 9
                have hfz14_10 := blk_frozen BK101.out 10
                have hfz14_11 := blk_frozen BK101.out 11
                have hfz14_12 := blk_frozen BK101.out 12
                have hfz14_13 := blk_frozen BK101.out 13
                have hfz14_14 := blk_frozen BK101.out 14
                have hfz14_15 := blk_frozen BK101.out 15
                have hfz14_16 := blk_frozen BK101.out 16
                have hfz14_17 := blk_frozen BK101.out 17
                have hfz14_18 := blk_frozen BK101.out 18
                have hfz14_19 := blk_frozen BK101.out 19
                have hfz14_20 := blk_frozen BK101.out 20
                have hfz14_21 := blk_frozen BK101.out 21
                have hfz14_22 := blk_frozen BK101.out 22
                have hfz14_23 := blk_frozen BK101.out 23
                have hfz14_24 := blk_frozen BK101.out 24
                go_wp2
                go_meet
                case rel => exact ⟨_, (true), (by first | rfl | (simp; done) | (simp [*]; done)), H', ⟨by have := HJ1.out; first | omega | exact Nat.le_refl _⟩, ⟨by (with_reducible repeat (first | refine blk_drewN ?_ _ | refine blk_drew ?_ | refine blk_alloc ?_ _)); exact BK101.out⟩, ⟨by repeat (first | (with_reducible first | exact HB.out | apply below_alloc | apply pw_below_drewN | apply below_drew1 | refine below_set ?_ GE101.out) | exact HB.out)⟩⟩
              · rw [if_neg c13] at H
                have c13b0 : decide (a0_2 < 0) = false := decide_eq_false c13
                clear c13
                have H' := Aside0.mk H
                clear H
                have hcz15_0 : wc.cell? ⟨gb101, 0, none⟩ = some (.int .u8 a0_0) := (blk_cell BK101.out 0).trans rfl
                have hcz15_1 : wc.cell? ⟨gb101, 1, none⟩ = some (.int .i64 a0_1) := (blk_cell BK101.out 1).trans rfl
                have hcz15_2 : wc.cell? ⟨gb101, 2, none⟩ = some (.int .i64 a0_2) := (blk_cell BK101.out 2).trans rfl
                have hcz15_3 : wc.cell? ⟨gb101, 3, none⟩ = some (.int .i64 a0_3) := (blk_cell BK101.out 3).trans rfl
                have hcz15_4 : wc.cell? ⟨gb101, 4, none⟩ = some (.int .i64 a0_4) := (blk_cell BK101.out 4).trans rfl
                have hcz15_5 : wc.cell? ⟨gb101, 5, none⟩ = some (.int .u8 a0_5) := (blk_cell BK101.out 5).trans rfl
                have hcz15_6 : wc.cell? ⟨gb101, 6, none⟩ = some (.int .u8 a0_6) := (blk_cell BK101.out 6).trans rfl
                have hcz15_7 : wc.cell? ⟨gb101, 7, none⟩ = some (.int .u8 a0_7) := (blk_cell BK101.out 7).trans rfl
                have hcz15_8 : wc.cell? ⟨gb101, 8, none⟩ = some (.int .u8 a0_8) := (blk_cell BK101.out 8).trans rfl
                have hcz15_9 : wc.cell? ⟨gb101, 9, none⟩ = some (.int .u8 a0_9) := (blk_cell BK101.out 9).trans rfl
                have hcz15_10 : wc.cell? ⟨gb101, 10, none⟩ = some (.int .u8 a0_10) := (blk_cell BK101.out 10).trans rfl
                have hcz15_11 : wc.cell? ⟨gb101, 11, none⟩ = some (.int .u8 a0_11) := (blk_cell BK101.out 11).trans rfl
                have hcz15_12 : wc.cell? ⟨gb101, 12, none⟩ = some (.int .u8 a0_12) := (blk_cell BK101.out 12).trans rfl
                have hcz15_13 : wc.cell? ⟨gb101, 13, none⟩ = some (.int .u8 a0_13) := (blk_cell BK101.out 13).trans rfl
                have hcz15_14 : wc.cell? ⟨gb101, 14, none⟩ = some (.int .u8 a0_14) := (blk_cell BK101.out 14).trans rfl
                have hcz15_15 : wc.cell? ⟨gb101, 15, none⟩ = some (.int .u8 a0_15) := (blk_cell BK101.out 15).trans rfl
                have hcz15_16 : wc.cell? ⟨gb101, 16, none⟩ = some (.int .u8 a0_16) := (blk_cell BK101.out 16).trans rfl
                have hcz15_17 : wc.cell? ⟨gb101, 17, none⟩ = some (.int .u8 a0_17) := (blk_cell BK101.out 17).trans rfl
                have hcz15_18 : wc.cell? ⟨gb101, 18, none⟩ = some (.int .u8 a0_18) := (blk_cell BK101.out 18).trans rfl
                have hcz15_19 : wc.cell? ⟨gb101, 19, none⟩ = some (.int .u8 a0_19) := (blk_cell BK101.out 19).trans rfl
                have hcz15_20 : wc.cell? ⟨gb101, 20, none⟩ = some (.int .u8 a0_20) := (blk_cell BK101.out 20).trans rfl
                have hcz15_21 : wc.cell? ⟨gb101, 21, none⟩ = some (.int .u8 a0_21) := (blk_cell BK101.out 21).trans rfl
                have hcz15_22 : wc.cell? ⟨gb101, 22, none⟩ = some (.int .u8 a0_22) := (blk_cell BK101.out 22).trans rfl
                have hcz15_23 : wc.cell? ⟨gb101, 23, none⟩ = some (.int .u8 a0_23) := (blk_cell BK101.out 23).trans rfl
                have hcz15_24 : wc.cell? ⟨gb101, 24, none⟩ = some (.int .u8 a0_24) := (blk_cell BK101.out 24).trans rfl
                have hfz15_0 := blk_frozen BK101.out 0
                have hfz15_1 := blk_frozen BK101.out 1
                have hfz15_2 := blk_frozen BK101.out 2
                have hfz15_3 := blk_frozen BK101.out 3
                have hfz15_4 := blk_frozen BK101.out 4
                have hfz15_5 := blk_frozen BK101.out 5
                have hfz15_6 := blk_frozen BK101.out 6
                have hfz15_7 := blk_frozen BK101.out 7
                have hfz15_8 := blk_frozen BK101.out 8
                have hfz15_9 := blk_frozen BK101.out 9
                have hfz15_10 := blk_frozen BK101.out 10
                have hfz15_11 := blk_frozen BK101.out 11
                have hfz15_12 := blk_frozen BK101.out 12
                have hfz15_13 := blk_frozen BK101.out 13
                have hfz15_14 := blk_frozen BK101.out 14
                have hfz15_15 := blk_frozen BK101.out 15
                have hfz15_16 := blk_frozen BK101.out 16
                have hfz15_17 := blk_frozen BK101.out 17
                have hfz15_18 := blk_frozen BK101.out 18
                have hfz15_19 := blk_frozen BK101.out 19
                have hfz15_20 := blk_frozen BK101.out 20
                have hfz15_21 := blk_frozen BK101.out 21
                have hfz15_22 := blk_frozen BK101.out 22
                have hfz15_23 := blk_frozen BK101.out 23
                have hfz15_24 := blk_frozen BK101.out 24
                go_wp2
                go_meet
                case rel => exact ⟨_, (decide (a0_2 > (wrap64 (8192 - a0_3)))), (by first | rfl | (simp; done) | (simp [*]; done)), H', ⟨by have := HJ1.out; first | omega | exact Nat.le_refl _⟩, ⟨by (with_reducible repeat (first | refine blk_drewN ?_ _ | refine blk_drew ?_ | refine blk_alloc ?_ _)); exact BK101.out⟩, ⟨by repeat (first | (with_reducible first | exact HB.out | apply below_alloc | apply pw_below_drewN | apply below_drew1 | refine below_set ?_ GE101.out) | exact HB.out)⟩⟩
      case rest =>
        clear HC7
        try clear c1
        try clear c2
        try clear p2
        try clear c4
        try clear c4b0
        try clear p6
        try clear c8
        try clear c9
        try clear c9b0
        try clear c11
        try clear c11b0
        try clear c13
        try clear c13b0
        try clear hcz10_0
        try clear hcz10_1
        try clear hcz10_10
        try clear hcz10_11
        try clear hcz10_12
        try clear hcz10_13
        try clear hcz10_14
        try clear hcz10_15
        try clear hcz10_16
        try clear hcz10_17
        try clear hcz10_18
        try clear hcz10_19
        try clear hcz10_2
        try clear hcz10_20
        try clear hcz10_21
        try clear hcz10_22
        try clear hcz10_23
        try clear hcz10_24
        try clear hcz10_3
        try clear hcz10_4
        try clear hcz10_5
        try clear hcz10_6
        try clear hcz10_7
        try clear hcz10_8
        try clear hcz10_9
        try clear hcz12_0
        try clear hcz12_1
        try clear hcz12_10
        try clear hcz12_11
        try clear hcz12_12
        try clear hcz12_13
        try clear hcz12_14
        try clear hcz12_15
        try clear hcz12_16
        try clear hcz12_17
        try clear hcz12_18
        try clear hcz12_19
        try clear hcz12_2
        try clear hcz12_20
        try clear hcz12_21
        try clear hcz12_22
        try clear hcz12_23
        try clear hcz12_24
        try clear hcz12_3
        try clear hcz12_4
        try clear hcz12_5
        try clear hcz12_6
        try clear hcz12_7
        try clear hcz12_8
        try clear hcz12_9
        try clear hcz14_0
        try clear hcz14_1
        try clear hcz14_10
        try clear hcz14_11
        try clear hcz14_12
        try clear hcz14_13
        try clear hcz14_14
        try clear hcz14_15
        try clear hcz14_16
        try clear hcz14_17
        try clear hcz14_18
        try clear hcz14_19
        try clear hcz14_2
        try clear hcz14_20
        try clear hcz14_21
        try clear hcz14_22
        try clear hcz14_23
        try clear hcz14_24
        try clear hcz14_3
        try clear hcz14_4
        try clear hcz14_5
        try clear hcz14_6
        try clear hcz14_7
        try clear hcz14_8
        try clear hcz14_9
        try clear hcz15_0
        try clear hcz15_1
        try clear hcz15_10
        try clear hcz15_11
        try clear hcz15_12
        try clear hcz15_13
        try clear hcz15_14
        try clear hcz15_15
        try clear hcz15_16
        try clear hcz15_17
        try clear hcz15_18
        try clear hcz15_19
        try clear hcz15_2
        try clear hcz15_20
        try clear hcz15_21
        try clear hcz15_22
        try clear hcz15_23
        try clear hcz15_24
        try clear hcz15_3
        try clear hcz15_4
        try clear hcz15_5
        try clear hcz15_6
        try clear hcz15_7
        try clear hcz15_8
        try clear hcz15_9
        try clear hcz5_0
        try clear hcz5_1
        try clear hcz5_10
        try clear hcz5_11
        try clear hcz5_12
        try clear hcz5_13
        try clear hcz5_14
        try clear hcz5_15
        try clear hcz5_16
        try clear hcz5_17
        try clear hcz5_18
        try clear hcz5_19
        try clear hcz5_2
        try clear hcz5_20
        try clear hcz5_21
        try clear hcz5_22
        try clear hcz5_23
        try clear hcz5_24
        try clear hcz5_3
        try clear hcz5_4
        try clear hcz5_5
        try clear hcz5_6
        try clear hcz5_7
        try clear hcz5_8
        try clear hcz5_9
        try clear hcz6_0
        try clear hcz6_1
        try clear hcz6_10
        try clear hcz6_11
        try clear hcz6_12
        try clear hcz6_13
        try clear hcz6_14
        try clear hcz6_15
        try clear hcz6_16
        try clear hcz6_17
        try clear hcz6_18
        try clear hcz6_19
        try clear hcz6_2
        try clear hcz6_20
        try clear hcz6_21
        try clear hcz6_22
        try clear hcz6_23
        try clear hcz6_24
        try clear hcz6_3
        try clear hcz6_4
        try clear hcz6_5
        try clear hcz6_6
        try clear hcz6_7
        try clear hcz6_8
        try clear hcz6_9
        try clear hfz10_0
        try clear hfz10_1
        try clear hfz10_10
        try clear hfz10_11
        try clear hfz10_12
        try clear hfz10_13
        try clear hfz10_14
        try clear hfz10_15
        try clear hfz10_16
        try clear hfz10_17
        try clear hfz10_18
        try clear hfz10_19
        try clear hfz10_2
        try clear hfz10_20
        try clear hfz10_21
        try clear hfz10_22
        try clear hfz10_23
        try clear hfz10_24
        try clear hfz10_3
        try clear hfz10_4
        try clear hfz10_5
        try clear hfz10_6
        try clear hfz10_7
        try clear hfz10_8
        try clear hfz10_9
        try clear hfz12_0
        try clear hfz12_1
        try clear hfz12_10
        try clear hfz12_11
        try clear hfz12_12
        try clear hfz12_13
        try clear hfz12_14
        try clear hfz12_15
        try clear hfz12_16
        try clear hfz12_17
        try clear hfz12_18
        try clear hfz12_19
        try clear hfz12_2
        try clear hfz12_20
        try clear hfz12_21
        try clear hfz12_22
        try clear hfz12_23
        try clear hfz12_24
        try clear hfz12_3
        try clear hfz12_4
        try clear hfz12_5
        try clear hfz12_6
        try clear hfz12_7
        try clear hfz12_8
        try clear hfz12_9
        try clear hfz14_0
        try clear hfz14_1
        try clear hfz14_10
        try clear hfz14_11
        try clear hfz14_12
        try clear hfz14_13
        try clear hfz14_14
        try clear hfz14_15
        try clear hfz14_16
        try clear hfz14_17
        try clear hfz14_18
        try clear hfz14_19
        try clear hfz14_2
        try clear hfz14_20
        try clear hfz14_21
        try clear hfz14_22
        try clear hfz14_23
        try clear hfz14_24
        try clear hfz14_3
        try clear hfz14_4
        try clear hfz14_5
        try clear hfz14_6
        try clear hfz14_7
        try clear hfz14_8
        try clear hfz14_9
        try clear hfz15_0
        try clear hfz15_1
        try clear hfz15_10
        try clear hfz15_11
        try clear hfz15_12
        try clear hfz15_13
        try clear hfz15_14
        try clear hfz15_15
        try clear hfz15_16
        try clear hfz15_17
        try clear hfz15_18
        try clear hfz15_19
        try clear hfz15_2
        try clear hfz15_20
        try clear hfz15_21
        try clear hfz15_22
        try clear hfz15_23
        try clear hfz15_24
        try clear hfz15_3
        try clear hfz15_4
        try clear hfz15_5
        try clear hfz15_6
        try clear hfz15_7
        try clear hfz15_8
        try clear hfz15_9
        try clear hfz5_0
        try clear hfz5_1
        try clear hfz5_10
        try clear hfz5_11
        try clear hfz5_12
        try clear hfz5_13
        try clear hfz5_14
        try clear hfz5_15
        try clear hfz5_16
        try clear hfz5_17
        try clear hfz5_18
        try clear hfz5_19
        try clear hfz5_2
        try clear hfz5_20
        try clear hfz5_21
        try clear hfz5_22
        try clear hfz5_23
        try clear hfz5_24
        try clear hfz5_3
        try clear hfz5_4
        try clear hfz5_5
        try clear hfz5_6
        try clear hfz5_7
        try clear hfz5_8
        try clear hfz5_9
        try clear hfz6_0
        try clear hfz6_1
        try clear hfz6_10
        try clear hfz6_11
        try clear hfz6_12
        try clear hfz6_13
        try clear hfz6_14
        try clear hfz6_15
        try clear hfz6_16
        try clear hfz6_17
        try clear hfz6_18
        try clear hfz6_19
        try clear hfz6_2
        try clear hfz6_20
        try clear hfz6_21
        try clear hfz6_22
        try clear hfz6_23
        try clear hfz6_24
        try clear hfz6_3
        try clear hfz6_4
        try clear hfz6_5
        try clear hfz6_6
        try clear hfz6_7
        try clear hfz6_8
        try clear hfz6_9
        try clear p2
        obtain ⟨kq, x3_6, rfl, HA, HJ6, BK101, HB⟩ := hcut
        cases kq with
        | zero => exact absurd HA.out (by simp [header_Check.j1])
        | succ kj6 =>
          have H := HA.out
          clear HA
          simp only [header_Check.j1] at H
          by_cases c16 : x3_6 = true
          · subst c16
            have H1 : (some 8) = some r := by rw [if_pos rfl] at H; exact H
            clear H
            have H := H1
            clear H1
            obtain rfl := Option.some.inj H
            go_wp2
            go_ret
            exact ⟨by first | rfl | (simp [errW_none, errW_some] <;> rfl) | (simp [*, errW_none, errW_some] <;> rfl), by repeat (first | (with_reducible first | exact HB.out | apply below_alloc | apply pw_below_drewN | apply below_drew1 | refine below_set ?_ GE101.out) | exact HB.out)⟩
          · replace c16 := Bool.eq_false_iff.mpr c16
            subst c16
            have H1 : (if a0_0 = 1 then (header_Check.j2 kj6 (a0_4 == a0_3) a0_0 a0_1 a0_2 a0_3 a0_4 a0_5 a0_6 a0_7 a0_8 a0_9 a0_10 a0_11 a0_12 a0_13 a0_14 a0_15 a0_16 a0_17 a0_18 a0_19 a0_20 a0_21 a0_22 a0_23 a0_24) else (header_Check.j2 kj6 false a0_0 a0_1 a0_2 a0_3 a0_4 a0_5 a0_6 a0_7 a0_8 a0_9 a0_10 a0_11 a0_12 a0_13 a0_14 a0_15 a0_16 a0_17 a0_18 a0_19 a0_20 a0_21 a0_22 a0_23 a0_24)) = some r := by rw [if_neg (show ¬ (false = true) by decide)] at H; exact H
            clear H
            have H := H1
            clear H1
            have HC17 := Aside0.mk H
            clear H
            go_upto_region 5 with (fail)
            go_cut [31] (fun v31 wc => ∃ (kq : Nat) (x31_16 : Bool), v31 = .bool x31_16 ∧ Aside0 (header_Check.j2 kq x31_16 a0_0 a0_1 a0_2 a0_3 a0_4 a0_5 a0_6 a0_7 a0_8 a0_9 a0_10 a0_11 a0_12 a0_13 a0_14 a0_15 a0_16 a0_17 a0_18 a0_19 a0_20 a0_21 a0_22 a0_23 a0_24 = some r) ∧ Aside0 (kq ≤ kj6) ∧ Aside0 (wc.heap[gb101]? = some (.cells #[.int .u8 a0_0, .int .i64 a0_1, .int .i64 a0_2, .int .i64 a0_3, .int .i64 a0_4, .int .u8 a0_5, .int .u8 a0_6, .int .u8 a0_7, .int .u8 a0_8, .int .u8 a0_9, .int .u8 a0_10, .int .u8 a0_11, .int .u8 a0_12, .int .u8 a0_13, .int .u8 a0_14, .int .u8 a0_15, .int .u8 a0_16, .int .u8 a0_17, .int .u8 a0_18, .int .u8 a0_19, .int .u8 a0_20, .int .u8 a0_21, .int .u8 a0_22, .int .u8 a0_23, .int .u8 a0_24] 25 (0, 0))) ∧ Aside0 (Below w.heap.size w wc))
            case first =>
              have H := HC17.out
              clear HC17
              by_cases c18 : a0_0 = 1
              · rw [if_pos c18] at H
                have c18b0 : (a0_0 == 1) = true := beq_iff_eq.mpr c18
                have c18b1 : (a0_0 != 1) = false := bne_eq_false_iff_eq.mpr c18
                clear c18
                (first | rw [c18b0] | (simp only [i64_w, i32_w]; rw [c18b0]) | skip)
                have H' := Aside0.mk H
                clear H
                have hcz19_0 : wc.cell? ⟨gb101, 0, none⟩ = some (.int .u8 a0_0) := (blk_cell BK101.out 0).trans rfl
                have hcz19_1 : wc.cell? ⟨gb101, 1, none⟩ = some (.int .i64 a0_1) := (blk_cell BK101.out 1).trans rfl
                have hcz19_2 : wc.cell? ⟨gb101, 2, none⟩ = some (.int .i64 a0_2) := (blk_cell BK101.out 2).trans rfl
                have hcz19_3 : wc.cell? ⟨gb101, 3, none⟩ = some (.int .i64 a0_3) := (blk_cell BK101.out 3).trans rfl
                have hcz19_4 : wc.cell? ⟨gb101, 4, none⟩ = some (.int .i64 a0_4) := (blk_cell BK101.out 4).trans rfl
                have hcz19_5 : wc.cell? ⟨gb101, 5, none⟩ = some (.int .u8 a0_5) := (blk_cell BK101.out 5).trans rfl
                have hcz19_6 : wc.cell? ⟨gb101, 6, none⟩ = some (.int .u8 a0_6) := (blk_cell BK101.out 6).trans rfl
                have hcz19_7 : wc.cell? ⟨gb101, 7, none⟩ = some (.int .u8 a0_7) := (blk_cell BK101.out 7).trans rfl
                have hcz19_8 : wc.cell? ⟨gb101, 8, none⟩ = some (.int .u8 a0_8) := (blk_cell BK101.out 8).trans rfl
                have hcz19_9 : wc.cell? ⟨gb101, 9, none⟩ = some (.int .u8 a0_9) := (blk_cell BK101.out 9).trans rfl
                have hcz19_10 : wc.cell? ⟨gb101, 10, none⟩ = some (.int .u8 a0_10) := (blk_cell BK101.out 10).trans rfl
                have hcz19_11 : wc.cell? ⟨gb101, 11, none⟩ = some (.int .u8 a0_11) := (blk_cell BK101.out 11).trans rfl
                have hcz19_12 : wc.cell? ⟨gb101, 12, none⟩ = some (.int .u8 a0_12) := (blk_cell BK101.out 12).trans rfl
                have hcz19_13 : wc.cell? ⟨gb101, 13, none⟩ = some (.int .u8 a0_13) := (blk_cell BK101.out 13).trans rfl
                have hcz19_14 : wc.cell? ⟨gb101, 14, none⟩ = some (.int .u8 a0_14) := (blk_cell BK101.out 14).trans rfl
                have hcz19_15 : wc.cell? ⟨gb101, 15, none⟩ = some (.int .u8 a0_15) := (blk_cell BK101.out 15).trans rfl
                have hcz19_16 : wc.cell? ⟨gb101, 16, none⟩ = some (.int .u8 a0_16) := (blk_cell BK101.out 16).trans rfl
                have hcz19_17 : wc.cell? ⟨gb101, 17, none⟩ = some (.int .u8 a0_17) := (blk_cell BK101.out 17).trans rfl
                have hcz19_18 : wc.cell? ⟨gb101, 18, none⟩ = some (.int .u8 a0_18) := (blk_cell BK101.out 18).trans rfl
                have hcz19_19 : wc.cell? ⟨gb101, 19, none⟩ = some (.int .u8 a0_19) := (blk_cell BK101.out 19).trans rfl
                have hcz19_20 : wc.cell? ⟨gb101, 20, none⟩ = some (.int .u8 a0_20) := (blk_cell BK101.out 20).trans rfl
                have hcz19_21 : wc.cell? ⟨gb101, 21, none⟩ = some (.int .u8 a0_21) := (blk_cell BK101.out 21).trans rfl
                have hcz19_22 : wc.cell? ⟨gb101, 22, none⟩ = some (.int .u8 a0_22) := (blk_cell BK101.out 22).trans rfl
                have hcz19_23 : wc.cell? ⟨gb101, 23, none⟩ = some (.int .u8 a0_23) := (blk_cell BK101.out 23).trans rfl
                have hcz19_24 : wc.cell? ⟨gb101, 24, none⟩ = some (.int .u8 a0_24) := (blk_cell BK101.out 24).trans rfl
                have hfz19_0 := blk_frozen BK101.out 0
                have hfz19_1 := blk_frozen BK101.out 1
                have hfz19_2 := blk_frozen BK101.out 2
                have hfz19_3 := blk_frozen BK101.out 3
                have hfz19_4 := blk_frozen BK101.out 4
                have hfz19_5 := blk_frozen BK101.out 5
                have hfz19_6 := blk_frozen BK101.out 6
                have hfz19_7 := blk_frozen BK101.out 7
                have hfz19_8 := blk_frozen BK101.out 8
                have hfz19_9 := blk_frozen BK101.out 9
                have hfz19_10 := blk_frozen BK101.out 10
                have hfz19_11 := blk_frozen BK101.out 11
                have hfz19_12 := blk_frozen BK101.out 12
                have hfz19_13 := blk_frozen BK101.out 13
                have hfz19_14 := blk_frozen BK101.out 14
                have hfz19_15 := blk_frozen BK101.out 15
                have hfz19_16 := blk_frozen BK101.out 16
                have hfz19_17 := blk_frozen BK101.out 17
                have hfz19_18 := blk_frozen BK101.out 18
                have hfz19_19 := blk_frozen BK101.out 19
                have hfz19_20 := blk_frozen BK101.out 20
                have hfz19_21 := blk_frozen BK101.out 21
                have hfz19_22 := blk_frozen BK101.out 22
                have hfz19_23 := blk_frozen BK101.out 23
                have hfz19_24 := blk_frozen BK101.out 24
                go_wp2
                go_meet
                case rel => exact ⟨_, ((a0_4 == a0_3)), (by first | rfl | (simp; done) | (simp [*]; done)), H', ⟨by have := HJ1.out; have := HJ6.out; first | omega | exact Nat.le_refl _⟩, ⟨by (with_reducible repeat (first | refine blk_drewN ?_ _ | refine blk_drew ?_ | refine blk_alloc ?_ _)); exact BK101.out⟩, ⟨by repeat (first | (with_reducible first | exact HB.out | apply below_alloc | apply pw_below_drewN | apply below_drew1 | refine below_set ?_ GE101.out) | exact HB.out)⟩⟩
              · rw [if_neg c18] at H
                have c18b0 : (a0_0 == 1) = false := beq_eq_false_iff_ne.mpr c18
                have c18b1 : (a0_0 != 1) = true := bne_iff_ne.mpr c18
                (first | rw [c18b0] | (simp only [i64_w, i32_w]; rw [c18b0]) | skip)
                have H' := Aside0.mk H
                clear H
                have hcz20_0 : wc.cell? ⟨gb101, 0, none⟩ = some (.int .u8 a0_0) := (blk_cell BK101.out 0).trans rfl
                have hcz20_1 : wc.cell? ⟨gb101, 1, none⟩ = some (.int .i64 a0_1) := (blk_cell BK101.out 1).trans rfl
                have hcz20_2 : wc.cell? ⟨gb101, 2, none⟩ = some (.int .i64 a0_2) := (blk_cell BK101.out 2).trans rfl
                have hcz20_3 : wc.cell? ⟨gb101, 3, none⟩ = some (.int .i64 a0_3) := (blk_cell BK101.out 3).trans rfl
                have hcz20_4 : wc.cell? ⟨gb101, 4, none⟩ = some (.int .i64 a0_4) := (blk_cell BK101.out 4).trans rfl
                have hcz20_5 : wc.cell? ⟨gb101, 5, none⟩ = some (.int .u8 a0_5) := (blk_cell BK101.out 5).trans rfl
                have hcz20_6 : wc.cell? ⟨gb101, 6, none⟩ = some (.int .u8 a0_6) := (blk_cell BK101.out 6).trans rfl
                have hcz20_7 : wc.cell? ⟨gb101, 7, none⟩ = some (.int .u8 a0_7) := (blk_cell BK101.out 7).trans rfl
                have hcz20_8 : wc.cell? ⟨gb101, 8, none⟩ = some (.int .u8 a0_8) := (blk_cell BK101.out 8).trans rfl
                have hcz20_9 : wc.cell? ⟨gb101, 9, none⟩ = some (.int .u8 a0_9) := (blk_cell BK101.out 9).trans rfl
                have hcz20_10 : wc.cell? ⟨gb101, 10, none⟩ = some (.int .u8 a0_10) := (blk_cell BK101.out 10).trans rfl
                have hcz20_11 : wc.cell? ⟨gb101, 11, none⟩ = some (.int .u8 a0_11) := (blk_cell BK101.out 11).trans rfl
                have hcz20_12 : wc.cell? ⟨gb101, 12, none⟩ = some (.int .u8 a0_12) := (blk_cell BK101.out 12).trans rfl
                have hcz20_13 : wc.cell? ⟨gb101, 13, none⟩ = some (.int .u8 a0_13) := (blk_cell BK101.out 13).trans rfl
                have hcz20_14 : wc.cell? ⟨gb101, 14, none⟩ = some (.int .u8 a0_14) := (blk_cell BK101.out 14).trans rfl
                have hcz20_15 : wc.cell? ⟨gb101, 15, none⟩ = some (.int .u8 a0_15) := (blk_cell BK101.out 15).trans rfl
                have hcz20_16 : wc.cell? ⟨gb101, 16, none⟩ = some (.int .u8 a0_16) := (blk_cell BK101.out 16).trans rfl
                have hcz20_17 : wc.cell? ⟨gb101, 17, none⟩ = some (.int .u8 a0_17) := (blk_cell BK101.out 17).trans rfl
                have hcz20_18 : wc.cell? ⟨gb101, 18, none⟩ = some (.int .u8 a0_18) := (blk_cell BK101.out 18).trans rfl
                have hcz20_19 : wc.cell? ⟨gb101, 19, none⟩ = some (.int .u8 a0_19) := (blk_cell BK101.out 19).trans rfl
                have hcz20_20 : wc.cell? ⟨gb101, 20, none⟩ = some (.int .u8 a0_20) := (blk_cell BK101.out 20).trans rfl
                have hcz20_21 : wc.cell? ⟨gb101, 21, none⟩ = some (.int .u8 a0_21) := (blk_cell BK101.out 21).trans rfl
                have hcz20_22 : wc.cell? ⟨gb101, 22, none⟩ = some (.int .u8 a0_22) := (blk_cell BK101.out 22).trans rfl
                have hcz20_23 : wc.cell? ⟨gb101, 23, none⟩ = some (.int .u8 a0_23) := (blk_cell BK101.out 23).trans rfl
                have hcz20_24 : wc.cell? ⟨gb101, 24, none⟩ = some (.int .u8 a0_24) := (blk_cell BK101.out 24).trans rfl
                have hfz20_0 := blk_frozen BK101.out 0
                have hfz20_1 := blk_frozen BK101.out 1
                have hfz20_2 := blk_frozen BK101.out 2
                have hfz20_3 := blk_frozen BK101.out 3
                have hfz20_4 := blk_frozen BK101.out 4
                have hfz20_5 := blk_frozen BK101.out 5
                have hfz20_6 := blk_frozen BK101.out 6
                have hfz20_7 := blk_frozen BK101.out 7
                have hfz20_8 := blk_frozen BK101.out 8
                have hfz20_9 := blk_frozen BK101.out 9
                have hfz20_10 := blk_frozen BK101.out 10
                have hfz20_11 := blk_frozen BK101.out 11
                have hfz20_12 := blk_frozen BK101.out 12
                have hfz20_13 := blk_frozen BK101.out 13
                have hfz20_14 := blk_frozen BK101.out 14
                have hfz20_15 := blk_frozen BK101.out 15
                have hfz20_16 := blk_frozen BK101.out 16
                have hfz20_17 := blk_frozen BK101.out 17
                have hfz20_18 := blk_frozen BK101.out 18
                have hfz20_19 := blk_frozen BK101.out 19
                have hfz20_20 := blk_frozen BK101.out 20
                have hfz20_21 := blk_frozen BK101.out 21
                have hfz20_22 := blk_frozen BK101.out 22
                have hfz20_23 := blk_frozen BK101.out 23
                have hfz20_24 := blk_frozen BK101.out 24
                go_wp2
                go_meet
                case rel => exact ⟨_, (false), (by first | rfl | (simp; done) | (simp [*]; done)), H', ⟨by have := HJ1.out; have := HJ6.out; first | omega | exact Nat.le_refl _⟩, ⟨by (with_reducible repeat (first | refine blk_drewN ?_ _ | refine blk_drew ?_ | refine blk_alloc ?_ _)); exact BK101.out⟩, ⟨by repeat (first | (with_reducible first | exact HB.out | apply below_alloc | apply pw_below_drewN | apply below_drew1 | refine below_set ?_ GE101.out) | exact HB.out)⟩⟩
            case rest =>
              clear HC17
              try clear c1
              try clear c2
              try clear p2
              try clear c4
              try clear c4b0
              try clear p6
              try clear c8
              try clear c9
              try clear c9b0
              try clear c11
              try clear c11b0
              try clear c13
              try clear c13b0
              try clear c16
              try clear c18
              try clear c18b0
              try clear c18b1
              try clear hcz10_0
              try clear hcz10_1
              try clear hcz10_10
              try clear hcz10_11
              try clear hcz10_12
              try clear hcz10_13
              try clear hcz10_14
              try clear hcz10_15
              try clear hcz10_16
              try clear hcz10_17
              try clear hcz10_18
              try clear hcz10_19
              try clear hcz10_2
              try clear hcz10_20
              try clear hcz10_21
              try clear hcz10_22
              try clear hcz10_23
              try clear hcz10_24
              try clear hcz10_3
              try clear hcz10_4
              try clear hcz10_5
              try clear hcz10_6
              try clear hcz10_7
              try clear hcz10_8
              try clear hcz10_9
              try clear hcz12_0
              try clear hcz12_1
              try clear hcz12_10
              try clear hcz12_11
              try clear hcz12_12
              try clear hcz12_13
              try clear hcz12_14
              try clear hcz12_15
              try clear hcz12_16
              try clear hcz12_17
              try clear hcz12_18
              try clear hcz12_19
              try clear hcz12_2
              try clear hcz12_20
              try clear hcz12_21
              try clear hcz12_22
              try clear hcz12_23
              try clear hcz12_24
              try clear hcz12_3
              try clear hcz12_4
              try clear hcz12_5
              try clear hcz12_6
              try clear hcz12_7
              try clear hcz12_8
              try clear hcz12_9
              try clear hcz14_0
              try clear hcz14_1
              try clear hcz14_10
              try clear hcz14_11
              try clear hcz14_12
              try clear hcz14_13
              try clear hcz14_14
              try clear hcz14_15
              try clear hcz14_16
              try clear hcz14_17
              try clear hcz14_18
              try clear hcz14_19
              try clear hcz14_2
              try clear hcz14_20
              try clear hcz14_21
              try clear hcz14_22
              try clear hcz14_23
              try clear hcz14_24
              try clear hcz14_3
              try clear hcz14_4
              try clear hcz14_5
              try clear hcz14_6
              try clear hcz14_7
              try clear hcz14_8
              try clear hcz14_9
              try clear hcz15_0
              try clear hcz15_1
              try clear hcz15_10
              try clear hcz15_11
              try clear hcz15_12
              try clear hcz15_13
              try clear hcz15_14
              try clear hcz15_15
              try clear hcz15_16
              try clear hcz15_17
              try clear hcz15_18
              try clear hcz15_19
              try clear hcz15_2
              try clear hcz15_20
              try clear hcz15_21
              try clear hcz15_22
              try clear hcz15_23
              try clear hcz15_24
              try clear hcz15_3
              try clear hcz15_4
              try clear hcz15_5
              try clear hcz15_6
              try clear hcz15_7
              try clear hcz15_8
              try clear hcz15_9
              try clear hcz19_0
              try clear hcz19_1
              try clear hcz19_10
              try clear hcz19_11
              try clear hcz19_12
              try clear hcz19_13
              try clear hcz19_14
              try clear hcz19_15
              try clear hcz19_16
              try clear hcz19_17
              try clear hcz19_18
              try clear hcz19_19
              try clear hcz19_2
              try clear hcz19_20
              try clear hcz19_21
              try clear hcz19_22
              try clear hcz19_23
              try clear hcz19_24
              try clear hcz19_3
              try clear hcz19_4
              try clear hcz19_5
              try clear hcz19_6
              try clear hcz19_7
              try clear hcz19_8
              try clear hcz19_9
              try clear hcz20_0
              try clear hcz20_1
              try clear hcz20_10
              try clear hcz20_11
              try clear hcz20_12
              try clear hcz20_13
              try clear hcz20_14
              try clear hcz20_15
              try clear hcz20_16
              try clear hcz20_17
              try clear hcz20_18
              try clear hcz20_19
              try clear hcz20_2
              try clear hcz20_20
              try clear hcz20_21
              try clear hcz20_22
              try clear hcz20_23
              try clear hcz20_24
              try clear hcz20_3
              try clear hcz20_4
              try clear hcz20_5
              try clear hcz20_6
              try clear hcz20_7
              try clear hcz20_8
              try clear hcz20_9
              try clear hcz5_0
              try clear hcz5_1
              try clear hcz5_10
              try clear hcz5_11
              try clear hcz5_12
              try clear hcz5_13
              try clear hcz5_14
              try clear hcz5_15
              try clear hcz5_16
              try clear hcz5_17
              try clear hcz5_18
              try clear hcz5_19
              try clear hcz5_2
              try clear hcz5_20
              try clear hcz5_21
              try clear hcz5_22
              try clear hcz5_23
              try clear hcz5_24
              try clear hcz5_3
              try clear hcz5_4
              try clear hcz5_5
              try clear hcz5_6
              try clear hcz5_7
              try clear hcz5_8
              try clear hcz5_9
              try clear hcz6_0
              try clear hcz6_1
              try clear hcz6_10
              try clear hcz6_11
              try clear hcz6_12
              try clear hcz6_13
              try clear hcz6_14
              try clear hcz6_15
              try clear hcz6_16
              try clear hcz6_17
              try clear hcz6_18
              try clear hcz6_19
              try clear hcz6_2
              try clear hcz6_20
              try clear hcz6_21
              try clear hcz6_22
              try clear hcz6_23
              try clear hcz6_24
              try clear hcz6_3
              try clear hcz6_4
              try clear hcz6_5
              try clear hcz6_6
              try clear hcz6_7
              try clear hcz6_8
              try clear hcz6_9
              try clear hfz10_0
              try clear hfz10_1
              try clear hfz10_10
              try clear hfz10_11
              try clear hfz10_12
              try clear hfz10_13
              try clear hfz10_14
              try clear hfz10_15
              try clear hfz10_16
              try clear hfz10_17
              try clear hfz10_18
              try clear hfz10_19
              try clear hfz10_2
              try clear hfz10_20
              try clear hfz10_21
              try clear hfz10_22
              try clear hfz10_23
              try clear hfz10_24
              try clear hfz10_3
              try clear hfz10_4
              try clear hfz10_5
              try clear hfz10_6
              try clear hfz10_7
              try clear hfz10_8
              try clear hfz10_9
              try clear hfz12_0
              try clear hfz12_1
              try clear hfz12_10
              try clear hfz12_11
              try clear hfz12_12
              try clear hfz12_13
              try clear hfz12_14
              try clear hfz12_15
              try clear hfz12_16
              try clear hfz12_17
              try clear hfz12_18
              try clear hfz12_19
              try clear hfz12_2
              try clear hfz12_20
              try clear hfz12_21
              try clear hfz12_22
              try clear hfz12_23
              try clear hfz12_24
              try clear hfz12_3
              try clear hfz12_4
              try clear hfz12_5
              try clear hfz12_6
              try clear hfz12_7
              try clear hfz12_8
              try clear hfz12_9
              try clear hfz14_0
              try clear hfz14_1
              try clear hfz14_10
              try clear hfz14_11
              try clear hfz14_12
              try clear hfz14_13
              try clear hfz14_14
              try clear hfz14_15
              try clear hfz14_16
              try clear hfz14_17
              try clear hfz14_18
              try clear hfz14_19
              try clear hfz14_2
              try clear hfz14_20
              try clear hfz14_21
              try clear hfz14_22
              try clear hfz14_23
              try clear hfz14_24
              try clear hfz14_3
              try clear hfz14_4
              try clear hfz14_5
              try clear hfz14_6
              try clear hfz14_7
              try clear hfz14_8
              try clear hfz14_9
              try clear hfz15_0
              try clear hfz15_1
              try clear hfz15_10
              try clear hfz15_11
              try clear hfz15_12
              try clear hfz15_13
              try clear hfz15_14
              try clear hfz15_15
              try clear hfz15_16
              try clear hfz15_17
              try clear hfz15_18
              try clear hfz15_19
              try clear hfz15_2
              try clear hfz15_20
              try clear hfz15_21
              try clear hfz15_22
              try clear hfz15_23
              try clear hfz15_24
              try clear hfz15_3
              try clear hfz15_4
              try clear hfz15_5
              try clear hfz15_6
              try clear hfz15_7
              try clear hfz15_8
              try clear hfz15_9
              try clear hfz19_0
              try clear hfz19_1
              try clear hfz19_10
              try clear hfz19_11
              try clear hfz19_12
              try clear hfz19_13
              try clear hfz19_14
              try clear hfz19_15
              try clear hfz19_16
              try clear hfz19_17
              try clear hfz19_18
              try clear hfz19_19
              try clear hfz19_2
              try clear hfz19_20
              try clear hfz19_21
              try clear hfz19_22
              try clear hfz19_23
              try clear hfz19_24
              try clear hfz19_3
              try clear hfz19_4
              try clear hfz19_5
              try clear hfz19_6
              try clear hfz19_7
              try clear hfz19_8
              try clear hfz19_9
              try clear hfz20_0
              try clear hfz20_1
              try clear hfz20_10
              try clear hfz20_11
              try clear hfz20_12
              try clear hfz20_13
              try clear hfz20_14
              try clear hfz20_15
              try clear hfz20_16
              try clear hfz20_17
              try clear hfz20_18
              try clear hfz20_19
              try clear hfz20_2
              try clear hfz20_20
              try clear hfz20_21
              try clear hfz20_22
              try clear hfz20_23
              try clear hfz20_24
              try clear hfz20_3
              try clear hfz20_4
              try clear hfz20_5
              try clear hfz20_6
              try clear hfz20_7
              try clear hfz20_8
              try clear hfz20_9
              try clear hfz5_0
              try clear hfz5_1
              try clear hfz5_10
              try clear hfz5_11
              try clear hfz5_12
              try clear hfz5_13
              try clear hfz5_14
              try clear hfz5_15
              try clear hfz5_16
              try clear hfz5_17
              try clear hfz5_18
              try clear hfz5_19
              try clear hfz5_2
              try clear hfz5_20
              try clear hfz5_21
              try clear hfz5_22
              try clear hfz5_23
              try clear hfz5_24
              try clear hfz5_3
              try clear hfz5_4
              try clear hfz5_5
              try clear hfz5_6
              try clear hfz5_7
              try clear hfz5_8
              try clear hfz5_9
              try clear hfz6_0
              try clear hfz6_1
              try clear hfz6_10
              try clear hfz6_11
              try clear hfz6_12
              try clear hfz6_13
              try clear hfz6_14
              try clear hfz6_15
              try clear hfz6_16
              try clear hfz6_17
              try clear hfz6_18
              try clear hfz6_19
              try clear hfz6_2
              try clear hfz6_20
              try clear hfz6_21
              try clear hfz6_22
              try clear hfz6_23
              try clear hfz6_24
              try clear hfz6_3
              try clear hfz6_4
              try clear hfz6_5
              try clear hfz6_6
              try clear hfz6_7
              try clear hfz6_8
              try clear hfz6_9
              try clear p2
              try clear p6
              obtain ⟨kq, x31_16, rfl, HA, HJ16, BK101, HB⟩ := hcut
              cases kq with
              | zero => exact absurd HA.out (by simp [header_Check.j2])
              | succ kj16 =>
                have H := HA.out
                clear HA
                simp only [header_Check.j2] at H
                by_cases c21 : x31_16 = true
                · subst c21
                  have H1 : (some 0) = some r := by rw [if_pos rfl] at H; exact H
                  clear H
                  have H := H1
                  clear H1
                  obtain rfl := Option.some.inj H
                  go_wp2
                  go_ret
                  exact ⟨by first | rfl | (simp [errW_none, errW_some] <;> rfl) | (simp [*, errW_none, errW_some] <;> rfl), by repeat (first | (with_reducible first | exact HB.out | apply below_alloc | apply pw_below_drewN | apply below_drew1 | refine below_set ?_ GE101.out) | exact HB.out)⟩
                · replace c21 := Bool.eq_false_iff.mpr c21
                  subst c21
                  have H1 : (if a0_0 = 2 then (if a0_4 > 0 then (if a0_4 < a0_3 then (some 0) else (some 8)) else (some 8)) else (some 8)) = some r := by rw [if_neg (show ¬ (false = true) by decide)] at H; exact H
                  clear H
                  have H := H1
                  clear H1
                  by_cases c22 : a0_0 = 2
                  · rw [if_pos c22] at H
                    have c22b0 : (a0_0 == 2) = true := beq_iff_eq.mpr c22
                    have c22b1 : (a0_0 != 2) = false := bne_eq_false_iff_eq.mpr c22
                    clear c22
                    by_cases c23 : a0_4 > 0
                    · rw [if_pos c23] at H
                      have c23b0 : decide (0 < a0_4) = true := decide_eq_true c23
                      clear c23
                      by_cases c24 : a0_4 < a0_3
                      · rw [if_pos c24] at H
                        have c24b0 : decide (a0_4 < a0_3) = true := decide_eq_true c24
                        clear c24
                        obtain rfl := Option.some.inj H
                        have hcz25_0 : wc.cell? ⟨gb101, 0, none⟩ = some (.int .u8 a0_0) := (blk_cell BK101.out 0).trans rfl
                        have hcz25_1 : wc.cell? ⟨gb101, 1, none⟩ = some (.int .i64 a0_1) := (blk_cell BK101.out 1).trans rfl
                        have hcz25_2 : wc.cell? ⟨gb101, 2, none⟩ = some (.int .i64 a0_2) := (blk_cell BK101.out 2).trans rfl
                        have hcz25_3 : wc.cell? ⟨gb101, 3, none⟩ = some (.int .i64 a0_3) := (blk_cell BK101.out 3).trans rfl
                        have hcz25_4 : wc.cell? ⟨gb101, 4, none⟩ = some (.int .i64 a0_4) := (blk_cell BK101.out 4).trans rfl
                        have hcz25_5 : wc.cell? ⟨gb101, 5, none⟩ = some (.int .u8 a0_5) := (blk_cell BK101.out 5).trans rfl
                        have hcz25_6 : wc.cell? ⟨gb101, 6, none⟩ = some (.int .u8 a0_6) := (blk_cell BK101.out 6).trans rfl
                        have hcz25_7 : wc.cell? ⟨gb101, 7, none⟩ = some (.int .u8 a0_7) := (blk_cell BK101.out 7).trans rfl
                        have hcz25_8 : wc.cell? ⟨gb101, 8, none⟩ = some (.int .u8 a0_8) := (blk_cell BK101.out 8).trans rfl
                        have hcz25_9 : wc.cell? ⟨gb101, 9, none⟩ = some (.int .u8 a0_9) := (blk_cell BK101.out 9).trans rfl
                        have hcz25_10 : wc.cell? ⟨gb101, 10, none⟩ = some (.int .u8 a0_10) := (blk_cell BK101.out 10).trans rfl
                        have hcz25_11 : wc.cell? ⟨gb101, 11, none⟩ = some (.int .u8 a0_11) := (blk_cell BK101.out 11).trans rfl
                        have hcz25_12 : wc.cell? ⟨gb101, 12, none⟩ = some (.int .u8 a0_12) := (blk_cell BK101.out 12).trans rfl
                        have hcz25_13 : wc.cell? ⟨gb101, 13, none⟩ = some (.int .u8 a0_13) := (blk_cell BK101.out 13).trans rfl
                        have hcz25_14 : wc.cell? ⟨gb101, 14, none⟩ = some (.int .u8 a0_14) := (blk_cell BK101.out 14).trans rfl
                        have hcz25_15 : wc.cell? ⟨gb101, 15, none⟩ = some (.int .u8 a0_15) := (blk_cell BK101.out 15).trans rfl
                        have hcz25_16 : wc.cell? ⟨gb101, 16, none⟩ = some (.int .u8 a0_16) := (blk_cell BK101.out 16).trans rfl
                        have hcz25_17 : wc.cell? ⟨gb101, 17, none⟩ = some (.int .u8 a0_17) := (blk_cell BK101.out 17).trans rfl
                        have hcz25_18 : wc.cell? ⟨gb101, 18, none⟩ = some (.int .u8 a0_18) := (blk_cell BK101.out 18).trans rfl
                        have hcz25_19 : wc.cell? ⟨gb101, 19, none⟩ = some (.int .u8 a0_19) := (blk_cell BK101.out 19).trans rfl
                        have hcz25_20 : wc.cell? ⟨gb101, 20, none⟩ = some (.int .u8 a0_20) := (blk_cell BK101.out 20).trans rfl
                        have hcz25_21 : wc.cell? ⟨gb101, 21, none⟩ = some (.int .u8 a0_21) := (blk_cell BK101.out 21).trans rfl
                        have hcz25_22 : wc.cell? ⟨gb101, 22, none⟩ = some (.int .u8 a0_22) := (blk_cell BK101.out 22).trans rfl
                        have hcz25_23 : wc.cell? ⟨gb101, 23, none⟩ = some (.int .u8 a0_23) := (blk_cell BK101.out 23).trans rfl
                        have hcz25_24 : wc.cell? ⟨gb101, 24, none⟩ = some (.int .u8 a0_24) := (blk_cell BK101.out 24).trans rfl
                        have hfz25_0 := blk_frozen BK101.out 0
                        have hfz25_1 := blk_frozen BK101.out 1
                        have hfz25_2 := blk_frozen BK101.out 2
                        have hfz25_3 := blk_frozen BK101.out 3
                        have hfz25_4 := blk_frozen BK101.out 4
                        have hfz25_5 := blk_frozen BK101.out 5
                        have hfz25_6 := blk_frozen BK101.out 6
                        have hfz25_7 := blk_frozen BK101.out 7
                        have hfz25_8 := blk_frozen BK101.out 8
                        have hfz25_9 := blk_frozen BK101.out 9
                        have hfz25_10 := blk_frozen BK101.out 10
                        have hfz25_11 := blk_frozen BK101.out 11
                        have hfz25_12 := blk_frozen BK101.out 12
                        have hfz25_13 := blk_frozen BK101.out 13
                        have hfz25_14 := blk_frozen BK101.out 14
                        have hfz25_15 := blk_frozen BK101.out 15
                        have hfz25_16 := blk_frozen BK101.out 16
                        have hfz25_17 := blk_frozen BK101.out 17
                        have hfz25_18 := blk_frozen BK101.out 18
                        have hfz25_19 := blk_frozen BK101.out 19
                        have hfz25_20 := blk_frozen BK101.out 20
                        have hfz25_21 := blk_frozen BK101.out 21
                        have hfz25_22 := blk_frozen BK101.out 22
                        have hfz25_23 := blk_frozen BK101.out 23
                        have hfz25_24 := blk_frozen BK101.out 24
                        go_wp2
                        go_ret
                        exact ⟨by first | rfl | (simp [errW_none, errW_some] <;> rfl) | (simp [*, errW_none, errW_some] <;> rfl), by repeat (first | (with_reducible first | exact HB.out | apply below_alloc | apply pw_below_drewN | apply below_drew1 | refine below_set ?_ GE101.out) | exact HB.out)⟩
                      · rw [if_neg c24] at H
                        have c24b0 : decide (a0_4 < a0_3) = false := decide_eq_false c24
                        clear c24
                        obtain rfl := Option.some.inj H
                        have hcz26_0 : wc.cell? ⟨gb101, 0, none⟩ = some (.int .u8 a0_0) := (blk_cell BK101.out 0).trans rfl
                        have hcz26_1 : wc.cell? ⟨gb101, 1, none⟩ = some (.int .i64 a0_1) := (blk_cell BK101.out 1).trans rfl
                        have hcz26_2 : wc.cell? ⟨gb101, 2, none⟩ = some (.int .i64 a0_2) := (blk_cell BK101.out 2).trans rfl
                        have hcz26_3 : wc.cell? ⟨gb101, 3, none⟩ = some (.int .i64 a0_3) := (blk_cell BK101.out 3).trans rfl
                        have hcz26_4 : wc.cell? ⟨gb101, 4, none⟩ = some (.int .i64 a0_4) := (blk_cell BK101.out 4).trans rfl
                        have hcz26_5 : wc.cell? ⟨gb101, 5, none⟩ = some (.int .u8 a0_5) := (blk_cell BK101.out 5).trans rfl
                        have hcz26_6 : wc.cell? ⟨gb101, 6, none⟩ = some (.int .u8 a0_6) := (blk_cell BK101.out 6).trans rfl
                        have hcz26_7 : wc.cell? ⟨gb101, 7, none⟩ = some (.int .u8 a0_7) := (blk_cell BK101.out 7).trans rfl
                        have hcz26_8 : wc.cell? ⟨gb101, 8, none⟩ = some (.int .u8 a0_8) := (blk_cell BK101.out 8).trans rfl
                        have hcz26_9 : wc.cell? ⟨gb101, 9, none⟩ = some (.int .u8 a0_9) := (blk_cell BK101.out 9).trans rfl
                        have hcz26_10 : wc.cell? ⟨gb101, 10, none⟩ = some (.int .u8 a0_10) := (blk_cell BK101.out 10).trans rfl
                        have hcz26_11 : wc.cell? ⟨gb101, 11, none⟩ = some (.int .u8 a0_11) := (blk_cell BK101.out 11).trans rfl
                        have hcz26_12 : wc.cell? ⟨gb101, 12, none⟩ = some (.int .u8 a0_12) := (blk_cell BK101.out 12).trans rfl
                        have hcz26_13 : wc.cell? ⟨gb101, 13, none⟩ = some (.int .u8 a0_13) := (blk_cell BK101.out 13).trans rfl
                        have hcz26_14 : wc.cell? ⟨gb101, 14, none⟩ = some (.int .u8 a0_14) := (blk_cell BK101.out 14).trans rfl
                        have hcz26_15 : wc.cell? ⟨gb101, 15, none⟩ = some (.int .u8 a0_15) := (blk_cell BK101.out 15).trans rfl
                        have hcz26_16 : wc.cell? ⟨gb101, 16, none⟩ = some (.int .u8 a0_16) := (blk_cell BK101.out 16).trans rfl
                        have hcz26_17 : wc.cell? ⟨gb101, 17, none⟩ = some (.int .u8 a0_17) := (blk_cell BK101.out 17).trans rfl
                        have hcz26_18 : wc.cell? ⟨gb101, 18, none⟩ = some (.int .u8 a0_18) := (blk_cell BK101.out 18).trans rfl
                        have hcz26_19 : wc.cell? ⟨gb101, 19, none⟩ = some (.int .u8 a0_19) := (blk_cell BK101.out 19).trans rfl
                        have hcz26_20 : wc.cell? ⟨gb101, 20, none⟩ = some (.int .u8 a0_20) := (blk_cell BK101.out 20).trans rfl
                        have hcz26_21 : wc.cell? ⟨gb101, 21, none⟩ = some (.int .u8 a0_21) := (blk_cell BK101.out 21).trans rfl
                        have hcz26_22 : wc.cell? ⟨gb101, 22, none⟩ = some (.int .u8 a0_22) := (blk_cell BK101.out 22).trans rfl
                        have hcz26_23 : wc.cell? ⟨gb101, 23, none⟩ = some (.int .u8 a0_23) := (blk_cell BK101.out 23).trans rfl
                        have hcz26_24 : wc.cell? ⟨gb101, 24, none⟩ = some (.int .u8 a0_24) := (blk_cell BK101.out 24).trans rfl
                        have hfz26_0 := blk_frozen BK101.out 0
                        have hfz26_1 := blk_frozen BK101.out 1
                        have hfz26_2 := blk_frozen BK101.out 2
                        have hfz26_3 := blk_frozen BK101.out 3
                        have hfz26_4 := blk_frozen BK101.out 4
                        have hfz26_5 := blk_frozen BK101.out 5
                        have hfz26_6 := blk_frozen BK101.out 6
                        have hfz26_7 := blk_frozen BK101.out 7
                        have hfz26_8 := blk_frozen BK101.out 8
                        have hfz26_9 := blk_frozen BK101.out 9
                        have hfz26_10 := blk_frozen BK101.out 10
                        have hfz26_11 := blk_frozen BK101.out 11
                        have hfz26_12 := blk_frozen BK101.out 12
                        have hfz26_13 := blk_frozen BK101.out 13
                        have hfz26_14 := blk_frozen BK101.out 14
                        have hfz26_15 := blk_frozen BK101.out 15
                        have hfz26_16 := blk_frozen BK101.out 16
                        have hfz26_17 := blk_frozen BK101.out 17
                        have hfz26_18 := blk_frozen BK101.out 18
                        have hfz26_19 := blk_frozen BK101.out 19
                        have hfz26_20 := blk_frozen BK101.out 20
                        have hfz26_21 := blk_frozen BK101.out 21
                        have hfz26_22 := blk_frozen BK101.out 22
                        have hfz26_23 := blk_frozen BK101.out 23
                        have hfz26_24 := blk_frozen BK101.out 24
                        go_wp2
                        go_ret
                        exact ⟨by first | rfl | (simp [errW_none, errW_some] <;> rfl) | (simp [*, errW_none, errW_some] <;> rfl), by repeat (first | (with_reducible first | exact HB.out | apply below_alloc | apply pw_below_drewN | apply below_drew1 | refine below_set ?_ GE101.out) | exact HB.out)⟩
                    · rw [if_neg c23] at H
                      have c23b0 : decide (0 < a0_4) = false := decide_eq_false c23
                      clear c23
                      obtain rfl := Option.some.inj H
                      have hcz27_0 : wc.cell? ⟨gb101, 0, none⟩ = some (.int .u8 a0_0) := (blk_cell BK101.out 0).trans rfl
                      have hcz27_1 : wc.cell? ⟨gb101, 1, none⟩ = some (.int .i64 a0_1) := (blk_cell BK101.out 1).trans rfl
                      have hcz27_2 : wc.cell? ⟨gb101, 2, none⟩ = some (.int .i64 a0_2) := (blk_cell BK101.out 2).trans rfl
                      have hcz27_3 : wc.cell? ⟨gb101, 3, none⟩ = some (.int .i64 a0_3) := (blk_cell BK101.out 3).trans rfl
                      have hcz27_4 : wc.cell? ⟨gb101, 4, none⟩ = some (.int .i64 a0_4) := (blk_cell BK101.out 4).trans rfl
                      have hcz27_5 : wc.cell? ⟨gb101, 5, none⟩ = some (.int .u8 a0_5) := (blk_cell BK101.out 5).trans rfl
                      have hcz27_6 : wc.cell? ⟨gb101, 6, none⟩ = some (.int .u8 a0_6) := (blk_cell BK101.out 6).trans rfl
                      have hcz27_7 : wc.cell? ⟨gb101, 7, none⟩ = some (.int .u8 a0_7) := (blk_cell BK101.out 7).trans rfl
                      have hcz27_8 : wc.cell? ⟨gb101, 8, none⟩ = some (.int .u8 a0_8) := (blk_cell BK101.out 8).trans rfl
                      have hcz27_9 : wc.cell? ⟨gb101, 9, none⟩ = some (.int .u8 a0_9) := (blk_cell BK101.out 9).trans rfl
                      have hcz27_10 : wc.cell? ⟨gb101, 10, none⟩ = some (.int .u8 a0_10) := (blk_cell BK101.out 10).trans rfl
                      have hcz27_11 : wc.cell? ⟨gb101, 11, none⟩ = some (.int .u8 a0_11) := (blk_cell BK101.out 11).trans rfl
                      have hcz27_12 : wc.cell? ⟨gb101, 12, none⟩ = some (.int .u8 a0_12) := (blk_cell BK101.out 12).trans rfl
                      have hcz27_13 : wc.cell? ⟨gb101, 13, none⟩ = some (.int .u8 a0_13) := (blk_cell BK101.out 13).trans rfl
                      have hcz27_14 : wc.cell? ⟨gb101, 14, none⟩ = some (.int .u8 a0_14) := (blk_cell BK101.out 14).trans rfl
                      have hcz27_15 : wc.cell? ⟨gb101, 15, none⟩ = some (.int .u8 a0_15) := (blk_cell BK101.out 15).trans rfl
                      have hcz27_16 : wc.cell? ⟨gb101, 16, none⟩ = some (.int .u8 a0_16) := (blk_cell BK101.out 16).trans rfl
                      have hcz27_17 : wc.cell? ⟨gb101, 17, none⟩ = some (.int .u8 a0_17) := (blk_cell BK101.out 17).trans rfl
                      have hcz27_18 : wc.cell? ⟨gb101, 18, none⟩ = some (.int .u8 a0_18) := (blk_cell BK101.out 18).trans rfl
                      have hcz27_19 : wc.cell? ⟨gb101, 19, none⟩ = some (.int .u8 a0_19) := (blk_cell BK101.out 19).trans rfl
                      have hcz27_20 : wc.cell? ⟨gb101, 20, none⟩ = some (.int .u8 a0_20) := (blk_cell BK101.out 20).trans rfl
                      have hcz27_21 : wc.cell? ⟨gb101, 21, none⟩ = some (.int .u8 a0_21) := (blk_cell BK101.out 21).trans rfl
                      have hcz27_22 : wc.cell? ⟨gb101, 22, none⟩ = some (.int .u8 a0_22) := (blk_cell BK101.out 22).trans rfl
                      have hcz27_23 : wc.cell? ⟨gb101, 23, none⟩ = some (.int .u8 a0_23) := (blk_cell BK101.out 23).trans rfl
                      have hcz27_24 : wc.cell? ⟨gb101, 24, none⟩ = some (.int .u8 a0_24) := (blk_cell BK101.out 24).trans rfl
                      have hfz27_0 := blk_frozen BK101.out 0
                      have hfz27_1 := blk_frozen BK101.out 1
                      have hfz27_2 := blk_frozen BK101.out 2
                      have hfz27_3 := blk_frozen BK101.out 3
                      have hfz27_4 := blk_frozen BK101.out 4
                      have hfz27_5 := blk_frozen BK101.out 5
                      have hfz27_6 := blk_frozen BK101.out 6
                      have hfz27_7 := blk_frozen BK101.out 7
                      have hfz27_8 := blk_frozen BK101.out 8
                      have hfz27_9 := blk_frozen BK101.out 9
                      have hfz27_10 := blk_frozen BK101.out 10
                      have hfz27_11 := blk_frozen BK101.out 11
                      have hfz27_12 := blk_frozen BK101.out 12
                      have hfz27_13 := blk_frozen BK101.out 13
                      have hfz27_14 := blk_frozen BK101.out 14
                      have hfz27_15 := blk_frozen BK101.out 15
                      have hfz27_16 := blk_frozen BK101.out 16
                      have hfz27_17 := blk_frozen BK101.out 17
                      have hfz27_18 := blk_frozen BK101.out 18
                      have hfz27_19 := blk_frozen BK101.out 19
                      have hfz27_20 := blk_frozen BK101.out 20
                      have hfz27_21 := blk_frozen BK101.out 21
                      have hfz27_22 := blk_frozen BK101.out 22
                      have hfz27_23 := blk_frozen BK101.out 23
                      have hfz27_24 := blk_frozen BK101.out 24
                      go_wp2
                      go_ret
                      exact ⟨by first | rfl | (simp [errW_none, errW_some] <;> rfl) | (simp [*, errW_none, errW_some] <;> rfl), by repeat (first | (with_reducible first | exact HB.out | apply below_alloc | apply pw_below_drewN | apply below_drew1 | refine below_set ?_ GE101.out) | exact HB.out)⟩
                  · rw [if_neg c22] at H
                    have c22b0 : (a0_0 == 2) = false := beq_eq_false_iff_ne.mpr c22
                    have c22b1 : (a0_0 != 2) = true := bne_iff_ne.mpr c22
                    obtain rfl := Option.some.inj H
                    have hcz28_0 : wc.cell? ⟨gb101, 0, none⟩ = some (.int .u8 a0_0) := (blk_cell BK101.out 0).trans rfl
                    have hcz28_1 : wc.cell? ⟨gb101, 1, none⟩ = some (.int .i64 a0_1) := (blk_cell BK101.out 1).trans rfl
                    have hcz28_2 : wc.cell? ⟨gb101, 2, none⟩ = some (.int .i64 a0_2) := (blk_cell BK101.out 2).trans rfl
                    have hcz28_3 : wc.cell? ⟨gb101, 3, none⟩ = some (.int .i64 a0_3) := (blk_cell BK101.out 3).trans rfl
                    have hcz28_4 : wc.cell? ⟨gb101, 4, none⟩ = some (.int .i64 a0_4) := (blk_cell BK101.out 4).trans rfl
                    have hcz28_5 : wc.cell? ⟨gb101, 5, none⟩ = some (.int .u8 a0_5) := (blk_cell BK101.out 5).trans rfl
                    have hcz28_6 : wc.cell? ⟨gb101, 6, none⟩ = some (.int .u8 a0_6) := (blk_cell BK101.out 6).trans rfl
                    have hcz28_7 : wc.cell? ⟨gb101, 7, none⟩ = some (.int .u8 a0_7) := (blk_cell BK101.out 7).trans rfl
                    have hcz28_8 : wc.cell? ⟨gb101, 8, none⟩ = some (.int .u8 a0_8) := (blk_cell BK101.out 8).trans rfl
                    have hcz28_9 : wc.cell? ⟨gb101, 9, none⟩ = some (.int .u8 a0_9) := (blk_cell BK101.out 9).trans rfl
                    have hcz28_10 : wc.cell? ⟨gb101, 10, none⟩ = some (.int .u8 a0_10) := (blk_cell BK101.out 10).trans rfl
                    have hcz28_11 : wc.cell? ⟨gb101, 11, none⟩ = some (.int .u8 a0_11) := (blk_cell BK101.out 11).trans rfl
                    have hcz28_12 : wc.cell? ⟨gb101, 12, none⟩ = some (.int .u8 a0_12) := (blk_cell BK101.out 12).trans rfl
                    have hcz28_13 : wc.cell? ⟨gb101, 13, none⟩ = some (.int .u8 a0_13) := (blk_cell BK101.out 13).trans rfl
                    have hcz28_14 : wc.cell? ⟨gb101, 14, none⟩ = some (.int .u8 a0_14) := (blk_cell BK101.out 14).trans rfl
                    have hcz28_15 : wc.cell? ⟨gb101, 15, none⟩ = some (.int .u8 a0_15) := (blk_cell BK101.out 15).trans rfl
                    have hcz28_16 : wc.cell? ⟨gb101, 16, none⟩ = some (.int .u8 a0_16) := (blk_cell BK101.out 16).trans rfl
                    have hcz28_17 : wc.cell? ⟨gb101, 17, none⟩ = some (.int .u8 a0_17) := (blk_cell BK101.out 17).trans rfl
                    have hcz28_18 : wc.cell? ⟨gb101, 18, none⟩ = some (.int .u8 a0_18) := (blk_cell BK101.out 18).trans rfl
                    have hcz28_19 : wc.cell? ⟨gb101, 19, none⟩ = some (.int .u8 a0_19) := (blk_cell BK101.out 19).trans rfl
                    have hcz28_20 : wc.cell? ⟨gb101, 20, none⟩ = some (.int .u8 a0_20) := (blk_cell BK101.out 20).trans rfl
                    have hcz28_21 : wc.cell? ⟨gb101, 21, none⟩ = some (.int .u8 a0_21) := (blk_cell BK101.out 21).trans rfl
                    have hcz28_22 : wc.cell? ⟨gb101, 22, none⟩ = some (.int .u8 a0_22) := (blk_cell BK101.out 22).trans rfl
                    have hcz28_23 : wc.cell? ⟨gb101, 23, none⟩ = some (.int .u8 a0_23) := (blk_cell BK101.out 23).trans rfl
                    have hcz28_24 : wc.cell? ⟨gb101, 24, none⟩ = some (.int .u8 a0_24) := (blk_cell BK101.out 24).trans rfl
                    have hfz28_0 := blk_frozen BK101.out 0
                    have hfz28_1 := blk_frozen BK101.out 1
                    have hfz28_2 := blk_frozen BK101.out 2
                    have hfz28_3 := blk_frozen BK101.out 3
                    have hfz28_4 := blk_frozen BK101.out 4
                    have hfz28_5 := blk_frozen BK101.out 5
                    have hfz28_6 := blk_frozen BK101.out 6
                    have hfz28_7 := blk_frozen BK101.out 7
                    have hfz28_8 := blk_frozen BK101.out 8
                    have hfz28_9 := blk_frozen BK101.out 9
                    have hfz28_10 := blk_frozen BK101.out 10
                    have hfz28_11 := blk_frozen BK101.out 11
                    have hfz28_12 := blk_frozen BK101.out 12
                    have hfz28_13 := blk_frozen BK101.out 13
                    have hfz28_14 := blk_frozen BK101.out 14
                    have hfz28_15 := blk_frozen BK101.out 15
                    have hfz28_16 := blk_frozen BK101.out 16
                    have hfz28_17 := blk_frozen BK101.out 17
                    have hfz28_18 := blk_frozen BK101.out 18
                    have hfz28_19 := blk_frozen BK101.out 19
                    have hfz28_20 := blk_frozen BK101.out 20
                    have hfz28_21 := blk_frozen BK101.out 21
                    have hfz28_22 := blk_frozen BK101.out 22
                    have hfz28_23 := blk_frozen BK101.out 23
                    have hfz28_24 := blk_frozen BK101.out 24
                    go_wp2
                    go_ret
                    exact ⟨by first | rfl | (simp [errW_none, errW_some] <;> rfl) | (simp [*, errW_none, errW_some] <;> rfl), by repeat (first | (with_reducible first | exact HB.out | apply below_alloc | apply pw_below_drewN | apply below_drew1 | refine below_set ?_ GE101.out) | exact HB.out)⟩

end Go.Proofs.YtbldecdipicddaaDoor.QS
