/- bitloftlaw01.alive answers true. Written by wip/s1/mkalive01.py. -/
import Derived.Test.YtbldecdipicddaaDoorHIs
import Derived.Lib.SmallJoins
set_option linter.unusedSimpArgs false
set_option linter.unusedVariables false
namespace Go.Proofs.YtbldecdipicddaaDoor.Hand
open Go Go.RowKit Go.Proofs.YtbldecdipicddaaDoorW.PrintWords Go.Proofs.YtbldecdipicddaaDoorW.PrintLast Go.Proofs.YtbldecdipicddaaDoorW.PrintMore
/-- A byte slice's literal, converted to itself ('[]byte("..")' of a constant). -/
theorem constbytes_event {ops : Array Oper} {o1 o2 : Oper} {rest : List Oper} {a : Act} {Q : Exit → Act → World → Prop} {W : World} {xs : List Int} {x : Operand} (h1 : o1.guard = none) (h2 : o2.guard = none)
    (hrun : (execOp a.eval o1).run Tryd.prog W = .ok (.value (.slice (some ⟨W.heap.size, 0, none⟩) xs.length xs.length)) (W.alloc (.cells (xs.map (Value.int .u8)).toArray 5 (0, 0))))
    (hcv : o2.op = .convert 26 26 x) (hev : (a.put o1.dst (.slice (some ⟨W.heap.size, 0, none⟩) xs.length xs.length)).eval x = .slice (some ⟨W.heap.size, 0, none⟩) xs.length xs.length) (hl : xs.length ≤ 9223372036854775807)
    (h : ∀ (g : Nat) (w1 : World), Below W.heap.size W w1 → Kd.C (Kd.int .u8) w1 (some ⟨g, 0, none⟩) xs.length xs → wpList Tryd.prog ops Q rest ((a.put o1.dst (.slice (some ⟨g, 0, none⟩) xs.length xs.length)).put o2.dst (.slice (some ⟨g, 0, none⟩) xs.length xs.length)) w1) : wpList Tryd.prog ops Q (o1 :: o2 :: rest) a W := by
  refine Kd.event_run h1 hrun ?_
  have hcr := Go.Joins.run_convert_bytes_const_at (P := Tryd.prog) W 26 5 (xs.map (Value.int .u8)).toArray xs.length xs.length W.heap.size rfl Tryd.underlying26 Tryd.underlying5
  refine Kd.event_run h2 (v := .slice (some ⟨W.heap.size, 0, none⟩) xs.length xs.length) (w1 := W.alloc (.cells (xs.map (Value.int .u8)).toArray 5 ((xs.map (Value.int .u8)).toArray.size, (xs.map (Value.int .u8)).toArray.size + 1))) ?_ (h _ _ (below_alloc (Below.refl _ _) _) ?_)
  · unfold execOp
    simp [hcv, hev, hcr]
  · refine Kd.C_of_reads (d := (0 : Int)) (h1 := fun _ => rfl) ⟨rfl, hl, fun _ => ⟨⟨W.heap.size, 0, none⟩, rfl, fun j hj => ?_⟩⟩
    have e : (⟨W.heap.size, 0, none⟩ : Addr).add j = ⟨W.heap.size, j, none⟩ := by
      by_cases h : j = 0
      · subst h; rfl
      · simp [Addr.add, h]
    rw [e, Go.Joins.cell_alloc_mark_at W _ 5 _ _ j rfl]
    simp [List.getD_eq_getElem?_getD, List.getElem?_map, hj]
theorem bytes_mk {w : World} {g t : Nat} {l : List Int} (hb : w.heap[g]? = some (.cells (l.map (Value.int .u8)).toArray t (0, 0))) (hn : l.length ≤ 9223372036854775807) : Kd.C (Kd.int .u8) w (some ⟨g, 0, none⟩) l.length l := by
  refine Kd.C_of_reads (d := (0 : Int)) (h1 := fun _ => rfl) ⟨rfl, hn, fun _ => ⟨⟨g, 0, none⟩, rfl, fun j hj => ?_⟩⟩
  have e : (⟨g, 0, none⟩ : Addr).add j = ⟨g, j, none⟩ := by
    by_cases h : j = 0
    · subst h; rfl
    · simp [Addr.add, h]
  rw [e, blk_cell hb]
  simp [List.getD_eq_getElem?_getD, List.getElem?_map, hj]
theorem rows3 {w : World} {g a b t : Nat} (hb : w.heap[g]? = some (.cells #[.slice (some ⟨a, 0, none⟩) 1 1, .slice none 0 0, .slice (some ⟨b, 0, none⟩) 2 2] t (0, 0))) (h1 : Kd.C (Kd.int .u8) w (some ⟨a, 0, none⟩) 1 [97]) (h2 : Kd.C (Kd.int .u8) w (some ⟨b, 0, none⟩) 2 [98, 99]) : Kd.C (Kd.slice 5 (Kd.int .u8)) w (some ⟨g, 0, none⟩) 3 [[97], [], [98, 99]] :=
  rows_mk (ll := [[97], [], [98, 99]]) (vs := [.slice (some ⟨a, 0, none⟩) 1 1, .slice none 0 0, .slice (some ⟨b, 0, none⟩) 2 2]) hb (by decide) (fun i x hi => match i, hi with
    | 0, hi => by cases hi; exact ⟨_, _, rfl, Nat.le_refl _, h1⟩
    | 1, hi => by cases hi; exact ⟨none, 0, rfl, Nat.le_refl _, Kd.C_of_reads (d := (0 : Int)) (h1 := fun _ => rfl) ⟨rfl, by decide, fun h => absurd h (by decide)⟩⟩
    | 2, hi => by cases hi; exact ⟨_, _, rfl, Nat.le_refl _, h2⟩
    | i + 3, hi => by simp at hi)
set_option maxHeartbeats 1600000 in
set_option maxRecDepth 100000 in
theorem alive_walk (d0 d1 d2 d3 d4 d5 d6 d7 d8 d9 d10 d11 d12 d13 d14 d15 d16 d17 d18 d19 : Int) (w : World) (hT : TabQ w) (hsum : ∀ (W : World) (A : Option Addr) (c : Nat), TabQ W → Kd.C (Kd.int .u8) W A 3 [97, 98, 99] → 3 ≤ c → Calls Tryd.prog 44 #[.slice A 3 c] W fun e w' => e = .returned (.tuple #[.agg #[.int .u8 d0, .int .u8 d1, .int .u8 d2, .int .u8 d3, .int .u8 d4, .int .u8 d5, .int .u8 d6, .int .u8 d7, .int .u8 d8, .int .u8 d9, .int .u8 d10, .int .u8 d11, .int .u8 d12, .int .u8 d13, .int .u8 d14, .int .u8 d15, .int .u8 d16, .int .u8 d17, .int .u8 d18, .int .u8 d19], .int .i64 0]) ∧ Below W.heap.size W w') (hpc : ∀ (W : World) (A : Option Addr) (c : Nat), TabQ W → Kd.C (Kd.slice 5 (Kd.int .u8)) W A 3 [[97], [], [98, 99]] → 3 ≤ c → Calls Tryd.prog 46 #[.slice A 3 c] W fun e w' => e = .returned (.tuple #[.agg #[.int .u8 d0, .int .u8 d1, .int .u8 d2, .int .u8 d3, .int .u8 d4, .int .u8 d5, .int .u8 d6, .int .u8 d7, .int .u8 d8, .int .u8 d9, .int .u8 d10, .int .u8 d11, .int .u8 d12, .int .u8 d13, .int .u8 d14, .int .u8 d15, .int .u8 d16, .int .u8 d17, .int .u8 d18, .int .u8 d19], .int .i64 0]) ∧ Below W.heap.size W w')
    (hp5 : ∀ W : World, Calls Tryd.prog 28 #[.int .i64 55] W fun e w' => ∃ v0_ : Value, e = .returned (.tuple #[v0_, .int .i64 0]) ∧ Kd.R (Kd.int .u8) 5 w' W.heap.size (fun _ => True) v0_ (padl 55) ∧ Below W.heap.size W w')
    (hp6 : ∀ W : World, Calls Tryd.prog 28 #[.int .i64 56] W fun e w' => ∃ v0_ : Value, e = .returned (.tuple #[v0_, .int .i64 0]) ∧ Kd.R (Kd.int .u8) 5 w' W.heap.size (fun _ => True) v0_ (padl 56) ∧ Below W.heap.size W w')
    (hi0 : ∀ W : World, TabQ W → Calls Tryd.prog 49 #[.string (strOfNums []), .agg #[.int .u8 218, .int .u8 57, .int .u8 163, .int .u8 238], .int .u8 9] W fun e w' => e = .returned (.bool true) ∧ Below W.heap.size W w')
    (hi3 : ∀ W : World, TabQ W → Calls Tryd.prog 49 #[.string (strOfNums [97, 98, 99]), .agg #[.int .u8 169, .int .u8 153, .int .u8 62, .int .u8 54], .int .u8 157] W fun e w' => e = .returned (.bool true) ∧ Below W.heap.size W w') :
    Calls Tryd.prog 48 #[] w fun e w' => e = .returned (.bool true) ∧ Below w.heap.size w w' := by
  have HhT := Aside0.mk hT
  have Hhsum := Aside0.mk hsum
  have Hhpc := Aside0.mk hpc
  have Hhp5 := Aside0.mk hp5
  have Hhp6 := Aside0.mk hp6
  have Hhi0 := Aside0.mk hi0
  have Hhi3 := Aside0.mk hi3
  clear hT hsum hpc hp5 hp6 hi0 hi3
  have hqp := fun (d : Nat) (W : World) => eqA23 d W d0 d0 d1 d1 d2 d2 d3 d3 d4 d4 d5 d5 d6 d6 d7 d7 d8 d8 d9 d9 d10 d10 d11 d11 d12 d12 d13 d13 d14 d14 d15 d15 d16 d16 d17 d17 d18 d18 d19 d19
  simp only [beq_self_eq_true, Bool.and_self] at hqp
  go_enter Tryd.func48, Tryd.ntmps48
  go_wp2_with (first | ((with_reducible refine gate_dst (N := 10) rfl ?_); refine constbytes_event (xs := [97, 98, 99]) (x := .tmp 10) rfl rfl (by first | (go_simp; done) | (go_simp; rfl)) rfl (by first | rfl | (go_simp; done) | (go_simp; rfl)) (by decide) ?_; intro q2 w1 hbs_ hC_; have B3 := Aside0.mk (hbs_); have R4 := Aside0.mk hC_; clear hbs_ hC_ ))
  refine (Hhsum.out w1 (some ⟨q2, 0, none⟩) 3 (HhT.out.at B3.out) (Kd.C_below R4.out (Below.refl _ _)) (by decide)).mono ?_
  rintro e w5 ⟨rfl, hb_⟩
  have B6 := Aside0.mk (below_step B3.out hb_)
  have B7 := Aside0.mk (hb_)
  clear hb_ B3
  go_wp2_with (first | ((with_reducible refine gate_dst (N := 1) rfl ?_); refine box_event ?hg (N := 1) ?hd (cs := #[.int .u8 0, .int .u8 0, .int .u8 0, .int .u8 0, .int .u8 0, .int .u8 0, .int .u8 0, .int .u8 0, .int .u8 0, .int .u8 0, .int .u8 0, .int .u8 0, .int .u8 0, .int .u8 0, .int .u8 0, .int .u8 0, .int .u8 0, .int .u8 0, .int .u8 0, .int .u8 0]) (t := 23) ?hr ?_; (case hd => rfl); (case hg => rfl); (case hr => first | (go_simp; done) | (go_simp; rfl)); intro g8 hgg8 w9 hhg8 hbg8; have H14 := Aside0.mk hhg8; have G10 : w.heap.size ≤ g8 := Nat.le_trans B6.out.size (Nat.le_of_eq hgg8.symm); have G11 : w1.heap.size ≤ g8 := Nat.le_trans B7.out.size (Nat.le_of_eq hgg8.symm); have B12 := Aside0.mk (below_step B6.out hbg8); have B13 := Aside0.mk (below_step B7.out hbg8); clear hgg8 hhg8 hbg8 B6 B7) | ((with_reducible refine gate_store (t := 23) (p := _) rfl ?_); refine storeN_event (T := 23) rfl rfl rfl rfl rfl (storeVar_blk H14.out 23 0 [.int .u8 d0, .int .u8 d1, .int .u8 d2, .int .u8 d3, .int .u8 d4, .int .u8 d5, .int .u8 d6, .int .u8 d7, .int .u8 d8, .int .u8 d9, .int .u8 d10, .int .u8 d11, .int .u8 d12, .int .u8 d13, .int .u8 d14, .int .u8 d15, .int .u8 d16, .int .u8 d17, .int .u8 d18, .int .u8 d19] (by kernel_rfl) rfl (by simp)) ?_; have H16 := Aside0.mk (show (World.setCells w9 g8 0 [.int .u8 d0, .int .u8 d1, .int .u8 d2, .int .u8 d3, .int .u8 d4, .int .u8 d5, .int .u8 d6, .int .u8 d7, .int .u8 d8, .int .u8 d9, .int .u8 d10, .int .u8 d11, .int .u8 d12, .int .u8 d13, .int .u8 d14, .int .u8 d15, .int .u8 d16, .int .u8 d17, .int .u8 d18, .int .u8 d19]).heap[g8]? = some (.cells #[.int .u8 d0, .int .u8 d1, .int .u8 d2, .int .u8 d3, .int .u8 d4, .int .u8 d5, .int .u8 d6, .int .u8 d7, .int .u8 d8, .int .u8 d9, .int .u8 d10, .int .u8 d11, .int .u8 d12, .int .u8 d13, .int .u8 d14, .int .u8 d15, .int .u8 d16, .int .u8 d17, .int .u8 d18, .int .u8 d19] 23 (0, 0)) from blk_setCells [] [.int .u8 d0, .int .u8 d1, .int .u8 d2, .int .u8 d3, .int .u8 d4, .int .u8 d5, .int .u8 d6, .int .u8 d7, .int .u8 d8, .int .u8 d9, .int .u8 d10, .int .u8 d11, .int .u8 d12, .int .u8 d13, .int .u8 d14, .int .u8 d15, .int .u8 d16, .int .u8 d17, .int .u8 d18, .int .u8 d19] [.int .u8 0, .int .u8 0, .int .u8 0, .int .u8 0, .int .u8 0, .int .u8 0, .int .u8 0, .int .u8 0, .int .u8 0, .int .u8 0, .int .u8 0, .int .u8 0, .int .u8 0, .int .u8 0, .int .u8 0, .int .u8 0, .int .u8 0, .int .u8 0, .int .u8 0, .int .u8 0] [] w9 rfl H14.out); have B17 := Aside0.mk (below_setCells G10 [.int .u8 d0, .int .u8 d1, .int .u8 d2, .int .u8 d3, .int .u8 d4, .int .u8 d5, .int .u8 d6, .int .u8 d7, .int .u8 d8, .int .u8 d9, .int .u8 d10, .int .u8 d11, .int .u8 d12, .int .u8 d13, .int .u8 d14, .int .u8 d15, .int .u8 d16, .int .u8 d17, .int .u8 d18, .int .u8 d19] 0 w9 B12.out); have B18 := Aside0.mk (below_setCells G11 [.int .u8 d0, .int .u8 d1, .int .u8 d2, .int .u8 d3, .int .u8 d4, .int .u8 d5, .int .u8 d6, .int .u8 d7, .int .u8 d8, .int .u8 d9, .int .u8 d10, .int .u8 d11, .int .u8 d12, .int .u8 d13, .int .u8 d14, .int .u8 d15, .int .u8 d16, .int .u8 d17, .int .u8 d18, .int .u8 d19] 0 w9 B13.out); clear H14 B12 B13; generalize World.setCells w9 g8 0 [.int .u8 d0, .int .u8 d1, .int .u8 d2, .int .u8 d3, .int .u8 d4, .int .u8 d5, .int .u8 d6, .int .u8 d7, .int .u8 d8, .int .u8 d9, .int .u8 d10, .int .u8 d11, .int .u8 d12, .int .u8 d13, .int .u8 d14, .int .u8 d15, .int .u8 d16, .int .u8 d17, .int .u8 d18, .int .u8 d19] = w15 at H16 B17 B18 ⊢) | ((with_reducible refine gate_dst (N := 16) rfl ?_); refine constbytes_event (xs := [97]) (x := .tmp 16) rfl rfl (by first | (go_simp; done) | (go_simp; rfl)) rfl (by first | rfl | (go_simp; done) | (go_simp; rfl)) (by decide) ?_; intro q20 w19 hbs_ hC_; have B21 := Aside0.mk (below_step B17.out hbs_); have B22 := Aside0.mk (below_step B18.out hbs_); have H23 := Aside0.mk (blk_below H16.out hbs_); have R24 := Aside0.mk hC_; clear hbs_ hC_ B17 B18 H16) | ((with_reducible refine gate_dst (N := 18) rfl ?_); refine constbytes_event (xs := [98, 99]) (x := .tmp 18) rfl rfl (by first | (go_simp; done) | (go_simp; rfl)) rfl (by first | rfl | (go_simp; done) | (go_simp; rfl)) (by decide) ?_; intro q26 w25 hbs_ hC_; have B27 := Aside0.mk (below_step B21.out hbs_); have B28 := Aside0.mk (below_step B22.out hbs_); have B29 := Aside0.mk (hbs_); have H30 := Aside0.mk (blk_below H23.out hbs_); have R31 := Aside0.mk hC_; clear hbs_ hC_ B21 B22 H23) | ((with_reducible refine gate_dst (N := 20) rfl ?_); refine lit_event ?hg (N := 20) ?hd (cs := #[.slice (some ⟨q20, 0, none⟩) 1 1, .slice none 0 0, .slice (some ⟨q26, 0, none⟩) 2 2]) (t := 26) (n := 3) ?hr ?_; (case hd => rfl); (case hg => rfl); (case hr => first | (go_simp; done) | (go_simp; rfl)); intro g32 hgg32 w33 hhg32 hbg32; have H44 := Aside0.mk hhg32; have N34 : g8 ≠ g32 := Nat.ne_of_lt (Nat.lt_of_lt_of_eq (blk_lt H30.out) hgg32.symm); have G35 : w.heap.size ≤ g32 := Nat.le_trans B27.out.size (Nat.le_of_eq hgg32.symm); have G36 : w1.heap.size ≤ g32 := Nat.le_trans B28.out.size (Nat.le_of_eq hgg32.symm); have G37 : w19.heap.size ≤ g32 := Nat.le_trans B29.out.size (Nat.le_of_eq hgg32.symm); have G38 : w25.heap.size ≤ g32 := Nat.le_of_eq hgg32.symm; have B39 := Aside0.mk (below_step B27.out hbg32); have B40 := Aside0.mk (below_step B28.out hbg32); have B41 := Aside0.mk (below_step B29.out hbg32); have B42 := Aside0.mk (hbg32); have H43 := Aside0.mk (blk_below H30.out hbg32); clear hgg32 hhg32 hbg32 B27 B28 B29 H30))
  refine (Hhpc.out w33 (some ⟨g32, 0, none⟩) 3 (HhT.out.at B39.out) (rows3 H44.out (Kd.C_below R24.out B41.out) (Kd.C_below R31.out B42.out)) (by decide)).mono ?_
  rintro e w45 ⟨rfl, hb_⟩
  have B46 := Aside0.mk (below_step B39.out hb_)
  have B47 := Aside0.mk (below_step B40.out hb_)
  have B48 := Aside0.mk (below_step B41.out hb_)
  have B49 := Aside0.mk (below_step B42.out hb_)
  have H50 := Aside0.mk (blk_below H43.out hb_)
  have H51 := Aside0.mk (blk_below H44.out hb_)
  clear hb_ B39 B40 B41 B42 H43 H44
  go_wp2_with (first | ((with_reducible refine gate_dst (N := 3) rfl ?_); refine box_event ?hg (N := 3) ?hd (cs := #[.int .u8 0, .int .u8 0, .int .u8 0, .int .u8 0, .int .u8 0, .int .u8 0, .int .u8 0, .int .u8 0, .int .u8 0, .int .u8 0, .int .u8 0, .int .u8 0, .int .u8 0, .int .u8 0, .int .u8 0, .int .u8 0, .int .u8 0, .int .u8 0, .int .u8 0, .int .u8 0]) (t := 23) ?hr ?_; (case hd => rfl); (case hg => rfl); (case hr => first | (go_simp; done) | (go_simp; rfl)); intro g52 hgg52 w53 hhg52 hbg52; have H66 := Aside0.mk hhg52; have N54 : g8 ≠ g52 := Nat.ne_of_lt (Nat.lt_of_lt_of_eq (blk_lt H50.out) hgg52.symm); have N55 : g32 ≠ g52 := Nat.ne_of_lt (Nat.lt_of_lt_of_eq (blk_lt H51.out) hgg52.symm); have G56 : w.heap.size ≤ g52 := Nat.le_trans B46.out.size (Nat.le_of_eq hgg52.symm); have G57 : w1.heap.size ≤ g52 := Nat.le_trans B47.out.size (Nat.le_of_eq hgg52.symm); have G58 : w19.heap.size ≤ g52 := Nat.le_trans B48.out.size (Nat.le_of_eq hgg52.symm); have G59 : w25.heap.size ≤ g52 := Nat.le_trans B49.out.size (Nat.le_of_eq hgg52.symm); have B60 := Aside0.mk (below_step B46.out hbg52); have B61 := Aside0.mk (below_step B47.out hbg52); have B62 := Aside0.mk (below_step B48.out hbg52); have B63 := Aside0.mk (below_step B49.out hbg52); have H64 := Aside0.mk (blk_below H50.out hbg52); have H65 := Aside0.mk (blk_below H51.out hbg52); clear hgg52 hhg52 hbg52 B46 B47 B48 B49 H50 H51) | ((with_reducible refine gate_store (t := 23) (p := _) rfl ?_); refine storeN_event (T := 23) rfl rfl rfl rfl rfl (storeVar_blk H66.out 23 0 [.int .u8 d0, .int .u8 d1, .int .u8 d2, .int .u8 d3, .int .u8 d4, .int .u8 d5, .int .u8 d6, .int .u8 d7, .int .u8 d8, .int .u8 d9, .int .u8 d10, .int .u8 d11, .int .u8 d12, .int .u8 d13, .int .u8 d14, .int .u8 d15, .int .u8 d16, .int .u8 d17, .int .u8 d18, .int .u8 d19] (by kernel_rfl) rfl (by simp)) ?_; have H68 := Aside0.mk (show (World.setCells w53 g52 0 [.int .u8 d0, .int .u8 d1, .int .u8 d2, .int .u8 d3, .int .u8 d4, .int .u8 d5, .int .u8 d6, .int .u8 d7, .int .u8 d8, .int .u8 d9, .int .u8 d10, .int .u8 d11, .int .u8 d12, .int .u8 d13, .int .u8 d14, .int .u8 d15, .int .u8 d16, .int .u8 d17, .int .u8 d18, .int .u8 d19]).heap[g52]? = some (.cells #[.int .u8 d0, .int .u8 d1, .int .u8 d2, .int .u8 d3, .int .u8 d4, .int .u8 d5, .int .u8 d6, .int .u8 d7, .int .u8 d8, .int .u8 d9, .int .u8 d10, .int .u8 d11, .int .u8 d12, .int .u8 d13, .int .u8 d14, .int .u8 d15, .int .u8 d16, .int .u8 d17, .int .u8 d18, .int .u8 d19] 23 (0, 0)) from blk_setCells [] [.int .u8 d0, .int .u8 d1, .int .u8 d2, .int .u8 d3, .int .u8 d4, .int .u8 d5, .int .u8 d6, .int .u8 d7, .int .u8 d8, .int .u8 d9, .int .u8 d10, .int .u8 d11, .int .u8 d12, .int .u8 d13, .int .u8 d14, .int .u8 d15, .int .u8 d16, .int .u8 d17, .int .u8 d18, .int .u8 d19] [.int .u8 0, .int .u8 0, .int .u8 0, .int .u8 0, .int .u8 0, .int .u8 0, .int .u8 0, .int .u8 0, .int .u8 0, .int .u8 0, .int .u8 0, .int .u8 0, .int .u8 0, .int .u8 0, .int .u8 0, .int .u8 0, .int .u8 0, .int .u8 0, .int .u8 0, .int .u8 0] [] w53 rfl H66.out); have H69 := Aside0.mk (far_setCells N54 [.int .u8 d0, .int .u8 d1, .int .u8 d2, .int .u8 d3, .int .u8 d4, .int .u8 d5, .int .u8 d6, .int .u8 d7, .int .u8 d8, .int .u8 d9, .int .u8 d10, .int .u8 d11, .int .u8 d12, .int .u8 d13, .int .u8 d14, .int .u8 d15, .int .u8 d16, .int .u8 d17, .int .u8 d18, .int .u8 d19] 0 w53 H64.out); have H70 := Aside0.mk (far_setCells N55 [.int .u8 d0, .int .u8 d1, .int .u8 d2, .int .u8 d3, .int .u8 d4, .int .u8 d5, .int .u8 d6, .int .u8 d7, .int .u8 d8, .int .u8 d9, .int .u8 d10, .int .u8 d11, .int .u8 d12, .int .u8 d13, .int .u8 d14, .int .u8 d15, .int .u8 d16, .int .u8 d17, .int .u8 d18, .int .u8 d19] 0 w53 H65.out); have B71 := Aside0.mk (below_setCells G56 [.int .u8 d0, .int .u8 d1, .int .u8 d2, .int .u8 d3, .int .u8 d4, .int .u8 d5, .int .u8 d6, .int .u8 d7, .int .u8 d8, .int .u8 d9, .int .u8 d10, .int .u8 d11, .int .u8 d12, .int .u8 d13, .int .u8 d14, .int .u8 d15, .int .u8 d16, .int .u8 d17, .int .u8 d18, .int .u8 d19] 0 w53 B60.out); have B72 := Aside0.mk (below_setCells G57 [.int .u8 d0, .int .u8 d1, .int .u8 d2, .int .u8 d3, .int .u8 d4, .int .u8 d5, .int .u8 d6, .int .u8 d7, .int .u8 d8, .int .u8 d9, .int .u8 d10, .int .u8 d11, .int .u8 d12, .int .u8 d13, .int .u8 d14, .int .u8 d15, .int .u8 d16, .int .u8 d17, .int .u8 d18, .int .u8 d19] 0 w53 B61.out); have B73 := Aside0.mk (below_setCells G58 [.int .u8 d0, .int .u8 d1, .int .u8 d2, .int .u8 d3, .int .u8 d4, .int .u8 d5, .int .u8 d6, .int .u8 d7, .int .u8 d8, .int .u8 d9, .int .u8 d10, .int .u8 d11, .int .u8 d12, .int .u8 d13, .int .u8 d14, .int .u8 d15, .int .u8 d16, .int .u8 d17, .int .u8 d18, .int .u8 d19] 0 w53 B62.out); have B74 := Aside0.mk (below_setCells G59 [.int .u8 d0, .int .u8 d1, .int .u8 d2, .int .u8 d3, .int .u8 d4, .int .u8 d5, .int .u8 d6, .int .u8 d7, .int .u8 d8, .int .u8 d9, .int .u8 d10, .int .u8 d11, .int .u8 d12, .int .u8 d13, .int .u8 d14, .int .u8 d15, .int .u8 d16, .int .u8 d17, .int .u8 d18, .int .u8 d19] 0 w53 B63.out); clear H66 H64 H65 B60 B61 B62 B63; generalize World.setCells w53 g52 0 [.int .u8 d0, .int .u8 d1, .int .u8 d2, .int .u8 d3, .int .u8 d4, .int .u8 d5, .int .u8 d6, .int .u8 d7, .int .u8 d8, .int .u8 d9, .int .u8 d10, .int .u8 d11, .int .u8 d12, .int .u8 d13, .int .u8 d14, .int .u8 d15, .int .u8 d16, .int .u8 d17, .int .u8 d18, .int .u8 d19] = w67 at H69 H70 H68 B71 B72 B73 B74 ⊢))
  refine (Hhp5.out w67).mono ?_
  rintro e w75 ⟨v_, rfl, hR_, hb_⟩
  have B76 := Aside0.mk (below_step B71.out hb_)
  have B77 := Aside0.mk (below_step B72.out hb_)
  have B78 := Aside0.mk (below_step B73.out hb_)
  have B79 := Aside0.mk (below_step B74.out hb_)
  have H80 := Aside0.mk (blk_below H69.out hb_)
  have H81 := Aside0.mk (blk_below H70.out hb_)
  have H82 := Aside0.mk (blk_below H68.out hb_)
  clear hb_ B71 B72 B73 B74 H69 H70 H68
  obtain ⟨ra, ca, rfl, hle_, hC_⟩ := row_form hR_ (n := 9) (by decide) (by decide)
  clear hle_ hC_ hR_
  go_wp2_with fail
  refine (Hhp6.out w75).mono ?_
  rintro e w83 ⟨v_, rfl, hR_, hb_⟩
  have B84 := Aside0.mk (below_step B76.out hb_)
  have B85 := Aside0.mk (below_step B77.out hb_)
  have B86 := Aside0.mk (below_step B78.out hb_)
  have B87 := Aside0.mk (below_step B79.out hb_)
  have H88 := Aside0.mk (blk_below H80.out hb_)
  have H89 := Aside0.mk (blk_below H81.out hb_)
  have H90 := Aside0.mk (blk_below H82.out hb_)
  clear hb_ B76 B77 B78 B79 H80 H81 H82
  obtain ⟨rb, cb, rfl, hle_, hC_⟩ := row_form hR_ (n := 72) (by decide) (by decide)
  clear hle_ hC_ hR_
  go_wp2_with fail
  refine (Hhi0.out w83 (HhT.out.at B84.out)).mono ?_
  rintro e w91 ⟨rfl, hb_⟩
  have B92 := Aside0.mk (below_step B84.out hb_)
  have B93 := Aside0.mk (below_step B85.out hb_)
  have B94 := Aside0.mk (below_step B86.out hb_)
  have B95 := Aside0.mk (below_step B87.out hb_)
  have H96 := Aside0.mk (blk_below H88.out hb_)
  have H97 := Aside0.mk (blk_below H89.out hb_)
  have H98 := Aside0.mk (blk_below H90.out hb_)
  clear hb_ B84 B85 B86 B87 H88 H89 H90
  go_wp2_with fail
  refine (Hhi3.out w91 (HhT.out.at B92.out)).mono ?_
  rintro e w99 ⟨rfl, hb_⟩
  have B100 := Aside0.mk (below_step B92.out hb_)
  have B101 := Aside0.mk (below_step B93.out hb_)
  have B102 := Aside0.mk (below_step B94.out hb_)
  have B103 := Aside0.mk (below_step B95.out hb_)
  have H104 := Aside0.mk (blk_below H96.out hb_)
  have H105 := Aside0.mk (blk_below H97.out hb_)
  have H106 := Aside0.mk (blk_below H98.out hb_)
  clear hb_ B92 B93 B94 B95 H96 H97 H98
  go_wp2_with (first | ((with_reducible refine gate_dst (N := 47) rfl ?_); refine loadG_event (T := 23) (by rfl) rfl rfl (run_loadVar_row _ _ _ _ _ (0, 0) _ H104.out Tryd.underlying23 rfl (by kernel_rfl)) ?_) | ((with_reducible refine gate_dst (N := 48) rfl ?_); refine loadG_event (T := 23) (by rfl) rfl rfl (run_loadVar_row _ _ _ _ _ (0, 0) _ H106.out Tryd.underlying23 rfl (by kernel_rfl)) ?_))
  go_ret
  exact ⟨rfl, B100.out⟩
end Go.Proofs.YtbldecdipicddaaDoor.Hand
