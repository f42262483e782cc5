/- The walks of the law ShaPieces. Written by wip/s1/mkpieces.py. -/
import Derived.Test.YtbldecdipicddaaDoorLAlive01
import Derived.Test.YtbldecdipicddaaDoorRowForm
set_option linter.unusedSimpArgs false
set_option linter.unusedVariables false
namespace Go.Proofs.YtbldecdipicddaaDoor.Hand
open Go Go.RowKit Go.Proofs.YtbldecdipicddaaDoorW.PrintWords Go.Proofs.YtbldecdipicddaaDoorW.PrintLast Go.Proofs.YtbldecdipicddaaDoorW.PrintMore
set_option maxHeartbeats 3200000 in
set_option maxRecDepth 100000 in
theorem pc_long (A : Option Addr) (c : Nat) (ll : List (List Int)) (x1 : Int) (w : World) (hT : TabQ w) (hlong : ∀ W : World, Below w.heap.size w W → Calls Tryd.prog 42 #[.slice A ll.length c] W fun e w' => e = .returned (.bool true) ∧ Below W.heap.size W w') (hal : ∀ W : World, TabQ W → Calls Tryd.prog 48 #[] W fun e w' => e = .returned (.bool true) ∧ Below W.heap.size W w') :
    Calls Tryd.prog 10 #[.slice A ll.length c, .int .i64 x1] w fun e w' => e = .returned (.bool true) ∧ Below w.heap.size w w' := by
  have HhT := Aside0.mk hT
  have Hhlong := Aside0.mk hlong
  have Hhal := Aside0.mk hal
  clear hT hlong hal
  go_enter Tryd.func10, Tryd.ntmps10
  go_wp2_with fail
  refine (Hhlong.out w (Below.refl _ _)).mono ?_
  rintro e w1 ⟨rfl, hb_⟩
  have B2 := Aside0.mk (hb_)
  clear hb_
  go_wp2_with fail
  refine (Hhal.out w1 (HhT.out.at B2.out)).mono ?_
  rintro e w3 ⟨rfl, hb_⟩
  have B4 := Aside0.mk (below_step B2.out hb_)
  clear hb_ B2
  go_wp2_with fail
  go_ret
  exact ⟨rfl, B4.out⟩
set_option maxHeartbeats 3200000 in
set_option maxRecDepth 100000 in
theorem pc_many (A : Option Addr) (c : Nat) (ll : List (List Int)) (x1 : Int) (w : World) (hT : TabQ w) (hlong : ∀ W : World, Below w.heap.size w W → Calls Tryd.prog 42 #[.slice A ll.length c] W fun e w' => e = .returned (.bool false) ∧ Below W.heap.size W w') (hal : ∀ W : World, TabQ W → Calls Tryd.prog 48 #[] W fun e w' => e = .returned (.bool true) ∧ Below W.heap.size W w') (h20 : 20 < ll.length) :
    Calls Tryd.prog 10 #[.slice A ll.length c, .int .i64 x1] w fun e w' => e = .returned (.bool true) ∧ Below w.heap.size w w' := by
  have HhT := Aside0.mk hT
  have Hhlong := Aside0.mk hlong
  have Hhal := Aside0.mk hal
  have Hh20 := Aside0.mk h20
  have t1 : (20 < (ll.length : Int)) = True := eq_true (by omega)
  clear hT hlong hal h20
  go_enter Tryd.func10, Tryd.ntmps10
  go_wp2_with fail
  refine (Hhlong.out w (Below.refl _ _)).mono ?_
  rintro e w2 ⟨rfl, hb_⟩
  have B3 := Aside0.mk (hb_)
  clear hb_
  go_wp2_with fail
  refine (Hhal.out w2 (HhT.out.at B3.out)).mono ?_
  rintro e w4 ⟨rfl, hb_⟩
  have B5 := Aside0.mk (below_step B3.out hb_)
  clear hb_ B3
  go_wp2_with fail
  go_ret
  exact ⟨rfl, B5.out⟩
set_option maxHeartbeats 3200000 in
set_option maxRecDepth 100000 in
theorem pc_great (A : Option Addr) (c : Nat) (ll : List (List Int)) (x1 : Int) (w : World) (hT : TabQ w) (hlong : ∀ W : World, Below w.heap.size w W → Calls Tryd.prog 42 #[.slice A ll.length c] W fun e w' => e = .returned (.bool false) ∧ Below W.heap.size W w') (hal : ∀ W : World, TabQ W → Calls Tryd.prog 48 #[] W fun e w' => e = .returned (.bool true) ∧ Below W.heap.size W w') (all : List Int) (hwh : ∀ W : World, Below w.heap.size w W → Calls Tryd.prog 43 #[.slice A ll.length c] W fun e w' => ∃ v0_ : Value, e = .returned v0_ ∧ Kd.R (Kd.int .u8) 5 w' W.heap.size (fun _ => True) v0_ all ∧ Below W.heap.size W w') (h20 : ¬ 20 < ll.length) (h14 : 14000 < all.length) :
    Calls Tryd.prog 10 #[.slice A ll.length c, .int .i64 x1] w fun e w' => e = .returned (.bool true) ∧ Below w.heap.size w w' := by
  have HhT := Aside0.mk hT
  have Hhlong := Aside0.mk hlong
  have Hhal := Aside0.mk hal
  have Hhwh := Aside0.mk hwh
  have Hh20 := Aside0.mk h20
  have Hh14 := Aside0.mk h14
  have t1 : (20 < (ll.length : Int)) = False := eq_false (by omega)
  have t2 : (14000 < (all.length : Int)) = True := eq_true (by omega)
  clear hT hlong hal hwh h20 h14
  go_enter Tryd.func10, Tryd.ntmps10
  go_wp2_with fail
  refine (Hhlong.out w (Below.refl _ _)).mono ?_
  rintro e w3 ⟨rfl, hb_⟩
  have B4 := Aside0.mk (hb_)
  clear hb_
  go_wp2_with fail
  refine (Hhwh.out w3 B4.out).mono ?_
  rintro e w5 ⟨v_, rfl, hR_, hb_⟩
  have B6 := Aside0.mk (below_step B4.out hb_)
  clear hb_ B4
  obtain ⟨r7, c8, rfl, hle_, hC_⟩ := Kd.R_reads hR_
  have R9 := Aside0.mk hC_
  have L10 := Aside0.mk hle_
  clear hC_ hle_ hR_
  go_wp2_with fail
  refine (Hhal.out w5 (HhT.out.at B6.out)).mono ?_
  rintro e w11 ⟨rfl, hb_⟩
  have B12 := Aside0.mk (below_step B6.out hb_)
  have B13 := Aside0.mk (hb_)
  clear hb_ B6
  go_wp2_with fail
  go_ret
  exact ⟨rfl, B12.out⟩
set_option maxHeartbeats 3200000 in
set_option maxRecDepth 100000 in
theorem pc_neg (A : Option Addr) (c : Nat) (ll : List (List Int)) (x1 : Int) (w : World) (hT : TabQ w) (hlong : ∀ W : World, Below w.heap.size w W → Calls Tryd.prog 42 #[.slice A ll.length c] W fun e w' => e = .returned (.bool false) ∧ Below W.heap.size W w') (hal : ∀ W : World, TabQ W → Calls Tryd.prog 48 #[] W fun e w' => e = .returned (.bool true) ∧ Below W.heap.size W w') (all : List Int) (hwh : ∀ W : World, Below w.heap.size w W → Calls Tryd.prog 43 #[.slice A ll.length c] W fun e w' => ∃ v0_ : Value, e = .returned v0_ ∧ Kd.R (Kd.int .u8) 5 w' W.heap.size (fun _ => True) v0_ all ∧ Below W.heap.size W w') (h20 : ¬ 20 < ll.length) (h14 : ¬ 14000 < all.length) (d0 d1 d2 d3 d4 d5 d6 d7 d8 d9 d10 d11 d12 d13 d14 d15 d16 d17 d18 d19 : Int) (hp : ∀ W : World, TabQ W → Below w.heap.size w W → Calls Tryd.prog 46 #[.slice A ll.length c] W fun e w' => e = .returned (.tuple #[.agg #[.int .u8 d0, .int .u8 d1, .int .u8 d2, .int .u8 d3, .int .u8 d4, .int .u8 d5, .int .u8 d6, .int .u8 d7, .int .u8 d8, .int .u8 d9, .int .u8 d10, .int .u8 d11, .int .u8 d12, .int .u8 d13, .int .u8 d14, .int .u8 d15, .int .u8 d16, .int .u8 d17, .int .u8 d18, .int .u8 d19], .int .i64 0]) ∧ Below W.heap.size W w') (hs : ∀ (W : World) (A1 : Option Addr) (c1 : Nat), TabQ W → Kd.C (Kd.int .u8) W A1 all.length all → all.length ≤ c1 → Calls Tryd.prog 44 #[.slice A1 all.length c1] W fun e w' => e = .returned (.tuple #[.agg #[.int .u8 d0, .int .u8 d1, .int .u8 d2, .int .u8 d3, .int .u8 d4, .int .u8 d5, .int .u8 d6, .int .u8 d7, .int .u8 d8, .int .u8 d9, .int .u8 d10, .int .u8 d11, .int .u8 d12, .int .u8 d13, .int .u8 d14, .int .u8 d15, .int .u8 d16, .int .u8 d17, .int .u8 d18, .int .u8 d19], .int .i64 0]) ∧ Below W.heap.size W w') (hx : x1 < 0) :
    Calls Tryd.prog 10 #[.slice A ll.length c, .int .i64 x1] w fun e w' => e = .returned (.bool true) ∧ Below w.heap.size w w' := by
  have HhT := Aside0.mk hT
  have Hhlong := Aside0.mk hlong
  have Hhal := Aside0.mk hal
  have Hhwh := Aside0.mk hwh
  have Hh20 := Aside0.mk h20
  have Hh14 := Aside0.mk h14
  have Hhp := Aside0.mk hp
  have Hhs := Aside0.mk hs
  have Hhx := Aside0.mk hx
  have t1 : (20 < (ll.length : Int)) = False := eq_false (by omega)
  have t2 : (14000 < (all.length : Int)) = False := eq_false (by omega)
  have t3 : (x1 < 0) = True := eq_true (by omega)
  clear hT hlong hal hwh h20 h14 hp hs hx
  go_enter Tryd.func10, Tryd.ntmps10
  have hqp := fun (d : Nat) (W : World) => eqA23 d W d0 d0 d1 d1 d2 d2 d3 d3 d4 d4 d5 d5 d6 d6 d7 d7 d8 d8 d9 d9 d10 d10 d11 d11 d12 d12 d13 d13 d14 d14 d15 d15 d16 d16 d17 d17 d18 d18 d19 d19
  simp only [beq_self_eq_true, Bool.and_self] at hqp
  go_wp2_with fail
  refine (Hhlong.out w (Below.refl _ _)).mono ?_
  rintro e w4 ⟨rfl, hb_⟩
  have B5 := Aside0.mk (hb_)
  clear hb_
  go_wp2_with fail
  refine (Hhwh.out w4 B5.out).mono ?_
  rintro e w6 ⟨v_, rfl, hR_, hb_⟩
  have B7 := Aside0.mk (below_step B5.out hb_)
  clear hb_ B5
  obtain ⟨r8, c9, rfl, hle_, hC_⟩ := Kd.R_reads hR_
  have R10 := Aside0.mk hC_
  have L11 := Aside0.mk hle_
  clear hC_ hle_ hR_
  go_wp2_with fail
  refine (Hhwh.out w6 B7.out).mono ?_
  rintro e w12 ⟨v_, rfl, hR_, hb_⟩
  have B13 := Aside0.mk (below_step B7.out hb_)
  have B14 := Aside0.mk (hb_)
  clear hb_ B7
  obtain ⟨r15, c16, rfl, hle_, hC_⟩ := Kd.R_reads hR_
  have R17 := Aside0.mk hC_
  have L18 := Aside0.mk hle_
  clear hC_ hle_ hR_
  go_wp2_with fail
  refine (Hhp.out w12 (HhT.out.at B13.out) B13.out).mono ?_
  rintro e w19 ⟨rfl, hb_⟩
  have B20 := Aside0.mk (below_step B13.out hb_)
  have B21 := Aside0.mk (below_step B14.out hb_)
  have B22 := Aside0.mk (hb_)
  clear hb_ B13 B14
  go_wp2_with (first | ((with_reducible refine gate_dst (N := 6) rfl ?_); refine box_event ?hg (N := 6) ?hd (cs := #[.int .u8 0, .int .u8 0, .int .u8 0, .int .u8 0, .int .u8 0, .int .u8 0, .int .u8 0, .int .u8 0, .int .u8 0, .int .u8 0, .int .u8 0, .int .u8 0, .int .u8 0, .int .u8 0, .int .u8 0, .int .u8 0, .int .u8 0, .int .u8 0, .int .u8 0, .int .u8 0]) (t := 23) ?hr ?_; (case hd => rfl); (case hg => rfl); (case hr => first | (go_simp; done) | (go_simp; rfl)); intro g23 hgg23 w24 hhg23 hbg23; have H31 := Aside0.mk hhg23; have G25 : w.heap.size ≤ g23 := Nat.le_trans B20.out.size (Nat.le_of_eq hgg23.symm); have G26 : w6.heap.size ≤ g23 := Nat.le_trans B21.out.size (Nat.le_of_eq hgg23.symm); have G27 : w12.heap.size ≤ g23 := Nat.le_trans B22.out.size (Nat.le_of_eq hgg23.symm); have B28 := Aside0.mk (below_step B20.out hbg23); have B29 := Aside0.mk (below_step B21.out hbg23); have B30 := Aside0.mk (below_step B22.out hbg23); clear hgg23 hhg23 hbg23 B20 B21 B22) | ((with_reducible refine gate_store (t := 23) (p := _) rfl ?_); refine storeN_event (T := 23) rfl rfl rfl rfl rfl (storeVar_blk H31.out 23 0 [.int .u8 d0, .int .u8 d1, .int .u8 d2, .int .u8 d3, .int .u8 d4, .int .u8 d5, .int .u8 d6, .int .u8 d7, .int .u8 d8, .int .u8 d9, .int .u8 d10, .int .u8 d11, .int .u8 d12, .int .u8 d13, .int .u8 d14, .int .u8 d15, .int .u8 d16, .int .u8 d17, .int .u8 d18, .int .u8 d19] (by kernel_rfl) rfl (by simp)) ?_; have H33 := Aside0.mk (show (World.setCells w24 g23 0 [.int .u8 d0, .int .u8 d1, .int .u8 d2, .int .u8 d3, .int .u8 d4, .int .u8 d5, .int .u8 d6, .int .u8 d7, .int .u8 d8, .int .u8 d9, .int .u8 d10, .int .u8 d11, .int .u8 d12, .int .u8 d13, .int .u8 d14, .int .u8 d15, .int .u8 d16, .int .u8 d17, .int .u8 d18, .int .u8 d19]).heap[g23]? = some (.cells #[.int .u8 d0, .int .u8 d1, .int .u8 d2, .int .u8 d3, .int .u8 d4, .int .u8 d5, .int .u8 d6, .int .u8 d7, .int .u8 d8, .int .u8 d9, .int .u8 d10, .int .u8 d11, .int .u8 d12, .int .u8 d13, .int .u8 d14, .int .u8 d15, .int .u8 d16, .int .u8 d17, .int .u8 d18, .int .u8 d19] 23 (0, 0)) from blk_setCells [] [.int .u8 d0, .int .u8 d1, .int .u8 d2, .int .u8 d3, .int .u8 d4, .int .u8 d5, .int .u8 d6, .int .u8 d7, .int .u8 d8, .int .u8 d9, .int .u8 d10, .int .u8 d11, .int .u8 d12, .int .u8 d13, .int .u8 d14, .int .u8 d15, .int .u8 d16, .int .u8 d17, .int .u8 d18, .int .u8 d19] [.int .u8 0, .int .u8 0, .int .u8 0, .int .u8 0, .int .u8 0, .int .u8 0, .int .u8 0, .int .u8 0, .int .u8 0, .int .u8 0, .int .u8 0, .int .u8 0, .int .u8 0, .int .u8 0, .int .u8 0, .int .u8 0, .int .u8 0, .int .u8 0, .int .u8 0, .int .u8 0] [] w24 rfl H31.out); have B34 := Aside0.mk (below_setCells G25 [.int .u8 d0, .int .u8 d1, .int .u8 d2, .int .u8 d3, .int .u8 d4, .int .u8 d5, .int .u8 d6, .int .u8 d7, .int .u8 d8, .int .u8 d9, .int .u8 d10, .int .u8 d11, .int .u8 d12, .int .u8 d13, .int .u8 d14, .int .u8 d15, .int .u8 d16, .int .u8 d17, .int .u8 d18, .int .u8 d19] 0 w24 B28.out); have B35 := Aside0.mk (below_setCells G26 [.int .u8 d0, .int .u8 d1, .int .u8 d2, .int .u8 d3, .int .u8 d4, .int .u8 d5, .int .u8 d6, .int .u8 d7, .int .u8 d8, .int .u8 d9, .int .u8 d10, .int .u8 d11, .int .u8 d12, .int .u8 d13, .int .u8 d14, .int .u8 d15, .int .u8 d16, .int .u8 d17, .int .u8 d18, .int .u8 d19] 0 w24 B29.out); have B36 := Aside0.mk (below_setCells G27 [.int .u8 d0, .int .u8 d1, .int .u8 d2, .int .u8 d3, .int .u8 d4, .int .u8 d5, .int .u8 d6, .int .u8 d7, .int .u8 d8, .int .u8 d9, .int .u8 d10, .int .u8 d11, .int .u8 d12, .int .u8 d13, .int .u8 d14, .int .u8 d15, .int .u8 d16, .int .u8 d17, .int .u8 d18, .int .u8 d19] 0 w24 B30.out); clear H31 B28 B29 B30; generalize World.setCells w24 g23 0 [.int .u8 d0, .int .u8 d1, .int .u8 d2, .int .u8 d3, .int .u8 d4, .int .u8 d5, .int .u8 d6, .int .u8 d7, .int .u8 d8, .int .u8 d9, .int .u8 d10, .int .u8 d11, .int .u8 d12, .int .u8 d13, .int .u8 d14, .int .u8 d15, .int .u8 d16, .int .u8 d17, .int .u8 d18, .int .u8 d19] = w32 at H33 B34 B35 B36 ⊢))
  refine (Hhs.out w32 r15 c16 (HhT.out.at B34.out) (Kd.C_below R17.out B36.out) L18.out).mono ?_
  rintro e w37 ⟨rfl, hb_⟩
  have B38 := Aside0.mk (below_step B34.out hb_)
  have B39 := Aside0.mk (below_step B35.out hb_)
  have B40 := Aside0.mk (below_step B36.out hb_)
  have H41 := Aside0.mk (blk_below H33.out hb_)
  clear hb_ B34 B35 B36 H33
  go_wp2_with (first | ((with_reducible refine gate_dst (N := 8) rfl ?_); refine box_event ?hg (N := 8) ?hd (cs := #[.int .u8 0, .int .u8 0, .int .u8 0, .int .u8 0, .int .u8 0, .int .u8 0, .int .u8 0, .int .u8 0, .int .u8 0, .int .u8 0, .int .u8 0, .int .u8 0, .int .u8 0, .int .u8 0, .int .u8 0, .int .u8 0, .int .u8 0, .int .u8 0, .int .u8 0, .int .u8 0]) (t := 23) ?hr ?_; (case hd => rfl); (case hg => rfl); (case hr => first | (go_simp; done) | (go_simp; rfl)); intro g42 hgg42 w43 hhg42 hbg42; have H52 := Aside0.mk hhg42; have N44 : g23 ≠ g42 := Nat.ne_of_lt (Nat.lt_of_lt_of_eq (blk_lt H41.out) hgg42.symm); have G45 : w.heap.size ≤ g42 := Nat.le_trans B38.out.size (Nat.le_of_eq hgg42.symm); have G46 : w6.heap.size ≤ g42 := Nat.le_trans B39.out.size (Nat.le_of_eq hgg42.symm); have G47 : w12.heap.size ≤ g42 := Nat.le_trans B40.out.size (Nat.le_of_eq hgg42.symm); have B48 := Aside0.mk (below_step B38.out hbg42); have B49 := Aside0.mk (below_step B39.out hbg42); have B50 := Aside0.mk (below_step B40.out hbg42); have H51 := Aside0.mk (blk_below H41.out hbg42); clear hgg42 hhg42 hbg42 B38 B39 B40 H41) | ((with_reducible refine gate_store (t := 23) (p := _) rfl ?_); refine storeN_event (T := 23) rfl rfl rfl rfl rfl (storeVar_blk H52.out 23 0 [.int .u8 d0, .int .u8 d1, .int .u8 d2, .int .u8 d3, .int .u8 d4, .int .u8 d5, .int .u8 d6, .int .u8 d7, .int .u8 d8, .int .u8 d9, .int .u8 d10, .int .u8 d11, .int .u8 d12, .int .u8 d13, .int .u8 d14, .int .u8 d15, .int .u8 d16, .int .u8 d17, .int .u8 d18, .int .u8 d19] (by kernel_rfl) rfl (by simp)) ?_; have H54 := Aside0.mk (show (World.setCells w43 g42 0 [.int .u8 d0, .int .u8 d1, .int .u8 d2, .int .u8 d3, .int .u8 d4, .int .u8 d5, .int .u8 d6, .int .u8 d7, .int .u8 d8, .int .u8 d9, .int .u8 d10, .int .u8 d11, .int .u8 d12, .int .u8 d13, .int .u8 d14, .int .u8 d15, .int .u8 d16, .int .u8 d17, .int .u8 d18, .int .u8 d19]).heap[g42]? = some (.cells #[.int .u8 d0, .int .u8 d1, .int .u8 d2, .int .u8 d3, .int .u8 d4, .int .u8 d5, .int .u8 d6, .int .u8 d7, .int .u8 d8, .int .u8 d9, .int .u8 d10, .int .u8 d11, .int .u8 d12, .int .u8 d13, .int .u8 d14, .int .u8 d15, .int .u8 d16, .int .u8 d17, .int .u8 d18, .int .u8 d19] 23 (0, 0)) from blk_setCells [] [.int .u8 d0, .int .u8 d1, .int .u8 d2, .int .u8 d3, .int .u8 d4, .int .u8 d5, .int .u8 d6, .int .u8 d7, .int .u8 d8, .int .u8 d9, .int .u8 d10, .int .u8 d11, .int .u8 d12, .int .u8 d13, .int .u8 d14, .int .u8 d15, .int .u8 d16, .int .u8 d17, .int .u8 d18, .int .u8 d19] [.int .u8 0, .int .u8 0, .int .u8 0, .int .u8 0, .int .u8 0, .int .u8 0, .int .u8 0, .int .u8 0, .int .u8 0, .int .u8 0, .int .u8 0, .int .u8 0, .int .u8 0, .int .u8 0, .int .u8 0, .int .u8 0, .int .u8 0, .int .u8 0, .int .u8 0, .int .u8 0] [] w43 rfl H52.out); have H55 := Aside0.mk (far_setCells N44 [.int .u8 d0, .int .u8 d1, .int .u8 d2, .int .u8 d3, .int .u8 d4, .int .u8 d5, .int .u8 d6, .int .u8 d7, .int .u8 d8, .int .u8 d9, .int .u8 d10, .int .u8 d11, .int .u8 d12, .int .u8 d13, .int .u8 d14, .int .u8 d15, .int .u8 d16, .int .u8 d17, .int .u8 d18, .int .u8 d19] 0 w43 H51.out); have B56 := Aside0.mk (below_setCells G45 [.int .u8 d0, .int .u8 d1, .int .u8 d2, .int .u8 d3, .int .u8 d4, .int .u8 d5, .int .u8 d6, .int .u8 d7, .int .u8 d8, .int .u8 d9, .int .u8 d10, .int .u8 d11, .int .u8 d12, .int .u8 d13, .int .u8 d14, .int .u8 d15, .int .u8 d16, .int .u8 d17, .int .u8 d18, .int .u8 d19] 0 w43 B48.out); have B57 := Aside0.mk (below_setCells G46 [.int .u8 d0, .int .u8 d1, .int .u8 d2, .int .u8 d3, .int .u8 d4, .int .u8 d5, .int .u8 d6, .int .u8 d7, .int .u8 d8, .int .u8 d9, .int .u8 d10, .int .u8 d11, .int .u8 d12, .int .u8 d13, .int .u8 d14, .int .u8 d15, .int .u8 d16, .int .u8 d17, .int .u8 d18, .int .u8 d19] 0 w43 B49.out); have B58 := Aside0.mk (below_setCells G47 [.int .u8 d0, .int .u8 d1, .int .u8 d2, .int .u8 d3, .int .u8 d4, .int .u8 d5, .int .u8 d6, .int .u8 d7, .int .u8 d8, .int .u8 d9, .int .u8 d10, .int .u8 d11, .int .u8 d12, .int .u8 d13, .int .u8 d14, .int .u8 d15, .int .u8 d16, .int .u8 d17, .int .u8 d18, .int .u8 d19] 0 w43 B50.out); clear H52 H51 B48 B49 B50; generalize World.setCells w43 g42 0 [.int .u8 d0, .int .u8 d1, .int .u8 d2, .int .u8 d3, .int .u8 d4, .int .u8 d5, .int .u8 d6, .int .u8 d7, .int .u8 d8, .int .u8 d9, .int .u8 d10, .int .u8 d11, .int .u8 d12, .int .u8 d13, .int .u8 d14, .int .u8 d15, .int .u8 d16, .int .u8 d17, .int .u8 d18, .int .u8 d19] = w53 at H55 H54 B56 B57 B58 ⊢) | ((with_reducible refine gate_dst (N := 45) rfl ?_); refine loadG_event (T := 23) (by rfl) rfl rfl (run_loadVar_row _ _ _ _ _ (0, 0) _ H55.out Tryd.underlying23 rfl (by kernel_rfl)) ?_) | ((with_reducible refine gate_dst (N := 46) rfl ?_); refine loadG_event (T := 23) (by rfl) rfl rfl (run_loadVar_row _ _ _ _ _ (0, 0) _ H54.out Tryd.underlying23 rfl (by kernel_rfl)) ?_))
  refine (Hhal.out w53 (HhT.out.at B56.out)).mono ?_
  rintro e w59 ⟨rfl, hb_⟩
  have B60 := Aside0.mk (below_step B56.out hb_)
  have B61 := Aside0.mk (below_step B57.out hb_)
  have B62 := Aside0.mk (below_step B58.out hb_)
  have H63 := Aside0.mk (blk_below H55.out hb_)
  have H64 := Aside0.mk (blk_below H54.out hb_)
  clear hb_ B56 B57 B58 H55 H54
  go_wp2_with fail
  go_ret
  exact ⟨rfl, B60.out⟩
set_option maxHeartbeats 3200000 in
set_option maxRecDepth 100000 in
theorem pc_over (A : Option Addr) (c : Nat) (ll : List (List Int)) (x1 : Int) (w : World) (hT : TabQ w) (hlong : ∀ W : World, Below w.heap.size w W → Calls Tryd.prog 42 #[.slice A ll.length c] W fun e w' => e = .returned (.bool false) ∧ Below W.heap.size W w') (hal : ∀ W : World, TabQ W → Calls Tryd.prog 48 #[] W fun e w' => e = .returned (.bool true) ∧ Below W.heap.size W w') (all : List Int) (hwh : ∀ W : World, Below w.heap.size w W → Calls Tryd.prog 43 #[.slice A ll.length c] W fun e w' => ∃ v0_ : Value, e = .returned v0_ ∧ Kd.R (Kd.int .u8) 5 w' W.heap.size (fun _ => True) v0_ all ∧ Below W.heap.size W w') (h20 : ¬ 20 < ll.length) (h14 : ¬ 14000 < all.length) (d0 d1 d2 d3 d4 d5 d6 d7 d8 d9 d10 d11 d12 d13 d14 d15 d16 d17 d18 d19 : Int) (hp : ∀ W : World, TabQ W → Below w.heap.size w W → Calls Tryd.prog 46 #[.slice A ll.length c] W fun e w' => e = .returned (.tuple #[.agg #[.int .u8 d0, .int .u8 d1, .int .u8 d2, .int .u8 d3, .int .u8 d4, .int .u8 d5, .int .u8 d6, .int .u8 d7, .int .u8 d8, .int .u8 d9, .int .u8 d10, .int .u8 d11, .int .u8 d12, .int .u8 d13, .int .u8 d14, .int .u8 d15, .int .u8 d16, .int .u8 d17, .int .u8 d18, .int .u8 d19], .int .i64 0]) ∧ Below W.heap.size W w') (hs : ∀ (W : World) (A1 : Option Addr) (c1 : Nat), TabQ W → Kd.C (Kd.int .u8) W A1 all.length all → all.length ≤ c1 → Calls Tryd.prog 44 #[.slice A1 all.length c1] W fun e w' => e = .returned (.tuple #[.agg #[.int .u8 d0, .int .u8 d1, .int .u8 d2, .int .u8 d3, .int .u8 d4, .int .u8 d5, .int .u8 d6, .int .u8 d7, .int .u8 d8, .int .u8 d9, .int .u8 d10, .int .u8 d11, .int .u8 d12, .int .u8 d13, .int .u8 d14, .int .u8 d15, .int .u8 d16, .int .u8 d17, .int .u8 d18, .int .u8 d19], .int .i64 0]) ∧ Below W.heap.size W w') (hx : ¬ x1 < 0 ∧ (all.length : Int) < x1) :
    Calls Tryd.prog 10 #[.slice A ll.length c, .int .i64 x1] w fun e w' => e = .returned (.bool true) ∧ Below w.heap.size w w' := by
  have HhT := Aside0.mk hT
  have Hhlong := Aside0.mk hlong
  have Hhal := Aside0.mk hal
  have Hhwh := Aside0.mk hwh
  have Hh20 := Aside0.mk h20
  have Hh14 := Aside0.mk h14
  have Hhp := Aside0.mk hp
  have Hhs := Aside0.mk hs
  have Hhx := Aside0.mk hx
  have t1 : (20 < (ll.length : Int)) = False := eq_false (by omega)
  have t2 : (14000 < (all.length : Int)) = False := eq_false (by omega)
  have t3 : (x1 < 0) = False := eq_false (by omega)
  have t4 : ((all.length : Int) < x1) = True := eq_true (by omega)
  clear hT hlong hal hwh h20 h14 hp hs hx
  go_enter Tryd.func10, Tryd.ntmps10
  have hqp := fun (d : Nat) (W : World) => eqA23 d W d0 d0 d1 d1 d2 d2 d3 d3 d4 d4 d5 d5 d6 d6 d7 d7 d8 d8 d9 d9 d10 d10 d11 d11 d12 d12 d13 d13 d14 d14 d15 d15 d16 d16 d17 d17 d18 d18 d19 d19
  simp only [beq_self_eq_true, Bool.and_self] at hqp
  go_wp2_with fail
  refine (Hhlong.out w (Below.refl _ _)).mono ?_
  rintro e w5 ⟨rfl, hb_⟩
  have B6 := Aside0.mk (hb_)
  clear hb_
  go_wp2_with fail
  refine (Hhwh.out w5 B6.out).mono ?_
  rintro e w7 ⟨v_, rfl, hR_, hb_⟩
  have B8 := Aside0.mk (below_step B6.out hb_)
  clear hb_ B6
  obtain ⟨r9, c10, rfl, hle_, hC_⟩ := Kd.R_reads hR_
  have R11 := Aside0.mk hC_
  have L12 := Aside0.mk hle_
  clear hC_ hle_ hR_
  go_wp2_with fail
  refine (Hhwh.out w7 B8.out).mono ?_
  rintro e w13 ⟨v_, rfl, hR_, hb_⟩
  have B14 := Aside0.mk (below_step B8.out hb_)
  have B15 := Aside0.mk (hb_)
  clear hb_ B8
  obtain ⟨r16, c17, rfl, hle_, hC_⟩ := Kd.R_reads hR_
  have R18 := Aside0.mk hC_
  have L19 := Aside0.mk hle_
  clear hC_ hle_ hR_
  go_wp2_with fail
  refine (Hhp.out w13 (HhT.out.at B14.out) B14.out).mono ?_
  rintro e w20 ⟨rfl, hb_⟩
  have B21 := Aside0.mk (below_step B14.out hb_)
  have B22 := Aside0.mk (below_step B15.out hb_)
  have B23 := Aside0.mk (hb_)
  clear hb_ B14 B15
  go_wp2_with (first | ((with_reducible refine gate_dst (N := 6) rfl ?_); refine box_event ?hg (N := 6) ?hd (cs := #[.int .u8 0, .int .u8 0, .int .u8 0, .int .u8 0, .int .u8 0, .int .u8 0, .int .u8 0, .int .u8 0, .int .u8 0, .int .u8 0, .int .u8 0, .int .u8 0, .int .u8 0, .int .u8 0, .int .u8 0, .int .u8 0, .int .u8 0, .int .u8 0, .int .u8 0, .int .u8 0]) (t := 23) ?hr ?_; (case hd => rfl); (case hg => rfl); (case hr => first | (go_simp; done) | (go_simp; rfl)); intro g24 hgg24 w25 hhg24 hbg24; have H32 := Aside0.mk hhg24; have G26 : w.heap.size ≤ g24 := Nat.le_trans B21.out.size (Nat.le_of_eq hgg24.symm); have G27 : w7.heap.size ≤ g24 := Nat.le_trans B22.out.size (Nat.le_of_eq hgg24.symm); have G28 : w13.heap.size ≤ g24 := Nat.le_trans B23.out.size (Nat.le_of_eq hgg24.symm); have B29 := Aside0.mk (below_step B21.out hbg24); have B30 := Aside0.mk (below_step B22.out hbg24); have B31 := Aside0.mk (below_step B23.out hbg24); clear hgg24 hhg24 hbg24 B21 B22 B23) | ((with_reducible refine gate_store (t := 23) (p := _) rfl ?_); refine storeN_event (T := 23) rfl rfl rfl rfl rfl (storeVar_blk H32.out 23 0 [.int .u8 d0, .int .u8 d1, .int .u8 d2, .int .u8 d3, .int .u8 d4, .int .u8 d5, .int .u8 d6, .int .u8 d7, .int .u8 d8, .int .u8 d9, .int .u8 d10, .int .u8 d11, .int .u8 d12, .int .u8 d13, .int .u8 d14, .int .u8 d15, .int .u8 d16, .int .u8 d17, .int .u8 d18, .int .u8 d19] (by kernel_rfl) rfl (by simp)) ?_; have H34 := Aside0.mk (show (World.setCells w25 g24 0 [.int .u8 d0, .int .u8 d1, .int .u8 d2, .int .u8 d3, .int .u8 d4, .int .u8 d5, .int .u8 d6, .int .u8 d7, .int .u8 d8, .int .u8 d9, .int .u8 d10, .int .u8 d11, .int .u8 d12, .int .u8 d13, .int .u8 d14, .int .u8 d15, .int .u8 d16, .int .u8 d17, .int .u8 d18, .int .u8 d19]).heap[g24]? = some (.cells #[.int .u8 d0, .int .u8 d1, .int .u8 d2, .int .u8 d3, .int .u8 d4, .int .u8 d5, .int .u8 d6, .int .u8 d7, .int .u8 d8, .int .u8 d9, .int .u8 d10, .int .u8 d11, .int .u8 d12, .int .u8 d13, .int .u8 d14, .int .u8 d15, .int .u8 d16, .int .u8 d17, .int .u8 d18, .int .u8 d19] 23 (0, 0)) from blk_setCells [] [.int .u8 d0, .int .u8 d1, .int .u8 d2, .int .u8 d3, .int .u8 d4, .int .u8 d5, .int .u8 d6, .int .u8 d7, .int .u8 d8, .int .u8 d9, .int .u8 d10, .int .u8 d11, .int .u8 d12, .int .u8 d13, .int .u8 d14, .int .u8 d15, .int .u8 d16, .int .u8 d17, .int .u8 d18, .int .u8 d19] [.int .u8 0, .int .u8 0, .int .u8 0, .int .u8 0, .int .u8 0, .int .u8 0, .int .u8 0, .int .u8 0, .int .u8 0, .int .u8 0, .int .u8 0, .int .u8 0, .int .u8 0, .int .u8 0, .int .u8 0, .int .u8 0, .int .u8 0, .int .u8 0, .int .u8 0, .int .u8 0] [] w25 rfl H32.out); have B35 := Aside0.mk (below_setCells G26 [.int .u8 d0, .int .u8 d1, .int .u8 d2, .int .u8 d3, .int .u8 d4, .int .u8 d5, .int .u8 d6, .int .u8 d7, .int .u8 d8, .int .u8 d9, .int .u8 d10, .int .u8 d11, .int .u8 d12, .int .u8 d13, .int .u8 d14, .int .u8 d15, .int .u8 d16, .int .u8 d17, .int .u8 d18, .int .u8 d19] 0 w25 B29.out); have B36 := Aside0.mk (below_setCells G27 [.int .u8 d0, .int .u8 d1, .int .u8 d2, .int .u8 d3, .int .u8 d4, .int .u8 d5, .int .u8 d6, .int .u8 d7, .int .u8 d8, .int .u8 d9, .int .u8 d10, .int .u8 d11, .int .u8 d12, .int .u8 d13, .int .u8 d14, .int .u8 d15, .int .u8 d16, .int .u8 d17, .int .u8 d18, .int .u8 d19] 0 w25 B30.out); have B37 := Aside0.mk (below_setCells G28 [.int .u8 d0, .int .u8 d1, .int .u8 d2, .int .u8 d3, .int .u8 d4, .int .u8 d5, .int .u8 d6, .int .u8 d7, .int .u8 d8, .int .u8 d9, .int .u8 d10, .int .u8 d11, .int .u8 d12, .int .u8 d13, .int .u8 d14, .int .u8 d15, .int .u8 d16, .int .u8 d17, .int .u8 d18, .int .u8 d19] 0 w25 B31.out); clear H32 B29 B30 B31; generalize World.setCells w25 g24 0 [.int .u8 d0, .int .u8 d1, .int .u8 d2, .int .u8 d3, .int .u8 d4, .int .u8 d5, .int .u8 d6, .int .u8 d7, .int .u8 d8, .int .u8 d9, .int .u8 d10, .int .u8 d11, .int .u8 d12, .int .u8 d13, .int .u8 d14, .int .u8 d15, .int .u8 d16, .int .u8 d17, .int .u8 d18, .int .u8 d19] = w33 at H34 B35 B36 B37 ⊢))
  refine (Hhs.out w33 r16 c17 (HhT.out.at B35.out) (Kd.C_below R18.out B37.out) L19.out).mono ?_
  rintro e w38 ⟨rfl, hb_⟩
  have B39 := Aside0.mk (below_step B35.out hb_)
  have B40 := Aside0.mk (below_step B36.out hb_)
  have B41 := Aside0.mk (below_step B37.out hb_)
  have H42 := Aside0.mk (blk_below H34.out hb_)
  clear hb_ B35 B36 B37 H34
  go_wp2_with (first | ((with_reducible refine gate_dst (N := 8) rfl ?_); refine box_event ?hg (N := 8) ?hd (cs := #[.int .u8 0, .int .u8 0, .int .u8 0, .int .u8 0, .int .u8 0, .int .u8 0, .int .u8 0, .int .u8 0, .int .u8 0, .int .u8 0, .int .u8 0, .int .u8 0, .int .u8 0, .int .u8 0, .int .u8 0, .int .u8 0, .int .u8 0, .int .u8 0, .int .u8 0, .int .u8 0]) (t := 23) ?hr ?_; (case hd => rfl); (case hg => rfl); (case hr => first | (go_simp; done) | (go_simp; rfl)); intro g43 hgg43 w44 hhg43 hbg43; have H53 := Aside0.mk hhg43; have N45 : g24 ≠ g43 := Nat.ne_of_lt (Nat.lt_of_lt_of_eq (blk_lt H42.out) hgg43.symm); have G46 : w.heap.size ≤ g43 := Nat.le_trans B39.out.size (Nat.le_of_eq hgg43.symm); have G47 : w7.heap.size ≤ g43 := Nat.le_trans B40.out.size (Nat.le_of_eq hgg43.symm); have G48 : w13.heap.size ≤ g43 := Nat.le_trans B41.out.size (Nat.le_of_eq hgg43.symm); have B49 := Aside0.mk (below_step B39.out hbg43); have B50 := Aside0.mk (below_step B40.out hbg43); have B51 := Aside0.mk (below_step B41.out hbg43); have H52 := Aside0.mk (blk_below H42.out hbg43); clear hgg43 hhg43 hbg43 B39 B40 B41 H42) | ((with_reducible refine gate_store (t := 23) (p := _) rfl ?_); refine storeN_event (T := 23) rfl rfl rfl rfl rfl (storeVar_blk H53.out 23 0 [.int .u8 d0, .int .u8 d1, .int .u8 d2, .int .u8 d3, .int .u8 d4, .int .u8 d5, .int .u8 d6, .int .u8 d7, .int .u8 d8, .int .u8 d9, .int .u8 d10, .int .u8 d11, .int .u8 d12, .int .u8 d13, .int .u8 d14, .int .u8 d15, .int .u8 d16, .int .u8 d17, .int .u8 d18, .int .u8 d19] (by kernel_rfl) rfl (by simp)) ?_; have H55 := Aside0.mk (show (World.setCells w44 g43 0 [.int .u8 d0, .int .u8 d1, .int .u8 d2, .int .u8 d3, .int .u8 d4, .int .u8 d5, .int .u8 d6, .int .u8 d7, .int .u8 d8, .int .u8 d9, .int .u8 d10, .int .u8 d11, .int .u8 d12, .int .u8 d13, .int .u8 d14, .int .u8 d15, .int .u8 d16, .int .u8 d17, .int .u8 d18, .int .u8 d19]).heap[g43]? = some (.cells #[.int .u8 d0, .int .u8 d1, .int .u8 d2, .int .u8 d3, .int .u8 d4, .int .u8 d5, .int .u8 d6, .int .u8 d7, .int .u8 d8, .int .u8 d9, .int .u8 d10, .int .u8 d11, .int .u8 d12, .int .u8 d13, .int .u8 d14, .int .u8 d15, .int .u8 d16, .int .u8 d17, .int .u8 d18, .int .u8 d19] 23 (0, 0)) from blk_setCells [] [.int .u8 d0, .int .u8 d1, .int .u8 d2, .int .u8 d3, .int .u8 d4, .int .u8 d5, .int .u8 d6, .int .u8 d7, .int .u8 d8, .int .u8 d9, .int .u8 d10, .int .u8 d11, .int .u8 d12, .int .u8 d13, .int .u8 d14, .int .u8 d15, .int .u8 d16, .int .u8 d17, .int .u8 d18, .int .u8 d19] [.int .u8 0, .int .u8 0, .int .u8 0, .int .u8 0, .int .u8 0, .int .u8 0, .int .u8 0, .int .u8 0, .int .u8 0, .int .u8 0, .int .u8 0, .int .u8 0, .int .u8 0, .int .u8 0, .int .u8 0, .int .u8 0, .int .u8 0, .int .u8 0, .int .u8 0, .int .u8 0] [] w44 rfl H53.out); have H56 := Aside0.mk (far_setCells N45 [.int .u8 d0, .int .u8 d1, .int .u8 d2, .int .u8 d3, .int .u8 d4, .int .u8 d5, .int .u8 d6, .int .u8 d7, .int .u8 d8, .int .u8 d9, .int .u8 d10, .int .u8 d11, .int .u8 d12, .int .u8 d13, .int .u8 d14, .int .u8 d15, .int .u8 d16, .int .u8 d17, .int .u8 d18, .int .u8 d19] 0 w44 H52.out); have B57 := Aside0.mk (below_setCells G46 [.int .u8 d0, .int .u8 d1, .int .u8 d2, .int .u8 d3, .int .u8 d4, .int .u8 d5, .int .u8 d6, .int .u8 d7, .int .u8 d8, .int .u8 d9, .int .u8 d10, .int .u8 d11, .int .u8 d12, .int .u8 d13, .int .u8 d14, .int .u8 d15, .int .u8 d16, .int .u8 d17, .int .u8 d18, .int .u8 d19] 0 w44 B49.out); have B58 := Aside0.mk (below_setCells G47 [.int .u8 d0, .int .u8 d1, .int .u8 d2, .int .u8 d3, .int .u8 d4, .int .u8 d5, .int .u8 d6, .int .u8 d7, .int .u8 d8, .int .u8 d9, .int .u8 d10, .int .u8 d11, .int .u8 d12, .int .u8 d13, .int .u8 d14, .int .u8 d15, .int .u8 d16, .int .u8 d17, .int .u8 d18, .int .u8 d19] 0 w44 B50.out); have B59 := Aside0.mk (below_setCells G48 [.int .u8 d0, .int .u8 d1, .int .u8 d2, .int .u8 d3, .int .u8 d4, .int .u8 d5, .int .u8 d6, .int .u8 d7, .int .u8 d8, .int .u8 d9, .int .u8 d10, .int .u8 d11, .int .u8 d12, .int .u8 d13, .int .u8 d14, .int .u8 d15, .int .u8 d16, .int .u8 d17, .int .u8 d18, .int .u8 d19] 0 w44 B51.out); clear H53 H52 B49 B50 B51; generalize World.setCells w44 g43 0 [.int .u8 d0, .int .u8 d1, .int .u8 d2, .int .u8 d3, .int .u8 d4, .int .u8 d5, .int .u8 d6, .int .u8 d7, .int .u8 d8, .int .u8 d9, .int .u8 d10, .int .u8 d11, .int .u8 d12, .int .u8 d13, .int .u8 d14, .int .u8 d15, .int .u8 d16, .int .u8 d17, .int .u8 d18, .int .u8 d19] = w54 at H56 H55 B57 B58 B59 ⊢) | ((with_reducible refine gate_dst (N := 45) rfl ?_); refine loadG_event (T := 23) (by rfl) rfl rfl (run_loadVar_row _ _ _ _ _ (0, 0) _ H56.out Tryd.underlying23 rfl (by kernel_rfl)) ?_) | ((with_reducible refine gate_dst (N := 46) rfl ?_); refine loadG_event (T := 23) (by rfl) rfl rfl (run_loadVar_row _ _ _ _ _ (0, 0) _ H55.out Tryd.underlying23 rfl (by kernel_rfl)) ?_))
  refine (Hhal.out w54 (HhT.out.at B57.out)).mono ?_
  rintro e w60 ⟨rfl, hb_⟩
  have B61 := Aside0.mk (below_step B57.out hb_)
  have B62 := Aside0.mk (below_step B58.out hb_)
  have B63 := Aside0.mk (below_step B59.out hb_)
  have H64 := Aside0.mk (blk_below H56.out hb_)
  have H65 := Aside0.mk (blk_below H55.out hb_)
  clear hb_ B57 B58 B59 H56 H55
  go_wp2_with fail
  go_ret
  exact ⟨rfl, B61.out⟩
set_option maxHeartbeats 3200000 in
set_option maxRecDepth 100000 in
theorem pc_in (A : Option Addr) (c : Nat) (ll : List (List Int)) (w : World) (hT : TabQ w) (hlong : ∀ W : World, Below w.heap.size w W → Calls Tryd.prog 42 #[.slice A ll.length c] W fun e w' => e = .returned (.bool false) ∧ Below W.heap.size W w') (hal : ∀ W : World, TabQ W → Calls Tryd.prog 48 #[] W fun e w' => e = .returned (.bool true) ∧ Below W.heap.size W w') (all : List Int) (hwh : ∀ W : World, Below w.heap.size w W → Calls Tryd.prog 43 #[.slice A ll.length c] W fun e w' => ∃ v0_ : Value, e = .returned v0_ ∧ Kd.R (Kd.int .u8) 5 w' W.heap.size (fun _ => True) v0_ all ∧ Below W.heap.size W w') (h20 : ¬ 20 < ll.length) (h14 : ¬ 14000 < all.length) (d0 d1 d2 d3 d4 d5 d6 d7 d8 d9 d10 d11 d12 d13 d14 d15 d16 d17 d18 d19 : Int) (hp : ∀ W : World, TabQ W → Below w.heap.size w W → Calls Tryd.prog 46 #[.slice A ll.length c] W fun e w' => e = .returned (.tuple #[.agg #[.int .u8 d0, .int .u8 d1, .int .u8 d2, .int .u8 d3, .int .u8 d4, .int .u8 d5, .int .u8 d6, .int .u8 d7, .int .u8 d8, .int .u8 d9, .int .u8 d10, .int .u8 d11, .int .u8 d12, .int .u8 d13, .int .u8 d14, .int .u8 d15, .int .u8 d16, .int .u8 d17, .int .u8 d18, .int .u8 d19], .int .i64 0]) ∧ Below W.heap.size W w') (hs : ∀ (W : World) (A1 : Option Addr) (c1 : Nat), TabQ W → Kd.C (Kd.int .u8) W A1 all.length all → all.length ≤ c1 → Calls Tryd.prog 44 #[.slice A1 all.length c1] W fun e w' => e = .returned (.tuple #[.agg #[.int .u8 d0, .int .u8 d1, .int .u8 d2, .int .u8 d3, .int .u8 d4, .int .u8 d5, .int .u8 d6, .int .u8 d7, .int .u8 d8, .int .u8 d9, .int .u8 d10, .int .u8 d11, .int .u8 d12, .int .u8 d13, .int .u8 d14, .int .u8 d15, .int .u8 d16, .int .u8 d17, .int .u8 d18, .int .u8 d19], .int .i64 0]) ∧ Below W.heap.size W w') (hp2 : ∀ (W : World) (g k : Nat), TabQ W → k ≤ all.length → Kd.C (Kd.slice 5 (Kd.int .u8)) W (some ⟨g, 0, none⟩) 2 [all.take k, all.drop k] → Calls Tryd.prog 46 #[.slice (some ⟨g, 0, none⟩) 2 2] W fun e w' => e = .returned (.tuple #[.agg #[.int .u8 d0, .int .u8 d1, .int .u8 d2, .int .u8 d3, .int .u8 d4, .int .u8 d5, .int .u8 d6, .int .u8 d7, .int .u8 d8, .int .u8 d9, .int .u8 d10, .int .u8 d11, .int .u8 d12, .int .u8 d13, .int .u8 d14, .int .u8 d15, .int .u8 d16, .int .u8 d17, .int .u8 d18, .int .u8 d19], .int .i64 0]) ∧ Below W.heap.size W w') (k : Nat) (hx : k ≤ all.length) :
    Calls Tryd.prog 10 #[.slice A ll.length c, .int .i64 (k : Int)] w fun e w' => e = .returned (.bool true) ∧ Below w.heap.size w w' := by
  have HhT := Aside0.mk hT
  have Hhlong := Aside0.mk hlong
  have Hhal := Aside0.mk hal
  have Hhwh := Aside0.mk hwh
  have Hh20 := Aside0.mk h20
  have Hh14 := Aside0.mk h14
  have Hhp := Aside0.mk hp
  have Hhs := Aside0.mk hs
  have Hhp2 := Aside0.mk hp2
  have Hhx := Aside0.mk hx
  have t1 : (20 < (ll.length : Int)) = False := eq_false (by omega)
  have t2 : (14000 < (all.length : Int)) = False := eq_false (by omega)
  have t3 : ((k : Int) < 0) = False := eq_false (by omega)
  have t4 : ((all.length : Int) < (k : Int)) = False := eq_false (by omega)
  clear hT hlong hal hwh h20 h14 hp hs hp2 hx
  go_enter Tryd.func10, Tryd.ntmps10
  have hqp := fun (d : Nat) (W : World) => eqA23 d W d0 d0 d1 d1 d2 d2 d3 d3 d4 d4 d5 d5 d6 d6 d7 d7 d8 d8 d9 d9 d10 d10 d11 d11 d12 d12 d13 d13 d14 d14 d15 d15 d16 d16 d17 d17 d18 d18 d19 d19
  simp only [beq_self_eq_true, Bool.and_self] at hqp
  go_wp2_with fail
  refine (Hhlong.out w (Below.refl _ _)).mono ?_
  rintro e w5 ⟨rfl, hb_⟩
  have B6 := Aside0.mk (hb_)
  clear hb_
  go_wp2_with fail
  refine (Hhwh.out w5 B6.out).mono ?_
  rintro e w7 ⟨v_, rfl, hR_, hb_⟩
  have B8 := Aside0.mk (below_step B6.out hb_)
  clear hb_ B6
  obtain ⟨r9, c10, rfl, hle_, hC_⟩ := Kd.R_reads hR_
  have R11 := Aside0.mk hC_
  have L12 := Aside0.mk hle_
  clear hC_ hle_ hR_
  go_wp2_with fail
  refine (Hhwh.out w7 B8.out).mono ?_
  rintro e w13 ⟨v_, rfl, hR_, hb_⟩
  have B14 := Aside0.mk (below_step B8.out hb_)
  have B15 := Aside0.mk (hb_)
  clear hb_ B8
  obtain ⟨r16, c17, rfl, hle_, hC_⟩ := Kd.R_reads hR_
  have R18 := Aside0.mk hC_
  have L19 := Aside0.mk hle_
  clear hC_ hle_ hR_
  go_wp2_with fail
  refine (Hhp.out w13 (HhT.out.at B14.out) B14.out).mono ?_
  rintro e w20 ⟨rfl, hb_⟩
  have B21 := Aside0.mk (below_step B14.out hb_)
  have B22 := Aside0.mk (below_step B15.out hb_)
  have B23 := Aside0.mk (hb_)
  clear hb_ B14 B15
  go_wp2_with (first | ((with_reducible refine gate_dst (N := 6) rfl ?_); refine box_event ?hg (N := 6) ?hd (cs := #[.int .u8 0, .int .u8 0, .int .u8 0, .int .u8 0, .int .u8 0, .int .u8 0, .int .u8 0, .int .u8 0, .int .u8 0, .int .u8 0, .int .u8 0, .int .u8 0, .int .u8 0, .int .u8 0, .int .u8 0, .int .u8 0, .int .u8 0, .int .u8 0, .int .u8 0, .int .u8 0]) (t := 23) ?hr ?_; (case hd => rfl); (case hg => rfl); (case hr => first | (go_simp; done) | (go_simp; rfl)); intro g24 hgg24 w25 hhg24 hbg24; have H32 := Aside0.mk hhg24; have G26 : w.heap.size ≤ g24 := Nat.le_trans B21.out.size (Nat.le_of_eq hgg24.symm); have G27 : w7.heap.size ≤ g24 := Nat.le_trans B22.out.size (Nat.le_of_eq hgg24.symm); have G28 : w13.heap.size ≤ g24 := Nat.le_trans B23.out.size (Nat.le_of_eq hgg24.symm); have B29 := Aside0.mk (below_step B21.out hbg24); have B30 := Aside0.mk (below_step B22.out hbg24); have B31 := Aside0.mk (below_step B23.out hbg24); clear hgg24 hhg24 hbg24 B21 B22 B23) | ((with_reducible refine gate_store (t := 23) (p := _) rfl ?_); refine storeN_event (T := 23) rfl rfl rfl rfl rfl (storeVar_blk H32.out 23 0 [.int .u8 d0, .int .u8 d1, .int .u8 d2, .int .u8 d3, .int .u8 d4, .int .u8 d5, .int .u8 d6, .int .u8 d7, .int .u8 d8, .int .u8 d9, .int .u8 d10, .int .u8 d11, .int .u8 d12, .int .u8 d13, .int .u8 d14, .int .u8 d15, .int .u8 d16, .int .u8 d17, .int .u8 d18, .int .u8 d19] (by kernel_rfl) rfl (by simp)) ?_; have H34 := Aside0.mk (show (World.setCells w25 g24 0 [.int .u8 d0, .int .u8 d1, .int .u8 d2, .int .u8 d3, .int .u8 d4, .int .u8 d5, .int .u8 d6, .int .u8 d7, .int .u8 d8, .int .u8 d9, .int .u8 d10, .int .u8 d11, .int .u8 d12, .int .u8 d13, .int .u8 d14, .int .u8 d15, .int .u8 d16, .int .u8 d17, .int .u8 d18, .int .u8 d19]).heap[g24]? = some (.cells #[.int .u8 d0, .int .u8 d1, .int .u8 d2, .int .u8 d3, .int .u8 d4, .int .u8 d5, .int .u8 d6, .int .u8 d7, .int .u8 d8, .int .u8 d9, .int .u8 d10, .int .u8 d11, .int .u8 d12, .int .u8 d13, .int .u8 d14, .int .u8 d15, .int .u8 d16, .int .u8 d17, .int .u8 d18, .int .u8 d19] 23 (0, 0)) from blk_setCells [] [.int .u8 d0, .int .u8 d1, .int .u8 d2, .int .u8 d3, .int .u8 d4, .int .u8 d5, .int .u8 d6, .int .u8 d7, .int .u8 d8, .int .u8 d9, .int .u8 d10, .int .u8 d11, .int .u8 d12, .int .u8 d13, .int .u8 d14, .int .u8 d15, .int .u8 d16, .int .u8 d17, .int .u8 d18, .int .u8 d19] [.int .u8 0, .int .u8 0, .int .u8 0, .int .u8 0, .int .u8 0, .int .u8 0, .int .u8 0, .int .u8 0, .int .u8 0, .int .u8 0, .int .u8 0, .int .u8 0, .int .u8 0, .int .u8 0, .int .u8 0, .int .u8 0, .int .u8 0, .int .u8 0, .int .u8 0, .int .u8 0] [] w25 rfl H32.out); have B35 := Aside0.mk (below_setCells G26 [.int .u8 d0, .int .u8 d1, .int .u8 d2, .int .u8 d3, .int .u8 d4, .int .u8 d5, .int .u8 d6, .int .u8 d7, .int .u8 d8, .int .u8 d9, .int .u8 d10, .int .u8 d11, .int .u8 d12, .int .u8 d13, .int .u8 d14, .int .u8 d15, .int .u8 d16, .int .u8 d17, .int .u8 d18, .int .u8 d19] 0 w25 B29.out); have B36 := Aside0.mk (below_setCells G27 [.int .u8 d0, .int .u8 d1, .int .u8 d2, .int .u8 d3, .int .u8 d4, .int .u8 d5, .int .u8 d6, .int .u8 d7, .int .u8 d8, .int .u8 d9, .int .u8 d10, .int .u8 d11, .int .u8 d12, .int .u8 d13, .int .u8 d14, .int .u8 d15, .int .u8 d16, .int .u8 d17, .int .u8 d18, .int .u8 d19] 0 w25 B30.out); have B37 := Aside0.mk (below_setCells G28 [.int .u8 d0, .int .u8 d1, .int .u8 d2, .int .u8 d3, .int .u8 d4, .int .u8 d5, .int .u8 d6, .int .u8 d7, .int .u8 d8, .int .u8 d9, .int .u8 d10, .int .u8 d11, .int .u8 d12, .int .u8 d13, .int .u8 d14, .int .u8 d15, .int .u8 d16, .int .u8 d17, .int .u8 d18, .int .u8 d19] 0 w25 B31.out); clear H32 B29 B30 B31; generalize World.setCells w25 g24 0 [.int .u8 d0, .int .u8 d1, .int .u8 d2, .int .u8 d3, .int .u8 d4, .int .u8 d5, .int .u8 d6, .int .u8 d7, .int .u8 d8, .int .u8 d9, .int .u8 d10, .int .u8 d11, .int .u8 d12, .int .u8 d13, .int .u8 d14, .int .u8 d15, .int .u8 d16, .int .u8 d17, .int .u8 d18, .int .u8 d19] = w33 at H34 B35 B36 B37 ⊢))
  refine (Hhs.out w33 r16 c17 (HhT.out.at B35.out) (Kd.C_below R18.out B37.out) L19.out).mono ?_
  rintro e w38 ⟨rfl, hb_⟩
  have B39 := Aside0.mk (below_step B35.out hb_)
  have B40 := Aside0.mk (below_step B36.out hb_)
  have B41 := Aside0.mk (below_step B37.out hb_)
  have H42 := Aside0.mk (blk_below H34.out hb_)
  clear hb_ B35 B36 B37 H34
  go_wp2_with (first | ((with_reducible refine gate_dst (N := 8) rfl ?_); refine box_event ?hg (N := 8) ?hd (cs := #[.int .u8 0, .int .u8 0, .int .u8 0, .int .u8 0, .int .u8 0, .int .u8 0, .int .u8 0, .int .u8 0, .int .u8 0, .int .u8 0, .int .u8 0, .int .u8 0, .int .u8 0, .int .u8 0, .int .u8 0, .int .u8 0, .int .u8 0, .int .u8 0, .int .u8 0, .int .u8 0]) (t := 23) ?hr ?_; (case hd => rfl); (case hg => rfl); (case hr => first | (go_simp; done) | (go_simp; rfl)); intro g43 hgg43 w44 hhg43 hbg43; have H53 := Aside0.mk hhg43; have N45 : g24 ≠ g43 := Nat.ne_of_lt (Nat.lt_of_lt_of_eq (blk_lt H42.out) hgg43.symm); have G46 : w.heap.size ≤ g43 := Nat.le_trans B39.out.size (Nat.le_of_eq hgg43.symm); have G47 : w7.heap.size ≤ g43 := Nat.le_trans B40.out.size (Nat.le_of_eq hgg43.symm); have G48 : w13.heap.size ≤ g43 := Nat.le_trans B41.out.size (Nat.le_of_eq hgg43.symm); have B49 := Aside0.mk (below_step B39.out hbg43); have B50 := Aside0.mk (below_step B40.out hbg43); have B51 := Aside0.mk (below_step B41.out hbg43); have H52 := Aside0.mk (blk_below H42.out hbg43); clear hgg43 hhg43 hbg43 B39 B40 B41 H42) | ((with_reducible refine gate_store (t := 23) (p := _) rfl ?_); refine storeN_event (T := 23) rfl rfl rfl rfl rfl (storeVar_blk H53.out 23 0 [.int .u8 d0, .int .u8 d1, .int .u8 d2, .int .u8 d3, .int .u8 d4, .int .u8 d5, .int .u8 d6, .int .u8 d7, .int .u8 d8, .int .u8 d9, .int .u8 d10, .int .u8 d11, .int .u8 d12, .int .u8 d13, .int .u8 d14, .int .u8 d15, .int .u8 d16, .int .u8 d17, .int .u8 d18, .int .u8 d19] (by kernel_rfl) rfl (by simp)) ?_; have H55 := Aside0.mk (show (World.setCells w44 g43 0 [.int .u8 d0, .int .u8 d1, .int .u8 d2, .int .u8 d3, .int .u8 d4, .int .u8 d5, .int .u8 d6, .int .u8 d7, .int .u8 d8, .int .u8 d9, .int .u8 d10, .int .u8 d11, .int .u8 d12, .int .u8 d13, .int .u8 d14, .int .u8 d15, .int .u8 d16, .int .u8 d17, .int .u8 d18, .int .u8 d19]).heap[g43]? = some (.cells #[.int .u8 d0, .int .u8 d1, .int .u8 d2, .int .u8 d3, .int .u8 d4, .int .u8 d5, .int .u8 d6, .int .u8 d7, .int .u8 d8, .int .u8 d9, .int .u8 d10, .int .u8 d11, .int .u8 d12, .int .u8 d13, .int .u8 d14, .int .u8 d15, .int .u8 d16, .int .u8 d17, .int .u8 d18, .int .u8 d19] 23 (0, 0)) from blk_setCells [] [.int .u8 d0, .int .u8 d1, .int .u8 d2, .int .u8 d3, .int .u8 d4, .int .u8 d5, .int .u8 d6, .int .u8 d7, .int .u8 d8, .int .u8 d9, .int .u8 d10, .int .u8 d11, .int .u8 d12, .int .u8 d13, .int .u8 d14, .int .u8 d15, .int .u8 d16, .int .u8 d17, .int .u8 d18, .int .u8 d19] [.int .u8 0, .int .u8 0, .int .u8 0, .int .u8 0, .int .u8 0, .int .u8 0, .int .u8 0, .int .u8 0, .int .u8 0, .int .u8 0, .int .u8 0, .int .u8 0, .int .u8 0, .int .u8 0, .int .u8 0, .int .u8 0, .int .u8 0, .int .u8 0, .int .u8 0, .int .u8 0] [] w44 rfl H53.out); have H56 := Aside0.mk (far_setCells N45 [.int .u8 d0, .int .u8 d1, .int .u8 d2, .int .u8 d3, .int .u8 d4, .int .u8 d5, .int .u8 d6, .int .u8 d7, .int .u8 d8, .int .u8 d9, .int .u8 d10, .int .u8 d11, .int .u8 d12, .int .u8 d13, .int .u8 d14, .int .u8 d15, .int .u8 d16, .int .u8 d17, .int .u8 d18, .int .u8 d19] 0 w44 H52.out); have B57 := Aside0.mk (below_setCells G46 [.int .u8 d0, .int .u8 d1, .int .u8 d2, .int .u8 d3, .int .u8 d4, .int .u8 d5, .int .u8 d6, .int .u8 d7, .int .u8 d8, .int .u8 d9, .int .u8 d10, .int .u8 d11, .int .u8 d12, .int .u8 d13, .int .u8 d14, .int .u8 d15, .int .u8 d16, .int .u8 d17, .int .u8 d18, .int .u8 d19] 0 w44 B49.out); have B58 := Aside0.mk (below_setCells G47 [.int .u8 d0, .int .u8 d1, .int .u8 d2, .int .u8 d3, .int .u8 d4, .int .u8 d5, .int .u8 d6, .int .u8 d7, .int .u8 d8, .int .u8 d9, .int .u8 d10, .int .u8 d11, .int .u8 d12, .int .u8 d13, .int .u8 d14, .int .u8 d15, .int .u8 d16, .int .u8 d17, .int .u8 d18, .int .u8 d19] 0 w44 B50.out); have B59 := Aside0.mk (below_setCells G48 [.int .u8 d0, .int .u8 d1, .int .u8 d2, .int .u8 d3, .int .u8 d4, .int .u8 d5, .int .u8 d6, .int .u8 d7, .int .u8 d8, .int .u8 d9, .int .u8 d10, .int .u8 d11, .int .u8 d12, .int .u8 d13, .int .u8 d14, .int .u8 d15, .int .u8 d16, .int .u8 d17, .int .u8 d18, .int .u8 d19] 0 w44 B51.out); clear H53 H52 B49 B50 B51; generalize World.setCells w44 g43 0 [.int .u8 d0, .int .u8 d1, .int .u8 d2, .int .u8 d3, .int .u8 d4, .int .u8 d5, .int .u8 d6, .int .u8 d7, .int .u8 d8, .int .u8 d9, .int .u8 d10, .int .u8 d11, .int .u8 d12, .int .u8 d13, .int .u8 d14, .int .u8 d15, .int .u8 d16, .int .u8 d17, .int .u8 d18, .int .u8 d19] = w54 at H56 H55 B57 B58 B59 ⊢) | ((with_reducible refine gate_dst (N := 45) rfl ?_); refine loadG_event (T := 23) (by rfl) rfl rfl (run_loadVar_row _ _ _ _ _ (0, 0) _ H56.out Tryd.underlying23 rfl (by kernel_rfl)) ?_) | ((with_reducible refine gate_dst (N := 46) rfl ?_); refine loadG_event (T := 23) (by rfl) rfl rfl (run_loadVar_row _ _ _ _ _ (0, 0) _ H55.out Tryd.underlying23 rfl (by kernel_rfl)) ?_))
  obtain ⟨A2, ct1, ct2, hcut⟩ := cuts2 r16 all.length c17 k Hhx.out L19.out
  have HCUT := Aside0.mk hcut
  clear hcut
  go_wp2_with fail
  have H61 := Aside0.mk (blk_drew H56.out)
  have H62 := Aside0.mk (blk_drew H55.out)
  have B63 := Aside0.mk (below_drew B57.out)
  have B64 := Aside0.mk (below_drew B58.out)
  have B65 := Aside0.mk (below_drew B59.out)
  clear H56 H55 B57 B58 B59
  refine start_ (n := 14) (S := fun w' => True) (ds := []) #[false, false, false, false, false, false, false, false, false, false, false, false, false, false] (by kernel_rfl) rfl rfl trivial (fun hHeld => ?_)
  generalize World.drew w54 = w60 at H61 H62 B63 B64 B65 hHeld ⊢
  refine pure_ (i := 0) (N := some 59) (v := ?_) (a' := ?_) #[true, false, false, false, false, false, false, false, false, false, false, false, false, false] rfl rfl (by kernel_rfl) (fun _ _ _ h => h) (Or.inl ⟨by rfl, ?_⟩) ?_ ?_
  rotate_left
  · intro w'
    go_simp
    with_reducible rfl
  rotate_left
  · simp only [Act.put, List.setIfInBounds_toArray, List.set_cons_zero, List.set_cons_succ, i64_w, i32_w]
    rfl
  refine pure_ (i := 1) (N := some 60) (v := ?_) (a' := ?_) #[true, true, false, false, false, false, false, false, false, false, false, false, false, false] rfl rfl (by kernel_rfl) (fun _ _ _ h => h) (Or.inl ⟨by rfl, ?_⟩) ?_ ?_
  rotate_left
  · intro w'
    go_simp
    with_reducible rfl
  rotate_left
  · simp only [Act.put, List.setIfInBounds_toArray, List.set_cons_zero, List.set_cons_succ, i64_w, i32_w]
    rfl
  refine pure_ (i := 2) (N := some 61) (v := ?_) (a' := ?_) #[true, true, true, false, false, false, false, false, false, false, false, false, false, false] rfl rfl (by kernel_rfl) (fun _ _ _ h => h) (Or.inl ⟨by rfl, ?_⟩) ?_ ?_
  rotate_left
  · intro w'
    go_simp
    with_reducible rfl
  rotate_left
  · simp only [Act.put, List.setIfInBounds_toArray, List.set_cons_zero, List.set_cons_succ, i64_w, i32_w]
    rfl
  refine pure_ (i := 3) (N := some 62) (v := ?_) (a' := ?_) #[true, true, true, true, false, false, false, false, false, false, false, false, false, false] rfl rfl (by kernel_rfl) (fun _ _ _ h => h) (Or.inl ⟨by rfl, ?_⟩) ?_ ?_
  rotate_left
  · intro w'
    go_simp
    with_reducible rfl
  rotate_left
  · simp only [Act.put, List.setIfInBounds_toArray, List.set_cons_zero, List.set_cons_succ, i64_w, i32_w]
    rfl
  refine pure_ (i := 4) (N := some 63) (v := ?_) (a' := ?_) #[true, true, true, true, true, false, false, false, false, false, false, false, false, false] rfl rfl (by kernel_rfl) (fun _ _ _ h => h) (Or.inl ⟨by rfl, ?_⟩) ?_ ?_
  rotate_left
  · intro w'
    go_simp
    with_reducible rfl
  rotate_left
  · simp only [Act.put, List.setIfInBounds_toArray, List.set_cons_zero, List.set_cons_succ, i64_w, i32_w]
    rfl
  refine pure_ (i := 5) (N := some 64) (v := ?_) (a' := ?_) #[true, true, true, true, true, true, false, false, false, false, false, false, false, false] rfl rfl (by kernel_rfl) (fun _ _ _ h => h) (Or.inl ⟨by rfl, ?_⟩) ?_ ?_
  rotate_left
  · intro w'
    go_simp
    with_reducible rfl
  rotate_left
  · simp only [Act.put, List.setIfInBounds_toArray, List.set_cons_zero, List.set_cons_succ, i64_w, i32_w]
    rfl
  refine join_ (σ := Nat × Nat) 2 #[true, true, true, true, true, true, true, true, true, true, true, true, false, false] (fun s_ => [(65, .slice (some ⟨s_.2, 0, none⟩) 2 2), (66, .tuple #[.agg #[.int .u8 d0, .int .u8 d1, .int .u8 d2, .int .u8 d3, .int .u8 d4, .int .u8 d5, .int .u8 d6, .int .u8 d7, .int .u8 d8, .int .u8 d9, .int .u8 d10, .int .u8 d11, .int .u8 d12, .int .u8 d13, .int .u8 d14, .int .u8 d15, .int .u8 d16, .int .u8 d17, .int .u8 d18, .int .u8 d19], .int .i64 0]), (10, .pointer (some ⟨s_.1, 0, none⟩)), (58, .tuple #[.agg #[.int .u8 d0, .int .u8 d1, .int .u8 d2, .int .u8 d3, .int .u8 d4, .int .u8 d5, .int .u8 d6, .int .u8 d7, .int .u8 d8, .int .u8 d9, .int .u8 d10, .int .u8 d11, .int .u8 d12, .int .u8 d13, .int .u8 d14, .int .u8 d15, .int .u8 d16, .int .u8 d17, .int .u8 d18, .int .u8 d19], .int .i64 0]), (67, .agg #[.int .u8 d0, .int .u8 d1, .int .u8 d2, .int .u8 d3, .int .u8 d4, .int .u8 d5, .int .u8 d6, .int .u8 d7, .int .u8 d8, .int .u8 d9, .int .u8 d10, .int .u8 d11, .int .u8 d12, .int .u8 d13, .int .u8 d14, .int .u8 d15, .int .u8 d16, .int .u8 d17, .int .u8 d18, .int .u8 d19]), (68, .int .i64 0)]) (fun s_ w' => (w'.heap[s_.1]? = some (.cells #[.int .u8 0, .int .u8 0, .int .u8 0, .int .u8 0, .int .u8 0, .int .u8 0, .int .u8 0, .int .u8 0, .int .u8 0, .int .u8 0, .int .u8 0, .int .u8 0, .int .u8 0, .int .u8 0, .int .u8 0, .int .u8 0, .int .u8 0, .int .u8 0, .int .u8 0, .int .u8 0] 23 (0, 0))) ∧ (w'.heap[g24]? = some (.cells #[.int .u8 d0, .int .u8 d1, .int .u8 d2, .int .u8 d3, .int .u8 d4, .int .u8 d5, .int .u8 d6, .int .u8 d7, .int .u8 d8, .int .u8 d9, .int .u8 d10, .int .u8 d11, .int .u8 d12, .int .u8 d13, .int .u8 d14, .int .u8 d15, .int .u8 d16, .int .u8 d17, .int .u8 d18, .int .u8 d19] 23 (0, 0))) ∧ (w'.heap[g43]? = some (.cells #[.int .u8 d0, .int .u8 d1, .int .u8 d2, .int .u8 d3, .int .u8 d4, .int .u8 d5, .int .u8 d6, .int .u8 d7, .int .u8 d8, .int .u8 d9, .int .u8 d10, .int .u8 d11, .int .u8 d12, .int .u8 d13, .int .u8 d14, .int .u8 d15, .int .u8 d16, .int .u8 d17, .int .u8 d18, .int .u8 d19] 23 (0, 0))) ∧ (w'.heap[s_.2]? = some (.cells #[.slice r16 k c17, .slice A2 (all.length - k) (c17 - k)] 26 (0, 0))) ∧ (Below w.heap.size w w') ∧ (Below w13.heap.size w13 w') ∧ (Below w7.heap.size w7 w') ∧ (s_.1 ≠ g24) ∧ (s_.1 ≠ g43) ∧ (s_.1 ≠ s_.2) ∧ (g24 ≠ s_.2) ∧ (g43 ≠ s_.2) ∧ (w.heap.size ≤ s_.1) ∧ (w.heap.size ≤ s_.2) ∧ (w13.heap.size ≤ s_.1) ∧ (w13.heap.size ≤ s_.2) ∧ (w7.heap.size ≤ s_.1) ∧ (w7.heap.size ≤ s_.2)) ?_ ?_
  rotate_left
  · intro hCont
    refine two_ (i := 6) (j := 11) (Ni := some 65) (Nj := some 10) #[true, true, true, true, true, true, true, false, false, false, false, false, false, false] #[true, true, true, true, true, true, false, false, false, false, false, true, false, false] rfl rfl rfl rfl (by kernel_rfl) (by decide) (by decide) (fun K hK => ?_) (fun K hK => ?_)
    · skip
      refine value_ (w1 := World.alloc w60 (.cells #[.slice r16 k c17, .slice A2 (all.length - k) (c17 - k)] 26 (0, 0))) (v := .slice (some ⟨w60.heap.size, 0, none⟩) 2 2) (by rfl) rfl (by first | (go_simp; done) | (go_simp; rfl)) ?_
      obtain ⟨gl, w66, hg_, hw_, hh_, hb_⟩ := new_blk w60 #[.slice r16 k c17, .slice A2 (all.length - k) (c17 - k)] 26
      rw [← hg_, ← hw_]
      have H77 := Aside0.mk hh_
      have N67 : g24 ≠ gl := Nat.ne_of_lt (Nat.lt_of_lt_of_eq (blk_lt H61.out) hg_.symm)
      have N68 : g43 ≠ gl := Nat.ne_of_lt (Nat.lt_of_lt_of_eq (blk_lt H62.out) hg_.symm)
      have G69 : w.heap.size ≤ gl := Nat.le_trans B63.out.size (Nat.le_of_eq hg_.symm)
      have G70 : w7.heap.size ≤ gl := Nat.le_trans B64.out.size (Nat.le_of_eq hg_.symm)
      have G71 : w13.heap.size ≤ gl := Nat.le_trans B65.out.size (Nat.le_of_eq hg_.symm)
      have B72 := Aside0.mk (below_step B63.out hb_)
      have B73 := Aside0.mk (below_step B64.out hb_)
      have B74 := Aside0.mk (below_step B65.out hb_)
      have H75 := Aside0.mk (blk_below H61.out hb_)
      have H76 := Aside0.mk (blk_below H62.out hb_)
      clear hg_ hh_ hb_ B63 B64 B65 H61 H62
      clear hw_
      refine hK.out _ _ trivial (fun hHeld => ?_)
      clear hK K
      refine norm_ (a' := ?_) ?_ ?_
      rotate_left
      · show Act.put _ (some 65) _ = _
        simp only [Act.put, List.setIfInBounds_toArray, List.set_cons_zero, List.set_cons_succ, i64_w, i32_w]
        rfl
      refine two_ (i := 7) (j := 11) (Ni := some 66) (Nj := some 10) #[true, true, true, true, true, true, true, true, false, false, false, false, false, false] #[true, true, true, true, true, true, true, false, false, false, false, true, false, false] rfl rfl rfl rfl (by kernel_rfl) (by decide) (by decide) (fun K hK => ?_) (fun K hK => ?_)
      · skip
        refine goes_ Tryd.func46 (by kernel_rfl) rfl #[.slice (some ⟨gl, 0, none⟩) 2 2] (by rfl) rfl rfl (by simp only [List.map_toArray, List.map_cons, List.map_nil]; rfl) ?_
        with_reducible refine (Hhp2.out w66 gl k (HhT.out.at B72.out) Hhx.out (rows_cut Hhx.out L19.out H77.out (HCUT.out _ all rfl (Kd.C_below R18.out B74.out)).1 (HCUT.out _ all rfl (Kd.C_below R18.out B74.out)).2)).mono ?_
        rintro e_ w78 ⟨rfl, hb_⟩
        refine ⟨_, rfl, ?_⟩
        have B79 := Aside0.mk (below_step B72.out hb_)
        have B80 := Aside0.mk (below_step B73.out hb_)
        have B81 := Aside0.mk (below_step B74.out hb_)
        have H82 := Aside0.mk (blk_below H75.out hb_)
        have H83 := Aside0.mk (blk_below H76.out hb_)
        have H84 := Aside0.mk (blk_below H77.out hb_)
        clear hb_ B72 B73 B74 H75 H76 H77
        refine hK.out _ _ trivial (fun hHeld => ?_)
        clear hK K
        refine norm_ (a' := ?_) ?_ ?_
        rotate_left
        · show Act.put _ (some 66) _ = _
          simp only [Act.put, List.setIfInBounds_toArray, List.set_cons_zero, List.set_cons_succ, i64_w, i32_w]
          rfl
        refine pure_ (i := 8) (N := some 58) (v := ?_) (a' := ?_) #[true, true, true, true, true, true, true, true, true, false, false, false, false, false] rfl rfl (by kernel_rfl) (fun _ _ _ h => h) (Or.inl ⟨by rfl, ?_⟩) ?_ ?_
        rotate_left
        · intro w'
          go_simp
          with_reducible rfl
        rotate_left
        · simp only [Act.put, List.setIfInBounds_toArray, List.set_cons_zero, List.set_cons_succ, i64_w, i32_w]
          rfl
        refine pure_ (i := 9) (N := some 67) (v := ?_) (a' := ?_) #[true, true, true, true, true, true, true, true, true, true, false, false, false, false] rfl rfl (by kernel_rfl) (fun _ _ _ h => h) (Or.inl ⟨by rfl, ?_⟩) ?_ ?_
        rotate_left
        · intro w'
          go_simp
          with_reducible rfl
        rotate_left
        · simp only [Act.put, List.setIfInBounds_toArray, List.set_cons_zero, List.set_cons_succ, i64_w, i32_w]
          rfl
        refine pure_ (i := 10) (N := some 68) (v := ?_) (a' := ?_) #[true, true, true, true, true, true, true, true, true, true, true, false, false, false] rfl rfl (by kernel_rfl) (fun _ _ _ h => h) (Or.inl ⟨by rfl, ?_⟩) ?_ ?_
        rotate_left
        · intro w'
          go_simp
          with_reducible rfl
        rotate_left
        · simp only [Act.put, List.setIfInBounds_toArray, List.set_cons_zero, List.set_cons_succ, i64_w, i32_w]
          rfl
        refine one_ (i := 11) (N := some 10) #[true, true, true, true, true, true, true, true, true, true, true, true, false, false] rfl rfl (by kernel_rfl) (by decide) (fun K hK => ?_)
        refine value_ (w1 := World.alloc w78 (.cells #[.int .u8 0, .int .u8 0, .int .u8 0, .int .u8 0, .int .u8 0, .int .u8 0, .int .u8 0, .int .u8 0, .int .u8 0, .int .u8 0, .int .u8 0, .int .u8 0, .int .u8 0, .int .u8 0, .int .u8 0, .int .u8 0, .int .u8 0, .int .u8 0, .int .u8 0, .int .u8 0] 23 (0, 0))) (v := .pointer (some ⟨w78.heap.size, 0, none⟩)) (by rfl) rfl (by first | (go_simp; done) | (go_simp; rfl)) ?_
        obtain ⟨g10, w85, hg_, hw_, hh_, hb_⟩ := new_blk w78 #[.int .u8 0, .int .u8 0, .int .u8 0, .int .u8 0, .int .u8 0, .int .u8 0, .int .u8 0, .int .u8 0, .int .u8 0, .int .u8 0, .int .u8 0, .int .u8 0, .int .u8 0, .int .u8 0, .int .u8 0, .int .u8 0, .int .u8 0, .int .u8 0, .int .u8 0, .int .u8 0] 23
        rw [← hg_, ← hw_]
        have H98 := Aside0.mk hh_
        have N86 : g24 ≠ g10 := Nat.ne_of_lt (Nat.lt_of_lt_of_eq (blk_lt H82.out) hg_.symm)
        have N87 : g43 ≠ g10 := Nat.ne_of_lt (Nat.lt_of_lt_of_eq (blk_lt H83.out) hg_.symm)
        have N88 : gl ≠ g10 := Nat.ne_of_lt (Nat.lt_of_lt_of_eq (blk_lt H84.out) hg_.symm)
        have G89 : w.heap.size ≤ g10 := Nat.le_trans B79.out.size (Nat.le_of_eq hg_.symm)
        have G90 : w7.heap.size ≤ g10 := Nat.le_trans B80.out.size (Nat.le_of_eq hg_.symm)
        have G91 : w13.heap.size ≤ g10 := Nat.le_trans B81.out.size (Nat.le_of_eq hg_.symm)
        have B92 := Aside0.mk (below_step B79.out hb_)
        have B93 := Aside0.mk (below_step B80.out hb_)
        have B94 := Aside0.mk (below_step B81.out hb_)
        have H95 := Aside0.mk (blk_below H82.out hb_)
        have H96 := Aside0.mk (blk_below H83.out hb_)
        have H97 := Aside0.mk (blk_below H84.out hb_)
        clear hg_ hh_ hb_ B79 B80 B81 H82 H83 H84
        clear hw_
        refine hK.out _ _ trivial (fun hHeld => ?_)
        clear hK K
        refine norm_ (a' := ?_) ?_ ?_
        rotate_left
        · show Act.put _ (some 10) _ = _
          simp only [Act.put, List.setIfInBounds_toArray, List.set_cons_zero, List.set_cons_succ, i64_w, i32_w]
          rfl
        exact norm_ (by simp only [putAll, Act.put, List.setIfInBounds_toArray, List.set_cons_zero, List.set_cons_succ]) (hCont (g10, gl) _ ⟨H98.out, H95.out, H96.out, H97.out, B92.out, B94.out, B93.out, (Ne.symm N86), (Ne.symm N87), (Ne.symm N88), N67, N68, G89, G69, G91, G71, G90, G70⟩)
      · skip
        refine value_ (w1 := World.alloc w66 (.cells #[.int .u8 0, .int .u8 0, .int .u8 0, .int .u8 0, .int .u8 0, .int .u8 0, .int .u8 0, .int .u8 0, .int .u8 0, .int .u8 0, .int .u8 0, .int .u8 0, .int .u8 0, .int .u8 0, .int .u8 0, .int .u8 0, .int .u8 0, .int .u8 0, .int .u8 0, .int .u8 0] 23 (0, 0))) (v := .pointer (some ⟨w66.heap.size, 0, none⟩)) (by rfl) rfl (by first | (go_simp; done) | (go_simp; rfl)) ?_
        obtain ⟨g10, w78, hg_, hw_, hh_, hb_⟩ := new_blk w66 #[.int .u8 0, .int .u8 0, .int .u8 0, .int .u8 0, .int .u8 0, .int .u8 0, .int .u8 0, .int .u8 0, .int .u8 0, .int .u8 0, .int .u8 0, .int .u8 0, .int .u8 0, .int .u8 0, .int .u8 0, .int .u8 0, .int .u8 0, .int .u8 0, .int .u8 0, .int .u8 0] 23
        rw [← hg_, ← hw_]
        have H91 := Aside0.mk hh_
        have N79 : g24 ≠ g10 := Nat.ne_of_lt (Nat.lt_of_lt_of_eq (blk_lt H75.out) hg_.symm)
        have N80 : g43 ≠ g10 := Nat.ne_of_lt (Nat.lt_of_lt_of_eq (blk_lt H76.out) hg_.symm)
        have N81 : gl ≠ g10 := Nat.ne_of_lt (Nat.lt_of_lt_of_eq (blk_lt H77.out) hg_.symm)
        have G82 : w.heap.size ≤ g10 := Nat.le_trans B72.out.size (Nat.le_of_eq hg_.symm)
        have G83 : w7.heap.size ≤ g10 := Nat.le_trans B73.out.size (Nat.le_of_eq hg_.symm)
        have G84 : w13.heap.size ≤ g10 := Nat.le_trans B74.out.size (Nat.le_of_eq hg_.symm)
        have B85 := Aside0.mk (below_step B72.out hb_)
        have B86 := Aside0.mk (below_step B73.out hb_)
        have B87 := Aside0.mk (below_step B74.out hb_)
        have H88 := Aside0.mk (blk_below H75.out hb_)
        have H89 := Aside0.mk (blk_below H76.out hb_)
        have H90 := Aside0.mk (blk_below H77.out hb_)
        clear hg_ hh_ hb_ B72 B73 B74 H75 H76 H77
        clear hw_
        refine hK.out _ _ trivial (fun hHeld => ?_)
        clear hK K
        refine norm_ (a' := ?_) ?_ ?_
        rotate_left
        · show Act.put _ (some 10) _ = _
          simp only [Act.put, List.setIfInBounds_toArray, List.set_cons_zero, List.set_cons_succ, i64_w, i32_w]
          rfl
        refine one_ (i := 7) (N := some 66) #[true, true, true, true, true, true, true, true, false, false, false, true, false, false] rfl rfl (by kernel_rfl) (by decide) (fun K hK => ?_)
        refine goes_ Tryd.func46 (by kernel_rfl) rfl #[.slice (some ⟨gl, 0, none⟩) 2 2] (by rfl) rfl rfl (by simp only [List.map_toArray, List.map_cons, List.map_nil]; rfl) ?_
        with_reducible refine (Hhp2.out w78 gl k (HhT.out.at B85.out) Hhx.out (rows_cut Hhx.out L19.out H90.out (HCUT.out _ all rfl (Kd.C_below R18.out B87.out)).1 (HCUT.out _ all rfl (Kd.C_below R18.out B87.out)).2)).mono ?_
        rintro e_ w92 ⟨rfl, hb_⟩
        refine ⟨_, rfl, ?_⟩
        have B93 := Aside0.mk (below_step B85.out hb_)
        have B94 := Aside0.mk (below_step B86.out hb_)
        have B95 := Aside0.mk (below_step B87.out hb_)
        have H96 := Aside0.mk (blk_below H88.out hb_)
        have H97 := Aside0.mk (blk_below H89.out hb_)
        have H98 := Aside0.mk (blk_below H90.out hb_)
        have H99 := Aside0.mk (blk_below H91.out hb_)
        clear hb_ B85 B86 B87 H88 H89 H90 H91
        refine hK.out _ _ trivial (fun hHeld => ?_)
        clear hK K
        refine norm_ (a' := ?_) ?_ ?_
        rotate_left
        · show Act.put _ (some 66) _ = _
          simp only [Act.put, List.setIfInBounds_toArray, List.set_cons_zero, List.set_cons_succ, i64_w, i32_w]
          rfl
        refine pure_ (i := 8) (N := some 58) (v := ?_) (a' := ?_) #[true, true, true, true, true, true, true, true, true, false, false, true, false, false] rfl rfl (by kernel_rfl) (fun _ _ _ h => h) (Or.inl ⟨by rfl, ?_⟩) ?_ ?_
        rotate_left
        · intro w'
          go_simp
          with_reducible rfl
        rotate_left
        · simp only [Act.put, List.setIfInBounds_toArray, List.set_cons_zero, List.set_cons_succ, i64_w, i32_w]
          rfl
        refine pure_ (i := 9) (N := some 67) (v := ?_) (a' := ?_) #[true, true, true, true, true, true, true, true, true, true, false, true, false, false] rfl rfl (by kernel_rfl) (fun _ _ _ h => h) (Or.inl ⟨by rfl, ?_⟩) ?_ ?_
        rotate_left
        · intro w'
          go_simp
          with_reducible rfl
        rotate_left
        · simp only [Act.put, List.setIfInBounds_toArray, List.set_cons_zero, List.set_cons_succ, i64_w, i32_w]
          rfl
        refine pure_ (i := 10) (N := some 68) (v := ?_) (a' := ?_) #[true, true, true, true, true, true, true, true, true, true, true, true, false, false] rfl rfl (by kernel_rfl) (fun _ _ _ h => h) (Or.inl ⟨by rfl, ?_⟩) ?_ ?_
        rotate_left
        · intro w'
          go_simp
          with_reducible rfl
        rotate_left
        · simp only [Act.put, List.setIfInBounds_toArray, List.set_cons_zero, List.set_cons_succ, i64_w, i32_w]
          rfl
        exact norm_ (by simp only [putAll, Act.put, List.setIfInBounds_toArray, List.set_cons_zero, List.set_cons_succ]) (hCont (g10, gl) _ ⟨H99.out, H96.out, H97.out, H98.out, B93.out, B95.out, B94.out, (Ne.symm N79), (Ne.symm N80), (Ne.symm N81), N67, N68, G82, G69, G84, G71, G83, G70⟩)
    · skip
      refine value_ (w1 := World.alloc w60 (.cells #[.int .u8 0, .int .u8 0, .int .u8 0, .int .u8 0, .int .u8 0, .int .u8 0, .int .u8 0, .int .u8 0, .int .u8 0, .int .u8 0, .int .u8 0, .int .u8 0, .int .u8 0, .int .u8 0, .int .u8 0, .int .u8 0, .int .u8 0, .int .u8 0, .int .u8 0, .int .u8 0] 23 (0, 0))) (v := .pointer (some ⟨w60.heap.size, 0, none⟩)) (by rfl) rfl (by first | (go_simp; done) | (go_simp; rfl)) ?_
      obtain ⟨g10, w66, hg_, hw_, hh_, hb_⟩ := new_blk w60 #[.int .u8 0, .int .u8 0, .int .u8 0, .int .u8 0, .int .u8 0, .int .u8 0, .int .u8 0, .int .u8 0, .int .u8 0, .int .u8 0, .int .u8 0, .int .u8 0, .int .u8 0, .int .u8 0, .int .u8 0, .int .u8 0, .int .u8 0, .int .u8 0, .int .u8 0, .int .u8 0] 23
      rw [← hg_, ← hw_]
      have H77 := Aside0.mk hh_
      have N67 : g24 ≠ g10 := Nat.ne_of_lt (Nat.lt_of_lt_of_eq (blk_lt H61.out) hg_.symm)
      have N68 : g43 ≠ g10 := Nat.ne_of_lt (Nat.lt_of_lt_of_eq (blk_lt H62.out) hg_.symm)
      have G69 : w.heap.size ≤ g10 := Nat.le_trans B63.out.size (Nat.le_of_eq hg_.symm)
      have G70 : w7.heap.size ≤ g10 := Nat.le_trans B64.out.size (Nat.le_of_eq hg_.symm)
      have G71 : w13.heap.size ≤ g10 := Nat.le_trans B65.out.size (Nat.le_of_eq hg_.symm)
      have B72 := Aside0.mk (below_step B63.out hb_)
      have B73 := Aside0.mk (below_step B64.out hb_)
      have B74 := Aside0.mk (below_step B65.out hb_)
      have H75 := Aside0.mk (blk_below H61.out hb_)
      have H76 := Aside0.mk (blk_below H62.out hb_)
      clear hg_ hh_ hb_ B63 B64 B65 H61 H62
      clear hw_
      refine hK.out _ _ trivial (fun hHeld => ?_)
      clear hK K
      refine norm_ (a' := ?_) ?_ ?_
      rotate_left
      · show Act.put _ (some 10) _ = _
        simp only [Act.put, List.setIfInBounds_toArray, List.set_cons_zero, List.set_cons_succ, i64_w, i32_w]
        rfl
      refine one_ (i := 6) (N := some 65) #[true, true, true, true, true, true, true, false, false, false, false, true, false, false] rfl rfl (by kernel_rfl) (by decide) (fun K hK => ?_)
      refine value_ (w1 := World.alloc w66 (.cells #[.slice r16 k c17, .slice A2 (all.length - k) (c17 - k)] 26 (0, 0))) (v := .slice (some ⟨w66.heap.size, 0, none⟩) 2 2) (by rfl) rfl (by first | (go_simp; done) | (go_simp; rfl)) ?_
      obtain ⟨gl, w78, hg_, hw_, hh_, hb_⟩ := new_blk w66 #[.slice r16 k c17, .slice A2 (all.length - k) (c17 - k)] 26
      rw [← hg_, ← hw_]
      have H91 := Aside0.mk hh_
      have N79 : g24 ≠ gl := Nat.ne_of_lt (Nat.lt_of_lt_of_eq (blk_lt H75.out) hg_.symm)
      have N80 : g43 ≠ gl := Nat.ne_of_lt (Nat.lt_of_lt_of_eq (blk_lt H76.out) hg_.symm)
      have N81 : g10 ≠ gl := Nat.ne_of_lt (Nat.lt_of_lt_of_eq (blk_lt H77.out) hg_.symm)
      have G82 : w.heap.size ≤ gl := Nat.le_trans B72.out.size (Nat.le_of_eq hg_.symm)
      have G83 : w7.heap.size ≤ gl := Nat.le_trans B73.out.size (Nat.le_of_eq hg_.symm)
      have G84 : w13.heap.size ≤ gl := Nat.le_trans B74.out.size (Nat.le_of_eq hg_.symm)
      have B85 := Aside0.mk (below_step B72.out hb_)
      have B86 := Aside0.mk (below_step B73.out hb_)
      have B87 := Aside0.mk (below_step B74.out hb_)
      have H88 := Aside0.mk (blk_below H75.out hb_)
      have H89 := Aside0.mk (blk_below H76.out hb_)
      have H90 := Aside0.mk (blk_below H77.out hb_)
      clear hg_ hh_ hb_ B72 B73 B74 H75 H76 H77
      clear hw_
      refine hK.out _ _ trivial (fun hHeld => ?_)
      clear hK K
      refine norm_ (a' := ?_) ?_ ?_
      rotate_left
      · show Act.put _ (some 65) _ = _
        simp only [Act.put, List.setIfInBounds_toArray, List.set_cons_zero, List.set_cons_succ, i64_w, i32_w]
        rfl
      refine one_ (i := 7) (N := some 66) #[true, true, true, true, true, true, true, true, false, false, false, true, false, false] rfl rfl (by kernel_rfl) (by decide) (fun K hK => ?_)
      refine goes_ Tryd.func46 (by kernel_rfl) rfl #[.slice (some ⟨gl, 0, none⟩) 2 2] (by rfl) rfl rfl (by simp only [List.map_toArray, List.map_cons, List.map_nil]; rfl) ?_
      with_reducible refine (Hhp2.out w78 gl k (HhT.out.at B85.out) Hhx.out (rows_cut Hhx.out L19.out H91.out (HCUT.out _ all rfl (Kd.C_below R18.out B87.out)).1 (HCUT.out _ all rfl (Kd.C_below R18.out B87.out)).2)).mono ?_
      rintro e_ w92 ⟨rfl, hb_⟩
      refine ⟨_, rfl, ?_⟩
      have B93 := Aside0.mk (below_step B85.out hb_)
      have B94 := Aside0.mk (below_step B86.out hb_)
      have B95 := Aside0.mk (below_step B87.out hb_)
      have H96 := Aside0.mk (blk_below H88.out hb_)
      have H97 := Aside0.mk (blk_below H89.out hb_)
      have H98 := Aside0.mk (blk_below H90.out hb_)
      have H99 := Aside0.mk (blk_below H91.out hb_)
      clear hb_ B85 B86 B87 H88 H89 H90 H91
      refine hK.out _ _ trivial (fun hHeld => ?_)
      clear hK K
      refine norm_ (a' := ?_) ?_ ?_
      rotate_left
      · show Act.put _ (some 66) _ = _
        simp only [Act.put, List.setIfInBounds_toArray, List.set_cons_zero, List.set_cons_succ, i64_w, i32_w]
        rfl
      refine pure_ (i := 8) (N := some 58) (v := ?_) (a' := ?_) #[true, true, true, true, true, true, true, true, true, false, false, true, false, false] rfl rfl (by kernel_rfl) (fun _ _ _ h => h) (Or.inl ⟨by rfl, ?_⟩) ?_ ?_
      rotate_left
      · intro w'
        go_simp
        with_reducible rfl
      rotate_left
      · simp only [Act.put, List.setIfInBounds_toArray, List.set_cons_zero, List.set_cons_succ, i64_w, i32_w]
        rfl
      refine pure_ (i := 9) (N := some 67) (v := ?_) (a' := ?_) #[true, true, true, true, true, true, true, true, true, true, false, true, false, false] rfl rfl (by kernel_rfl) (fun _ _ _ h => h) (Or.inl ⟨by rfl, ?_⟩) ?_ ?_
      rotate_left
      · intro w'
        go_simp
        with_reducible rfl
      rotate_left
      · simp only [Act.put, List.setIfInBounds_toArray, List.set_cons_zero, List.set_cons_succ, i64_w, i32_w]
        rfl
      refine pure_ (i := 10) (N := some 68) (v := ?_) (a' := ?_) #[true, true, true, true, true, true, true, true, true, true, true, true, false, false] rfl rfl (by kernel_rfl) (fun _ _ _ h => h) (Or.inl ⟨by rfl, ?_⟩) ?_ ?_
      rotate_left
      · intro w'
        go_simp
        with_reducible rfl
      rotate_left
      · simp only [Act.put, List.setIfInBounds_toArray, List.set_cons_zero, List.set_cons_succ, i64_w, i32_w]
        rfl
      exact norm_ (by simp only [putAll, Act.put, List.setIfInBounds_toArray, List.set_cons_zero, List.set_cons_succ]) (hCont (g10, gl) _ ⟨H98.out, H96.out, H97.out, H99.out, B93.out, B95.out, B94.out, (Ne.symm N67), (Ne.symm N68), N81, N79, N80, G69, G82, G71, G84, G70, G83⟩)
  rintro ⟨g10, gl⟩ wj65 ⟨h0_, h1_, h2_, h3_, h4_, h5_, h6_, h7_, h8_, h9_, h10_, h11_, h12_, h13_, h14_, h15_, h16_, h17_⟩
  clear hHeld
  clear H61 H62 B63 B64 B65
  have H106 := Aside0.mk h0_
  have H107 := Aside0.mk h1_
  have H108 := Aside0.mk h2_
  have H109 := Aside0.mk h3_
  have B110 := Aside0.mk h4_
  have B111 := Aside0.mk h5_
  have B112 := Aside0.mk h6_
  have N113 := h7_
  have N114 := h8_
  have N115 := h9_
  have N116 := h10_
  have N117 := h11_
  have G118 := h12_
  have G119 := h13_
  have G120 := h14_
  have G121 := h15_
  have G122 := h16_
  have G123 := h17_
  clear h0_ h1_ h2_ h3_ h4_ h5_ h6_ h7_ h8_ h9_ h10_ h11_ h12_ h13_ h14_ h15_ h16_ h17_
  have hHeld := trivial
  refine norm_ (a' := ?_) ?_ ?_
  rotate_left
  · simp only [putAll, Act.put, List.setIfInBounds_toArray, List.set_cons_zero, List.set_cons_succ]
    rfl
  refine one_ (i := 12) (N := none) #[true, true, true, true, true, true, true, true, true, true, true, true, true, false] rfl rfl (by kernel_rfl) (by decide) (fun K hK => ?_)
  refine skip_ (w1 := World.setCells wj65 g10 0 [.int .u8 d0, .int .u8 d1, .int .u8 d2, .int .u8 d3, .int .u8 d4, .int .u8 d5, .int .u8 d6, .int .u8 d7, .int .u8 d8, .int .u8 d9, .int .u8 d10, .int .u8 d11, .int .u8 d12, .int .u8 d13, .int .u8 d14, .int .u8 d15, .int .u8 d16, .int .u8 d17, .int .u8 d18, .int .u8 d19]) (by rfl) rfl (by exact storeN_run (T := 23) (vs := [.int .u8 d0, .int .u8 d1, .int .u8 d2, .int .u8 d3, .int .u8 d4, .int .u8 d5, .int .u8 d6, .int .u8 d7, .int .u8 d8, .int .u8 d9, .int .u8 d10, .int .u8 d11, .int .u8 d12, .int .u8 d13, .int .u8 d14, .int .u8 d15, .int .u8 d16, .int .u8 d17, .int .u8 d18, .int .u8 d19]) rfl rfl rfl (storeVar_blk H106.out 23 0 [.int .u8 d0, .int .u8 d1, .int .u8 d2, .int .u8 d3, .int .u8 d4, .int .u8 d5, .int .u8 d6, .int .u8 d7, .int .u8 d8, .int .u8 d9, .int .u8 d10, .int .u8 d11, .int .u8 d12, .int .u8 d13, .int .u8 d14, .int .u8 d15, .int .u8 d16, .int .u8 d17, .int .u8 d18, .int .u8 d19] (by kernel_rfl) rfl (by simp))) ?_
  have H125 := Aside0.mk (show (World.setCells wj65 g10 0 [.int .u8 d0, .int .u8 d1, .int .u8 d2, .int .u8 d3, .int .u8 d4, .int .u8 d5, .int .u8 d6, .int .u8 d7, .int .u8 d8, .int .u8 d9, .int .u8 d10, .int .u8 d11, .int .u8 d12, .int .u8 d13, .int .u8 d14, .int .u8 d15, .int .u8 d16, .int .u8 d17, .int .u8 d18, .int .u8 d19]).heap[g10]? = some (.cells #[.int .u8 d0, .int .u8 d1, .int .u8 d2, .int .u8 d3, .int .u8 d4, .int .u8 d5, .int .u8 d6, .int .u8 d7, .int .u8 d8, .int .u8 d9, .int .u8 d10, .int .u8 d11, .int .u8 d12, .int .u8 d13, .int .u8 d14, .int .u8 d15, .int .u8 d16, .int .u8 d17, .int .u8 d18, .int .u8 d19] 23 (0, 0)) from blk_setCells [] [.int .u8 d0, .int .u8 d1, .int .u8 d2, .int .u8 d3, .int .u8 d4, .int .u8 d5, .int .u8 d6, .int .u8 d7, .int .u8 d8, .int .u8 d9, .int .u8 d10, .int .u8 d11, .int .u8 d12, .int .u8 d13, .int .u8 d14, .int .u8 d15, .int .u8 d16, .int .u8 d17, .int .u8 d18, .int .u8 d19] [.int .u8 0, .int .u8 0, .int .u8 0, .int .u8 0, .int .u8 0, .int .u8 0, .int .u8 0, .int .u8 0, .int .u8 0, .int .u8 0, .int .u8 0, .int .u8 0, .int .u8 0, .int .u8 0, .int .u8 0, .int .u8 0, .int .u8 0, .int .u8 0, .int .u8 0, .int .u8 0] [] wj65 rfl H106.out)
  have H126 := Aside0.mk (far_setCells (Ne.symm N113) [.int .u8 d0, .int .u8 d1, .int .u8 d2, .int .u8 d3, .int .u8 d4, .int .u8 d5, .int .u8 d6, .int .u8 d7, .int .u8 d8, .int .u8 d9, .int .u8 d10, .int .u8 d11, .int .u8 d12, .int .u8 d13, .int .u8 d14, .int .u8 d15, .int .u8 d16, .int .u8 d17, .int .u8 d18, .int .u8 d19] 0 wj65 H107.out)
  have H127 := Aside0.mk (far_setCells (Ne.symm N114) [.int .u8 d0, .int .u8 d1, .int .u8 d2, .int .u8 d3, .int .u8 d4, .int .u8 d5, .int .u8 d6, .int .u8 d7, .int .u8 d8, .int .u8 d9, .int .u8 d10, .int .u8 d11, .int .u8 d12, .int .u8 d13, .int .u8 d14, .int .u8 d15, .int .u8 d16, .int .u8 d17, .int .u8 d18, .int .u8 d19] 0 wj65 H108.out)
  have H128 := Aside0.mk (far_setCells (Ne.symm N115) [.int .u8 d0, .int .u8 d1, .int .u8 d2, .int .u8 d3, .int .u8 d4, .int .u8 d5, .int .u8 d6, .int .u8 d7, .int .u8 d8, .int .u8 d9, .int .u8 d10, .int .u8 d11, .int .u8 d12, .int .u8 d13, .int .u8 d14, .int .u8 d15, .int .u8 d16, .int .u8 d17, .int .u8 d18, .int .u8 d19] 0 wj65 H109.out)
  have B129 := Aside0.mk (below_setCells G118 [.int .u8 d0, .int .u8 d1, .int .u8 d2, .int .u8 d3, .int .u8 d4, .int .u8 d5, .int .u8 d6, .int .u8 d7, .int .u8 d8, .int .u8 d9, .int .u8 d10, .int .u8 d11, .int .u8 d12, .int .u8 d13, .int .u8 d14, .int .u8 d15, .int .u8 d16, .int .u8 d17, .int .u8 d18, .int .u8 d19] 0 wj65 B110.out)
  have B130 := Aside0.mk (below_setCells G120 [.int .u8 d0, .int .u8 d1, .int .u8 d2, .int .u8 d3, .int .u8 d4, .int .u8 d5, .int .u8 d6, .int .u8 d7, .int .u8 d8, .int .u8 d9, .int .u8 d10, .int .u8 d11, .int .u8 d12, .int .u8 d13, .int .u8 d14, .int .u8 d15, .int .u8 d16, .int .u8 d17, .int .u8 d18, .int .u8 d19] 0 wj65 B111.out)
  have B131 := Aside0.mk (below_setCells G122 [.int .u8 d0, .int .u8 d1, .int .u8 d2, .int .u8 d3, .int .u8 d4, .int .u8 d5, .int .u8 d6, .int .u8 d7, .int .u8 d8, .int .u8 d9, .int .u8 d10, .int .u8 d11, .int .u8 d12, .int .u8 d13, .int .u8 d14, .int .u8 d15, .int .u8 d16, .int .u8 d17, .int .u8 d18, .int .u8 d19] 0 wj65 B112.out)
  clear H106 H107 H108 H109 B110 B111 B112
  generalize World.setCells wj65 g10 0 [.int .u8 d0, .int .u8 d1, .int .u8 d2, .int .u8 d3, .int .u8 d4, .int .u8 d5, .int .u8 d6, .int .u8 d7, .int .u8 d8, .int .u8 d9, .int .u8 d10, .int .u8 d11, .int .u8 d12, .int .u8 d13, .int .u8 d14, .int .u8 d15, .int .u8 d16, .int .u8 d17, .int .u8 d18, .int .u8 d19] = w124 at H125 H126 H127 H128 B129 B130 B131 ⊢
  refine hK.out _ _ trivial (fun hHeld => ?_)
  clear hK K
  refine pure_ (i := 13) (N := some 11) (v := ?_) (a' := ?_) #[true, true, true, true, true, true, true, true, true, true, true, true, true, true] rfl rfl (by kernel_rfl) (fun _ _ _ h => h) (Or.inl ⟨by rfl, ?_⟩) ?_ ?_
  rotate_left
  · intro w'
    go_simp
    with_reducible rfl
  rotate_left
  · simp only [Act.put, List.setIfInBounds_toArray, List.set_cons_zero, List.set_cons_succ, i64_w, i32_w]
    rfl
  refine done_ (by kernel_rfl) ?_
  go_wp2_with (first | ((with_reducible refine gate_dst (N := 72) rfl ?_); refine loadG_event (T := 23) (by rfl) rfl rfl (run_loadVar_row _ _ _ _ _ (0, 0) _ H126.out Tryd.underlying23 rfl (by kernel_rfl)) ?_) | ((with_reducible refine gate_dst (N := 73) rfl ?_); refine loadG_event (T := 23) (by rfl) rfl rfl (run_loadVar_row _ _ _ _ _ (0, 0) _ H125.out Tryd.underlying23 rfl (by kernel_rfl)) ?_))
  refine (Hhal.out w124 (HhT.out.at B129.out)).mono ?_
  rintro e w132 ⟨rfl, hb_⟩
  have B133 := Aside0.mk (below_step B129.out hb_)
  have B134 := Aside0.mk (below_step B130.out hb_)
  have B135 := Aside0.mk (below_step B131.out hb_)
  have H136 := Aside0.mk (blk_below H125.out hb_)
  have H137 := Aside0.mk (blk_below H126.out hb_)
  have H138 := Aside0.mk (blk_below H127.out hb_)
  have H139 := Aside0.mk (blk_below H128.out hb_)
  clear hb_ B129 B130 B131 H125 H126 H127 H128
  go_wp2_with fail
  go_ret
  exact ⟨rfl, B133.out⟩
end Go.Proofs.YtbldecdipicddaaDoor.Hand
